import Derived.Test.YtnoklfpnmopkpaaKPPEx12
-- printed by wip/tools
namespace Go.Proofs.Ytnoklfpnmopkpaa.PE
open Go.RowKit Go.Proofs.YtnoklfpnmopkpaaW.PrintWords Go.Proofs.YtnoklfpnmopkpaaW.PrintLast Go.Proofs.YtnoklfpnmopkpaaW.PrintMore
attribute [local go_sem] max2_int min2_int max_two min_two max_three min_three max_four min_four
set_option linter.unusedVariables false
set_option linter.unusedSimpArgs false
attribute [local go_sem high] eqA55
def impl_CredOk.j0 : Nat → Bool → Int → Int → Int → Int → Int → Int → Int → Int → Int → Int → Option (Bool)
 | 0, _, _, _, _, _, _, _, _, _, _, _ => none
 | k + 1, x19, x497000, x497001, x497002, x497003, x497004, x497005, x497006, x497007, x497008, x497009 => if x19 = true then (some false) else (if x497000 = 1 then ((impl_isPerson.f x497003).bind fun t501 => (if t501 = true then (if (x497004 == 0 && (x497005 == 0)) = true then (some (x497006 == 0 && (x497007 == 0))) else (some false)) else (some false))) else (if x497000 = 2 then (if x497003 = 0 then ((impl_RoleOk.f x497004 x497005).bind fun t502 => (if t502 = true then (some (x497006 == 0 && (x497007 == 0))) else (some false))) else (some false)) else (if x497000 = 3 then (if x497003 = 0 then ((impl_RoleOk.f x497004 x497005).bind fun t503 => (if t503 = true then ((impl_RoleOk.f x497006 x497007).bind fun t504 => (if t504 = true then (some (x497006 == 0)) else (some false))) else (some false))) else (some false)) else (if x497000 = 4 then (if x497003 = 0 then ((impl_RoleOk.f x497004 x497005).bind fun t505 => (if t505 = true then ((impl_RoleOk.f x497006 x497007).bind fun t506 => (some t506)) else (some false))) else (some false)) else (some false)))))
def impl_CredOk.f (k : Nat) (a0_0 : Int) (a0_1 : Int) (a0_2 : Int) (a0_3 : Int) (a0_4 : Int) (a0_5 : Int) (a0_6 : Int) (a0_7 : Int) (a0_8 : Int) (a0_9 : Int) : Option (Bool) := (impl_RoleOk.f a0_1 a0_2).bind fun t497 => (if t497 = true then ((impl_in.f a0_8 1 9999).bind fun t498 => (if t498 = true then ((impl_in.f a0_9 0 99).bind fun t499 => (impl_CredOk.j0 k (!t499) a0_0 a0_1 a0_2 a0_3 a0_4 a0_5 a0_6 a0_7 a0_8 a0_9)) else (impl_CredOk.j0 k true a0_0 a0_1 a0_2 a0_3 a0_4 a0_5 a0_6 a0_7 a0_8 a0_9))) else (impl_CredOk.j0 k true a0_0 a0_1 a0_2 a0_3 a0_4 a0_5 a0_6 a0_7 a0_8 a0_9))
set_option maxHeartbeats 8000000 in
set_option maxRecDepth 100000 in
theorem impl_CredOk.calls (k : Nat) (a0_0 : Int) (a0_1 : Int) (a0_2 : Int) (a0_3 : Int) (a0_4 : Int) (a0_5 : Int) (a0_6 : Int) (a0_7 : Int) (a0_8 : Int) (a0_9 : Int) (r : Bool) (w : World) (h : impl_CredOk.f k a0_0 a0_1 a0_2 a0_3 a0_4 a0_5 a0_6 a0_7 a0_8 a0_9 = some r) :
  Calls Try.prog 59 #[.agg #[.int .i64 a0_0, .int .i64 a0_1, .int .i64 a0_2, .int .i64 a0_3, .int .i64 a0_4, .int .i64 a0_5, .int .i64 a0_6, .int .i64 a0_7, .int .i64 a0_8, .int .i64 a0_9]] w fun e w' => e = .returned (.bool r) ∧ Below w.heap.size w w' := by
 have hu74 := Try.underlying74
 have hu55 := Try.underlying55
 have HB := aa_ (Below.refl w.heap.size w)
 have H : ((impl_RoleOk.f a0_1 a0_2).bind fun t497 => (if t497 = true then ((impl_in.f a0_8 1 9999).bind fun t498 => (if t498 = true then ((impl_in.f a0_9 0 99).bind fun t499 => (impl_CredOk.j0 k (!t499) a0_0 a0_1 a0_2 a0_3 a0_4 a0_5 a0_6 a0_7 a0_8 a0_9)) else (impl_CredOk.j0 k true a0_0 a0_1 a0_2 a0_3 a0_4 a0_5 a0_6 a0_7 a0_8 a0_9))) else (impl_CredOk.j0 k true a0_0 a0_1 a0_2 a0_3 a0_4 a0_5 a0_6 a0_7 a0_8 a0_9))) = some r := h
 clear h
 have HC2 := aa_ H
 clear H
 go_enter Try.func59, Try.ntmps59
 go_upto_region 1 with (first | ((with_reducible refine gD_ 1 rfl ?_); refine bx_ (N := 1) (cs := #[.int .i64 a0_0, .int .i64 a0_1, .int .i64 a0_2, .int .i64 a0_3, .int .i64 a0_4, .int .i64 a0_5, .int .i64 a0_6, .int .i64 a0_7, .int .i64 a0_8, .int .i64 a0_9]) (t := 74) ?_; intro gb496 hg w3 hbox hb; have BK496 := aa_ (hbox); have GW496 := gs_ hg; have GE496 := gs_ hg; replace HB := hbs_ hb; clear hb hbox hg))
 (try simp only [Act.put, List.setIfInBounds_toArray, List.set_cons_zero, List.set_cons_succ])
 go_cut [19] (fun v19 wc => ∃ (kq : Nat) (x19_1 : Bool), v19 = .bool x19_1 ∧ Aside0 (impl_CredOk.j0 kq x19_1 a0_0 a0_1 a0_2 a0_3 a0_4 a0_5 a0_6 a0_7 a0_8 a0_9 = some r) ∧ Aside0 (kq ≤ k) ∧ Aside0 (wc.heap[gb496]? = some (.cells #[.int .i64 a0_0, .int .i64 a0_1, .int .i64 a0_2, .int .i64 a0_3, .int .i64 a0_4, .int .i64 a0_5, .int .i64 a0_6, .int .i64 a0_7, .int .i64 a0_8, .int .i64 a0_9] 74 (0, 0))) ∧ Aside0 (Below w.heap.size w wc))
 case first =>
  have H := HC2.out
  clear HC2
  obtain ⟨t497, A4, H⟩ := bindE_ H
  by_cases c5 : t497 = true
  ·subst c5
   replace H := ite_t_ H
   obtain ⟨t498, A6, H⟩ := bindE_ H
   by_cases c7 : t498 = true
   ·subst c7
    replace H := ite_t_ H
    obtain ⟨t499, A8, H⟩ := bindE_ H
    have H' := aa_ H
    clear H
    have hcz9 := blk_cell BK496.out
    have hfz9 := blk_frozen BK496.out
    go_wp2_with (first | ((with_reducible refine gC_ 39 rfl ?_); refine goesC_ (some 6) Try.func39 #[.agg #[.int .i64 a0_1, .int .i64 a0_2]] ?_; (with_reducible refine (impl_RoleOk.calls a0_1 a0_2 true _ A4.out).mono ?_); rintro e w10 ⟨rfl, hb⟩; refine ⟨_, rfl, ?_⟩; replace BK496 := bkb_ BK496 hb; replace HB := hbs_ hb; clear hb; obtain ⟨hcz11, hfz11⟩ := bcf_ BK496) | (go_at_call 38; (with_reducible refine (impl_in.calls a0_8 1 9999 true _ A6.out).mono ?_); rintro e w' ⟨rfl, ⟨nd, rfl⟩⟩) | (go_at_call 38; (with_reducible refine (impl_in.calls a0_9 0 99 t499 _ A8.out).mono ?_); rintro e w' ⟨rfl, ⟨nd, rfl⟩⟩))
    go_meet
    case rel => exact ⟨_, (!t499), rf_, H', ⟨by first | omega | exact Nat.le_refl _⟩, ⟨bk_ BK496⟩, ⟨bl_⟩⟩
   ·replace c7 := Bool.eq_false_iff.mpr c7
    subst c7
    replace H := ite_f_ H
    have H' := aa_ H
    clear H
    have hcz12 := blk_cell BK496.out
    have hfz12 := blk_frozen BK496.out
    go_wp2_with (first | ((with_reducible refine gC_ 39 rfl ?_); refine goesC_ (some 6) Try.func39 #[.agg #[.int .i64 a0_1, .int .i64 a0_2]] ?_; (with_reducible refine (impl_RoleOk.calls a0_1 a0_2 true _ A4.out).mono ?_); rintro e w13 ⟨rfl, hb⟩; refine ⟨_, rfl, ?_⟩; replace BK496 := bkb_ BK496 hb; replace HB := hbs_ hb; clear hb; obtain ⟨hcz14, hfz14⟩ := bcf_ BK496) | (go_at_call 38; (with_reducible refine (impl_in.calls a0_8 1 9999 false _ A6.out).mono ?_); rintro e w' ⟨rfl, ⟨nd, rfl⟩⟩))
    go_meet
    case rel => exact ⟨_, (true), rf_, H', ⟨by first | omega | exact Nat.le_refl _⟩, ⟨bk_ BK496⟩, ⟨bl_⟩⟩
  ·replace c5 := Bool.eq_false_iff.mpr c5
   subst c5
   replace H := ite_f_ H
   have H' := aa_ H
   clear H
   have hcz15 := blk_cell BK496.out
   have hfz15 := blk_frozen BK496.out
   go_wp2_with (first | ((with_reducible refine gC_ 39 rfl ?_); refine goesC_ (some 6) Try.func39 #[.agg #[.int .i64 a0_1, .int .i64 a0_2]] ?_; (with_reducible refine (impl_RoleOk.calls a0_1 a0_2 false _ A4.out).mono ?_); rintro e w16 ⟨rfl, hb⟩; refine ⟨_, rfl, ?_⟩; replace BK496 := bkb_ BK496 hb; replace HB := hbs_ hb; clear hb))
   go_meet
   case rel => exact ⟨_, (true), rf_, H', ⟨by first | omega | exact Nat.le_refl _⟩, ⟨bk_ BK496⟩, ⟨bl_⟩⟩
 case rest =>
  clear HC2
  try clear p2
  try clear c3
  try clear c5
  try clear c7
  try clear hcz11
  try clear hcz12
  try clear hcz14
  try clear hcz15
  try clear hcz9
  try clear hfz11
  try clear hfz12
  try clear hfz14
  try clear hfz15
  try clear hfz9
  obtain ⟨kq, x19_1, rfl, HA, HJ1, BK496, HB⟩ := hcut
  cases kq with
  | zero => exact absurd HA.out (by simp [impl_CredOk.j0])
  | succ kj1 =>
   have H := HA.out
   clear HA
   simp only [impl_CredOk.j0] at H
   by_cases c17 : x19_1 = true
   ·subst c17
    replace H := ite_t_ H
    obtain rfl := Option.some.inj H
    go_wp2
    go_ret
    exact ⟨eq_, bl_⟩
   ·replace c17 := Bool.eq_false_iff.mpr c17
    subst c17
    replace H := ite_f_ H
    have HC18 := aa_ H
    clear H
    go_upto_if 23 with (first | ((with_reducible refine gD_ 3 rfl ?_); refine bx_ (N := 3) (cs := #[.int .i64 0, .int .i64 0]) (t := 55) ?_; intro gb500 hg w19 hbox hb; have BK500 := aa_ (hbox); have GW500 := gs_ hg; have GE500 := gs_ hg; replace HB := hbs_ hb; have NB496_500 := nl_ hg BK496; have NB500_496 := nr_ hg BK496; replace BK496 := bkb_ BK496 hb; clear hb hbox hg; have hnb20 := NB500_496.out; have hnc20 := NB496_500.out; obtain ⟨hcz21, hfz21⟩ := bcf_ BK500; obtain ⟨hcz22, hfz22⟩ := bcf_ BK496))
    have n0_ : Aside0 (((w19.setCell ⟨gb500, 0, none⟩ (.int .i64 0)).setCell ⟨gb500, 1, none⟩ (.int .i64 0)).heap[gb496]? = some (.cells #[.int .i64 a0_0, .int .i64 a0_1, .int .i64 a0_2, .int .i64 a0_3, .int .i64 a0_4, .int .i64 a0_5, .int .i64 a0_6, .int .i64 a0_7, .int .i64 a0_8, .int .i64 a0_9] 74 (0, 0))) := ⟨bk_ BK496⟩
    have n1_ : Aside0 (((w19.setCell ⟨gb500, 0, none⟩ (.int .i64 0)).setCell ⟨gb500, 1, none⟩ (.int .i64 0)).heap[gb500]? = some (.cells #[.int .i64 0, .int .i64 0] 55 (0, 0))) := ⟨bk_ BK500⟩
    have n2_ : Aside0 (Below w.heap.size w ((w19.setCell ⟨gb500, 0, none⟩ (.int .i64 0)).setCell ⟨gb500, 1, none⟩ (.int .i64 0))) := ⟨bl_⟩
    (try clear BK496)
    (try clear BK500)
    (try clear HB)
    generalize ((w19.setCell ⟨gb500, 0, none⟩ (.int .i64 0)).setCell ⟨gb500, 1, none⟩ (.int .i64 0)) = w23 at n0_ n1_ n2_ ⊢
    have BK496 := n0_
    have BK500 := n1_
    have HB := n2_
    clear n0_ n1_ n2_
    (try simp only [Act.put, List.setIfInBounds_toArray, List.set_cons_zero, List.set_cons_succ])
    have H := HC18.out
    clear HC18
    by_cases c24 : a0_0 = 1
    ·rw [if_pos c24] at H
     have c24b0 : (a0_0 == 1) = true := beq_iff_eq.mpr c24
     have c24b1 : (a0_0 != 1) = false := bne_eq_false_iff_eq.mpr c24
     clear c24
     (first | rw [c24b0] | (simp only [i64_w, i32_w]; rw [c24b0]) | skip)
     obtain ⟨t501, A25, H⟩ := bindE_ H
     by_cases c26 : t501 = true
     ·subst c26
      replace H := ite_t_ H
      by_cases c27 : (a0_4 == 0 && (a0_5 == 0)) = true
      ·rw [if_pos c27] at H
       have c27b0 : (a0_4 == 0 && (a0_5 == 0)) = true := c27
       (try (have c27b1 : decide (a0_4 = 0 && (a0_5 == 0)) = true := by simpa using c27))
       (try (have c27b2 : (a0_4 == 0 && (a0_5 == 0)) = true := by simpa using c27))
       clear c27
       obtain rfl := Option.some.inj H
       have hnb28 := NB496_500.out
       have hnc28 := NB500_496.out
       have hcz29 := blk_cell BK496.out
       have hfz29 := blk_frozen BK496.out
       go_wp2_with (first | ((with_reducible refine gC_ 65 rfl ?_); refine goesC_ (some 27) Try.func65 #[.int .i64 a0_3] ?_; (with_reducible refine (impl_isPerson.calls a0_3 true _ A25.out).mono ?_); rintro e w' ⟨rfl, ⟨nd, rfl⟩⟩; refine ⟨_, rfl, ?_⟩; obtain ⟨hcz30, hfz30⟩ := bcf_ BK500))
       go_ret
       exact ⟨eq_, bl_⟩
      ·rw [if_neg c27] at H
       have c27b0 : (a0_4 == 0 && (a0_5 == 0)) = false := by simpa using c27
       (try (have c27b1 : decide (a0_4 = 0 && (a0_5 == 0)) = false := by simpa using c27))
       (try (have c27b2 : (a0_4 == 0 && (a0_5 == 0)) = false := by simpa using c27))
       (try (have c27b3 : ¬ (a0_4 = 0 && (a0_5 == 0)) := by simpa using c27))
       clear c27
       obtain rfl := Option.some.inj H
       have hnb31 := NB496_500.out
       have hnc31 := NB500_496.out
       have hcz32 := blk_cell BK496.out
       have hfz32 := blk_frozen BK496.out
       go_wp2_with (first | ((with_reducible refine gC_ 65 rfl ?_); refine goesC_ (some 27) Try.func65 #[.int .i64 a0_3] ?_; (with_reducible refine (impl_isPerson.calls a0_3 true _ A25.out).mono ?_); rintro e w' ⟨rfl, ⟨nd, rfl⟩⟩; refine ⟨_, rfl, ?_⟩; obtain ⟨hcz33, hfz33⟩ := bcf_ BK500))
       go_ret
       exact ⟨eq_, bl_⟩
     ·replace c26 := Bool.eq_false_iff.mpr c26
      subst c26
      replace H := ite_f_ H
      obtain rfl := Option.some.inj H
      have hnb34 := NB496_500.out
      have hnc34 := NB500_496.out
      have hcz35 := blk_cell BK496.out
      have hfz35 := blk_frozen BK496.out
      go_wp2_with (first | ((with_reducible refine gC_ 65 rfl ?_); refine goesC_ (some 27) Try.func65 #[.int .i64 a0_3] ?_; (with_reducible refine (impl_isPerson.calls a0_3 false _ A25.out).mono ?_); rintro e w' ⟨rfl, ⟨nd, rfl⟩⟩; refine ⟨_, rfl, ?_⟩))
      go_ret
      exact ⟨eq_, bl_⟩
    ·rw [if_neg c24] at H
     have c24b0 : (a0_0 == 1) = false := beq_eq_false_iff_ne.mpr c24
     have c24b1 : (a0_0 != 1) = true := bne_iff_ne.mpr c24
     (first | rw [c24b0] | (simp only [i64_w, i32_w]; rw [c24b0]) | skip)
     by_cases c36 : a0_0 = 2
     ·rw [if_pos c36] at H
      have c36b0 : (a0_0 == 2) = true := beq_iff_eq.mpr c36
      have c36b1 : (a0_0 != 2) = false := bne_eq_false_iff_eq.mpr c36
      clear c36
      by_cases c37 : a0_3 = 0
      ·rw [if_pos c37] at H
       have c37b0 : (a0_3 == 0) = true := beq_iff_eq.mpr c37
       have c37b1 : (a0_3 != 0) = false := bne_eq_false_iff_eq.mpr c37
       clear c37
       obtain ⟨t502, A38, H⟩ := bindE_ H
       by_cases c39 : t502 = true
       ·subst c39
        replace H := ite_t_ H
        obtain rfl := Option.some.inj H
        have hnb40 := NB496_500.out
        have hnc40 := NB500_496.out
        have hcz41 := blk_cell BK496.out
        have hfz41 := blk_frozen BK496.out
        go_wp2_with (first | (go_at_call 39; (with_reducible refine (impl_RoleOk.calls a0_4 a0_5 true _ A38.out).mono ?_); rintro e w42 ⟨rfl, hb⟩; replace BK496 := bkb_ BK496 hb; replace BK500 := bkb_ BK500 hb; replace HB := hbs_ hb; clear hb; obtain ⟨hcz43, hfz43⟩ := bcf_ BK496; obtain ⟨hcz44, hfz44⟩ := bcf_ BK500))
        go_ret
        exact ⟨eq_, bl_⟩
       ·replace c39 := Bool.eq_false_iff.mpr c39
        subst c39
        replace H := ite_f_ H
        obtain rfl := Option.some.inj H
        have hnb45 := NB496_500.out
        have hnc45 := NB500_496.out
        have hcz46 := blk_cell BK496.out
        have hfz46 := blk_frozen BK496.out
        go_wp2_with (first | (go_at_call 39; (with_reducible refine (impl_RoleOk.calls a0_4 a0_5 false _ A38.out).mono ?_); rintro e w47 ⟨rfl, hb⟩; replace BK496 := bkb_ BK496 hb; replace BK500 := bkb_ BK500 hb; replace HB := hbs_ hb; clear hb))
        go_ret
        exact ⟨eq_, bl_⟩
      ·rw [if_neg c37] at H
       have c37b0 : (a0_3 == 0) = false := beq_eq_false_iff_ne.mpr c37
       have c37b1 : (a0_3 != 0) = true := bne_iff_ne.mpr c37
       obtain rfl := Option.some.inj H
       have hnb48 := NB496_500.out
       have hnc48 := NB500_496.out
       have hcz49 := blk_cell BK496.out
       have hfz49 := blk_frozen BK496.out
       go_wp2
       go_ret
       exact ⟨eq_, bl_⟩
     ·rw [if_neg c36] at H
      have c36b0 : (a0_0 == 2) = false := beq_eq_false_iff_ne.mpr c36
      have c36b1 : (a0_0 != 2) = true := bne_iff_ne.mpr c36
      by_cases c50 : a0_0 = 3
      ·rw [if_pos c50] at H
       have c50b0 : (a0_0 == 3) = true := beq_iff_eq.mpr c50
       have c50b1 : (a0_0 != 3) = false := bne_eq_false_iff_eq.mpr c50
       clear c50
       by_cases c51 : a0_3 = 0
       ·rw [if_pos c51] at H
        have c51b0 : (a0_3 == 0) = true := beq_iff_eq.mpr c51
        have c51b1 : (a0_3 != 0) = false := bne_eq_false_iff_eq.mpr c51
        clear c51
        obtain ⟨t503, A52, H⟩ := bindE_ H
        by_cases c53 : t503 = true
        ·subst c53
         replace H := ite_t_ H
         obtain ⟨t504, A54, H⟩ := bindE_ H
         by_cases c55 : t504 = true
         ·subst c55
          replace H := ite_t_ H
          obtain rfl := Option.some.inj H
          have hnb56 := NB496_500.out
          have hnc56 := NB500_496.out
          have hcz57 := blk_cell BK496.out
          have hfz57 := blk_frozen BK496.out
          go_wp2_with (first | (go_at_call 39; (with_reducible refine (impl_RoleOk.calls a0_4 a0_5 true _ A52.out).mono ?_); rintro e w58 ⟨rfl, hb⟩; replace BK496 := bkb_ BK496 hb; replace BK500 := bkb_ BK500 hb; replace HB := hbs_ hb; clear hb; obtain ⟨hcz59, hfz59⟩ := bcf_ BK496) | (go_at_call 39; (with_reducible refine (impl_RoleOk.calls a0_6 a0_7 true _ A54.out).mono ?_); rintro e w60 ⟨rfl, hb⟩; replace BK496 := bkb_ BK496 hb; replace BK500 := bkb_ BK500 hb; replace HB := hbs_ hb; clear hb; obtain ⟨hcz61, hfz61⟩ := bcf_ BK496))
          go_ret
          exact ⟨eq_, bl_⟩
         ·replace c55 := Bool.eq_false_iff.mpr c55
          subst c55
          replace H := ite_f_ H
          obtain rfl := Option.some.inj H
          have hnb62 := NB496_500.out
          have hnc62 := NB500_496.out
          have hcz63 := blk_cell BK496.out
          have hfz63 := blk_frozen BK496.out
          go_wp2_with (first | (go_at_call 39; (with_reducible refine (impl_RoleOk.calls a0_4 a0_5 true _ A52.out).mono ?_); rintro e w64 ⟨rfl, hb⟩; replace BK496 := bkb_ BK496 hb; replace BK500 := bkb_ BK500 hb; replace HB := hbs_ hb; clear hb; obtain ⟨hcz65, hfz65⟩ := bcf_ BK496) | (go_at_call 39; (with_reducible refine (impl_RoleOk.calls a0_6 a0_7 false _ A54.out).mono ?_); rintro e w66 ⟨rfl, hb⟩; replace BK496 := bkb_ BK496 hb; replace BK500 := bkb_ BK500 hb; replace HB := hbs_ hb; clear hb))
          go_ret
          exact ⟨eq_, bl_⟩
        ·replace c53 := Bool.eq_false_iff.mpr c53
         subst c53
         replace H := ite_f_ H
         obtain rfl := Option.some.inj H
         have hnb67 := NB496_500.out
         have hnc67 := NB500_496.out
         have hcz68 := blk_cell BK496.out
         have hfz68 := blk_frozen BK496.out
         go_wp2_with (first | (go_at_call 39; (with_reducible refine (impl_RoleOk.calls a0_4 a0_5 false _ A52.out).mono ?_); rintro e w69 ⟨rfl, hb⟩; replace BK496 := bkb_ BK496 hb; replace BK500 := bkb_ BK500 hb; replace HB := hbs_ hb; clear hb))
         go_ret
         exact ⟨eq_, bl_⟩
       ·rw [if_neg c51] at H
        have c51b0 : (a0_3 == 0) = false := beq_eq_false_iff_ne.mpr c51
        have c51b1 : (a0_3 != 0) = true := bne_iff_ne.mpr c51
        obtain rfl := Option.some.inj H
        have hnb70 := NB496_500.out
        have hnc70 := NB500_496.out
        have hcz71 := blk_cell BK496.out
        have hfz71 := blk_frozen BK496.out
        go_wp2
        go_ret
        exact ⟨eq_, bl_⟩
      ·rw [if_neg c50] at H
       have c50b0 : (a0_0 == 3) = false := beq_eq_false_iff_ne.mpr c50
       have c50b1 : (a0_0 != 3) = true := bne_iff_ne.mpr c50
       by_cases c72 : a0_0 = 4
       ·rw [if_pos c72] at H
        have c72b0 : (a0_0 == 4) = true := beq_iff_eq.mpr c72
        have c72b1 : (a0_0 != 4) = false := bne_eq_false_iff_eq.mpr c72
        clear c72
        by_cases c73 : a0_3 = 0
        ·rw [if_pos c73] at H
         have c73b0 : (a0_3 == 0) = true := beq_iff_eq.mpr c73
         have c73b1 : (a0_3 != 0) = false := bne_eq_false_iff_eq.mpr c73
         clear c73
         obtain ⟨t505, A74, H⟩ := bindE_ H
         by_cases c75 : t505 = true
         ·subst c75
          replace H := ite_t_ H
          obtain ⟨t506, A76, H⟩ := bindE_ H
          obtain rfl := Option.some.inj H
          have hnb77 := NB496_500.out
          have hnc77 := NB500_496.out
          have hcz78 := blk_cell BK496.out
          have hfz78 := blk_frozen BK496.out
          go_wp2_with (first | (go_at_call 39; (with_reducible refine (impl_RoleOk.calls a0_4 a0_5 true _ A74.out).mono ?_); rintro e w79 ⟨rfl, hb⟩; replace BK496 := bkb_ BK496 hb; replace BK500 := bkb_ BK500 hb; replace HB := hbs_ hb; clear hb; obtain ⟨hcz80, hfz80⟩ := bcf_ BK496) | (go_at_call 39; (with_reducible refine (impl_RoleOk.calls a0_6 a0_7 t506 _ A76.out).mono ?_); rintro e w81 ⟨rfl, hb⟩; replace BK496 := bkb_ BK496 hb; replace BK500 := bkb_ BK500 hb; replace HB := hbs_ hb; clear hb))
          go_ret
          exact ⟨eq_, bl_⟩
         ·replace c75 := Bool.eq_false_iff.mpr c75
          subst c75
          replace H := ite_f_ H
          obtain rfl := Option.some.inj H
          have hnb82 := NB496_500.out
          have hnc82 := NB500_496.out
          have hcz83 := blk_cell BK496.out
          have hfz83 := blk_frozen BK496.out
          go_wp2_with (first | (go_at_call 39; (with_reducible refine (impl_RoleOk.calls a0_4 a0_5 false _ A74.out).mono ?_); rintro e w84 ⟨rfl, hb⟩; replace BK496 := bkb_ BK496 hb; replace BK500 := bkb_ BK500 hb; replace HB := hbs_ hb; clear hb))
          go_ret
          exact ⟨eq_, bl_⟩
        ·rw [if_neg c73] at H
         have c73b0 : (a0_3 == 0) = false := beq_eq_false_iff_ne.mpr c73
         have c73b1 : (a0_3 != 0) = true := bne_iff_ne.mpr c73
         obtain rfl := Option.some.inj H
         have hnb85 := NB496_500.out
         have hnc85 := NB500_496.out
         have hcz86 := blk_cell BK496.out
         have hfz86 := blk_frozen BK496.out
         go_wp2
         go_ret
         exact ⟨eq_, bl_⟩
       ·rw [if_neg c72] at H
        have c72b0 : (a0_0 == 4) = false := beq_eq_false_iff_ne.mpr c72
        have c72b1 : (a0_0 != 4) = true := bne_iff_ne.mpr c72
        obtain rfl := Option.some.inj H
        go_wp2
        go_ret
        exact ⟨eq_, bl_⟩
-- NOT PRINTED: function 66 (impl_derive_1)
def impl_factOk.f (a0_0 : Int) (a0_1 : Int) (a0_2 : Int) : Option (Bool) := (impl_RoleOk.f a0_0 a0_1).bind fun t508 => (if t508 = true then ((impl_isPerson.f a0_2).bind fun t509 => (some t509)) else (some false))
set_option maxHeartbeats 8000000 in
set_option maxRecDepth 100000 in
theorem impl_factOk.calls (a0_0 : Int) (a0_1 : Int) (a0_2 : Int) (r : Bool) (w : World) (h : impl_factOk.f a0_0 a0_1 a0_2 = some r) :
  Calls Try.prog 68 #[.agg #[.int .i64 a0_0, .int .i64 a0_1, .int .i64 a0_2]] w fun e w' => e = .returned (.bool r) ∧ Below w.heap.size w w' := by
 have hu63 := Try.underlying63
 have hu55 := Try.underlying55
 have HB := aa_ (Below.refl w.heap.size w)
 have H : ((impl_RoleOk.f a0_0 a0_1).bind fun t508 => (if t508 = true then ((impl_isPerson.f a0_2).bind fun t509 => (some t509)) else (some false))) = some r := h
 clear h
 obtain ⟨t508, A2, H⟩ := bindE_ H
 by_cases c3 : t508 = true
 ·subst c3
  replace H := ite_t_ H
  obtain ⟨t509, A4, H⟩ := bindE_ H
  obtain rfl := Option.some.inj H
  go_enter Try.func68, Try.ntmps68
  go_wp2_with (first | ((with_reducible refine gD_ 1 rfl ?_); refine bx_ (N := 1) (cs := #[.int .i64 a0_0, .int .i64 a0_1, .int .i64 a0_2]) (t := 63) ?_; intro gb507 hg w5 hbox hb; have BK507 := aa_ (hbox); have GW507 := gs_ hg; have GE507 := gs_ hg; replace HB := hbs_ hb; clear hb hbox hg; obtain ⟨hcz6, hfz6⟩ := bcf_ BK507) | ((with_reducible refine gC_ 39 rfl ?_); refine goesC_ (some 5) Try.func39 #[.agg #[.int .i64 a0_0, .int .i64 a0_1]] ?_; (with_reducible refine (impl_RoleOk.calls a0_0 a0_1 true _ A2.out).mono ?_); rintro e w7 ⟨rfl, hb⟩; refine ⟨_, rfl, ?_⟩; replace BK507 := bkb_ BK507 hb; replace HB := hbs_ hb; clear hb; obtain ⟨hcz8, hfz8⟩ := bcf_ BK507) | (go_at_call 65; (with_reducible refine (impl_isPerson.calls a0_2 t509 _ A4.out).mono ?_); rintro e w' ⟨rfl, ⟨nd, rfl⟩⟩))
  go_ret
  exact ⟨eq_, bl_⟩
 ·replace c3 := Bool.eq_false_iff.mpr c3
  subst c3
  replace H := ite_f_ H
  obtain rfl := Option.some.inj H
  go_enter Try.func68, Try.ntmps68
  go_wp2_with (first | ((with_reducible refine gD_ 1 rfl ?_); refine bx_ (N := 1) (cs := #[.int .i64 a0_0, .int .i64 a0_1, .int .i64 a0_2]) (t := 63) ?_; intro gb507 hg w9 hbox hb; have BK507 := aa_ (hbox); have GW507 := gs_ hg; have GE507 := gs_ hg; replace HB := hbs_ hb; clear hb hbox hg; obtain ⟨hcz10, hfz10⟩ := bcf_ BK507) | ((with_reducible refine gC_ 39 rfl ?_); refine goesC_ (some 5) Try.func39 #[.agg #[.int .i64 a0_0, .int .i64 a0_1]] ?_; (with_reducible refine (impl_RoleOk.calls a0_0 a0_1 false _ A2.out).mono ?_); rintro e w11 ⟨rfl, hb⟩; refine ⟨_, rfl, ?_⟩; replace BK507 := bkb_ BK507 hb; replace HB := hbs_ hb; clear hb))
  go_ret
  exact ⟨eq_, bl_⟩
def impl_whoOf.l0 : Nat → List Int → List (S63) → Int → Int → Int → Int → Option (List Int)
 | 0, _, _, _, _, _, _ => none
 | k + 1, x5, x9, x10, x11, x511000, x511001 => if x11 < x10 then (if 0 ≤ x11 then (if x11 < (x9.length : Int) then (if (((rd_T63 x9 x11).f0.f0) == x511000 && (((rd_T63 x9 x11).f0.f1) == x511001)) = true then ((impl_factOk.f ((rd_T63 x9 x11).f0.f0) ((rd_T63 x9 x11).f0.f1) ((rd_T63 x9 x11).f1)).bind fun t516 => (if t516 = true then (if x5.length < 17592186044416 then (impl_whoOf.l0 k (x5 ++ [x11]) x9 x10 (wrap64 (x11 + 1)) x511000 x511001) else (none)) else (impl_whoOf.l0 k x5 x9 x10 (wrap64 (x11 + 1)) x511000 x511001))) else (impl_whoOf.l0 k x5 x9 x10 (wrap64 (x11 + 1)) x511000 x511001)) else (none)) else (none)) else (some x5)
def impl_whoOf.f (k : Nat) (l0 : List (S63)) (a1_0 : Int) (a1_1 : Int) : Option (List Int) := impl_whoOf.l0 k (([] : List Int)) l0 (l0.length : Int) 0 a1_0 a1_1
set_option maxHeartbeats 8000000 in
set_option maxRecDepth 100000 in
theorem impl_whoOf.calls (k : Nat) (A0 : Option Addr) (c0 : Nat) (l0 : List (S63)) (a1_0 : Int) (a1_1 : Int) (r : List Int) (w : World) (hr0 : Kd.C k63 w A0 l0.length l0) (hc0 : l0.length ≤ c0) (h : impl_whoOf.f k l0 a1_0 a1_1 = some r) :
  Calls Try.prog 67 #[.slice A0 l0.length c0, .agg #[.int .i64 a1_0, .int .i64 a1_1]] w fun e w' => ∃ v0_ : Value, e = .returned (v0_) ∧ Kd.R (Kd.int .i64) 3 w' w.heap.size (fun _ => True) v0_ r ∧ Below w.heap.size w w' := by
 have hu55 := Try.underlying55
 have hu63 := Try.underlying63
 have HR0 := aa_ hr0
 have HC0 := aa_ hc0
 clear hr0 hc0
 have HB := aa_ (Below.refl w.heap.size w)
 have H : (impl_whoOf.l0 k (([] : List Int)) l0 (l0.length : Int) 0 a1_0 a1_1) = some r := h
 clear h
 obtain ⟨y511, hy511⟩ : ∃ y_ : List Int, y_ = (([] : List Int)) := ⟨_, rfl⟩
 replace H : (impl_whoOf.l0 k y511 l0 (l0.length : Int) 0 a1_0 a1_1) = some r := rh_ hy511 H
 have Ny511 := aa_ hy511
 clear hy511
 have H' := aa_ H
 clear H
 go_enter Try.func67, Try.ntmps67
 go_wp2_with (first | ((with_reducible refine gD_ 3 rfl ?_); refine bx_ (N := 3) (cs := #[.int .i64 a1_0, .int .i64 a1_1]) (t := 55) ?_; intro gb510 hg w3 hbox hb; have BK510 := aa_ (hbox); have GW510 := gs_ hg; have GE510 := gs_ hg; replace HB := hbs_ hb; clear hb hbox hg) | ((with_reducible refine gD_ 8 rfl ?_); refine Kd.R_lit (Kd.int .i64) _ 3 ?hg (N := 8) ?hd (xs := ([] : List Int)) (inner := []) (ok := fun _ => True) (okp := fun _ => True) ?hr ?hp (fun _ hk => hk) trivial (Below.refl _ _) (Nat.le_refl _) (by simp) ?_; (case hd => rfl); (case hg => rfl); (case hr => first | (go_simp; done) | (go_simp; rfl)); (case hp => exact (Reps.none _ _)); intro v512 w4 ho5 hb hg_ hnew_; clear hg_ hnew_; (first | rw [← Ny511.out] at ho5 | (simp only [Int.reduceToNat] at ho5; rw [← Ny511.out] at ho5)); have HO513 := aa_ (Kd.R_lower ho5 bls_); replace BK510 := bkb_ BK510 hb; replace HB := hbs_ hb; clear hb ho5))
 go_loopg [5, 11] k (fun kq v5 v11 w' => ∃ (x5_1 : List Int) (x11_1 : Int), v11 = .int .i64 x11_1 ∧ Aside0 (impl_whoOf.l0 kq x5_1 l0 (l0.length : Int) x11_1 a1_0 a1_1 = some r) ∧ Aside0 (kq ≤ k) ∧ Aside0 (Kd.R (Kd.int .i64) 3 w' w.heap.size (fun _ => True) v5 x5_1) ∧ Aside0 (w'.heap[gb510]? = some (.cells #[.int .i64 a1_0, .int .i64 a1_1] 55 (0, 0))) ∧ Aside0 (Below w.heap.size w w'))
 case atStart => exact ⟨(y511), (0), rf_, H', ⟨Nat.le_refl _⟩, ⟨rr_ HO513⟩, ⟨bk_ BK510⟩, ⟨bl_⟩⟩
 case round =>
  clear H'
  try clear p2
  obtain ⟨x5_1, x11_1, rfl, HA, HK1, HO_5, BK510, HB⟩ := hrel
  cases gk with
  | zero => exact absurd HA.out (by simp [impl_whoOf.l0])
  | succ k1 =>
   have H := HA.out
   clear HA
   simp only [impl_whoOf.l0] at H
   by_cases c6 : x11_1 < (l0.length : Int)
   ·rw [if_pos c6] at H
    have c6b0 : decide (x11_1 < (l0.length : Int)) = true := decide_eq_true c6
    clear c6
    obtain ⟨c7b0, H⟩ := ifd_ H
    obtain ⟨c8b0, H⟩ := ifd_ H
    by_cases c9 : (((rd_T63 l0 x11_1).f0.f0) == a1_0 && (((rd_T63 l0 x11_1).f0.f1) == a1_1)) = true
    ·rw [if_pos c9] at H
     have c9b0 : (((rd_T63 l0 x11_1).f0.f0) == a1_0 && (((rd_T63 l0 x11_1).f0.f1) == a1_1)) = true := c9
     (try (have c9b1 : decide (((rd_T63 l0 x11_1).f0.f0) = a1_0 && (((rd_T63 l0 x11_1).f0.f1) == a1_1)) = true := by simpa using c9))
     (try (have c9b2 : (((rd_T63 l0 x11_1).f0.f0) == a1_0 && (((rd_T63 l0 x11_1).f0.f1) == a1_1)) = true := by simpa using c9))
     clear c9
     obtain ⟨t516, A10, H⟩ := bindE_ H
     have HC11 := aa_ H
     clear H
     have p514 : 0 ≤ (x11_1 : Int) := od_
     have q514 : x11_1 < (l0.length : Int) := od_
     obtain ⟨ad514, e514, hx514_0, hx514_1, hx514_2⟩ := at_T63 (Kd.C_below HR0.out HB.out) x11_1 p514 q514
     cases e514
     replace p514 := eq_true p514
     replace q514 := eq_true q514
     go_upto_if 23 with (first | ((with_reducible refine gD_ 7 rfl ?_); refine bx_ (N := 7) (cs := #[.int .i64 0, .int .i64 0, .int .i64 0]) (t := 63) ?_; intro gb515 hg w12 hbox hb; replace HO_5 := hob_ HO_5 hb; have BK515 := aa_ (hbox); have GW515 := gs_ hg; have GE515 := gs_ hg; replace HB := hbs_ hb; have NB510_515 := nl_ hg BK510; have NB515_510 := nr_ hg BK510; replace BK510 := bkb_ BK510 hb; clear hb hbox hg; have hnb13 := NB515_510.out; have hnc13 := NB510_515.out; obtain ⟨hcz14, hfz14⟩ := bcf_ BK515; obtain ⟨hcz15, hfz15⟩ := bcf_ BK510) | (go_at_call 68; (with_reducible refine (impl_factOk.calls ((rd_T63 l0 x11_1).f0.f0) ((rd_T63 l0 x11_1).f0.f1) ((rd_T63 l0 x11_1).f1) t516 _ A10.out).mono ?_); rintro e w16 ⟨rfl, hb⟩; replace HO_5 := aa_ (Kd.R_below (by (with_reducible repeat (first | apply Kd.R_alloc | apply Kd.R_drewN | apply Kd.R_drew)); exact (Kd.R_mono (fr3_ (Kd.R_types HO_5.out BK515.out (by decide)) (fun _ hk => hk.2)) (fun _ h_ => h_.1))) hb); replace BK510 := aa_ (blk_below (g := gb510) (o := .cells #[.int .i64 a1_0, .int .i64 a1_1] 55 (0, 0)) (bk_ BK510) hb); replace BK515 := aa_ (blk_below (g := gb515) (o := .cells #[.int .i64 ((rd_T63 l0 x11_1).f0.f0), .int .i64 ((rd_T63 l0 x11_1).f0.f1), .int .i64 ((rd_T63 l0 x11_1).f1)] 63 (0, 0)) (bk_ BK515) hb); replace HB := hbs_ hb; clear hb))
     (try simp only [Act.put, List.setIfInBounds_toArray, List.set_cons_zero, List.set_cons_succ])
     have H := HC11.out
     clear HC11
     by_cases c17 : t516 = true
     ·subst c17
      replace H := ite_t_ H
      obtain ⟨c18, H⟩ := ifn_ H
      have LMc18 := aa_ c18
      clear c18
      obtain ⟨y517, hy517⟩ : ∃ y_ : List Int, y_ = (x5_1 ++ [x11_1]) := ⟨_, rfl⟩
      replace H : (impl_whoOf.l0 k1 y517 l0 (l0.length : Int) (wrap64 (x11_1 + 1)) a1_0 a1_1) = some r := rh_ hy517 H
      have Ny517 := aa_ hy517
      clear hy517
      have H' := aa_ H
      clear H
      go_wp2_with (first | ((with_reducible refine gate_builtin (b := .append) (xs := #[.tmp 24, .tmp 26]) rfl ?_); at_builtin; refine Kd.R_append (Kd.int .i64) (w0 := w) w.heap.size rfl (.tmp 24) (.tmp 26) 51 3 (.int .i64 0) 8 rfl Try.underlying51 info3 rfl (by decide) (by omega) u5 x5_1 x11_1 [.int .i64 x11_1] (fun _ => True) (fun _ => False) rfl rfl ?aP (fun _ hk => hk.elim) ?aF ?aO ?aB ?aS ?aL ?_; (case aP => exact rfl); (case aB => exact bl_); (case aF => exact (fun _ _ => trivial)); (case aO => exact (rr_ HO_5)); (case aS => exact bls_); (case aL => have := LMc18.out; omega); intro v518 w19 ho hb hg hat; rw [← Ny517.out] at ho; replace BK510 := aa_ (blk_grown (g := gb510) (o := .cells #[.int .i64 a1_0, .int .i64 a1_1] 55 (0, 0)) (bk_ BK510) hg (Kd.R_ne HO_5.out BK510.out (by decide))); replace BK515 := aa_ (blk_grown (g := gb515) (o := .cells #[.int .i64 ((rd_T63 l0 x11_1).f0.f0), .int .i64 ((rd_T63 l0 x11_1).f0.f1), .int .i64 ((rd_T63 l0 x11_1).f1)] 63 (0, 0)) (bk_ BK515) hg (Kd.R_ne HO_5.out BK515.out (by decide))); replace HB := aa_ (hb); have HO519 := aa_ (ho); clear HO_5; clear ho hb hg hat))
      go_roundg k1
      case measure => have := HK1.out; omega
      case rel => exact ⟨(y517), (wrap64 (x11_1 + 1)), rf_, H', ⟨by have := HK1.out; omega⟩, ⟨rr_ HO519⟩, ⟨bk_ BK510⟩, ⟨bl_⟩⟩
     ·replace c17 := Bool.eq_false_iff.mpr c17
      subst c17
      replace H := ite_f_ H
      have H' := aa_ H
      clear H
      go_wp2
      go_roundg k1
      case measure => have := HK1.out; omega
      case rel => exact ⟨(x5_1), (wrap64 (x11_1 + 1)), rf_, H', ⟨by have := HK1.out; omega⟩, ⟨rr_ HO_5⟩, ⟨bk_ BK510⟩, ⟨bl_⟩⟩
    ·rw [if_neg c9] at H
     have c9b0 : (((rd_T63 l0 x11_1).f0.f0) == a1_0 && (((rd_T63 l0 x11_1).f0.f1) == a1_1)) = false := by simpa using c9
     (try (have c9b1 : decide (((rd_T63 l0 x11_1).f0.f0) = a1_0 && (((rd_T63 l0 x11_1).f0.f1) == a1_1)) = false := by simpa using c9))
     (try (have c9b2 : (((rd_T63 l0 x11_1).f0.f0) == a1_0 && (((rd_T63 l0 x11_1).f0.f1) == a1_1)) = false := by simpa using c9))
     (try (have c9b3 : ¬ (((rd_T63 l0 x11_1).f0.f0) = a1_0 && (((rd_T63 l0 x11_1).f0.f1) == a1_1)) := by simpa using c9))
     clear c9
     have H' := aa_ H
     clear H
     have p514 : 0 ≤ (x11_1 : Int) := od_
     have q514 : x11_1 < (l0.length : Int) := od_
     obtain ⟨ad514, e514, hx514_0, hx514_1, hx514_2⟩ := at_T63 (Kd.C_below HR0.out HB.out) x11_1 p514 q514
     cases e514
     replace p514 := eq_true p514
     replace q514 := eq_true q514
     go_wp2_with (first | ((with_reducible refine gD_ 7 rfl ?_); refine bx_ (N := 7) (cs := #[.int .i64 0, .int .i64 0, .int .i64 0]) (t := 63) ?_; intro gb515 hg w20 hbox hb; replace HO_5 := hob_ HO_5 hb; have BK515 := aa_ (hbox); have GW515 := gs_ hg; have GE515 := gs_ hg; replace HB := hbs_ hb; have NB510_515 := nl_ hg BK510; have NB515_510 := nr_ hg BK510; replace BK510 := bkb_ BK510 hb; clear hb hbox hg; have hnb21 := NB515_510.out; have hnc21 := NB510_515.out; obtain ⟨hcz22, hfz22⟩ := bcf_ BK515; obtain ⟨hcz23, hfz23⟩ := bcf_ BK510))
     go_roundg k1
     case measure => have := HK1.out; omega
     case rel => exact ⟨(x5_1), (wrap64 (x11_1 + 1)), rf_, H', ⟨by have := HK1.out; omega⟩, ⟨by (with_reducible repeat (first | apply Kd.R_alloc | apply Kd.R_drewN | apply Kd.R_drew)); exact Kd.R_mono (fr3_ (Kd.R_types HO_5.out BK515.out (by decide)) (fun _ hk => hk.2)) (fun _ hk => trivial)⟩, ⟨bk_ BK510⟩, ⟨bl_⟩⟩
   ·rw [if_neg c6] at H
    have c6b0 : decide (x11_1 < (l0.length : Int)) = false := decide_eq_false c6
    clear c6
    obtain rfl := Option.some.inj H
    go_wp2
    go_ret
    exact ⟨_, eq_, by (with_reducible repeat (first | apply Kd.R_alloc | apply Kd.R_drewN | apply Kd.R_drew)); exact HO_5.out, bl_⟩
end Go.Proofs.Ytnoklfpnmopkpaa.PE
