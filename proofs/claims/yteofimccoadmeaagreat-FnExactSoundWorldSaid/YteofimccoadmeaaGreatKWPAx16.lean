import Derived.Test.YteofimccoadmeaaGreatKWPAx15
-- printed by wip/tools
namespace Go.Proofs.YteofimccoadmeaaGreat.PA
open Go.RowKit Go.Proofs.YteofimccoadmeaaGreatW.PrintWords Go.Proofs.YteofimccoadmeaaGreatW.PrintLast Go.Proofs.YteofimccoadmeaaGreatW.PrintMore
attribute [local go_sem] max2_int min2_int max_two min_two max_three min_three max_four min_four
set_option linter.unusedVariables false
set_option linter.unusedSimpArgs false
attribute [local go_sem high] eqA77
def impl_CredOk.j0 : Nat → Bool → Int → Int → Int → Int → Int → Int → Int → Int → Int → Int → Option (Bool)
 | 0, _, _, _, _, _, _, _, _, _, _, _ => none
 | k + 1, x19, x500000, x500001, x500002, x500003, x500004, x500005, x500006, x500007, x500008, x500009 => if x19 = true then (some false) else (if x500000 = 1 then ((impl_isPerson.f x500003).bind fun t504 => (if t504 = true then (if (x500004 == 0 && (x500005 == 0)) = true then (some (x500006 == 0 && (x500007 == 0))) else (some false)) else (some false))) else (if x500000 = 2 then (if x500003 = 0 then ((impl_RoleOk.f x500004 x500005).bind fun t505 => (if t505 = true then (some (x500006 == 0 && (x500007 == 0))) else (some false))) else (some false)) else (if x500000 = 3 then (if x500003 = 0 then ((impl_RoleOk.f x500004 x500005).bind fun t506 => (if t506 = true then ((impl_RoleOk.f x500006 x500007).bind fun t507 => (if t507 = true then (some (x500006 == 0)) else (some false))) else (some false))) else (some false)) else (if x500000 = 4 then (if x500003 = 0 then ((impl_RoleOk.f x500004 x500005).bind fun t508 => (if t508 = true then ((impl_RoleOk.f x500006 x500007).bind fun t509 => (some t509)) else (some false))) else (some false)) else (some false)))))
def impl_CredOk.f (k : Nat) (a0_0 : Int) (a0_1 : Int) (a0_2 : Int) (a0_3 : Int) (a0_4 : Int) (a0_5 : Int) (a0_6 : Int) (a0_7 : Int) (a0_8 : Int) (a0_9 : Int) : Option (Bool) := (impl_RoleOk.f a0_1 a0_2).bind fun t500 => (if t500 = true then ((impl_in.f a0_8 1 9999).bind fun t501 => (if t501 = true then ((impl_in.f a0_9 0 99).bind fun t502 => (impl_CredOk.j0 k (!t502) a0_0 a0_1 a0_2 a0_3 a0_4 a0_5 a0_6 a0_7 a0_8 a0_9)) else (impl_CredOk.j0 k true a0_0 a0_1 a0_2 a0_3 a0_4 a0_5 a0_6 a0_7 a0_8 a0_9))) else (impl_CredOk.j0 k true a0_0 a0_1 a0_2 a0_3 a0_4 a0_5 a0_6 a0_7 a0_8 a0_9))
set_option maxHeartbeats 8000000 in
set_option maxRecDepth 100000 in
theorem impl_CredOk.calls (k : Nat) (a0_0 : Int) (a0_1 : Int) (a0_2 : Int) (a0_3 : Int) (a0_4 : Int) (a0_5 : Int) (a0_6 : Int) (a0_7 : Int) (a0_8 : Int) (a0_9 : Int) (r : Bool) (w : World) (h : impl_CredOk.f k a0_0 a0_1 a0_2 a0_3 a0_4 a0_5 a0_6 a0_7 a0_8 a0_9 = some r) :
  Calls Tryz.prog 89 #[.agg #[.int .i64 a0_0, .int .i64 a0_1, .int .i64 a0_2, .int .i64 a0_3, .int .i64 a0_4, .int .i64 a0_5, .int .i64 a0_6, .int .i64 a0_7, .int .i64 a0_8, .int .i64 a0_9]] w fun e w' => e = .returned (.bool r) ∧ Below w.heap.size w w' := by
 have hu83 := Tryz.underlying83
 have hu77 := Tryz.underlying77
 have HB := aa_ (Below.refl w.heap.size w)
 have H : ((impl_RoleOk.f a0_1 a0_2).bind fun t500 => (if t500 = true then ((impl_in.f a0_8 1 9999).bind fun t501 => (if t501 = true then ((impl_in.f a0_9 0 99).bind fun t502 => (impl_CredOk.j0 k (!t502) a0_0 a0_1 a0_2 a0_3 a0_4 a0_5 a0_6 a0_7 a0_8 a0_9)) else (impl_CredOk.j0 k true a0_0 a0_1 a0_2 a0_3 a0_4 a0_5 a0_6 a0_7 a0_8 a0_9))) else (impl_CredOk.j0 k true a0_0 a0_1 a0_2 a0_3 a0_4 a0_5 a0_6 a0_7 a0_8 a0_9))) = some r := h
 clear h
 have HC2 := aa_ H
 clear H
 go_enter Tryz.func89, Tryz.ntmps89
 go_upto_region 1 with (first | ((with_reducible refine gD_ 1 rfl ?_); refine bx_ (N := 1) (cs := #[.int .i64 a0_0, .int .i64 a0_1, .int .i64 a0_2, .int .i64 a0_3, .int .i64 a0_4, .int .i64 a0_5, .int .i64 a0_6, .int .i64 a0_7, .int .i64 a0_8, .int .i64 a0_9]) (t := 83) ?_; intro gb499 hg w3 hbox hb; have BK499 := aa_ (hbox); have GW499 := gs_ hg; have GE499 := gs_ hg; replace HB := hbs_ hb; clear hb hbox hg))
 (try simp only [Act.put, sb_, sz_, ss_])
 go_cut [19] (fun v19 wc => ∃ (kq : Nat) (x19_1 : Bool), v19 = .bool x19_1 ∧ Aside0 (impl_CredOk.j0 kq x19_1 a0_0 a0_1 a0_2 a0_3 a0_4 a0_5 a0_6 a0_7 a0_8 a0_9 = some r) ∧ Aside0 (kq ≤ k) ∧ Aside0 (wc.heap[gb499]? = some (.cells #[.int .i64 a0_0, .int .i64 a0_1, .int .i64 a0_2, .int .i64 a0_3, .int .i64 a0_4, .int .i64 a0_5, .int .i64 a0_6, .int .i64 a0_7, .int .i64 a0_8, .int .i64 a0_9] 83 (0, 0))) ∧ Aside0 (Below w.heap.size w wc))
 case first =>
  have H := HC2.out
  clear HC2
  obtain ⟨t500, A4, H⟩ := bindE_ H
  by_cases c5 : t500 = true
  ·subst c5
   replace H := ite_t_ H
   obtain ⟨t501, A6, H⟩ := bindE_ H
   by_cases c7 : t501 = true
   ·subst c7
    replace H := ite_t_ H
    obtain ⟨t502, A8, H⟩ := bindE_ H
    have H' := aa_ H
    clear H
    have hcz9 := blk_cell BK499.out
    have hfz9 := blk_frozen BK499.out
    go_wp2_with (first | ((with_reducible refine gC_ 97 rfl ?_); refine goesC_ (some 6) Tryz.func97 #[.agg #[.int .i64 a0_1, .int .i64 a0_2]] ?_; (with_reducible refine (impl_RoleOk.calls a0_1 a0_2 true _ A4.out).mono ?_); rintro e w10 ⟨rfl, hb⟩; refine ⟨_, rfl, ?_⟩; replace BK499 := bkb_ BK499 hb; replace HB := hbs_ hb; clear hb; obtain ⟨hcz11, hfz11⟩ := bcf_ BK499) | (go_at_call 41; (with_reducible refine (impl_in.calls a0_8 1 9999 true _ A6.out).mono ?_); rintro e w' ⟨rfl, ⟨nd, rfl⟩⟩) | (go_at_call 41; (with_reducible refine (impl_in.calls a0_9 0 99 t502 _ A8.out).mono ?_); rintro e w' ⟨rfl, ⟨nd, rfl⟩⟩))
    go_meet
    case rel => exact ⟨_, (!t502), rf_, H', ⟨by first | omega | exact Nat.le_refl _⟩, ⟨bk_ BK499⟩, ⟨bl_⟩⟩
   ·replace c7 := Bool.eq_false_iff.mpr c7
    subst c7
    replace H := ite_f_ H
    have H' := aa_ H
    clear H
    have hcz12 := blk_cell BK499.out
    have hfz12 := blk_frozen BK499.out
    go_wp2_with (first | ((with_reducible refine gC_ 97 rfl ?_); refine goesC_ (some 6) Tryz.func97 #[.agg #[.int .i64 a0_1, .int .i64 a0_2]] ?_; (with_reducible refine (impl_RoleOk.calls a0_1 a0_2 true _ A4.out).mono ?_); rintro e w13 ⟨rfl, hb⟩; refine ⟨_, rfl, ?_⟩; replace BK499 := bkb_ BK499 hb; replace HB := hbs_ hb; clear hb; obtain ⟨hcz14, hfz14⟩ := bcf_ BK499) | (go_at_call 41; (with_reducible refine (impl_in.calls a0_8 1 9999 false _ A6.out).mono ?_); rintro e w' ⟨rfl, ⟨nd, rfl⟩⟩))
    go_meet
    case rel => exact ⟨_, (true), rf_, H', ⟨by first | omega | exact Nat.le_refl _⟩, ⟨bk_ BK499⟩, ⟨bl_⟩⟩
  ·replace c5 := Bool.eq_false_iff.mpr c5
   subst c5
   replace H := ite_f_ H
   have H' := aa_ H
   clear H
   have hcz15 := blk_cell BK499.out
   have hfz15 := blk_frozen BK499.out
   go_wp2_with (first | ((with_reducible refine gC_ 97 rfl ?_); refine goesC_ (some 6) Tryz.func97 #[.agg #[.int .i64 a0_1, .int .i64 a0_2]] ?_; (with_reducible refine (impl_RoleOk.calls a0_1 a0_2 false _ A4.out).mono ?_); rintro e w16 ⟨rfl, hb⟩; refine ⟨_, rfl, ?_⟩; replace BK499 := bkb_ BK499 hb; replace HB := hbs_ hb; clear hb))
   go_meet
   case rel => exact ⟨_, (true), rf_, H', ⟨by first | omega | exact Nat.le_refl _⟩, ⟨bk_ BK499⟩, ⟨bl_⟩⟩
 case rest =>
  clear HC2
  try clear p2
  try clear hcz11
  try clear hcz12
  try clear hcz14
  try clear hcz15
  try clear hcz9
  try clear hfz11
  try clear hfz12
  try clear hfz14
  try clear hfz15
  try clear hfz9
  obtain ⟨kq, x19_1, rfl, HA, HJ1, BK499, HB⟩ := hcut
  cases kq with
  | zero => exact absurd HA.out (by simp [impl_CredOk.j0])
  | succ kj1 =>
   have H := HA.out
   clear HA
   simp only [impl_CredOk.j0] at H
   by_cases c17 : x19_1 = true
   ·subst c17
    replace H := ite_t_ H
    obtain rfl := Option.some.inj H
    go_wp2
    go_ret
    exact ⟨eq_, bl_⟩
   ·replace c17 := Bool.eq_false_iff.mpr c17
    subst c17
    replace H := ite_f_ H
    have HC18 := aa_ H
    clear H
    go_upto_if 23 with (first | ((with_reducible refine gD_ 3 rfl ?_); refine bx_ (N := 3) (cs := #[.int .i64 0, .int .i64 0]) (t := 77) ?_; intro gb503 hg w19 hbox hb; have BK503 := aa_ (hbox); have GW503 := gs_ hg; have GE503 := gs_ hg; replace HB := hbs_ hb; have NB499_503 := nl_ hg BK499; have NB503_499 := nr_ hg BK499; replace BK499 := bkb_ BK499 hb; clear hb hbox hg; have hnb20 := NB503_499.out; have hnc20 := NB499_503.out; obtain ⟨hcz21, hfz21⟩ := bcf_ BK503; obtain ⟨hcz22, hfz22⟩ := bcf_ BK499))
    have n0_ : Aside0 (((w19.setCell ⟨gb503, 0, none⟩ (.int .i64 0)).setCell ⟨gb503, 1, none⟩ (.int .i64 0)).heap[gb499]? = some (.cells #[.int .i64 a0_0, .int .i64 a0_1, .int .i64 a0_2, .int .i64 a0_3, .int .i64 a0_4, .int .i64 a0_5, .int .i64 a0_6, .int .i64 a0_7, .int .i64 a0_8, .int .i64 a0_9] 83 (0, 0))) := ⟨bk_ BK499⟩
    have n1_ : Aside0 (((w19.setCell ⟨gb503, 0, none⟩ (.int .i64 0)).setCell ⟨gb503, 1, none⟩ (.int .i64 0)).heap[gb503]? = some (.cells #[.int .i64 0, .int .i64 0] 77 (0, 0))) := ⟨bk_ BK503⟩
    have n2_ : Aside0 (Below w.heap.size w ((w19.setCell ⟨gb503, 0, none⟩ (.int .i64 0)).setCell ⟨gb503, 1, none⟩ (.int .i64 0))) := ⟨bl_⟩
    (try clear BK499)
    (try clear BK503)
    (try clear HB)
    generalize ((w19.setCell ⟨gb503, 0, none⟩ (.int .i64 0)).setCell ⟨gb503, 1, none⟩ (.int .i64 0)) = w23 at n0_ n1_ n2_ ⊢
    have BK499 := n0_
    have BK503 := n1_
    have HB := n2_
    clear n0_ n1_ n2_
    (try simp only [Act.put, sb_, sz_, ss_])
    have H := HC18.out
    clear HC18
    by_cases c24 : a0_0 = 1
    ·rw [if_pos c24] at H
     have c24b0 : (a0_0 == 1) = true := beq_iff_eq.mpr c24
     have c24b1 : (a0_0 != 1) = false := bne_eq_false_iff_eq.mpr c24
     clear c24
     (first | rw [c24b0] | (simp only [i64_w, i32_w]; rw [c24b0]) | skip)
     obtain ⟨t504, A25, H⟩ := bindE_ H
     by_cases c26 : t504 = true
     ·subst c26
      replace H := ite_t_ H
      by_cases c27 : (a0_4 == 0 && (a0_5 == 0)) = true
      ·rw [if_pos c27] at H
       have c27b0 : (a0_4 == 0 && (a0_5 == 0)) = true := c27
       (try (have c27b1 : decide (a0_4 = 0 && (a0_5 == 0)) = true := by simpa using c27))
       (try (have c27b2 : (a0_4 == 0 && (a0_5 == 0)) = true := by simpa using c27))
       clear c27
       obtain rfl := Option.some.inj H
       have hnb28 := NB499_503.out
       have hnc28 := NB503_499.out
       have hcz29 := blk_cell BK499.out
       have hfz29 := blk_frozen BK499.out
       go_wp2_with (first | ((with_reducible refine gC_ 98 rfl ?_); refine goesC_ (some 27) Tryz.func98 #[.int .i64 a0_3] ?_; (with_reducible refine (impl_isPerson.calls a0_3 true _ A25.out).mono ?_); rintro e w' ⟨rfl, ⟨nd, rfl⟩⟩; refine ⟨_, rfl, ?_⟩; obtain ⟨hcz30, hfz30⟩ := bcf_ BK503))
       go_ret
       exact ⟨eq_, bl_⟩
      ·rw [if_neg c27] at H
       have c27b0 : (a0_4 == 0 && (a0_5 == 0)) = false := by simpa using c27
       (try (have c27b1 : decide (a0_4 = 0 && (a0_5 == 0)) = false := by simpa using c27))
       (try (have c27b2 : (a0_4 == 0 && (a0_5 == 0)) = false := by simpa using c27))
       (try (have c27b3 : ¬ (a0_4 = 0 && (a0_5 == 0)) := by simpa using c27))
       clear c27
       obtain rfl := Option.some.inj H
       have hnb31 := NB499_503.out
       have hnc31 := NB503_499.out
       have hcz32 := blk_cell BK499.out
       have hfz32 := blk_frozen BK499.out
       go_wp2_with (first | ((with_reducible refine gC_ 98 rfl ?_); refine goesC_ (some 27) Tryz.func98 #[.int .i64 a0_3] ?_; (with_reducible refine (impl_isPerson.calls a0_3 true _ A25.out).mono ?_); rintro e w' ⟨rfl, ⟨nd, rfl⟩⟩; refine ⟨_, rfl, ?_⟩; obtain ⟨hcz33, hfz33⟩ := bcf_ BK503))
       go_ret
       exact ⟨eq_, bl_⟩
     ·replace c26 := Bool.eq_false_iff.mpr c26
      subst c26
      replace H := ite_f_ H
      obtain rfl := Option.some.inj H
      have hnb34 := NB499_503.out
      have hnc34 := NB503_499.out
      have hcz35 := blk_cell BK499.out
      have hfz35 := blk_frozen BK499.out
      go_wp2_with (first | ((with_reducible refine gC_ 98 rfl ?_); refine goesC_ (some 27) Tryz.func98 #[.int .i64 a0_3] ?_; (with_reducible refine (impl_isPerson.calls a0_3 false _ A25.out).mono ?_); rintro e w' ⟨rfl, ⟨nd, rfl⟩⟩; refine ⟨_, rfl, ?_⟩))
      go_ret
      exact ⟨eq_, bl_⟩
    ·rw [if_neg c24] at H
     have c24b0 : (a0_0 == 1) = false := beq_eq_false_iff_ne.mpr c24
     have c24b1 : (a0_0 != 1) = true := bne_iff_ne.mpr c24
     (first | rw [c24b0] | (simp only [i64_w, i32_w]; rw [c24b0]) | skip)
     by_cases c36 : a0_0 = 2
     ·rw [if_pos c36] at H
      have c36b0 : (a0_0 == 2) = true := beq_iff_eq.mpr c36
      have c36b1 : (a0_0 != 2) = false := bne_eq_false_iff_eq.mpr c36
      clear c36
      by_cases c37 : a0_3 = 0
      ·rw [if_pos c37] at H
       have c37b0 : (a0_3 == 0) = true := beq_iff_eq.mpr c37
       have c37b1 : (a0_3 != 0) = false := bne_eq_false_iff_eq.mpr c37
       clear c37
       obtain ⟨t505, A38, H⟩ := bindE_ H
       by_cases c39 : t505 = true
       ·subst c39
        replace H := ite_t_ H
        obtain rfl := Option.some.inj H
        have hnb40 := NB499_503.out
        have hnc40 := NB503_499.out
        have hcz41 := blk_cell BK499.out
        have hfz41 := blk_frozen BK499.out
        go_wp2_with (first | (go_at_call 97; (with_reducible refine (impl_RoleOk.calls a0_4 a0_5 true _ A38.out).mono ?_); rintro e w42 ⟨rfl, hb⟩; replace BK499 := bkb_ BK499 hb; replace BK503 := bkb_ BK503 hb; replace HB := hbs_ hb; clear hb; obtain ⟨hcz43, hfz43⟩ := bcf_ BK499; obtain ⟨hcz44, hfz44⟩ := bcf_ BK503))
        go_ret
        exact ⟨eq_, bl_⟩
       ·replace c39 := Bool.eq_false_iff.mpr c39
        subst c39
        replace H := ite_f_ H
        obtain rfl := Option.some.inj H
        have hnb45 := NB499_503.out
        have hnc45 := NB503_499.out
        have hcz46 := blk_cell BK499.out
        have hfz46 := blk_frozen BK499.out
        go_wp2_with (first | (go_at_call 97; (with_reducible refine (impl_RoleOk.calls a0_4 a0_5 false _ A38.out).mono ?_); rintro e w47 ⟨rfl, hb⟩; replace BK499 := bkb_ BK499 hb; replace BK503 := bkb_ BK503 hb; replace HB := hbs_ hb; clear hb))
        go_ret
        exact ⟨eq_, bl_⟩
      ·rw [if_neg c37] at H
       have c37b0 : (a0_3 == 0) = false := beq_eq_false_iff_ne.mpr c37
       have c37b1 : (a0_3 != 0) = true := bne_iff_ne.mpr c37
       obtain rfl := Option.some.inj H
       have hnb48 := NB499_503.out
       have hnc48 := NB503_499.out
       have hcz49 := blk_cell BK499.out
       have hfz49 := blk_frozen BK499.out
       go_wp2
       go_ret
       exact ⟨eq_, bl_⟩
     ·rw [if_neg c36] at H
      have c36b0 : (a0_0 == 2) = false := beq_eq_false_iff_ne.mpr c36
      have c36b1 : (a0_0 != 2) = true := bne_iff_ne.mpr c36
      by_cases c50 : a0_0 = 3
      ·rw [if_pos c50] at H
       have c50b0 : (a0_0 == 3) = true := beq_iff_eq.mpr c50
       have c50b1 : (a0_0 != 3) = false := bne_eq_false_iff_eq.mpr c50
       clear c50
       by_cases c51 : a0_3 = 0
       ·rw [if_pos c51] at H
        have c51b0 : (a0_3 == 0) = true := beq_iff_eq.mpr c51
        have c51b1 : (a0_3 != 0) = false := bne_eq_false_iff_eq.mpr c51
        clear c51
        obtain ⟨t506, A52, H⟩ := bindE_ H
        by_cases c53 : t506 = true
        ·subst c53
         replace H := ite_t_ H
         obtain ⟨t507, A54, H⟩ := bindE_ H
         by_cases c55 : t507 = true
         ·subst c55
          replace H := ite_t_ H
          obtain rfl := Option.some.inj H
          have hnb56 := NB499_503.out
          have hnc56 := NB503_499.out
          have hcz57 := blk_cell BK499.out
          have hfz57 := blk_frozen BK499.out
          go_wp2_with (first | (go_at_call 97; (with_reducible refine (impl_RoleOk.calls a0_4 a0_5 true _ A52.out).mono ?_); rintro e w58 ⟨rfl, hb⟩; replace BK499 := bkb_ BK499 hb; replace BK503 := bkb_ BK503 hb; replace HB := hbs_ hb; clear hb; obtain ⟨hcz59, hfz59⟩ := bcf_ BK499) | (go_at_call 97; (with_reducible refine (impl_RoleOk.calls a0_6 a0_7 true _ A54.out).mono ?_); rintro e w60 ⟨rfl, hb⟩; replace BK499 := bkb_ BK499 hb; replace BK503 := bkb_ BK503 hb; replace HB := hbs_ hb; clear hb; obtain ⟨hcz61, hfz61⟩ := bcf_ BK499))
          go_ret
          exact ⟨eq_, bl_⟩
         ·replace c55 := Bool.eq_false_iff.mpr c55
          subst c55
          replace H := ite_f_ H
          obtain rfl := Option.some.inj H
          have hnb62 := NB499_503.out
          have hnc62 := NB503_499.out
          have hcz63 := blk_cell BK499.out
          have hfz63 := blk_frozen BK499.out
          go_wp2_with (first | (go_at_call 97; (with_reducible refine (impl_RoleOk.calls a0_4 a0_5 true _ A52.out).mono ?_); rintro e w64 ⟨rfl, hb⟩; replace BK499 := bkb_ BK499 hb; replace BK503 := bkb_ BK503 hb; replace HB := hbs_ hb; clear hb; obtain ⟨hcz65, hfz65⟩ := bcf_ BK499) | (go_at_call 97; (with_reducible refine (impl_RoleOk.calls a0_6 a0_7 false _ A54.out).mono ?_); rintro e w66 ⟨rfl, hb⟩; replace BK499 := bkb_ BK499 hb; replace BK503 := bkb_ BK503 hb; replace HB := hbs_ hb; clear hb))
          go_ret
          exact ⟨eq_, bl_⟩
        ·replace c53 := Bool.eq_false_iff.mpr c53
         subst c53
         replace H := ite_f_ H
         obtain rfl := Option.some.inj H
         have hnb67 := NB499_503.out
         have hnc67 := NB503_499.out
         have hcz68 := blk_cell BK499.out
         have hfz68 := blk_frozen BK499.out
         go_wp2_with (first | (go_at_call 97; (with_reducible refine (impl_RoleOk.calls a0_4 a0_5 false _ A52.out).mono ?_); rintro e w69 ⟨rfl, hb⟩; replace BK499 := bkb_ BK499 hb; replace BK503 := bkb_ BK503 hb; replace HB := hbs_ hb; clear hb))
         go_ret
         exact ⟨eq_, bl_⟩
       ·rw [if_neg c51] at H
        have c51b0 : (a0_3 == 0) = false := beq_eq_false_iff_ne.mpr c51
        have c51b1 : (a0_3 != 0) = true := bne_iff_ne.mpr c51
        obtain rfl := Option.some.inj H
        have hnb70 := NB499_503.out
        have hnc70 := NB503_499.out
        have hcz71 := blk_cell BK499.out
        have hfz71 := blk_frozen BK499.out
        go_wp2
        go_ret
        exact ⟨eq_, bl_⟩
      ·rw [if_neg c50] at H
       have c50b0 : (a0_0 == 3) = false := beq_eq_false_iff_ne.mpr c50
       have c50b1 : (a0_0 != 3) = true := bne_iff_ne.mpr c50
       by_cases c72 : a0_0 = 4
       ·rw [if_pos c72] at H
        have c72b0 : (a0_0 == 4) = true := beq_iff_eq.mpr c72
        have c72b1 : (a0_0 != 4) = false := bne_eq_false_iff_eq.mpr c72
        clear c72
        by_cases c73 : a0_3 = 0
        ·rw [if_pos c73] at H
         have c73b0 : (a0_3 == 0) = true := beq_iff_eq.mpr c73
         have c73b1 : (a0_3 != 0) = false := bne_eq_false_iff_eq.mpr c73
         clear c73
         obtain ⟨t508, A74, H⟩ := bindE_ H
         by_cases c75 : t508 = true
         ·subst c75
          replace H := ite_t_ H
          obtain ⟨t509, A76, H⟩ := bindE_ H
          obtain rfl := Option.some.inj H
          have hnb77 := NB499_503.out
          have hnc77 := NB503_499.out
          have hcz78 := blk_cell BK499.out
          have hfz78 := blk_frozen BK499.out
          go_wp2_with (first | (go_at_call 97; (with_reducible refine (impl_RoleOk.calls a0_4 a0_5 true _ A74.out).mono ?_); rintro e w79 ⟨rfl, hb⟩; replace BK499 := bkb_ BK499 hb; replace BK503 := bkb_ BK503 hb; replace HB := hbs_ hb; clear hb; obtain ⟨hcz80, hfz80⟩ := bcf_ BK499) | (go_at_call 97; (with_reducible refine (impl_RoleOk.calls a0_6 a0_7 t509 _ A76.out).mono ?_); rintro e w81 ⟨rfl, hb⟩; replace BK499 := bkb_ BK499 hb; replace BK503 := bkb_ BK503 hb; replace HB := hbs_ hb; clear hb))
          go_ret
          exact ⟨eq_, bl_⟩
         ·replace c75 := Bool.eq_false_iff.mpr c75
          subst c75
          replace H := ite_f_ H
          obtain rfl := Option.some.inj H
          have hnb82 := NB499_503.out
          have hnc82 := NB503_499.out
          have hcz83 := blk_cell BK499.out
          have hfz83 := blk_frozen BK499.out
          go_wp2_with (first | (go_at_call 97; (with_reducible refine (impl_RoleOk.calls a0_4 a0_5 false _ A74.out).mono ?_); rintro e w84 ⟨rfl, hb⟩; replace BK499 := bkb_ BK499 hb; replace BK503 := bkb_ BK503 hb; replace HB := hbs_ hb; clear hb))
          go_ret
          exact ⟨eq_, bl_⟩
        ·rw [if_neg c73] at H
         have c73b0 : (a0_3 == 0) = false := beq_eq_false_iff_ne.mpr c73
         have c73b1 : (a0_3 != 0) = true := bne_iff_ne.mpr c73
         obtain rfl := Option.some.inj H
         have hnb85 := NB499_503.out
         have hnc85 := NB503_499.out
         have hcz86 := blk_cell BK499.out
         have hfz86 := blk_frozen BK499.out
         go_wp2
         go_ret
         exact ⟨eq_, bl_⟩
       ·rw [if_neg c72] at H
        have c72b0 : (a0_0 == 4) = false := beq_eq_false_iff_ne.mpr c72
        have c72b1 : (a0_0 != 4) = true := bne_iff_ne.mpr c72
        obtain rfl := Option.some.inj H
        go_wp2
        go_ret
        exact ⟨eq_, bl_⟩
def impl_shown.f (l0 : List (S111)) (a1 : Int) (a2 : Int) : Option (Int × Int × Int × Bool) := (impl_in.f a2 0 (wrap64 (a1 - 1))).bind fun t511 => (if t511 = true then (if 0 ≤ a2 then (if a2 < (l0.length : Int) then (some ((rd_T111 l0 a2).f1.f0.f0, (rd_T111 l0 a2).f1.f0.f1, (rd_T111 l0 a2).f1.f1, true)) else (none)) else (none)) else (some (0, 0, 0, false)))
set_option maxHeartbeats 8000000 in
set_option maxRecDepth 100000 in
theorem impl_shown.calls (A0 : Option Addr) (c0 : Nat) (l0 : List (S111)) (a1 : Int) (a2 : Int) (r1 : Int) (r2 : Int) (r3 : Int) (r4 : Bool) (w : World) (hr0 : Kd.C k111 w A0 l0.length l0) (hc0 : l0.length ≤ c0) (h : impl_shown.f l0 a1 a2 = some (r1, r2, r3, r4)) :
  Calls Tryz.prog 96 #[.slice A0 l0.length c0, .int .i64 a1, .int .i64 a2] w fun e w' => e = .returned (.tuple #[.agg #[.int .i64 r1, .int .i64 r2, .int .i64 r3], .bool r4]) ∧ Below w.heap.size w w' := by
 have hu79 := Tryz.underlying79
 have HR0 := aa_ hr0
 have HC0 := aa_ hc0
 clear hr0 hc0
 have HB := aa_ (Below.refl w.heap.size w)
 have H : ((impl_in.f a2 0 (wrap64 (a1 - 1))).bind fun t511 => (if t511 = true then (if 0 ≤ a2 then (if a2 < (l0.length : Int) then (some ((rd_T111 l0 a2).f1.f0.f0, (rd_T111 l0 a2).f1.f0.f1, (rd_T111 l0 a2).f1.f1, true)) else (none)) else (none)) else (some (0, 0, 0, false)))) = some (r1, r2, r3, r4) := h
 clear h
 obtain ⟨t511, A4, H⟩ := bindE_ H
 have HC5 := aa_ H
 clear H
 go_enter Tryz.func96, Tryz.ntmps96
 go_upto_if 12 with (first | ((with_reducible refine gD_ 6 rfl ?_); refine bx_ (N := 6) (cs := #[.int .i64 0, .int .i64 0, .int .i64 0]) (t := 79) ?_; intro gb510 hg w6 hbox hb; have BK510 := aa_ (hbox); have GW510 := gs_ hg; have GE510 := gs_ hg; replace HB := hbs_ hb; clear hb hbox hg) | ((with_reducible refine gC_ 41 rfl ?_); refine goesC_ (some 11) Tryz.func41 #[.int .i64 a2, .int .i64 0, .int .i64 (wrap64 (a1 - 1))] ?_; (with_reducible refine (impl_in.calls a2 0 (wrap64 (a1 - 1)) t511 _ A4.out).mono ?_); rintro e w' ⟨rfl, ⟨nd, rfl⟩⟩; refine ⟨_, rfl, ?_⟩))
 (try simp only [Act.put, sb_, sz_, ss_])
 have H := HC5.out
 clear HC5
 by_cases c7 : t511 = true
 ·subst c7
  replace H := ite_t_ H
  obtain ⟨c8b0, H⟩ := ifd_ H
  (first | rw [c8b0] | (simp only [i64_w, i32_w]; rw [c8b0]) | skip)
  obtain ⟨c9b0, H⟩ := ifd_ H
  simp only [Option.some.injEq, Prod.mk.injEq] at H
  obtain ⟨rfl, rfl, rfl, rfl⟩ := H
  have p512 : 0 ≤ (a2 : Int) := od_
  have q512 : a2 < (l0.length : Int) := od_
  obtain ⟨ad512, A512_13, c512_13, e512, hx512_0, hx512_1, hx512_2, hx512_3, hx512_4, hx512_5, hx512_6, hx512_7, hx512_8, hx512_9, hx512_10, hx512_11, hx512_12, hx512_13, hl512_13, hi512_13⟩ := at_T111 HR0.out a2 p512 q512
  cases e512
  replace hx512_0 := cb_ HB hx512_0
  replace hx512_1 := cb_ HB hx512_1
  replace hx512_2 := cb_ HB hx512_2
  replace hx512_3 := cb_ HB hx512_3
  replace hx512_4 := cb_ HB hx512_4
  replace hx512_5 := cb_ HB hx512_5
  replace hx512_6 := cb_ HB hx512_6
  replace hx512_7 := cb_ HB hx512_7
  replace hx512_8 := cb_ HB hx512_8
  replace hx512_9 := cb_ HB hx512_9
  replace hx512_10 := cb_ HB hx512_10
  replace hx512_11 := cb_ HB hx512_11
  replace hx512_12 := cb_ HB hx512_12
  replace hx512_13 := cb_ HB hx512_13
  have HR512_13 := aa_ hi512_13
  have HC512_13 := aa_ hl512_13
  clear hi512_13 hl512_13
  replace p512 := eq_true p512
  replace q512 := eq_true q512
  have hcz10 := blk_cell BK510.out
  have hfz10 := blk_frozen BK510.out
  go_wp2
  refine bodyPost_ret (results_ct rfl _ _ gb510 79 #[.int .i64 ((rd_T111 l0 a2).f1.f0.f0), .int .i64 ((rd_T111 l0 a2).f1.f0.f1), .int .i64 ((rd_T111 l0 a2).f1.f1)] (0, 0) _ rfl (bk_ BK510) Tryz.underlying79 rfl (by kernel_rfl)) rfl ?_
  exact ⟨eq_, bl_⟩
 ·replace c7 := Bool.eq_false_iff.mpr c7
  subst c7
  replace H := ite_f_ H
  simp only [Option.some.injEq, Prod.mk.injEq] at H
  obtain ⟨rfl, rfl, rfl, rfl⟩ := H
  have hcz11 := blk_cell BK510.out
  have hfz11 := blk_frozen BK510.out
  go_wp2
  refine bodyPost_ret (results_ct rfl _ _ gb510 79 #[.int .i64 0, .int .i64 0, .int .i64 0] (0, 0) _ rfl (bk_ BK510) Tryz.underlying79 rfl (by kernel_rfl)) rfl ?_
  exact ⟨eq_, bl_⟩
end Go.Proofs.YteofimccoadmeaaGreat.PA
