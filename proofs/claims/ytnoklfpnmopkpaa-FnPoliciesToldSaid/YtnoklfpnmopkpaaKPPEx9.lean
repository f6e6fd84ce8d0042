import Derived.Test.YtnoklfpnmopkpaaKPPEx2
import Derived.Test.YtnoklfpnmopkpaaKPPEx8
-- printed by wip/tools
namespace Go.Proofs.Ytnoklfpnmopkpaa.PE
open Go.RowKit Go.Proofs.YtnoklfpnmopkpaaW.PrintWords Go.Proofs.YtnoklfpnmopkpaaW.PrintLast Go.Proofs.YtnoklfpnmopkpaaW.PrintMore
attribute [local go_sem] max2_int min2_int max_two min_two max_three min_three max_four min_four
set_option linter.unusedVariables false
set_option linter.unusedSimpArgs false
attribute [local go_sem high] eqA55
def spec_RoleOk.f (a0_0 : Int) (a0_1 : Int) : Option (Bool) := (spec_l01In.f a0_0 0 5).bind fun t353 => (if t353 = true then ((spec_l01In.f a0_1 0 3).bind fun t354 => (some t354)) else (some false))
set_option maxHeartbeats 8000000 in
set_option maxRecDepth 100000 in
theorem spec_RoleOk.calls (a0_0 : Int) (a0_1 : Int) (r : Bool) (w : World) (h : spec_RoleOk.f a0_0 a0_1 = some r) :
  Calls Try.prog 41 #[.agg #[.int .i64 a0_0, .int .i64 a0_1]] w fun e w' => e = .returned (.bool r) ∧ Below w.heap.size w w' := by
 have hu55 := Try.underlying55
 have HB := aa_ (Below.refl w.heap.size w)
 have H : ((spec_l01In.f a0_0 0 5).bind fun t353 => (if t353 = true then ((spec_l01In.f a0_1 0 3).bind fun t354 => (some t354)) else (some false))) = some r := h
 clear h
 obtain ⟨t353, A2, H⟩ := bindE_ H
 by_cases c3 : t353 = true
 ·subst c3
  replace H := ite_t_ H
  obtain ⟨t354, A4, H⟩ := bindE_ H
  obtain rfl := Option.some.inj H
  go_enter Try.func41, Try.ntmps41
  go_wp2_with (first | ((with_reducible refine gD_ 1 rfl ?_); refine bx_ (N := 1) (cs := #[.int .i64 a0_0, .int .i64 a0_1]) (t := 55) ?_; intro gb352 hg w5 hbox hb; have BK352 := aa_ (hbox); have GW352 := gs_ hg; have GE352 := gs_ hg; replace HB := hbs_ hb; clear hb hbox hg; obtain ⟨hcz6, hfz6⟩ := bcf_ BK352) | ((with_reducible refine gC_ 40 rfl ?_); refine goesC_ (some 5) Try.func40 #[.int .i64 a0_0, .int .i64 0, .int .i64 5] ?_; (with_reducible refine (spec_l01In.calls a0_0 0 5 true _ A2.out).mono ?_); rintro e w' ⟨rfl, ⟨nd, rfl⟩⟩; refine ⟨_, rfl, ?_⟩) | (go_at_call 40; (with_reducible refine (spec_l01In.calls a0_1 0 3 t354 _ A4.out).mono ?_); rintro e w' ⟨rfl, ⟨nd, rfl⟩⟩))
  go_ret
  exact ⟨eq_, bl_⟩
 ·replace c3 := Bool.eq_false_iff.mpr c3
  subst c3
  replace H := ite_f_ H
  obtain rfl := Option.some.inj H
  go_enter Try.func41, Try.ntmps41
  go_wp2_with (first | ((with_reducible refine gD_ 1 rfl ?_); refine bx_ (N := 1) (cs := #[.int .i64 a0_0, .int .i64 a0_1]) (t := 55) ?_; intro gb352 hg w7 hbox hb; have BK352 := aa_ (hbox); have GW352 := gs_ hg; have GE352 := gs_ hg; replace HB := hbs_ hb; clear hb hbox hg; obtain ⟨hcz8, hfz8⟩ := bcf_ BK352) | ((with_reducible refine gC_ 40 rfl ?_); refine goesC_ (some 5) Try.func40 #[.int .i64 a0_0, .int .i64 0, .int .i64 5] ?_; (with_reducible refine (spec_l01In.calls a0_0 0 5 false _ A2.out).mono ?_); rintro e w' ⟨rfl, ⟨nd, rfl⟩⟩; refine ⟨_, rfl, ?_⟩))
  go_ret
  exact ⟨eq_, bl_⟩
def spec_l21None.f (a0_0 : Int) (a0_1 : Int) : Option (Bool) := some (a0_0 == 0 && (a0_1 == 0))
set_option maxHeartbeats 8000000 in
set_option maxRecDepth 100000 in
theorem spec_l21None.calls (a0_0 : Int) (a0_1 : Int) (r : Bool) (w : World) (h : spec_l21None.f a0_0 a0_1 = some r) :
  Calls Try.prog 42 #[.agg #[.int .i64 a0_0, .int .i64 a0_1]] w fun e w' => e = .returned (.bool r) ∧ Below w.heap.size w w' := by
 have hu55 := Try.underlying55
 have HB := aa_ (Below.refl w.heap.size w)
 have H : (some (a0_0 == 0 && (a0_1 == 0))) = some r := h
 clear h
 obtain rfl := Option.some.inj H
 go_enter Try.func42, Try.ntmps42
 go_wp2_with (first | ((with_reducible refine gD_ 1 rfl ?_); refine bx_ (N := 1) (cs := #[.int .i64 a0_0, .int .i64 a0_1]) (t := 55) ?_; intro gb355 hg w2 hbox hb; have BK355 := aa_ (hbox); have GW355 := gs_ hg; have GE355 := gs_ hg; replace HB := hbs_ hb; clear hb hbox hg; obtain ⟨hcz3, hfz3⟩ := bcf_ BK355))
 go_ret
 exact ⟨eq_, bl_⟩
mutual
def spec_PolicyOk.l0 : Nat → Int → List (S57) → Option (Bool)
 | 0, _, _ => none
 | k + 1, x3, x357000 => if x3 < (x357000.length : Int) then (if 0 ≤ x3 then (if ((rd_T57 x357000 x3).f0) = 1 then ((spec_RoleOk.f ((rd_T57 x357000 x3).f1.f0) ((rd_T57 x357000 x3).f1.f1)).bind fun t360 => (if t360 = true then (if ((rd_T57 x357000 x3).f2) = 0 then (if ((rd_T57 x357000 x3).f3) = 0 then (spec_PolicyOk.l0 k (wrap64 (x3 + 1)) x357000) else (some false)) else (some false)) else (some false))) else (if ((rd_T57 x357000 x3).f0) = 2 then (spec_PolicyOk.j1 k x3 ((rd_T57 x357000 x3).f0) (((rd_T57 x357000 x3).f0) == 2) x357000 ((rd_T57 x357000 x3).f0) ((rd_T57 x357000 x3).f1.f0) ((rd_T57 x357000 x3).f1.f1) ((rd_T57 x357000 x3).f2) ((rd_T57 x357000 x3).f3)) else (spec_PolicyOk.j1 k x3 ((rd_T57 x357000 x3).f0) (((rd_T57 x357000 x3).f0) == 3) x357000 ((rd_T57 x357000 x3).f0) ((rd_T57 x357000 x3).f1.f0) ((rd_T57 x357000 x3).f1.f1) ((rd_T57 x357000 x3).f2) ((rd_T57 x357000 x3).f3)))) else (none)) else (some true)
def spec_PolicyOk.j1 : Nat → Int → Int → Bool → List (S57) → Int → Int → Int → Int → Int → Option (Bool)
 | 0, _, _, _, _, _, _, _, _, _ => none
 | k + 1, x3, x23, x40, x357000, x360000, x360001, x360002, x360003, x360004 => if x40 = true then ((spec_l21None.f x360001 x360002).bind fun t361 => (if t361 = true then ((spec_l01In.f x360003 0 (wrap64 (x3 - 1))).bind fun t362 => (if t362 = true then ((spec_l01In.f x360004 0 (wrap64 (x3 - 1))).bind fun t363 => (if t363 = true then (spec_PolicyOk.l0 k (wrap64 (x3 + 1)) x357000) else (some false))) else (some false))) else (some false))) else (if x23 = 4 then ((spec_l21None.f x360001 x360002).bind fun t364 => (if t364 = true then ((spec_l01In.f x360003 0 (wrap64 (x3 - 1))).bind fun t365 => (if t365 = true then (if x360004 = 0 then (spec_PolicyOk.l0 k (wrap64 (x3 + 1)) x357000) else (some false)) else (some false))) else (some false))) else (some false))
end
def spec_PolicyOk.f (k : Nat) (l0_0 : List (S57)) : Option (Bool) := (spec_l01In.f (l0_0.length : Int) 1 40).bind fun t357 => (if t357 = true then (spec_PolicyOk.l0 k 0 l0_0) else (some false))
set_option maxHeartbeats 8000000 in
set_option maxRecDepth 100000 in
theorem spec_PolicyOk.calls (k : Nat) (A0_0 : Option Addr) (c0_0 : Nat) (l0_0 : List (S57)) (r : Bool) (w : World) (hr0_0 : Kd.C k57 w A0_0 l0_0.length l0_0) (hc0_0 : l0_0.length ≤ c0_0) (h : spec_PolicyOk.f k l0_0 = some r) :
  Calls Try.prog 15 #[.agg #[.slice A0_0 l0_0.length c0_0]] w fun e w' => e = .returned (.bool r) ∧ Below w.heap.size w w' := by
 have hu27 := Try.underlying27
 have hu57 := Try.underlying57
 have hu55 := Try.underlying55
 have HR0_0 := aa_ hr0_0
 have HC0_0 := aa_ hc0_0
 clear hr0_0 hc0_0
 have HB := aa_ (Below.refl w.heap.size w)
 have H : ((spec_l01In.f (l0_0.length : Int) 1 40).bind fun t357 => (if t357 = true then (spec_PolicyOk.l0 k 0 l0_0) else (some false))) = some r := h
 clear h
 obtain ⟨t357, A2, H⟩ := bindE_ H
 have HC3 := aa_ H
 clear H
 go_enter Try.func15, Try.ntmps15
 go_upto_if 9 with (first | ((with_reducible refine gD_ 1 rfl ?_); refine bx_ (N := 1) (cs := #[.slice A0_0 l0_0.length c0_0]) (t := 27) ?_; intro gb356 hg w4 hbox hb; have BK356 := aa_ (hbox); have GW356 := gs_ hg; have GE356 := gs_ hg; replace HB := hbs_ hb; clear hb hbox hg; obtain ⟨hcz5, hfz5⟩ := bcf_ BK356) | ((with_reducible refine gC_ 40 rfl ?_); refine goesC_ (some 8) Try.func40 #[.int .i64 (l0_0.length : Int), .int .i64 1, .int .i64 40] ?_; (with_reducible refine (spec_l01In.calls (l0_0.length : Int) 1 40 t357 _ A2.out).mono ?_); rintro e w' ⟨rfl, ⟨nd, rfl⟩⟩; refine ⟨_, rfl, ?_⟩))
 (try simp only [Act.put, List.setIfInBounds_toArray, List.set_cons_zero, List.set_cons_succ])
 have H := HC3.out
 clear HC3
 by_cases c6 : t357 = true
 ·subst c6
  replace H := ite_t_ H
  have H' := aa_ H
  clear H
  go_wp2
  go_loopg [3] k (fun kq v3 w' => ∃ (x3_1 : Int), v3 = .int .i64 x3_1 ∧ Aside0 (spec_PolicyOk.l0 kq x3_1 l0_0 = some r) ∧ Aside0 (kq ≤ k) ∧ Aside0 (w'.heap[gb356]? = some (.cells #[(.slice A0_0 l0_0.length c0_0)] 27 (0, 0))) ∧ Aside0 (Below w.heap.size w w'))
  case atStart => exact ⟨(0), rf_, H', ⟨Nat.le_refl _⟩, ⟨bk_ BK356⟩, ⟨bl_⟩⟩
  case round =>
   clear H'
   try clear c1
   try clear p2
   try clear c4
   try clear c6
   try clear hcz5
   try clear hfz5
   obtain ⟨x3_1, rfl, HA, HK1, BK356, HB⟩ := hrel
   cases gk with
   | zero => exact absurd HA.out (by simp [spec_PolicyOk.l0])
   | succ k1 =>
    have H := HA.out
    clear HA
    simp only [spec_PolicyOk.l0] at H
    by_cases c7 : x3_1 < (l0_0.length : Int)
    ·rw [if_pos c7] at H
     have c7b0 : decide (x3_1 < (l0_0.length : Int)) = true := decide_eq_true c7
     clear c7
     (first | rw [c7b0] | (simp only [i64_w, i32_w]; rw [c7b0]) | (have cz_ := c7b0; simp only [Int.ofNat_lt, Int.ofNat_le, gt_iff_lt, ge_iff_le] at cz_; rw [cz_]; clear cz_) | skip)
     obtain ⟨c8b0, H⟩ := ifd_ H
     have HC9 := aa_ H
     clear H
     have hcz10 := blk_cell BK356.out
     have hfz10 := blk_frozen BK356.out
     have p358 : 0 ≤ (x3_1 : Int) := od_
     have q358 : x3_1 < (l0_0.length : Int) := od_
     obtain ⟨ad358, e358, hx358_0, hx358_1, hx358_2, hx358_3, hx358_4⟩ := at_T57 (Kd.C_below HR0_0.out HB.out) x3_1 p358 q358
     cases e358
     replace p358 := eq_true p358
     replace q358 := eq_true q358
     go_upto_if 24 with (first | ((with_reducible refine gD_ 4 rfl ?_); refine bx_ (N := 4) (cs := #[.int .i64 0, .int .i64 0, .int .i64 0, .int .i64 0, .int .i64 0]) (t := 57) ?_; intro gb359 hg w11 hbox hb; have BK359 := aa_ (hbox); have GW359 := gs_ hg; have GE359 := gs_ hg; replace HB := hbs_ hb; have NB356_359 := nl_ hg BK356; have NB359_356 := nr_ hg BK356; replace BK356 := bkb_ BK356 hb; clear hb hbox hg; have hnb12 := NB359_356.out; have hnc12 := NB356_359.out; obtain ⟨hcz13, hfz13⟩ := bcf_ BK359))
     have n0_ : Aside0 ((((((w11.setCell ⟨gb359, 0, none⟩ (.int .i64 ((rd_T57 l0_0 x3_1).f0))).setCell ⟨gb359, 1, none⟩ (.int .i64 ((rd_T57 l0_0 x3_1).f1.f0))).setCell ⟨gb359, 2, none⟩ (.int .i64 ((rd_T57 l0_0 x3_1).f1.f1))).setCell ⟨gb359, 3, none⟩ (.int .i64 ((rd_T57 l0_0 x3_1).f2))).setCell ⟨gb359, 4, none⟩ (.int .i64 ((rd_T57 l0_0 x3_1).f3))).heap[gb356]? = some (.cells #[.slice (some ad358) l0_0.length c0_0] 27 (0, 0))) := ⟨bk_ BK356⟩
     have n1_ : Aside0 ((((((w11.setCell ⟨gb359, 0, none⟩ (.int .i64 ((rd_T57 l0_0 x3_1).f0))).setCell ⟨gb359, 1, none⟩ (.int .i64 ((rd_T57 l0_0 x3_1).f1.f0))).setCell ⟨gb359, 2, none⟩ (.int .i64 ((rd_T57 l0_0 x3_1).f1.f1))).setCell ⟨gb359, 3, none⟩ (.int .i64 ((rd_T57 l0_0 x3_1).f2))).setCell ⟨gb359, 4, none⟩ (.int .i64 ((rd_T57 l0_0 x3_1).f3))).heap[gb359]? = some (.cells #[.int .i64 ((rd_T57 l0_0 x3_1).f0), .int .i64 ((rd_T57 l0_0 x3_1).f1.f0), .int .i64 ((rd_T57 l0_0 x3_1).f1.f1), .int .i64 ((rd_T57 l0_0 x3_1).f2), .int .i64 ((rd_T57 l0_0 x3_1).f3)] 57 (0, 0))) := ⟨bk_ BK359⟩
     have n2_ : Aside0 (Below w.heap.size w (((((w11.setCell ⟨gb359, 0, none⟩ (.int .i64 ((rd_T57 l0_0 x3_1).f0))).setCell ⟨gb359, 1, none⟩ (.int .i64 ((rd_T57 l0_0 x3_1).f1.f0))).setCell ⟨gb359, 2, none⟩ (.int .i64 ((rd_T57 l0_0 x3_1).f1.f1))).setCell ⟨gb359, 3, none⟩ (.int .i64 ((rd_T57 l0_0 x3_1).f2))).setCell ⟨gb359, 4, none⟩ (.int .i64 ((rd_T57 l0_0 x3_1).f3)))) := ⟨bl_⟩
     (try clear BK356)
     (try clear BK359)
     (try clear HB)
     generalize (((((w11.setCell ⟨gb359, 0, none⟩ (.int .i64 ((rd_T57 l0_0 x3_1).f0))).setCell ⟨gb359, 1, none⟩ (.int .i64 ((rd_T57 l0_0 x3_1).f1.f0))).setCell ⟨gb359, 2, none⟩ (.int .i64 ((rd_T57 l0_0 x3_1).f1.f1))).setCell ⟨gb359, 3, none⟩ (.int .i64 ((rd_T57 l0_0 x3_1).f2))).setCell ⟨gb359, 4, none⟩ (.int .i64 ((rd_T57 l0_0 x3_1).f3))) = w14 at n0_ n1_ n2_ ⊢
     have BK356 := n0_
     have BK359 := n1_
     have HB := n2_
     clear n0_ n1_ n2_
     (try simp only [Act.put, List.setIfInBounds_toArray, List.set_cons_zero, List.set_cons_succ])
     have H := HC9.out
     clear HC9
     by_cases c15 : ((rd_T57 l0_0 x3_1).f0) = 1
     ·rw [if_pos c15] at H
      have c15b0 : (((rd_T57 l0_0 x3_1).f0) == 1) = true := beq_iff_eq.mpr c15
      have c15b1 : (((rd_T57 l0_0 x3_1).f0) != 1) = false := bne_eq_false_iff_eq.mpr c15
      clear c15
      (first | rw [c15b0] | (simp only [i64_w, i32_w]; rw [c15b0]) | skip)
      obtain ⟨t360, A16, H⟩ := bindE_ H
      by_cases c17 : t360 = true
      ·subst c17
       replace H := ite_t_ H
       by_cases c18 : ((rd_T57 l0_0 x3_1).f2) = 0
       ·rw [if_pos c18] at H
        have c18b0 : (((rd_T57 l0_0 x3_1).f2) == 0) = true := beq_iff_eq.mpr c18
        have c18b1 : (((rd_T57 l0_0 x3_1).f2) != 0) = false := bne_eq_false_iff_eq.mpr c18
        clear c18
        have HC19 := aa_ H
        clear H
        have hnb20 := NB359_356.out
        have hnc20 := NB356_359.out
        have hcz21 := blk_cell BK359.out
        have hfz21 := blk_frozen BK359.out
        go_upto_if 39 with (first | ((with_reducible refine gC_ 41 rfl ?_); refine goesC_ (some 28) Try.func41 #[.agg #[.int .i64 ((rd_T57 l0_0 x3_1).f1.f0), .int .i64 ((rd_T57 l0_0 x3_1).f1.f1)]] ?_; (with_reducible refine (spec_RoleOk.calls ((rd_T57 l0_0 x3_1).f1.f0) ((rd_T57 l0_0 x3_1).f1.f1) true _ A16.out).mono ?_); rintro e w22 ⟨rfl, hb⟩; refine ⟨_, rfl, ?_⟩; replace BK356 := bkb_ BK356 hb; replace BK359 := bkb_ BK359 hb; replace HB := hbs_ hb; clear hb; obtain ⟨hcz23, hfz23⟩ := bcf_ BK359))
        (try simp only [Act.put, List.setIfInBounds_toArray, List.set_cons_zero, List.set_cons_succ])
        have H := HC19.out
        clear HC19
        by_cases c24 : ((rd_T57 l0_0 x3_1).f3) = 0
        ·rw [if_pos c24] at H
         have c24b0 : (((rd_T57 l0_0 x3_1).f3) == 0) = true := beq_iff_eq.mpr c24
         have c24b1 : (((rd_T57 l0_0 x3_1).f3) != 0) = false := bne_eq_false_iff_eq.mpr c24
         clear c24
         (first | rw [c24b0] | (simp only [i64_w, i32_w]; rw [c24b0]) | skip)
         have H' := aa_ H
         clear H
         go_wp2
         go_roundg k1
         case measure => have := HK1.out; omega
         case rel => exact ⟨(wrap64 (x3_1 + 1)), rf_, H', ⟨by have := HK1.out; omega⟩, ⟨bk_ BK356⟩, ⟨bl_⟩⟩
        ·rw [if_neg c24] at H
         have c24b0 : (((rd_T57 l0_0 x3_1).f3) == 0) = false := beq_eq_false_iff_ne.mpr c24
         have c24b1 : (((rd_T57 l0_0 x3_1).f3) != 0) = true := bne_iff_ne.mpr c24
         (first | rw [c24b0] | (simp only [i64_w, i32_w]; rw [c24b0]) | skip)
         obtain rfl := Option.some.inj H
         go_wp2
         go_ret
         exact ⟨eq_, bl_⟩
       ·rw [if_neg c18] at H
        have c18b0 : (((rd_T57 l0_0 x3_1).f2) == 0) = false := beq_eq_false_iff_ne.mpr c18
        have c18b1 : (((rd_T57 l0_0 x3_1).f2) != 0) = true := bne_iff_ne.mpr c18
        obtain rfl := Option.some.inj H
        have hnb25 := NB359_356.out
        have hnc25 := NB356_359.out
        have hcz26 := blk_cell BK359.out
        have hfz26 := blk_frozen BK359.out
        go_wp2_with (first | ((with_reducible refine gC_ 41 rfl ?_); refine goesC_ (some 28) Try.func41 #[.agg #[.int .i64 ((rd_T57 l0_0 x3_1).f1.f0), .int .i64 ((rd_T57 l0_0 x3_1).f1.f1)]] ?_; (with_reducible refine (spec_RoleOk.calls ((rd_T57 l0_0 x3_1).f1.f0) ((rd_T57 l0_0 x3_1).f1.f1) true _ A16.out).mono ?_); rintro e w27 ⟨rfl, hb⟩; refine ⟨_, rfl, ?_⟩; replace BK356 := bkb_ BK356 hb; replace BK359 := bkb_ BK359 hb; replace HB := hbs_ hb; clear hb; obtain ⟨hcz28, hfz28⟩ := bcf_ BK359))
        go_ret
        exact ⟨eq_, bl_⟩
      ·replace c17 := Bool.eq_false_iff.mpr c17
       subst c17
       replace H := ite_f_ H
       obtain rfl := Option.some.inj H
       have hnb29 := NB359_356.out
       have hnc29 := NB356_359.out
       have hcz30 := blk_cell BK359.out
       have hfz30 := blk_frozen BK359.out
       go_wp2_with (first | ((with_reducible refine gC_ 41 rfl ?_); refine goesC_ (some 28) Try.func41 #[.agg #[.int .i64 ((rd_T57 l0_0 x3_1).f1.f0), .int .i64 ((rd_T57 l0_0 x3_1).f1.f1)]] ?_; (with_reducible refine (spec_RoleOk.calls ((rd_T57 l0_0 x3_1).f1.f0) ((rd_T57 l0_0 x3_1).f1.f1) false _ A16.out).mono ?_); rintro e w31 ⟨rfl, hb⟩; refine ⟨_, rfl, ?_⟩; replace BK356 := bkb_ BK356 hb; replace BK359 := bkb_ BK359 hb; replace HB := hbs_ hb; clear hb))
       go_ret
       exact ⟨eq_, bl_⟩
     ·rw [if_neg c15] at H
      have c15b0 : (((rd_T57 l0_0 x3_1).f0) == 1) = false := beq_eq_false_iff_ne.mpr c15
      have c15b1 : (((rd_T57 l0_0 x3_1).f0) != 1) = true := bne_iff_ne.mpr c15
      (first | rw [c15b0] | (simp only [i64_w, i32_w]; rw [c15b0]) | skip)
      have HC32 := aa_ H
      clear H
      go_upto_if 40 with (fail)
      go_cut [40] (fun v40 wc => ∃ (kq : Nat) (x40_31 : Bool), v40 = .bool x40_31 ∧ Aside0 (spec_PolicyOk.j1 kq x3_1 ((rd_T57 l0_0 x3_1).f0) x40_31 l0_0 ((rd_T57 l0_0 x3_1).f0) ((rd_T57 l0_0 x3_1).f1.f0) ((rd_T57 l0_0 x3_1).f1.f1) ((rd_T57 l0_0 x3_1).f2) ((rd_T57 l0_0 x3_1).f3) = some r) ∧ Aside0 (kq ≤ k1) ∧ Aside0 (wc.heap[gb356]? = some (.cells #[(.slice (some ad358) l0_0.length c0_0)] 27 (0, 0))) ∧ Aside0 (wc.heap[gb359]? = some (.cells #[.int .i64 ((rd_T57 l0_0 x3_1).f0), .int .i64 ((rd_T57 l0_0 x3_1).f1.f0), .int .i64 ((rd_T57 l0_0 x3_1).f1.f1), .int .i64 ((rd_T57 l0_0 x3_1).f2), .int .i64 ((rd_T57 l0_0 x3_1).f3)] 57 (0, 0))) ∧ Aside0 (Below w.heap.size w wc))
      case first =>
       have H := HC32.out
       clear HC32
       by_cases c33 : ((rd_T57 l0_0 x3_1).f0) = 2
       ·rw [if_pos c33] at H
        have c33b0 : (((rd_T57 l0_0 x3_1).f0) == 2) = true := beq_iff_eq.mpr c33
        have c33b1 : (((rd_T57 l0_0 x3_1).f0) != 2) = false := bne_eq_false_iff_eq.mpr c33
        clear c33
        (first | rw [c33b0] | (simp only [i64_w, i32_w]; rw [c33b0]) | skip)
        have H' := aa_ H
        clear H
        go_wp2
        go_meet
        case rel => exact ⟨_, ((((rd_T57 l0_0 x3_1).f0) == 2)), rf_, H', ⟨by have := HK1.out; first | omega | exact Nat.le_refl _⟩, ⟨bk_ BK356⟩, ⟨bk_ BK359⟩, ⟨bl_⟩⟩
       ·rw [if_neg c33] at H
        have c33b0 : (((rd_T57 l0_0 x3_1).f0) == 2) = false := beq_eq_false_iff_ne.mpr c33
        have c33b1 : (((rd_T57 l0_0 x3_1).f0) != 2) = true := bne_iff_ne.mpr c33
        (first | rw [c33b0] | (simp only [i64_w, i32_w]; rw [c33b0]) | skip)
        have H' := aa_ H
        clear H
        go_wp2
        go_meet
        case rel => exact ⟨_, ((((rd_T57 l0_0 x3_1).f0) == 3)), rf_, H', ⟨by have := HK1.out; first | omega | exact Nat.le_refl _⟩, ⟨bk_ BK356⟩, ⟨bk_ BK359⟩, ⟨bl_⟩⟩
      case rest =>
       clear HC32
       try clear c1
       try clear c2
       try clear p2
       try clear c3
       try clear p3
       try clear q3
       try clear hx3
       try clear c4
       try clear c6
       try clear p6
       try clear c7
       try clear c7b0
       try clear c8
       try clear c8b0
       try clear c12
       try clear c15
       try clear c15b0
       try clear c15b1
       try clear c17
       try clear c18
       try clear c18b0
       try clear c18b1
       try clear c20
       try clear c24
       try clear c24b0
       try clear c24b1
       try clear c25
       try clear c29
       try clear c33
       try clear c33b0
       try clear c33b1
       try clear hcz10
       try clear hcz13
       try clear hcz21
       try clear hcz23
       try clear hcz26
       try clear hcz28
       try clear hcz30
       try clear hcz5
       try clear hfz10
       try clear hfz13
       try clear hfz21
       try clear hfz23
       try clear hfz26
       try clear hfz28
       try clear hfz30
       try clear hfz5
       try clear hx358_0
       try clear hx358_1
       try clear hx358_2
       try clear hx358_3
       try clear hx358_4
       try clear p2
       try clear p358
       try clear q358
       obtain ⟨kq, x40_31, rfl, HA, HJ31, BK356, BK359, HB⟩ := hcut
       cases kq with
       | zero => exact absurd HA.out (by simp [spec_PolicyOk.j1])
       | succ kj31 =>
        have H := HA.out
        clear HA
        simp only [spec_PolicyOk.j1] at H
        by_cases c34 : x40_31 = true
        ·subst c34
         replace H := ite_t_ H
         obtain ⟨t361, A35, H⟩ := bindE_ H
         by_cases c36 : t361 = true
         ·subst c36
          replace H := ite_t_ H
          obtain ⟨t362, A37, H⟩ := bindE_ H
          by_cases c38 : t362 = true
          ·subst c38
           replace H := ite_t_ H
           obtain ⟨t363, A39, H⟩ := bindE_ H
           have HC40 := aa_ H
           clear H
           have hnb41 := NB359_356.out
           have hnc41 := NB356_359.out
           have hcz42 := blk_cell BK359.out
           have hfz42 := blk_frozen BK359.out
           go_upto_if 62 with (first | ((with_reducible refine gC_ 42 rfl ?_); refine goesC_ (some 45) Try.func42 #[.agg #[.int .i64 ((rd_T57 l0_0 x3_1).f1.f0), .int .i64 ((rd_T57 l0_0 x3_1).f1.f1)]] ?_; (with_reducible refine (spec_l21None.calls ((rd_T57 l0_0 x3_1).f1.f0) ((rd_T57 l0_0 x3_1).f1.f1) true _ A35.out).mono ?_); rintro e w43 ⟨rfl, hb⟩; refine ⟨_, rfl, ?_⟩; replace BK356 := bkb_ BK356 hb; replace BK359 := bkb_ BK359 hb; replace HB := hbs_ hb; clear hb; obtain ⟨hcz44, hfz44⟩ := bcf_ BK359) | (go_at_call 40; (with_reducible refine (spec_l01In.calls ((rd_T57 l0_0 x3_1).f2) 0 (wrap64 (x3_1 - 1)) true _ A37.out).mono ?_); rintro e w' ⟨rfl, ⟨nd, rfl⟩⟩) | (go_at_call 40; (with_reducible refine (spec_l01In.calls ((rd_T57 l0_0 x3_1).f3) 0 (wrap64 (x3_1 - 1)) t363 _ A39.out).mono ?_); rintro e w' ⟨rfl, ⟨nd, rfl⟩⟩))
           (try simp only [Act.put, List.setIfInBounds_toArray, List.set_cons_zero, List.set_cons_succ])
           have H := HC40.out
           clear HC40
           by_cases c45 : t363 = true
           ·subst c45
            replace H := ite_t_ H
            have H' := aa_ H
            clear H
            go_wp2
            go_roundg kj31
            case measure => have := HK1.out; have := HJ31.out; omega
            case rel => exact ⟨(wrap64 (x3_1 + 1)), rf_, H', ⟨by have := HK1.out; have := HJ31.out; omega⟩, ⟨bk_ BK356⟩, ⟨bl_⟩⟩
           ·replace c45 := Bool.eq_false_iff.mpr c45
            subst c45
            replace H := ite_f_ H
            obtain rfl := Option.some.inj H
            go_wp2
            go_ret
            exact ⟨eq_, bl_⟩
          ·replace c38 := Bool.eq_false_iff.mpr c38
           subst c38
           replace H := ite_f_ H
           obtain rfl := Option.some.inj H
           have hnb46 := NB359_356.out
           have hnc46 := NB356_359.out
           have hcz47 := blk_cell BK359.out
           have hfz47 := blk_frozen BK359.out
           go_wp2_with (first | ((with_reducible refine gC_ 42 rfl ?_); refine goesC_ (some 45) Try.func42 #[.agg #[.int .i64 ((rd_T57 l0_0 x3_1).f1.f0), .int .i64 ((rd_T57 l0_0 x3_1).f1.f1)]] ?_; (with_reducible refine (spec_l21None.calls ((rd_T57 l0_0 x3_1).f1.f0) ((rd_T57 l0_0 x3_1).f1.f1) true _ A35.out).mono ?_); rintro e w48 ⟨rfl, hb⟩; refine ⟨_, rfl, ?_⟩; replace BK356 := bkb_ BK356 hb; replace BK359 := bkb_ BK359 hb; replace HB := hbs_ hb; clear hb; obtain ⟨hcz49, hfz49⟩ := bcf_ BK359) | (go_at_call 40; (with_reducible refine (spec_l01In.calls ((rd_T57 l0_0 x3_1).f2) 0 (wrap64 (x3_1 - 1)) false _ A37.out).mono ?_); rintro e w' ⟨rfl, ⟨nd, rfl⟩⟩))
           go_ret
           exact ⟨eq_, bl_⟩
         ·replace c36 := Bool.eq_false_iff.mpr c36
          subst c36
          replace H := ite_f_ H
          obtain rfl := Option.some.inj H
          have hnb50 := NB359_356.out
          have hnc50 := NB356_359.out
          have hcz51 := blk_cell BK359.out
          have hfz51 := blk_frozen BK359.out
          go_wp2_with (first | ((with_reducible refine gC_ 42 rfl ?_); refine goesC_ (some 45) Try.func42 #[.agg #[.int .i64 ((rd_T57 l0_0 x3_1).f1.f0), .int .i64 ((rd_T57 l0_0 x3_1).f1.f1)]] ?_; (with_reducible refine (spec_l21None.calls ((rd_T57 l0_0 x3_1).f1.f0) ((rd_T57 l0_0 x3_1).f1.f1) false _ A35.out).mono ?_); rintro e w52 ⟨rfl, hb⟩; refine ⟨_, rfl, ?_⟩; replace BK356 := bkb_ BK356 hb; replace BK359 := bkb_ BK359 hb; replace HB := hbs_ hb; clear hb))
          go_ret
          exact ⟨eq_, bl_⟩
        ·replace c34 := Bool.eq_false_iff.mpr c34
         subst c34
         replace H := ite_f_ H
         by_cases c53 : ((rd_T57 l0_0 x3_1).f0) = 4
         ·rw [if_pos c53] at H
          have c53b0 : (((rd_T57 l0_0 x3_1).f0) == 4) = true := beq_iff_eq.mpr c53
          have c53b1 : (((rd_T57 l0_0 x3_1).f0) != 4) = false := bne_eq_false_iff_eq.mpr c53
          clear c53
          obtain ⟨t364, A54, H⟩ := bindE_ H
          by_cases c55 : t364 = true
          ·subst c55
           replace H := ite_t_ H
           obtain ⟨t365, A56, H⟩ := bindE_ H
           by_cases c57 : t365 = true
           ·subst c57
            replace H := ite_t_ H
            have HC58 := aa_ H
            clear H
            have hnb59 := NB359_356.out
            have hnc59 := NB356_359.out
            have hcz60 := blk_cell BK359.out
            have hfz60 := blk_frozen BK359.out
            go_upto_if 81 with (first | ((with_reducible refine gC_ 42 rfl ?_); refine goesC_ (some 67) Try.func42 #[.agg #[.int .i64 ((rd_T57 l0_0 x3_1).f1.f0), .int .i64 ((rd_T57 l0_0 x3_1).f1.f1)]] ?_; (with_reducible refine (spec_l21None.calls ((rd_T57 l0_0 x3_1).f1.f0) ((rd_T57 l0_0 x3_1).f1.f1) true _ A54.out).mono ?_); rintro e w61 ⟨rfl, hb⟩; refine ⟨_, rfl, ?_⟩; replace BK356 := bkb_ BK356 hb; replace BK359 := bkb_ BK359 hb; replace HB := hbs_ hb; clear hb; obtain ⟨hcz62, hfz62⟩ := bcf_ BK359) | (go_at_call 40; (with_reducible refine (spec_l01In.calls ((rd_T57 l0_0 x3_1).f2) 0 (wrap64 (x3_1 - 1)) true _ A56.out).mono ?_); rintro e w' ⟨rfl, ⟨nd, rfl⟩⟩))
            (try simp only [Act.put, List.setIfInBounds_toArray, List.set_cons_zero, List.set_cons_succ])
            have H := HC58.out
            clear HC58
            by_cases c63 : ((rd_T57 l0_0 x3_1).f3) = 0
            ·rw [if_pos c63] at H
             have c63b0 : (((rd_T57 l0_0 x3_1).f3) == 0) = true := beq_iff_eq.mpr c63
             have c63b1 : (((rd_T57 l0_0 x3_1).f3) != 0) = false := bne_eq_false_iff_eq.mpr c63
             clear c63
             (first | rw [c63b0] | (simp only [i64_w, i32_w]; rw [c63b0]) | skip)
             have H' := aa_ H
             clear H
             go_wp2
             go_roundg kj31
             case measure => have := HK1.out; have := HJ31.out; omega
             case rel => exact ⟨(wrap64 (x3_1 + 1)), rf_, H', ⟨by have := HK1.out; have := HJ31.out; omega⟩, ⟨bk_ BK356⟩, ⟨bl_⟩⟩
            ·rw [if_neg c63] at H
             have c63b0 : (((rd_T57 l0_0 x3_1).f3) == 0) = false := beq_eq_false_iff_ne.mpr c63
             have c63b1 : (((rd_T57 l0_0 x3_1).f3) != 0) = true := bne_iff_ne.mpr c63
             (first | rw [c63b0] | (simp only [i64_w, i32_w]; rw [c63b0]) | skip)
             obtain rfl := Option.some.inj H
             go_wp2
             go_ret
             exact ⟨eq_, bl_⟩
           ·replace c57 := Bool.eq_false_iff.mpr c57
            subst c57
            replace H := ite_f_ H
            obtain rfl := Option.some.inj H
            have hnb64 := NB359_356.out
            have hnc64 := NB356_359.out
            have hcz65 := blk_cell BK359.out
            have hfz65 := blk_frozen BK359.out
            go_wp2_with (first | ((with_reducible refine gC_ 42 rfl ?_); refine goesC_ (some 67) Try.func42 #[.agg #[.int .i64 ((rd_T57 l0_0 x3_1).f1.f0), .int .i64 ((rd_T57 l0_0 x3_1).f1.f1)]] ?_; (with_reducible refine (spec_l21None.calls ((rd_T57 l0_0 x3_1).f1.f0) ((rd_T57 l0_0 x3_1).f1.f1) true _ A54.out).mono ?_); rintro e w66 ⟨rfl, hb⟩; refine ⟨_, rfl, ?_⟩; replace BK356 := bkb_ BK356 hb; replace BK359 := bkb_ BK359 hb; replace HB := hbs_ hb; clear hb; obtain ⟨hcz67, hfz67⟩ := bcf_ BK359) | (go_at_call 40; (with_reducible refine (spec_l01In.calls ((rd_T57 l0_0 x3_1).f2) 0 (wrap64 (x3_1 - 1)) false _ A56.out).mono ?_); rintro e w' ⟨rfl, ⟨nd, rfl⟩⟩))
            go_ret
            exact ⟨eq_, bl_⟩
          ·replace c55 := Bool.eq_false_iff.mpr c55
           subst c55
           replace H := ite_f_ H
           obtain rfl := Option.some.inj H
           have hnb68 := NB359_356.out
           have hnc68 := NB356_359.out
           have hcz69 := blk_cell BK359.out
           have hfz69 := blk_frozen BK359.out
           go_wp2_with (first | ((with_reducible refine gC_ 42 rfl ?_); refine goesC_ (some 67) Try.func42 #[.agg #[.int .i64 ((rd_T57 l0_0 x3_1).f1.f0), .int .i64 ((rd_T57 l0_0 x3_1).f1.f1)]] ?_; (with_reducible refine (spec_l21None.calls ((rd_T57 l0_0 x3_1).f1.f0) ((rd_T57 l0_0 x3_1).f1.f1) false _ A54.out).mono ?_); rintro e w70 ⟨rfl, hb⟩; refine ⟨_, rfl, ?_⟩; replace BK356 := bkb_ BK356 hb; replace BK359 := bkb_ BK359 hb; replace HB := hbs_ hb; clear hb))
           go_ret
           exact ⟨eq_, bl_⟩
         ·rw [if_neg c53] at H
          have c53b0 : (((rd_T57 l0_0 x3_1).f0) == 4) = false := beq_eq_false_iff_ne.mpr c53
          have c53b1 : (((rd_T57 l0_0 x3_1).f0) != 4) = true := bne_iff_ne.mpr c53
          obtain rfl := Option.some.inj H
          go_wp2
          go_ret
          exact ⟨eq_, bl_⟩
    ·rw [if_neg c7] at H
     have c7b0 : decide (x3_1 < (l0_0.length : Int)) = false := decide_eq_false c7
     clear c7
     (first | rw [c7b0] | (simp only [i64_w, i32_w]; rw [c7b0]) | (have cz_ := c7b0; simp only [Int.ofNat_lt, Int.ofNat_le, gt_iff_lt, ge_iff_le] at cz_; rw [cz_]; clear cz_) | skip)
     obtain rfl := Option.some.inj H
     have hcz71 := blk_cell BK356.out
     have hfz71 := blk_frozen BK356.out
     go_wp2
     go_ret
     exact ⟨eq_, bl_⟩
 ·replace c6 := Bool.eq_false_iff.mpr c6
  subst c6
  replace H := ite_f_ H
  obtain rfl := Option.some.inj H
  go_wp2
  go_ret
  exact ⟨eq_, bl_⟩
def spec_l01Var.l0 : Nat → Int → List Int → Option (ByteArray)
 | 0, _, _ => none
 | k + 1, x0, x3 => if x0 > 127 then (if x3.length < 140737488355328 then (spec_l01Var.l0 k (wrap64 (Int.tdiv x0 128)) (x3 ++ [(wrap64 ((Int.tmod x0 128) + 128)) % 256])) else (none)) else (if x3.length < 140737488355328 then (some (strOfNums (x3 ++ [(x0) % 256]))) else (none))
def spec_l01Var.f (k : Nat) (a0 : Int) : Option (ByteArray) := spec_l01Var.l0 k a0 (([] : List Int))
set_option maxHeartbeats 8000000 in
set_option maxRecDepth 100000 in
theorem spec_l01Var.calls (k : Nat) (a0 : Int) (r : ByteArray) (w : World) (h : spec_l01Var.f k a0 = some r) :
  Calls Try.prog 47 #[.int .i64 a0] w fun e w' => e = .returned (.string r) ∧ Below w.heap.size w w' := by
 have HB := aa_ (Below.refl w.heap.size w)
 have H : (spec_l01Var.l0 k a0 (([] : List Int))) = some r := h
 clear h
 obtain ⟨y366, hy366⟩ : ∃ y_ : List Int, y_ = (([] : List Int)) := ⟨_, rfl⟩
 replace H : (spec_l01Var.l0 k a0 y366) = some r := rh_ hy366 H
 have Ny366 := aa_ hy366
 clear hy366
 have H' := aa_ H
 clear H
 go_enter Try.func47, Try.ntmps47
 go_wp2_with (first | ((with_reducible refine gD_ 4 rfl ?_); refine Kd.R_lit (Kd.int .u8) _ 5 ?hg (N := 4) ?hd (xs := ([] : List Int)) (inner := []) (ok := fun _ => True) (okp := fun _ => True) ?hr ?hp (fun _ hk => hk) trivial (Below.refl _ _) (Nat.le_refl _) (by simp) ?_; (case hd => rfl); (case hg => rfl); (case hr => first | (go_simp; done) | (go_simp; rfl)); (case hp => exact (Reps.none _ _)); intro v367 w2 ho3 hb hg_ hnew_; clear hg_ hnew_; (first | rw [← Ny366.out] at ho3 | (simp only [Int.reduceToNat] at ho3; rw [← Ny366.out] at ho3)); have HO368 := aa_ (Kd.R_lower ho3 bls_); replace HB := hbs_ hb; clear hb ho3))
 go_loopg [0, 3] k (fun kq v0 v3 w' => ∃ (x0_1 : Int) (x3_1 : List Int), v0 = .int .i64 x0_1 ∧ Aside0 (spec_l01Var.l0 kq x0_1 x3_1 = some r) ∧ Aside0 (kq ≤ k) ∧ Aside0 (Kd.R (Kd.int .u8) 5 w' w.heap.size (fun _ => True) v3 x3_1) ∧ Aside0 (Below w.heap.size w w'))
 case atStart => exact ⟨(a0), (y366), rf_, H', ⟨Nat.le_refl _⟩, ⟨rr_ HO368⟩, ⟨bl_⟩⟩
 case round =>
  clear H'
  try clear p2
  obtain ⟨x0_1, x3_1, rfl, HA, HK1, HO_3, HB⟩ := hrel
  cases gk with
  | zero => exact absurd HA.out (by simp [spec_l01Var.l0])
  | succ k1 =>
   have H := HA.out
   clear HA
   simp only [spec_l01Var.l0] at H
   by_cases c4 : x0_1 > 127
   ·rw [if_pos c4] at H
    have c4b0 : decide (127 < x0_1) = true := decide_eq_true c4
    clear c4
    obtain ⟨c5, H⟩ := ifn_ H
    have LMc5 := aa_ c5
    clear c5
    obtain ⟨y369, hy369⟩ : ∃ y_ : List Int, y_ = (x3_1 ++ [(wrap64 ((Int.tmod x0_1 128) + 128)) % 256]) := ⟨_, rfl⟩
    replace H : (spec_l01Var.l0 k1 (wrap64 (Int.tdiv x0_1 128)) y369) = some r := rh_ hy369 H
    have Ny369 := aa_ hy369
    clear hy369
    have H' := aa_ H
    clear H
    go_wp2_with (first | ((with_reducible refine gate_builtin (b := .append) (xs := #[.tmp 7, .tmp 12]) rfl ?_); at_builtin; refine Kd.R_append (Kd.int .u8) (w0 := w) w.heap.size rfl (.tmp 7) (.tmp 12) 22 5 (.int .u8 0) 1 rfl Try.underlying22 info5 rfl (by decide) (by omega) u3 x3_1 ((wrap64 ((Int.tmod x0_1 128) + 128)) % 256) [.int .u8 ((wrap64 ((Int.tmod x0_1 128) + 128)) % 256)] (fun _ => True) (fun _ => False) rfl rfl ?aP (fun _ hk => hk.elim) ?aF ?aO ?aB ?aS ?aL ?_; (case aP => exact rfl); (case aB => exact bl_); (case aF => exact (fun _ _ => trivial)); (case aO => exact (rr_ HO_3)); (case aS => exact bls_); (case aL => have := LMc5.out; omega); intro v370 w6 ho hb hg hat; rw [← Ny369.out] at ho; replace HB := aa_ (hb); have HO371 := aa_ (ho); clear HO_3; clear ho hb hg hat))
    go_roundg k1
    case measure => have := HK1.out; omega
    case rel => exact ⟨(wrap64 (Int.tdiv x0_1 128)), (y369), rf_, H', ⟨by have := HK1.out; omega⟩, ⟨rr_ HO371⟩, ⟨bl_⟩⟩
   ·rw [if_neg c4] at H
    have c4b0 : decide (127 < x0_1) = false := decide_eq_false c4
    clear c4
    obtain ⟨c7, H⟩ := ifn_ H
    have LMc7 := aa_ c7
    clear c7
    obtain ⟨y372, hy372⟩ : ∃ y_ : List Int, y_ = (x3_1 ++ [(x0_1) % 256]) := ⟨_, rfl⟩
    replace H : (some (strOfNums y372)) = some r := rh_ hy372 H
    have Ny372 := aa_ hy372
    clear hy372
    obtain rfl := Option.some.inj H
    go_wp2_with (first | ((with_reducible refine gate_builtin (b := .append) (xs := #[.tmp 16, .tmp 19]) rfl ?_); at_builtin; refine Kd.R_append (Kd.int .u8) (w0 := w) w.heap.size rfl (.tmp 16) (.tmp 19) 22 5 (.int .u8 0) 1 rfl Try.underlying22 info5 rfl (by decide) (by omega) u3 x3_1 ((x0_1) % 256) [.int .u8 ((x0_1) % 256)] (fun _ => True) (fun _ => False) rfl rfl ?aP (fun _ hk => hk.elim) ?aF ?aO ?aB ?aS ?aL ?_; (case aP => exact rfl); (case aB => exact bl_); (case aF => exact (fun _ _ => trivial)); (case aO => exact (rr_ HO_3)); (case aS => exact bls_); (case aL => have := LMc7.out; omega); intro v373 w8 ho hb hg hat; rw [← Ny372.out] at ho; replace HB := aa_ (hb); have HO374 := aa_ (ho); clear HO_3; clear ho hb hg hat; have hcv9 := own_string (P := Try.prog) Try.underlying22 Try.underlying5 Try.underlying9 (Kd.own_of_R HO374.out)))
    go_ret
    exact ⟨eq_, bl_⟩
def spec_PolicyText.l0 : Nat → ByteArray → Int → List (S57) → Option (ByteArray)
 | 0, _, _, _ => none
 | k + 1, x3, x4, x376000 => if x4 < (x376000.length : Int) then (if 0 ≤ x4 then ((spec_l01Var.f k ((rd_T57 x376000 x4).f0)).bind fun t380 => (if x3.size + t380.size ≤ 9223372036854775807 then ((spec_l01Var.f k ((rd_T57 x376000 x4).f1.f0)).bind fun t381 => (if (x3 ++ t380).size + t381.size ≤ 9223372036854775807 then ((spec_l01Var.f k ((rd_T57 x376000 x4).f1.f1)).bind fun t382 => (if ((x3 ++ t380) ++ t381).size + t382.size ≤ 9223372036854775807 then ((spec_l01Var.f k ((rd_T57 x376000 x4).f2)).bind fun t383 => (if (((x3 ++ t380) ++ t381) ++ t382).size + t383.size ≤ 9223372036854775807 then ((spec_l01Var.f k ((rd_T57 x376000 x4).f3)).bind fun t384 => (if ((((x3 ++ t380) ++ t381) ++ t382) ++ t383).size + t384.size ≤ 9223372036854775807 then (spec_PolicyText.l0 k (((((x3 ++ t380) ++ t381) ++ t382) ++ t383) ++ t384) (wrap64 (x4 + 1)) x376000) else (none))) else (none))) else (none))) else (none))) else (none))) else (none)) else (some x3)
def spec_PolicyText.f (k : Nat) (l0_0 : List (S57)) : Option (ByteArray) := (spec_PolicyOk.f k l0_0).bind fun t376 => (if t376 = true then ((spec_l01Var.f k (l0_0.length : Int)).bind fun t377 => (spec_PolicyText.l0 k t377 0 l0_0)) else (some (⟨#[]⟩ : ByteArray)))
def spec_PolicyText.T8 : Bool × List (List Nat × List Nat) := (true, [([], []), ([], []), ([1], [1]), ([2], [2]), ([0, 3], [0, 3]), ([], []), ([5], [5]), ([6], [6]), ([7, 3], [7]), ([4, 8], [4, 8]), ([], []), ([10], [10]), ([11], [11]), ([12, 8], [12]), ([9, 13], [9, 13]), ([], []), ([15], [15]), ([16, 13], [16]), ([14, 17], [14, 17]), ([], []), ([19], [19]), ([20, 17], [20]), ([18, 21], [18, 21]), ([22, 21, 0, 1, 2, 3, 4, 5, 6, 7, 8, 9, 10, 11, 12, 13, 14, 15, 16, 17, 18, 19, 20, 21, 22], [0, 22])])
def spec_PolicyText.B8 : List Nat := [0, 0, 2, 6, 15, 0, 32, 96, 238, 511, 0, 1024, 3072, 7662, 16383, 0, 32768, 114158, 262143, 0, 524288, 1818094, 4194303, 8388607]
theorem spec_PolicyText.tab8 : rtab .any (opsOf Try.f22 8) = spec_PolicyText.T8 := by kernel_rfl
theorem spec_PolicyText.bits8 : waitsOk spec_PolicyText.T8.2 spec_PolicyText.B8 = true := by kernel_rfl
set_option maxHeartbeats 8000000 in
set_option maxRecDepth 100000 in
theorem spec_PolicyText.calls (k : Nat) (A0_0 : Option Addr) (c0_0 : Nat) (l0_0 : List (S57)) (r : ByteArray) (w : World) (hr0_0 : Kd.C k57 w A0_0 l0_0.length l0_0) (hc0_0 : l0_0.length ≤ c0_0) (h : spec_PolicyText.f k l0_0 = some r) :
  Calls Try.prog 22 #[.agg #[.slice A0_0 l0_0.length c0_0]] w fun e w' => e = .returned (.string r) ∧ Below w.heap.size w w' := by
 have hu27 := Try.underlying27
 have hu57 := Try.underlying57
 have HR0_0 := aa_ hr0_0
 have HC0_0 := aa_ hc0_0
 clear hr0_0 hc0_0
 have HB := aa_ (Below.refl w.heap.size w)
 have H : ((spec_PolicyOk.f k l0_0).bind fun t376 => (if t376 = true then ((spec_l01Var.f k (l0_0.length : Int)).bind fun t377 => (spec_PolicyText.l0 k t377 0 l0_0)) else (some (⟨#[]⟩ : ByteArray)))) = some r := h
 clear h
 obtain ⟨t376, A2, H⟩ := bindE_ H
 have HC3 := aa_ H
 clear H
 go_enter Try.func22, Try.ntmps22
 go_upto_if 8 with (first | ((with_reducible refine gD_ 1 rfl ?_); refine bx_ (N := 1) (cs := #[.slice A0_0 l0_0.length c0_0]) (t := 27) ?_; intro gb375 hg w4 hbox hb; have BK375 := aa_ (hbox); have GW375 := gs_ hg; have GE375 := gs_ hg; replace HB := hbs_ hb; clear hb hbox hg; obtain ⟨hcz5, hfz5⟩ := bcf_ BK375) | ((with_reducible refine gC_ 15 rfl ?_); refine goesC_ (some 7) Try.func15 #[.agg #[.slice A0_0 l0_0.length c0_0]] ?_; (with_reducible refine (spec_PolicyOk.calls k _ _ l0_0 t376 _ ?side1 ?side2 A2.out).mono ?_); (case side1 => repeat (first | exact (Kd.C_below HR0_0.out HB.out) | (with_reducible refine Kd.C_alloc ?_ _) | (with_reducible refine Kd.C_drewN ?_ _) | (with_reducible refine Kd.C_drew ?_))); (case side2 => exact HC0_0.out); rintro e w6 ⟨rfl, hb⟩; refine ⟨_, rfl, ?_⟩; replace BK375 := bkb_ BK375 hb; replace HB := hbs_ hb; clear hb))
 (try simp only [Act.put, List.setIfInBounds_toArray, List.set_cons_zero, List.set_cons_succ])
 have H := HC3.out
 clear HC3
 by_cases c7 : t376 = true
 ·subst c7
  replace H := ite_t_ H
  obtain ⟨t377, A8, H⟩ := bindE_ H
  have H' := aa_ H
  clear H
  have hcz9 := blk_cell BK375.out
  have hfz9 := blk_frozen BK375.out
  go_wp2_with (first | ((with_reducible refine gC_ 47 rfl ?_); refine goesC_ (some 12) Try.func47 #[.int .i64 (l0_0.length : Int)] ?_; (with_reducible refine (spec_l01Var.calls k (l0_0.length : Int) t377 _ A8.out).mono ?_); rintro e w10 ⟨rfl, hb⟩; refine ⟨_, rfl, ?_⟩; replace BK375 := bkb_ BK375 hb; replace HB := hbs_ hb; clear hb))
  go_loopg [3, 4] k (fun kq v3 v4 w' => ∃ (x3_1 : ByteArray) (x4_1 : Int), v3 = .string x3_1 ∧ v4 = .int .i64 x4_1 ∧ Aside0 (spec_PolicyText.l0 kq x3_1 x4_1 l0_0 = some r) ∧ Aside0 (kq ≤ k) ∧ Aside0 (w'.heap[gb375]? = some (.cells #[(.slice A0_0 l0_0.length c0_0)] 27 (0, 0))) ∧ Aside0 (Below w.heap.size w w'))
  case atStart => exact ⟨(t377), (0), rf_, rf_, H', ⟨Nat.le_refl _⟩, ⟨bk_ BK375⟩, ⟨bl_⟩⟩
  case round =>
   clear H'
   try clear c1
   try clear c2
   try clear p2
   try clear c4
   try clear c7
   try clear hcz5
   try clear hcz9
   try clear hfz5
   try clear hfz9
   obtain ⟨x3_1, x4_1, rfl, rfl, HA, HK1, BK375, HB⟩ := hrel
   cases gk with
   | zero => exact absurd HA.out (by simp [spec_PolicyText.l0])
   | succ k1 =>
    have H := HA.out
    clear HA
    simp only [spec_PolicyText.l0] at H
    by_cases c11 : x4_1 < (l0_0.length : Int)
    ·rw [if_pos c11] at H
     have c11b0 : decide (x4_1 < (l0_0.length : Int)) = true := decide_eq_true c11
     clear c11
     (first | rw [c11b0] | (simp only [i64_w, i32_w]; rw [c11b0]) | (have cz_ := c11b0; simp only [Int.ofNat_lt, Int.ofNat_le, gt_iff_lt, ge_iff_le] at cz_; rw [cz_]; clear cz_) | skip)
     obtain ⟨c12b0, H⟩ := ifd_ H
     obtain ⟨t380, A13, H⟩ := bindE_ H
     obtain ⟨c14, H⟩ := ifn_ H
     have c14b0 := eq_true c14
     have c14b1 : decide (x3_1.size + t380.size ≤ 9223372036854775807) = true := decide_eq_true c14
     try have c14b2 : (9223372036854775807 < x3_1.size + t380.size) = False := eq_false (Nat.not_lt.2 c14)
     obtain ⟨t381, A15, H⟩ := bindE_ H
     obtain ⟨c16, H⟩ := ifn_ H
     have c16b0 := eq_true c16
     have c16b1 : decide ((x3_1 ++ t380).size + t381.size ≤ 9223372036854775807) = true := decide_eq_true c16
     try have c16b2 : (9223372036854775807 < (x3_1 ++ t380).size + t381.size) = False := eq_false (Nat.not_lt.2 c16)
     (try (have c16b3 := c16b2; simp only [ByteArray.size_append] at c16b3)); (try (have c16b4 := c16b0; simp only [ByteArray.size_append] at c16b4))
     obtain ⟨t382, A17, H⟩ := bindE_ H
     obtain ⟨c18, H⟩ := ifn_ H
     have c18b0 := eq_true c18
     have c18b1 : decide (((x3_1 ++ t380) ++ t381).size + t382.size ≤ 9223372036854775807) = true := decide_eq_true c18
     try have c18b2 : (9223372036854775807 < ((x3_1 ++ t380) ++ t381).size + t382.size) = False := eq_false (Nat.not_lt.2 c18)
     (try (have c18b3 := c18b2; simp only [ByteArray.size_append] at c18b3)); (try (have c18b4 := c18b0; simp only [ByteArray.size_append] at c18b4))
     obtain ⟨t383, A19, H⟩ := bindE_ H
     obtain ⟨c20, H⟩ := ifn_ H
     have c20b0 := eq_true c20
     have c20b1 : decide ((((x3_1 ++ t380) ++ t381) ++ t382).size + t383.size ≤ 9223372036854775807) = true := decide_eq_true c20
     try have c20b2 : (9223372036854775807 < (((x3_1 ++ t380) ++ t381) ++ t382).size + t383.size) = False := eq_false (Nat.not_lt.2 c20)
     (try (have c20b3 := c20b2; simp only [ByteArray.size_append] at c20b3)); (try (have c20b4 := c20b0; simp only [ByteArray.size_append] at c20b4))
     obtain ⟨t384, A21, H⟩ := bindE_ H
     obtain ⟨c22, H⟩ := ifn_ H
     have c22b0 := eq_true c22
     have c22b1 : decide (((((x3_1 ++ t380) ++ t381) ++ t382) ++ t383).size + t384.size ≤ 9223372036854775807) = true := decide_eq_true c22
     try have c22b2 : (9223372036854775807 < ((((x3_1 ++ t380) ++ t381) ++ t382) ++ t383).size + t384.size) = False := eq_false (Nat.not_lt.2 c22)
     (try (have c22b3 := c22b2; simp only [ByteArray.size_append] at c22b3)); (try (have c22b4 := c22b0; simp only [ByteArray.size_append] at c22b4))
     have H' := aa_ H
     clear H
     have hcz23 := blk_cell BK375.out
     have hfz23 := blk_frozen BK375.out
     have p378 : 0 ≤ (x4_1 : Int) := od_
     have q378 : x4_1 < (l0_0.length : Int) := od_
     obtain ⟨ad378, e378, hx378_0, hx378_1, hx378_2, hx378_3, hx378_4⟩ := at_T57 (Kd.C_below HR0_0.out HB.out) x4_1 p378 q378
     cases e378
     replace p378 := eq_true p378
     replace q378 := eq_true q378
     try go_wp2_with (first | ((with_reducible refine gD_ 5 rfl ?_); refine bx_ (N := 5) (cs := #[.int .i64 0, .int .i64 0, .int .i64 0, .int .i64 0, .int .i64 0]) (t := 57) ?_; intro gb379 hg w24 hbox hb; have BK379 := aa_ (hbox); have GW379 := gs_ hg; have GE379 := gs_ hg; replace HB := hbs_ hb; have NB375_379 := nl_ hg BK375; have NB379_375 := nr_ hg BK375; replace BK375 := bkb_ BK375 hb; clear hb hbox hg; have hnb25 := NB379_375.out; have hnc25 := NB375_379.out; obtain ⟨hcz26, hfz26⟩ := bcf_ BK379))
     have n0_ : Aside0 ((((((w24.setCell ⟨gb379, 0, none⟩ (.int .i64 ((rd_T57 l0_0 x4_1).f0))).setCell ⟨gb379, 1, none⟩ (.int .i64 ((rd_T57 l0_0 x4_1).f1.f0))).setCell ⟨gb379, 2, none⟩ (.int .i64 ((rd_T57 l0_0 x4_1).f1.f1))).setCell ⟨gb379, 3, none⟩ (.int .i64 ((rd_T57 l0_0 x4_1).f2))).setCell ⟨gb379, 4, none⟩ (.int .i64 ((rd_T57 l0_0 x4_1).f3))).heap[gb375]? = some (.cells #[.slice (some ad378) l0_0.length c0_0] 27 (0, 0))) := ⟨bk_ BK375⟩
     have n1_ : Aside0 ((((((w24.setCell ⟨gb379, 0, none⟩ (.int .i64 ((rd_T57 l0_0 x4_1).f0))).setCell ⟨gb379, 1, none⟩ (.int .i64 ((rd_T57 l0_0 x4_1).f1.f0))).setCell ⟨gb379, 2, none⟩ (.int .i64 ((rd_T57 l0_0 x4_1).f1.f1))).setCell ⟨gb379, 3, none⟩ (.int .i64 ((rd_T57 l0_0 x4_1).f2))).setCell ⟨gb379, 4, none⟩ (.int .i64 ((rd_T57 l0_0 x4_1).f3))).heap[gb379]? = some (.cells #[.int .i64 ((rd_T57 l0_0 x4_1).f0), .int .i64 ((rd_T57 l0_0 x4_1).f1.f0), .int .i64 ((rd_T57 l0_0 x4_1).f1.f1), .int .i64 ((rd_T57 l0_0 x4_1).f2), .int .i64 ((rd_T57 l0_0 x4_1).f3)] 57 (0, 0))) := ⟨bk_ BK379⟩
     have n2_ : Aside0 (Below w.heap.size w (((((w24.setCell ⟨gb379, 0, none⟩ (.int .i64 ((rd_T57 l0_0 x4_1).f0))).setCell ⟨gb379, 1, none⟩ (.int .i64 ((rd_T57 l0_0 x4_1).f1.f0))).setCell ⟨gb379, 2, none⟩ (.int .i64 ((rd_T57 l0_0 x4_1).f1.f1))).setCell ⟨gb379, 3, none⟩ (.int .i64 ((rd_T57 l0_0 x4_1).f2))).setCell ⟨gb379, 4, none⟩ (.int .i64 ((rd_T57 l0_0 x4_1).f3)))) := ⟨bl_⟩
     (try clear BK375)
     (try clear BK379)
     (try clear HB)
     generalize (((((w24.setCell ⟨gb379, 0, none⟩ (.int .i64 ((rd_T57 l0_0 x4_1).f0))).setCell ⟨gb379, 1, none⟩ (.int .i64 ((rd_T57 l0_0 x4_1).f1.f0))).setCell ⟨gb379, 2, none⟩ (.int .i64 ((rd_T57 l0_0 x4_1).f1.f1))).setCell ⟨gb379, 3, none⟩ (.int .i64 ((rd_T57 l0_0 x4_1).f2))).setCell ⟨gb379, 4, none⟩ (.int .i64 ((rd_T57 l0_0 x4_1).f3))) = w27 at n0_ n1_ n2_ ⊢
     have BK375 := n0_
     have BK379 := n1_
     have HB := n2_
     clear n0_ n1_ n2_
     replace BK375 := aa_ (blk_drew BK375.out)
     replace BK379 := aa_ (blk_drew BK379.out)
     replace HB := aa_ (below_drew1 HB.out)
     refine start_ (n := 24) (S := fun w' => w'.cell? ⟨gb379, 0, none⟩ = some (.int .i64 ((rd_T57 l0_0 x4_1).f0)) ∧ w'.cell? ⟨gb379, 1, none⟩ = some (.int .i64 ((rd_T57 l0_0 x4_1).f1.f0)) ∧ w'.cell? ⟨gb379, 2, none⟩ = some (.int .i64 ((rd_T57 l0_0 x4_1).f1.f1)) ∧ w'.cell? ⟨gb379, 3, none⟩ = some (.int .i64 ((rd_T57 l0_0 x4_1).f2)) ∧ w'.cell? ⟨gb379, 4, none⟩ = some (.int .i64 ((rd_T57 l0_0 x4_1).f3))) (ds := []) (ba_ 24 0) (by kernel_rfl) rfl rfl ⟨(blk_cell BK379.out 0).trans rfl, (blk_cell BK379.out 1).trans rfl, (blk_cell BK379.out 2).trans rfl, (blk_cell BK379.out 3).trans rfl, (blk_cell BK379.out 4).trans rfl⟩ (fun hHeld => ?_); refine with_tabW spec_PolicyText.tab8 spec_PolicyText.bits8 (fun HT_ HW_ => ?_)
     generalize w27.drew = w28 at BK375 BK379 HB hHeld ⊢
     refine pureZ_ (i := 0) (some 25) (ba_ 24 1) (ao_ HT_) ?_
     refine pureZ_ (i := 1) (some 26) (ba_ 24 3) (ao_ HT_) ?_
     refine pureZ_ (i := 5) (some 30) (ba_ 24 35) (ao_ HT_) ?_
     refine pureZ_ (i := 6) (some 31) (ba_ 24 99) (ao_ HT_) ?_
     refine pureZ_ (i := 10) (some 35) (ba_ 24 1123) (ao_ HT_) ?_
     refine pureZ_ (i := 11) (some 36) (ba_ 24 3171) (ao_ HT_) ?_
     refine pureZ_ (i := 15) (some 40) (ba_ 24 35939) (ao_ HT_) ?_
     refine pureZ_ (i := 19) (some 44) (ba_ 24 560227) (ao_ HT_) ?_
     refine takeZ_ (i := 2) (some 27) (ba_ 24 560231) (take_ofW HT_.out HW_.out (by kernel_rfl)) hHeld ?_
     refine takeZ_ (i := 7) (some 32) (ba_ 24 560359) (take_ofW HT_.out HW_.out (by kernel_rfl)) hHeld ?_
     refine takeZ_ (i := 12) (some 37) (ba_ 24 564455) (take_ofW HT_.out HW_.out (by kernel_rfl)) hHeld ?_
     refine takeZ_ (i := 16) (some 41) (ba_ 24 629991) (take_ofW HT_.out HW_.out (by kernel_rfl)) hHeld ?_
     refine takeZ_ (i := 20) (some 45) (ba_ 24 1678567) (take_ofW HT_.out HW_.out (by kernel_rfl)) hHeld ?_
     refine one_ (i := 3) (N := some 28) (ba_ 24 1678575) rfl rfl (one_of HT_.out (by kernel_rfl)) (by decide) (fun K hK => ?_)
     refine goes_ Try.func47 (by kernel_rfl) rfl #[.int .i64 ((rd_T57 l0_0 x4_1).f0)] (by rfl) rfl rfl (by (try simp only [List.map_toArray, List.map_cons, List.map_nil]); first | done | rfl | (simp only [List.length_drop, List.length_take]; rfl)) ?_
     with_reducible refine (spec_l01Var.calls k1 ((rd_T57 l0_0 x4_1).f0) t380 _ A13.out).mono ?_
     rintro e w29 ⟨rfl, hb⟩
     refine ⟨_, rfl, ?_⟩
     replace BK375 := bkb_ BK375 hb
     replace BK379 := bkb_ BK379 hb
     replace HB := hbs_ hb
     (try clear hb)
     (try clear hb2)
     (try clear hk)
     (try clear hi)
     refine hK.out _ _ ⟨(blk_cell BK379.out 0).trans rfl, (blk_cell BK379.out 1).trans rfl, (blk_cell BK379.out 2).trans rfl, (blk_cell BK379.out 3).trans rfl, (blk_cell BK379.out 4).trans rfl⟩ (fun hHeld => ?_)
     clear hK K
     refine norm_ (a' := ?_) ?_ ?_
     rotate_left
     ·show Act.put _ (some 28) _ = _
      simp only [Act.put, List.setIfInBounds_toArray, List.set_cons_zero, List.set_cons_succ, i64_w, i32_w]
      rfl
     refine pureZ_ (i := 4) (some 29) (ba_ 24 1678591) (ao_ HT_) ?_
     refine one_ (i := 8) (N := some 33) (ba_ 24 1678847) rfl rfl (one_of HT_.out (by kernel_rfl)) (by decide) (fun K hK => ?_)
     refine goes_ Try.func47 (by kernel_rfl) rfl #[.int .i64 ((rd_T57 l0_0 x4_1).f1.f0)] (by rfl) rfl rfl (by (try simp only [List.map_toArray, List.map_cons, List.map_nil]); first | done | rfl | (simp only [List.length_drop, List.length_take]; rfl)) ?_
     with_reducible refine (spec_l01Var.calls k1 ((rd_T57 l0_0 x4_1).f1.f0) t381 _ A15.out).mono ?_
     rintro e w30 ⟨rfl, hb⟩
     refine ⟨_, rfl, ?_⟩
     replace BK375 := bkb_ BK375 hb
     replace BK379 := bkb_ BK379 hb
     replace HB := hbs_ hb
     (try clear hb)
     (try clear hb2)
     (try clear hk)
     (try clear hi)
     refine hK.out _ _ ⟨(blk_cell BK379.out 0).trans rfl, (blk_cell BK379.out 1).trans rfl, (blk_cell BK379.out 2).trans rfl, (blk_cell BK379.out 3).trans rfl, (blk_cell BK379.out 4).trans rfl⟩ (fun hHeld => ?_)
     clear hK K
     refine norm_ (a' := ?_) ?_ ?_
     rotate_left
     ·show Act.put _ (some 33) _ = _
      simp only [Act.put, List.setIfInBounds_toArray, List.set_cons_zero, List.set_cons_succ, i64_w, i32_w]
      rfl
     refine pureZ_ (i := 9) (some 34) (ba_ 24 1679359) (ao_ HT_) ?_
     refine one_ (i := 13) (N := some 38) (ba_ 24 1687551) rfl rfl (one_of HT_.out (by kernel_rfl)) (by decide) (fun K hK => ?_)
     refine goes_ Try.func47 (by kernel_rfl) rfl #[.int .i64 ((rd_T57 l0_0 x4_1).f1.f1)] (by rfl) rfl rfl (by (try simp only [List.map_toArray, List.map_cons, List.map_nil]); first | done | rfl | (simp only [List.length_drop, List.length_take]; rfl)) ?_
     with_reducible refine (spec_l01Var.calls k1 ((rd_T57 l0_0 x4_1).f1.f1) t382 _ A17.out).mono ?_
     rintro e w31 ⟨rfl, hb⟩
     refine ⟨_, rfl, ?_⟩
     replace BK375 := bkb_ BK375 hb
     replace BK379 := bkb_ BK379 hb
     replace HB := hbs_ hb
     (try clear hb)
     (try clear hb2)
     (try clear hk)
     (try clear hi)
     refine hK.out _ _ ⟨(blk_cell BK379.out 0).trans rfl, (blk_cell BK379.out 1).trans rfl, (blk_cell BK379.out 2).trans rfl, (blk_cell BK379.out 3).trans rfl, (blk_cell BK379.out 4).trans rfl⟩ (fun hHeld => ?_)
     clear hK K
     refine norm_ (a' := ?_) ?_ ?_
     rotate_left
     ·show Act.put _ (some 38) _ = _
      simp only [Act.put, List.setIfInBounds_toArray, List.set_cons_zero, List.set_cons_succ, i64_w, i32_w]
      rfl
     refine pureZ_ (i := 14) (some 39) (ba_ 24 1703935) (ao_ HT_) ?_
     refine one_ (i := 17) (N := some 42) (ba_ 24 1835007) rfl rfl (one_of HT_.out (by kernel_rfl)) (by decide) (fun K hK => ?_)
     refine goes_ Try.func47 (by kernel_rfl) rfl #[.int .i64 ((rd_T57 l0_0 x4_1).f2)] (by rfl) rfl rfl (by (try simp only [List.map_toArray, List.map_cons, List.map_nil]); first | done | rfl | (simp only [List.length_drop, List.length_take]; rfl)) ?_
     with_reducible refine (spec_l01Var.calls k1 ((rd_T57 l0_0 x4_1).f2) t383 _ A19.out).mono ?_
     rintro e w32 ⟨rfl, hb⟩
     refine ⟨_, rfl, ?_⟩
     replace BK375 := bkb_ BK375 hb
     replace BK379 := bkb_ BK379 hb
     replace HB := hbs_ hb
     (try clear hb)
     (try clear hb2)
     (try clear hk)
     (try clear hi)
     refine hK.out _ _ ⟨(blk_cell BK379.out 0).trans rfl, (blk_cell BK379.out 1).trans rfl, (blk_cell BK379.out 2).trans rfl, (blk_cell BK379.out 3).trans rfl, (blk_cell BK379.out 4).trans rfl⟩ (fun hHeld => ?_)
     clear hK K
     refine norm_ (a' := ?_) ?_ ?_
     rotate_left
     ·show Act.put _ (some 42) _ = _
      simp only [Act.put, List.setIfInBounds_toArray, List.set_cons_zero, List.set_cons_succ, i64_w, i32_w]
      rfl
     refine pureZ_ (i := 18) (some 43) (ba_ 24 2097151) (ao_ HT_) ?_
     refine one_ (i := 21) (N := some 46) (ba_ 24 4194303) rfl rfl (one_of HT_.out (by kernel_rfl)) (by decide) (fun K hK => ?_)
     refine goes_ Try.func47 (by kernel_rfl) rfl #[.int .i64 ((rd_T57 l0_0 x4_1).f3)] (by rfl) rfl rfl (by (try simp only [List.map_toArray, List.map_cons, List.map_nil]); first | done | rfl | (simp only [List.length_drop, List.length_take]; rfl)) ?_
     with_reducible refine (spec_l01Var.calls k1 ((rd_T57 l0_0 x4_1).f3) t384 _ A21.out).mono ?_
     rintro e w33 ⟨rfl, hb⟩
     refine ⟨_, rfl, ?_⟩
     replace BK375 := bkb_ BK375 hb
     replace BK379 := bkb_ BK379 hb
     replace HB := hbs_ hb
     (try clear hb)
     (try clear hb2)
     (try clear hk)
     (try clear hi)
     refine hK.out _ _ ⟨(blk_cell BK379.out 0).trans rfl, (blk_cell BK379.out 1).trans rfl, (blk_cell BK379.out 2).trans rfl, (blk_cell BK379.out 3).trans rfl, (blk_cell BK379.out 4).trans rfl⟩ (fun hHeld => ?_)
     clear hK K
     refine norm_ (a' := ?_) ?_ ?_
     rotate_left
     ·show Act.put _ (some 46) _ = _
      simp only [Act.put, List.setIfInBounds_toArray, List.set_cons_zero, List.set_cons_succ, i64_w, i32_w]
      rfl
     refine pureZ_ (i := 22) (some 47) (ba_ 24 8388607) (ao_ HT_) ?_
     refine pureZ_ (i := 23) (some 3) (ba_ 24 16777215) (ao_ HT_) ?_
     refine done_ (done_of HT_.out (by kernel_rfl)) ?_
     try go_wp2
     go_roundg k1
     case measure => have := HK1.out; omega
     case rel => exact ⟨(((((x3_1 ++ t380) ++ t381) ++ t382) ++ t383) ++ t384), (wrap64 (x4_1 + 1)), rf_, rf_, H', ⟨by have := HK1.out; omega⟩, ⟨bk_ BK375⟩, ⟨bl_⟩⟩
    ·rw [if_neg c11] at H
     have c11b0 : decide (x4_1 < (l0_0.length : Int)) = false := decide_eq_false c11
     clear c11
     (first | rw [c11b0] | (simp only [i64_w, i32_w]; rw [c11b0]) | (have cz_ := c11b0; simp only [Int.ofNat_lt, Int.ofNat_le, gt_iff_lt, ge_iff_le] at cz_; rw [cz_]; clear cz_) | skip)
     obtain rfl := Option.some.inj H
     have hcz34 := blk_cell BK375.out
     have hfz34 := blk_frozen BK375.out
     go_wp2
     go_ret
     exact ⟨eq_, bl_⟩
 ·replace c7 := Bool.eq_false_iff.mpr c7
  subst c7
  replace H := ite_f_ H
  obtain rfl := Option.some.inj H
  go_wp2
  go_ret
  exact ⟨eq_, bl_⟩
mutual
def spec_l01Text.j0 : Nat → Int → List Int → Int → Int → Option (ByteArray × Int × Int)
 | 0, _, _, _, _ => none
 | k + 1, x1, x1000, x1001, x1002 => spec_l01Text.l0 k x1 (([] : List Int)) 0 x1000 x1001 x1002
def spec_l01Text.l0 : Nat → Int → List Int → Int → List Int → Int → Int → Option (ByteArray × Int × Int)
 | 0, _, _, _, _, _, _ => none
 | k + 1, x1, x5, x6, x1000, x1001, x1002 => if x6 < x1 then ((spec_l01Byte.f x1000 x1001 x1002).bind fun bt388 => (if x5.length < 140737488355328 then (spec_l01Text.l0 k x1 (x5 ++ [(bt388.1) % 256]) (wrap64 (x6 + 1)) x1000 bt388.2.1 bt388.2.2) else (none))) else (some (strOfNums x5, x1001, x1002))
end
def spec_l01Text.f (k : Nat) (s0_0 : List Int) (s0_1 : Int) (s0_2 : Int) (a1 : Int) : Option (ByteArray × Int × Int) := if a1 > 5000 then (spec_l01Text.j0 k 5000 s0_0 s0_1 s0_2) else (spec_l01Text.j0 k a1 s0_0 s0_1 s0_2)
set_option maxHeartbeats 8000000 in
set_option maxRecDepth 100000 in
theorem spec_l01Text.calls (k : Nat) (g : Nat) (s0_0 : List Int) (s0_1 : Int) (s0_2 : Int) (a1 : Int) (r1 : ByteArray) (r2 : Int) (r3 : Int) (w0 w : World) (hI : IsS71 w0 w g s0_0 s0_1 s0_2) (hB : Below w0.heap.size w0 w) (h : spec_l01Text.f k s0_0 s0_1 s0_2 a1 = some (r1, r2, r3)) :
  Calls Try.prog 52 #[.pointer (some ⟨g, 0, none⟩), .int .i64 a1] w fun e w' => e = .returned (.string r1) ∧ IsS71 w0 w' g s0_0 r2 r3 ∧ Below w0.heap.size w0 w' ∧ KeepBut w w' g none := by
 have HI0 := aa_ hI
 have HK := aa_ (KeepBut.refl w g none)
 have HL := aa_ hB.size
 clear hI
 have HW0 := aa_ hB.size
 have HB := aa_ hB
 clear hB
 have H : (if a1 > 5000 then (spec_l01Text.j0 k 5000 s0_0 s0_1 s0_2) else (spec_l01Text.j0 k a1 s0_0 s0_1 s0_2)) = some (r1, r2, r3) := h
 clear h
 have HC3 := aa_ H
 clear H
 go_enter Try.func52, Try.ntmps52
 go_upto_if 8 with (fail)
 go_cut [1] (fun v1 wc => ∃ (kq : Nat) (x1_2 : Int), v1 = .int .i64 x1_2 ∧ Aside0 (spec_l01Text.j0 kq x1_2 s0_0 s0_1 s0_2 = some (r1, r2, r3)) ∧ Aside0 (kq ≤ k) ∧ Aside0 (IsS71 w0 wc g s0_0 s0_1 s0_2) ∧ Aside0 (KeepBut w wc g none) ∧ Aside0 (Below w0.heap.size w0 wc))
 case first =>
  have H := HC3.out
  clear HC3
  by_cases c4 : a1 > 5000
  ·rw [if_pos c4] at H
   have c4b0 : decide (5000 < a1) = true := decide_eq_true c4
   clear c4
   (first | rw [c4b0] | (simp only [i64_w, i32_w]; rw [c4b0]) | skip)
   have H' := aa_ H
   clear H
   go_wp2
   go_meet
   case rel => exact ⟨_, (5000), rf_, H', ⟨by first | omega | exact Nat.le_refl _⟩, ⟨by exact IsS71.nw_⟩, ⟨by exact kp_⟩, ⟨by exact IsS71.bw_⟩⟩
  ·rw [if_neg c4] at H
   have c4b0 : decide (5000 < a1) = false := decide_eq_false c4
   clear c4
   (first | rw [c4b0] | (simp only [i64_w, i32_w]; rw [c4b0]) | skip)
   have H' := aa_ H
   clear H
   go_wp2
   go_meet
   case rel => exact ⟨_, (a1), rf_, H', ⟨by first | omega | exact Nat.le_refl _⟩, ⟨by exact IsS71.nw_⟩, ⟨by exact kp_⟩, ⟨by exact IsS71.bw_⟩⟩
 case rest =>
  clear HC3
  try clear p2
  try clear c4
  try clear c4b0
  obtain ⟨kq, x1_2, rfl, HA, HJ2, HI0, HK, HB⟩ := hcut
  cases kq with
  | zero => exact absurd HA.out (by simp [spec_l01Text.j0])
  | succ kj2 =>
   have H := HA.out
   clear HA
   simp only [spec_l01Text.j0] at H
   obtain ⟨y385, hy385⟩ : ∃ y_ : List Int, y_ = (([] : List Int)) := ⟨_, rfl⟩
   replace H : (spec_l01Text.l0 kj2 x1_2 y385 0 s0_0 s0_1 s0_2) = some (r1, r2, r3) := rh_ hy385 H
   have Ny385 := aa_ hy385
   clear hy385
   have H' := aa_ H
   clear H
   go_wp2_with (first | ((with_reducible refine gD_ 9 rfl ?_); refine Kd.R_lit (Kd.int .u8) _ 5 ?hg (N := 9) ?hd (xs := ([] : List Int)) (inner := []) (ok := fun _ => True) (okp := fun _ => True) ?hr ?hp (fun _ hk => hk) trivial (Below.refl _ _) (Nat.le_refl _) (by simp) ?_; (case hd => rfl); (case hg => rfl); (case hr => first | (go_simp; done) | (go_simp; rfl)); (case hp => exact (Reps.none _ _)); intro v386 w5 ho6 hb hg_ hnew_; clear hg_ hnew_; (first | rw [← Ny385.out] at ho6 | (simp only [Int.reduceToNat] at ho6; rw [← Ny385.out] at ho6)); have HO387 := aa_ (Kd.R_lower ho6 (keep_size (w := w) (g := g) (row := none) (by exact kp_))); replace HK := aa_ (KeepBut.trans (by exact kp_) (KeepBut.of_below hb g none) (.inl rfl)); replace HB := aa_ (below_step (by exact IsS71.bw_) hb); replace HI0 := aa_ (IsS71.below (by exact IsS71.nw_) hb); clear hb ho6))
   go_loopg [5, 6] kj2 (fun kq v5 v6 w' => ∃ (x5_2 : List Int) (x6_2 : Int) (x1001_2 : Int) (x1002_2 : Int), v6 = .int .i64 x6_2 ∧ Aside0 (spec_l01Text.l0 kq x1_2 x5_2 x6_2 s0_0 x1001_2 x1002_2 = some (r1, r2, r3)) ∧ Aside0 (kq ≤ kj2) ∧ Aside0 (Kd.R (Kd.int .u8) 5 w' w.heap.size (fun _ => True) v5 x5_2) ∧ Aside0 (IsS71 w0 w' g s0_0 x1001_2 x1002_2) ∧ Aside0 (KeepBut w w' g none) ∧ Aside0 (Below w0.heap.size w0 w'))
   case atStart => exact ⟨(y385), (0), (s0_1), (s0_2), rf_, H', ⟨Nat.le_refl _⟩, ⟨rr_ HO387⟩, ⟨by exact IsS71.nw_⟩, ⟨by exact kp_⟩, ⟨by exact IsS71.bw_⟩⟩
   case round =>
    clear H'
    try clear p2
    try clear c4
    try clear c4b0
    try clear c5
    try clear p2
    obtain ⟨x5_2, x6_2, x1001_2, x1002_2, rfl, HA, HK2, HO_5, HI0, HK, HB⟩ := hrel
    cases gk with
    | zero => exact absurd HA.out (by simp [spec_l01Text.l0])
    | succ k2 =>
     have H := HA.out
     clear HA
     simp only [spec_l01Text.l0] at H
     by_cases c7 : x6_2 < x1_2
     ·rw [if_pos c7] at H
      have c7b0 : decide (x6_2 < x1_2) = true := decide_eq_true c7
      clear c7
      obtain ⟨⟨t388, t389, t390⟩, A8, H⟩ := bindE_ H
      (try dsimp only at H)
      obtain ⟨c9, H⟩ := ifn_ H
      have LMc9 := aa_ c9
      clear c9
      obtain ⟨y391, hy391⟩ : ∃ y_ : List Int, y_ = (x5_2 ++ [(t388) % 256]) := ⟨_, rfl⟩
      replace H : (spec_l01Text.l0 k2 x1_2 y391 (wrap64 (x6_2 + 1)) s0_0 t389 t390) = some (r1, r2, r3) := rh_ hy391 H
      have Ny391 := aa_ hy391
      clear hy391
      have H' := aa_ H
      clear H
      go_wp2_with (first | ((with_reducible refine gC_ 48 rfl ?_); refine goesC_ (some 17) Try.func48 #[.pointer (some ⟨g, 0, none⟩)] ?_; (with_reducible refine (spec_l01Byte.calls g s0_0 x1001_2 x1002_2 t388 t389 t390 w0 _ ?side1 ?side2 A8.out).mono ?_); (case side1 => exact IsS71.nw_); (case side2 => exact IsS71.bw_); rintro e w10 ⟨rfl, hi, hb, hk⟩; refine ⟨_, rfl, ?_⟩; replace HO_5 := aa_ (Kd.R_mono (Kd.R_keep (IsS71.apart (show IsS71 w0 _ g s0_0 x1001_2 x1002_2 from by exact IsS71.nw_) (rr_ HO_5) (by decide)) hk (fun _ h => h.2)) (fun _ h => h.1)); replace HK := aa_ (KeepBut.trans (by exact kp_) hk (.inl rfl)); replace HB := aa_ (hb); replace HI0 := aa_ (hi); (try clear hb hk hi)) | ((with_reducible refine gate_builtin (b := .append) (xs := #[.tmp 15, .tmp 19]) rfl ?_); at_builtin; refine Kd.R_append (Kd.int .u8) w.heap.size rfl (.tmp 15) (.tmp 19) 22 5 (.int .u8 0) 1 rfl Try.underlying22 info5 rfl (by decide) (by omega) u5 x5_2 ((t388) % 256) [.int .u8 ((t388) % 256)] (fun _ => True) (fun _ => False) rfl rfl ?aP (fun _ hk => hk.elim) ?aF ?aO (Below.refl _ _) ?aS ?aL ?_; (case aP => exact rfl); (case aF => exact (fun _ _ => trivial)); (case aO => exact (rr_ HO_5)); (case aS => exact (keep_size (w := w) (g := g) (row := none) (by exact kp_))); (case aL => have := LMc9.out; omega); intro v392 w11 ho hb hg hat; rw [← Ny391.out] at ho; replace HB := aa_ (below_weaken (by exact IsS71.bw_) HL.out hb); replace HI0 := aa_ (IsS71.grown (show IsS71 w0 _ g s0_0 t389 t390 from by exact IsS71.nw_) hg (IsS71.own_ne HI0.out HO_5.out (by decide))); replace HK := aa_ (KeepBut.trans (by exact kp_) (KeepBut.of_grown hg g) (Kd.R_base2 HO_5.out)); have HO393 := aa_ (ho); clear HO_5; clear ho hb hg hat))
      go_roundg k2
      case measure => have := HJ2.out; have := HK2.out; omega
      case rel => exact ⟨(y391), (wrap64 (x6_2 + 1)), (t389), (t390), rf_, H', ⟨by have := HJ2.out; have := HK2.out; omega⟩, ⟨rr_ HO393⟩, ⟨by exact IsS71.nw_⟩, ⟨by exact kp_⟩, ⟨by exact IsS71.bw_⟩⟩
     ·rw [if_neg c7] at H
      have c7b0 : decide (x6_2 < x1_2) = false := decide_eq_false c7
      clear c7
      simp only [Option.some.injEq, Prod.mk.injEq] at H
      obtain ⟨rfl, rfl, rfl⟩ := H
      have hcv12 := own_string (P := Try.prog) Try.underlying22 Try.underlying5 Try.underlying9 (Kd.own_of_R HO_5.out)
      go_wp2
      go_ret
      exact ⟨eq_, by exact IsS71.nw_, by exact IsS71.bw_, by exact kp_⟩
end Go.Proofs.Ytnoklfpnmopkpaa.PE
