import Derived.Test.YtcbhmcpdnokbiaaKLPAx14
-- printed by wip/tools
namespace Go.Proofs.Ytcbhmcpdnokbiaa.PA
open Go.RowKit Go.Proofs.YtcbhmcpdnokbiaaW.PrintWords Go.Proofs.YtcbhmcpdnokbiaaW.PrintLast Go.Proofs.YtcbhmcpdnokbiaaW.PrintMore
attribute [local go_sem] max2_int min2_int max_two min_two max_three min_three max_four min_four
set_option linter.unusedVariables false
set_option linter.unusedSimpArgs false
attribute [local go_sem high] eqA27
def spec_l07From.l0 : Nat → List (S63) → Int → Int → Int → Int → Int → Int → Int → Int → Int → Int → Int → Int → Option (List Int)
 | 0, _, _, _, _, _, _, _, _, _, _, _, _, _ => none
 | k + 1, x0, x2, x7, x530000, x530001, x530002, x530003, x530004, x530005, x530006, x530007, x530008, x530009 => if x7 < (x0.length : Int) then (if 0 ≤ x7 then (if (!(((rd_T63 x0 x7).f1.f0.f0) == x530004) || (!(((rd_T63 x0 x7).f1.f0.f1) == x530005))) = true then (spec_l07From.l0 k x0 x2 (wrap64 (x7 + 1)) x530000 x530001 x530002 x530003 x530004 x530005 x530006 x530007 x530008 x530009) else ((spec_l07At.f k x0 ((rd_T63 x0 x7).f1.f1) x530007 x2).bind fun t544 => (if t544 ≥ 0 then (some (([x7, t544] : List Int))) else (spec_l07From.l0 k x0 x2 (wrap64 (x7 + 1)) x530000 x530001 x530002 x530003 x530004 x530005 x530006 x530007 x530008 x530009)))) else (none)) else (some (([] : List Int)))
def spec_l07From.f (k : Nat) (l0 : List (S63)) (a1_0 : Int) (a1_1 : Int) (a1_2 : Int) (a1_3 : Int) (a1_4 : Int) (a1_5 : Int) (a1_6 : Int) (a1_7 : Int) (a1_8 : Int) (a1_9 : Int) (a2 : Int) : Option (List Int) := if a1_0 = 2 then ((spec_l07At.f k l0 a1_4 a1_5 a2).bind fun t530 => (some (([t530] : List Int)))) else (if a1_0 = 4 then ((spec_l07At.f k l0 a1_4 a1_5 a2).bind fun t534 => ((spec_l07At.f k l0 a1_6 a1_7 a2).bind fun t535 => (some (([t534, t535] : List Int))))) else (if a1_0 = 3 then (spec_l07From.l0 k l0 a2 0 a1_0 a1_1 a1_2 a1_3 a1_4 a1_5 a1_6 a1_7 a1_8 a1_9) else (some (([] : List Int)))))
def spec_l07From.T5 : Bool × List (List Nat × List Nat) := (true, [([], []), ([], []), ([1], [1]), ([], []), ([2, 3], [2, 3]), ([0, 4], [0, 4]), ([], []), ([], []), ([7], [7]), ([], []), ([8, 9], [8, 9]), ([6, 10, 5], [6, 10]), ([5, 11], [5, 11]), ([12, 11, 0, 1, 2, 3, 4, 5, 6, 7, 8, 9, 10, 11, 12], [12])])
def spec_l07From.B5 : List Nat := [0, 0, 2, 0, 14, 31, 0, 0, 128, 0, 896, 2047, 4095, 8191]
theorem spec_l07From.tab5 : rtab .any (opsOf Try.f42 5) = spec_l07From.T5 := by kernel_rfl
theorem spec_l07From.bits5 : waitsOk spec_l07From.T5.2 spec_l07From.B5 = true := by kernel_rfl
def spec_l07From.T10 : Bool × List (List Nat × List Nat) := (true, [([], []), ([], []), ([0, 1], [0, 1]), ([2], [2]), ([3], [3]), ([4], [4]), ([], []), ([6], [6]), ([5, 7], [5, 7])])
def spec_l07From.B10 : List Nat := [0, 0, 3, 7, 15, 31, 0, 64, 255]
theorem spec_l07From.tab10 : rtab .any (opsOf Try.f42 10) = spec_l07From.T10 := by kernel_rfl
theorem spec_l07From.bits10 : waitsOk spec_l07From.T10.2 spec_l07From.B10 = true := by kernel_rfl
def spec_l07From.T11 : Bool × List (List Nat × List Nat) := (true, [([], []), ([], []), ([], []), ([1, 2], [1, 2]), ([3], [3]), ([4], [4]), ([5], [5]), ([], []), ([7], [7]), ([8], [8]), ([6, 9], [6, 9]), ([], []), ([10, 11], [10, 11]), ([0, 12], [0, 12]), ([13, 13, 0, 1, 2, 3, 4, 5, 6, 7, 8, 9, 10, 11, 12, 13], [13])])
def spec_l07From.B11 : List Nat := [0, 0, 0, 6, 14, 30, 62, 0, 128, 384, 1022, 0, 4094, 8191, 16383]
theorem spec_l07From.tab11 : rtab .any (opsOf Try.f42 11) = spec_l07From.T11 := by kernel_rfl
theorem spec_l07From.bits11 : waitsOk spec_l07From.T11.2 spec_l07From.B11 = true := by kernel_rfl
set_option maxHeartbeats 8000000 in
set_option maxRecDepth 100000 in
theorem spec_l07From.calls (k : Nat) (A0 : Option Addr) (c0 : Nat) (l0 : List (S63)) (a1_0 : Int) (a1_1 : Int) (a1_2 : Int) (a1_3 : Int) (a1_4 : Int) (a1_5 : Int) (a1_6 : Int) (a1_7 : Int) (a1_8 : Int) (a1_9 : Int) (a2 : Int) (r : List Int) (w : World) (hr0 : Kd.C k63 w A0 l0.length l0) (hc0 : l0.length ≤ c0) (h : spec_l07From.f k l0 a1_0 a1_1 a1_2 a1_3 a1_4 a1_5 a1_6 a1_7 a1_8 a1_9 a2 = some r) :
  Calls Try.prog 42 #[.slice A0 l0.length c0, .agg #[.int .i64 a1_0, .int .i64 a1_1, .int .i64 a1_2, .int .i64 a1_3, .int .i64 a1_4, .int .i64 a1_5, .int .i64 a1_6, .int .i64 a1_7, .int .i64 a1_8, .int .i64 a1_9], .int .i64 a2] w fun e w' => ∃ v0_ : Value, e = .returned (v0_) ∧ Kd.R (Kd.int .i64) 3 w' w.heap.size (fun _ => True) v0_ r ∧ Below w.heap.size w w' := by
 have hu46 := Try.underlying46
 have hu27 := Try.underlying27
 have hu29 := Try.underlying29
 have HR0 := aa_ hr0
 have HC0 := aa_ hc0
 clear hr0 hc0
 have HB := aa_ (Below.refl w.heap.size w)
 have H : (if a1_0 = 2 then ((spec_l07At.f k l0 a1_4 a1_5 a2).bind fun t530 => (some (([t530] : List Int)))) else (if a1_0 = 4 then ((spec_l07At.f k l0 a1_4 a1_5 a2).bind fun t534 => ((spec_l07At.f k l0 a1_6 a1_7 a2).bind fun t535 => (some (([t534, t535] : List Int))))) else (if a1_0 = 3 then (spec_l07From.l0 k l0 a2 0 a1_0 a1_1 a1_2 a1_3 a1_4 a1_5 a1_6 a1_7 a1_8 a1_9) else (some (([] : List Int)))))) = some r := h
 clear h
 have HC4 := aa_ H
 clear H
 go_enter Try.func42, Try.ntmps42
 go_upto_if 11 with (first | ((with_reducible refine gD_ 4 rfl ?_); refine bx_ (N := 4) (cs := #[.int .i64 a1_0, .int .i64 a1_1, .int .i64 a1_2, .int .i64 a1_3, .int .i64 a1_4, .int .i64 a1_5, .int .i64 a1_6, .int .i64 a1_7, .int .i64 a1_8, .int .i64 a1_9]) (t := 46) ?_; intro gb529 hg w5 hbox hb; have BK529 := aa_ (hbox); have GW529 := gs_ hg; have GE529 := gs_ hg; replace HB := hbs_ hb; clear hb hbox hg; obtain ⟨hcz6, hfz6⟩ := bcf_ BK529))
 (try simp only [Act.put, List.setIfInBounds_toArray, List.set_cons_zero, List.set_cons_succ])
 have H := HC4.out
 clear HC4
 by_cases c7 : a1_0 = 2
 ·rw [if_pos c7] at H
  have c7b0 : (a1_0 == 2) = true := beq_iff_eq.mpr c7
  have c7b1 : (a1_0 != 2) = false := bne_eq_false_iff_eq.mpr c7
  clear c7
  (first | rw [c7b0] | (simp only [i64_w, i32_w]; rw [c7b0]) | skip)
  obtain ⟨t530, A8, H⟩ := bindE_ H
  obtain ⟨y531, hy531⟩ : ∃ y_ : List Int, y_ = (([t530] : List Int)) := ⟨_, rfl⟩
  replace H : (some y531) = some r := rh_ hy531 H
  have Ny531 := aa_ hy531
  clear hy531
  obtain rfl := Option.some.inj H
  have hcz9 := blk_cell BK529.out
  have hfz9 := blk_frozen BK529.out
  go_wp2_with (first | ((with_reducible refine gC_ 30 rfl ?_); refine goesC_ (some 18) Try.func30 #[.slice A0 l0.length c0, .agg #[.int .i64 a1_4, .int .i64 a1_5, .int .i64 a2]] ?_; (with_reducible refine (spec_l07At.calls k _ _ l0 a1_4 a1_5 a2 t530 _ ?side1 ?side2 A8.out).mono ?_); (case side1 => repeat (first | exact (Kd.C_below HR0.out HB.out) | (with_reducible refine Kd.C_alloc ?_ _) | (with_reducible refine Kd.C_drewN ?_ _) | (with_reducible refine Kd.C_drew ?_))); (case side2 => exact HC0.out); rintro e w10 ⟨rfl, hb⟩; refine ⟨_, rfl, ?_⟩; replace BK529 := bkb_ BK529 hb; replace HB := hbs_ hb; clear hb) | ((with_reducible refine gD_ 19 rfl ?_); refine Kd.R_lit (Kd.int .i64) _ 3 ?hg (N := 19) ?hd (xs := ([t530] : List Int)) (inner := [.int .i64 t530]) (ok := fun _ => True) (okp := fun _ => True) ?hr ?hp (fun _ hk => hk) trivial (Below.refl _ _) (Nat.le_refl _) (by simp) ?_; (case hd => rfl); (case hg => rfl); (case hr => first | (go_simp; done) | (go_simp; rfl)); (case hp => exact (Reps.one (show Kd.M (Kd.int .i64) _ _ _ t530 [.int .i64 t530] from rfl) (Reps.none _ _))); intro v532 w11 ho12 hb hg_ hnew_; clear hg_ hnew_; (first | rw [← Ny531.out] at ho12 | (simp only [Int.reduceToNat] at ho12; rw [← Ny531.out] at ho12)); have HO533 := aa_ (Kd.R_lower ho12 bls_); replace BK529 := bkb_ BK529 hb; replace HB := hbs_ hb; clear hb ho12))
  go_ret
  exact ⟨_, eq_, by (with_reducible repeat (first | apply Kd.R_alloc | apply Kd.R_drewN | apply Kd.R_drew)); exact HO533.out, bl_⟩
 ·rw [if_neg c7] at H
  have c7b0 : (a1_0 == 2) = false := beq_eq_false_iff_ne.mpr c7
  have c7b1 : (a1_0 != 2) = true := bne_iff_ne.mpr c7
  (first | rw [c7b0] | (simp only [i64_w, i32_w]; rw [c7b0]) | skip)
  by_cases c13 : a1_0 = 4
  ·rw [if_pos c13] at H
   have c13b0 : (a1_0 == 4) = true := beq_iff_eq.mpr c13
   have c13b1 : (a1_0 != 4) = false := bne_eq_false_iff_eq.mpr c13
   clear c13
   obtain ⟨t534, A14, H⟩ := bindE_ H
   obtain ⟨t535, A15, H⟩ := bindE_ H
   obtain ⟨y536, hy536⟩ : ∃ y_ : List Int, y_ = (([t534, t535] : List Int)) := ⟨_, rfl⟩
   replace H : (some y536) = some r := rh_ hy536 H
   have Ny536 := aa_ hy536
   clear hy536
   obtain rfl := Option.some.inj H
   try go_wp2
   replace BK529 := aa_ (blk_drew BK529.out)
   replace HB := aa_ (below_drew1 HB.out)
   refine start_ (n := 14) (S := fun w' => w'.cell? ⟨gb529, 0, none⟩ = some (.int .i64 a1_0) ∧ w'.cell? ⟨gb529, 1, none⟩ = some (.int .i64 a1_1) ∧ w'.cell? ⟨gb529, 2, none⟩ = some (.int .i64 a1_2) ∧ w'.cell? ⟨gb529, 3, none⟩ = some (.int .i64 a1_3) ∧ w'.cell? ⟨gb529, 4, none⟩ = some (.int .i64 a1_4) ∧ w'.cell? ⟨gb529, 5, none⟩ = some (.int .i64 a1_5) ∧ w'.cell? ⟨gb529, 6, none⟩ = some (.int .i64 a1_6) ∧ w'.cell? ⟨gb529, 7, none⟩ = some (.int .i64 a1_7) ∧ w'.cell? ⟨gb529, 8, none⟩ = some (.int .i64 a1_8) ∧ w'.cell? ⟨gb529, 9, none⟩ = some (.int .i64 a1_9)) (ds := []) #[false, false, false, false, false, false, false, false, false, false, false, false, false, false] (by kernel_rfl) rfl rfl ⟨(blk_cell BK529.out 0).trans rfl, (blk_cell BK529.out 1).trans rfl, (blk_cell BK529.out 2).trans rfl, (blk_cell BK529.out 3).trans rfl, (blk_cell BK529.out 4).trans rfl, (blk_cell BK529.out 5).trans rfl, (blk_cell BK529.out 6).trans rfl, (blk_cell BK529.out 7).trans rfl, (blk_cell BK529.out 8).trans rfl, (blk_cell BK529.out 9).trans rfl⟩ (fun hHeld => ?_); refine with_tabW spec_l07From.tab5 spec_l07From.bits5 (fun HT_ HW_ => ?_)
   generalize w5.drew = w16 at BK529 HB hHeld ⊢
   refine pureZ_ (i := 0) (some 22) #[true, false, false, false, false, false, false, false, false, false, false, false, false, false] (ao_ HT_) ?_
   refine pureZ_ (i := 1) (some 23) #[true, true, false, false, false, false, false, false, false, false, false, false, false, false] (ao_ HT_) ?_
   refine pureZ_ (i := 3) (some 25) #[true, true, false, true, false, false, false, false, false, false, false, false, false, false] (ao_ HT_) ?_
   refine pureZ_ (i := 6) (some 28) #[true, true, false, true, false, false, true, false, false, false, false, false, false, false] (ao_ HT_) ?_
   refine pureZ_ (i := 7) (some 29) #[true, true, false, true, false, false, true, true, false, false, false, false, false, false] (ao_ HT_) ?_
   refine pureZ_ (i := 9) (some 31) #[true, true, false, true, false, false, true, true, false, true, false, false, false, false] (ao_ HT_) ?_
   refine takeZ_ (i := 2) (some 24) #[true, true, true, true, false, false, true, true, false, true, false, false, false, false] (take_ofW HT_.out HW_.out (by kernel_rfl)) hHeld ?_
   refine pureZ_ (i := 4) (some 26) #[true, true, true, true, true, false, true, true, false, true, false, false, false, false] (ao_ HT_) ?_
   refine takeZ_ (i := 8) (some 30) #[true, true, true, true, true, false, true, true, true, true, false, false, false, false] (take_ofW HT_.out HW_.out (by kernel_rfl)) hHeld ?_
   refine pureZ_ (i := 10) (some 32) #[true, true, true, true, true, false, true, true, true, true, true, false, false, false] (ao_ HT_) ?_
   refine one_ (i := 5) (N := some 27) #[true, true, true, true, true, true, true, true, true, true, true, false, false, false] rfl rfl (one_of HT_.out (by kernel_rfl)) (by decide) (fun K hK => ?_)
   refine goes_ Try.func30 (by kernel_rfl) rfl #[.slice A0 l0.length c0, .agg #[.int .i64 a1_4, .int .i64 a1_5, .int .i64 a2]] (by rfl) rfl rfl (by (try simp only [List.map_toArray, List.map_cons, List.map_nil]); first | done | rfl | (simp only [List.length_drop, List.length_take]; rfl)) ?_
   with_reducible refine (spec_l07At.calls k _ _ l0 a1_4 a1_5 a2 t534 _ ?side1 ?side2 A14.out).mono ?_
   (case side1 => repeat (first | exact (Kd.C_below HR0.out HB.out) | (with_reducible refine Kd.C_alloc ?_ _) | (with_reducible refine Kd.C_drewN ?_ _) | (with_reducible refine Kd.C_drew ?_)))
   (case side2 => exact HC0.out)
   rintro e w17 ⟨rfl, hb⟩
   refine ⟨_, rfl, ?_⟩
   replace BK529 := bkb_ BK529 hb
   replace HB := hbs_ hb
   (try clear hb)
   (try clear hb2)
   (try clear hk)
   (try clear hi)
   refine hK.out _ _ ⟨(blk_cell BK529.out 0).trans rfl, (blk_cell BK529.out 1).trans rfl, (blk_cell BK529.out 2).trans rfl, (blk_cell BK529.out 3).trans rfl, (blk_cell BK529.out 4).trans rfl, (blk_cell BK529.out 5).trans rfl, (blk_cell BK529.out 6).trans rfl, (blk_cell BK529.out 7).trans rfl, (blk_cell BK529.out 8).trans rfl, (blk_cell BK529.out 9).trans rfl⟩ (fun hHeld => ?_)
   clear hK K
   refine norm_ (a' := ?_) ?_ ?_
   rotate_left
   ·show Act.put _ (some 27) _ = _
    simp only [Act.put, List.setIfInBounds_toArray, List.set_cons_zero, List.set_cons_succ, i64_w, i32_w]
    rfl
   refine one_ (i := 11) (N := some 33) #[true, true, true, true, true, true, true, true, true, true, true, true, false, false] rfl rfl (one_of HT_.out (by kernel_rfl)) (by decide) (fun K hK => ?_)
   refine goes_ Try.func30 (by kernel_rfl) rfl #[.slice A0 l0.length c0, .agg #[.int .i64 a1_6, .int .i64 a1_7, .int .i64 a2]] (by rfl) rfl rfl (by (try simp only [List.map_toArray, List.map_cons, List.map_nil]); first | done | rfl | (simp only [List.length_drop, List.length_take]; rfl)) ?_
   with_reducible refine (spec_l07At.calls k _ _ l0 a1_6 a1_7 a2 t535 _ ?side1 ?side2 A15.out).mono ?_
   (case side1 => repeat (first | exact (Kd.C_below HR0.out HB.out) | (with_reducible refine Kd.C_alloc ?_ _) | (with_reducible refine Kd.C_drewN ?_ _) | (with_reducible refine Kd.C_drew ?_)))
   (case side2 => exact HC0.out)
   rintro e w18 ⟨rfl, hb⟩
   refine ⟨_, rfl, ?_⟩
   replace BK529 := bkb_ BK529 hb
   replace HB := hbs_ hb
   (try clear hb)
   (try clear hb2)
   (try clear hk)
   (try clear hi)
   refine hK.out _ _ ⟨(blk_cell BK529.out 0).trans rfl, (blk_cell BK529.out 1).trans rfl, (blk_cell BK529.out 2).trans rfl, (blk_cell BK529.out 3).trans rfl, (blk_cell BK529.out 4).trans rfl, (blk_cell BK529.out 5).trans rfl, (blk_cell BK529.out 6).trans rfl, (blk_cell BK529.out 7).trans rfl, (blk_cell BK529.out 8).trans rfl, (blk_cell BK529.out 9).trans rfl⟩ (fun hHeld => ?_)
   clear hK K
   refine norm_ (a' := ?_) ?_ ?_
   rotate_left
   ·show Act.put _ (some 33) _ = _
    simp only [Act.put, List.setIfInBounds_toArray, List.set_cons_zero, List.set_cons_succ, i64_w, i32_w]
    rfl
   refine one_ (i := 12) (N := some 34) #[true, true, true, true, true, true, true, true, true, true, true, true, true, false] rfl rfl (one_of HT_.out (by kernel_rfl)) (by decide) (fun K hK => ?_)
   refine Kd.R_lit_step (Kd.int .i64) _ 3 ?hg (N := 34) ?hd (xs := ([t534, t535] : List Int)) (inner := [.int .i64 t534, .int .i64 t535]) (ok := fun _ => True) (okp := fun _ => True) ?hr ?hp (fun _ hk => hk) trivial (Below.refl _ _) (Nat.le_refl _) (by simp) ?_; (case hd => rfl); (case hg => rfl); (case hr => first | (go_simp; done) | (go_simp; rfl)); (case hp => exact (Reps.one (show Kd.M (Kd.int .i64) _ _ _ t534 [.int .i64 t534] from rfl) (Reps.one (show Kd.M (Kd.int .i64) _ _ _ t535 [.int .i64 t535] from rfl) (Reps.none _ _))))
   intro v537 w19 ho20 hb hg_ hnew_
   clear hg_ hnew_
   (first | rw [← Ny536.out] at ho20 | (simp only [Int.reduceToNat] at ho20; rw [← Ny536.out] at ho20))
   have HO538 := aa_ (Kd.R_lower ho20 bls_)
   replace BK529 := bkb_ BK529 hb
   replace HB := hbs_ hb
   clear hb ho20
   refine hK.out _ _ ⟨(blk_cell BK529.out 0).trans rfl, (blk_cell BK529.out 1).trans rfl, (blk_cell BK529.out 2).trans rfl, (blk_cell BK529.out 3).trans rfl, (blk_cell BK529.out 4).trans rfl, (blk_cell BK529.out 5).trans rfl, (blk_cell BK529.out 6).trans rfl, (blk_cell BK529.out 7).trans rfl, (blk_cell BK529.out 8).trans rfl, (blk_cell BK529.out 9).trans rfl⟩ (fun hHeld => ?_)
   clear hK K
   refine norm_ (a' := ?_) ?_ ?_
   rotate_left
   ·show Act.put _ (some 34) _ = _
    simp only [Act.put, List.setIfInBounds_toArray, List.set_cons_zero, List.set_cons_succ, i64_w, i32_w]
    rfl
   refine pureZ_ (i := 13) (some 6) #[true, true, true, true, true, true, true, true, true, true, true, true, true, true] (ao_ HT_) ?_
   refine done_ (done_of HT_.out (by kernel_rfl)) ?_
   try go_wp2
   go_ret
   exact ⟨_, eq_, by (with_reducible repeat (first | apply Kd.R_alloc | apply Kd.R_drewN | apply Kd.R_drew)); exact HO538.out, bl_⟩
  ·rw [if_neg c13] at H
   have c13b0 : (a1_0 == 4) = false := beq_eq_false_iff_ne.mpr c13
   have c13b1 : (a1_0 != 4) = true := bne_iff_ne.mpr c13
   by_cases c21 : a1_0 = 3
   ·rw [if_pos c21] at H
    have c21b0 : (a1_0 == 3) = true := beq_iff_eq.mpr c21
    have c21b1 : (a1_0 != 3) = false := bne_eq_false_iff_eq.mpr c21
    clear c21
    have H' := aa_ H
    clear H
    go_wp2
    go_loopg [7] k (fun kq v7 w' => ∃ (x7_1 : Int), v7 = .int .i64 x7_1 ∧ Aside0 (spec_l07From.l0 kq l0 a2 x7_1 a1_0 a1_1 a1_2 a1_3 a1_4 a1_5 a1_6 a1_7 a1_8 a1_9 = some r) ∧ Aside0 (kq ≤ k) ∧ Aside0 (w'.heap[gb529]? = some (.cells #[.int .i64 a1_0, .int .i64 a1_1, .int .i64 a1_2, .int .i64 a1_3, .int .i64 a1_4, .int .i64 a1_5, .int .i64 a1_6, .int .i64 a1_7, .int .i64 a1_8, .int .i64 a1_9] 46 (0, 0))) ∧ Aside0 (Below w.heap.size w w'))
    case atStart => exact ⟨(0), rf_, H', ⟨Nat.le_refl _⟩, ⟨bk_ BK529⟩, ⟨bl_⟩⟩
    case round =>
     clear H'
     try clear c1
     try clear c2
     try clear p2
     try clear c3
     try clear c4
     try clear c7
     try clear c7b0
     try clear c7b1
     try clear c13
     try clear c13b0
     try clear c13b1
     try clear c21
     try clear c21b0
     try clear c21b1
     try clear hcz6
     try clear hcz9
     try clear hfz6
     try clear hfz9
     obtain ⟨x7_1, rfl, HA, HK1, BK529, HB⟩ := hrel
     cases gk with
     | zero => exact absurd HA.out (by simp [spec_l07From.l0])
     | succ k1 =>
      have H := HA.out
      clear HA
      simp only [spec_l07From.l0] at H
      by_cases c22 : x7_1 < (l0.length : Int)
      ·rw [if_pos c22] at H
       have c22b0 : decide (x7_1 < (l0.length : Int)) = true := decide_eq_true c22
       clear c22
       obtain ⟨c23b0, H⟩ := ifd_ H
       have HC24 := aa_ H
       clear H
       try go_wp2
       replace BK529 := aa_ (blk_drew BK529.out)
       replace HB := aa_ (below_drew1 HB.out)
       have p542 : 0 ≤ (x7_1 : Int) := od_
       have q542 : x7_1 < (l0.length : Int) := od_
       obtain ⟨ad542, A542_13, c542_13, e542, hx542_0, hx542_1, hx542_2, hx542_3, hx542_4, hx542_5, hx542_6, hx542_7, hx542_8, hx542_9, hx542_10, hx542_11, hx542_12, hx542_13, hl542_13, hi542_13⟩ := at_T63 HR0.out x7_1 p542 q542
       have hw542_13 := hx542_13
       have hw542_12 := hx542_12
       have hw542_11 := hx542_11
       have hw542_10 := hx542_10
       have hw542_9 := hx542_9
       have hw542_8 := hx542_8
       have hw542_7 := hx542_7
       have hw542_6 := hx542_6
       have hw542_5 := hx542_5
       have hw542_4 := hx542_4
       have hw542_3 := hx542_3
       have hw542_2 := hx542_2
       have hw542_1 := hx542_1
       have hw542_0 := hx542_0
       cases e542
       replace hx542_0 := cb_ HB hx542_0
       replace hx542_1 := cb_ HB hx542_1
       replace hx542_2 := cb_ HB hx542_2
       replace hx542_3 := cb_ HB hx542_3
       replace hx542_4 := cb_ HB hx542_4
       replace hx542_5 := cb_ HB hx542_5
       replace hx542_6 := cb_ HB hx542_6
       replace hx542_7 := cb_ HB hx542_7
       replace hx542_8 := cb_ HB hx542_8
       replace hx542_9 := cb_ HB hx542_9
       replace hx542_10 := cb_ HB hx542_10
       replace hx542_11 := cb_ HB hx542_11
       replace hx542_12 := cb_ HB hx542_12
       replace hx542_13 := cb_ HB hx542_13
       have HR542_13 := aa_ hi542_13
       have HC542_13 := aa_ hl542_13
       clear hi542_13 hl542_13
       replace p542 := eq_true p542
       replace q542 := eq_true q542
       refine start_ (n := 9) (S := fun w' => w'.cell? ⟨gb529, 0, none⟩ = some (.int .i64 a1_0) ∧ w'.cell? ⟨gb529, 1, none⟩ = some (.int .i64 a1_1) ∧ w'.cell? ⟨gb529, 2, none⟩ = some (.int .i64 a1_2) ∧ w'.cell? ⟨gb529, 3, none⟩ = some (.int .i64 a1_3) ∧ w'.cell? ⟨gb529, 4, none⟩ = some (.int .i64 a1_4) ∧ w'.cell? ⟨gb529, 5, none⟩ = some (.int .i64 a1_5) ∧ w'.cell? ⟨gb529, 6, none⟩ = some (.int .i64 a1_6) ∧ w'.cell? ⟨gb529, 7, none⟩ = some (.int .i64 a1_7) ∧ w'.cell? ⟨gb529, 8, none⟩ = some (.int .i64 a1_8) ∧ w'.cell? ⟨gb529, 9, none⟩ = some (.int .i64 a1_9) ∧ w'.cell? (ad542.add ((x7_1).toNat * 14)) = some (.int .i64 ((rd_T63 l0 x7_1).f0.f0)) ∧ w'.cell? ⟨(ad542.add ((x7_1).toNat * 14)).block, (ad542.add ((x7_1).toNat * 14)).off + 1, none⟩ = some (.int .i64 ((rd_T63 l0 x7_1).f0.f1.f0)) ∧ w'.cell? ⟨(ad542.add ((x7_1).toNat * 14)).block, (ad542.add ((x7_1).toNat * 14)).off + 2, none⟩ = some (.int .i64 ((rd_T63 l0 x7_1).f0.f1.f1)) ∧ w'.cell? ⟨(ad542.add ((x7_1).toNat * 14)).block, (ad542.add ((x7_1).toNat * 14)).off + 3, none⟩ = some (.int .i64 ((rd_T63 l0 x7_1).f0.f2)) ∧ w'.cell? ⟨(ad542.add ((x7_1).toNat * 14)).block, (ad542.add ((x7_1).toNat * 14)).off + 4, none⟩ = some (.int .i64 ((rd_T63 l0 x7_1).f0.f3.f0)) ∧ w'.cell? ⟨(ad542.add ((x7_1).toNat * 14)).block, (ad542.add ((x7_1).toNat * 14)).off + 5, none⟩ = some (.int .i64 ((rd_T63 l0 x7_1).f0.f3.f1)) ∧ w'.cell? ⟨(ad542.add ((x7_1).toNat * 14)).block, (ad542.add ((x7_1).toNat * 14)).off + 6, none⟩ = some (.int .i64 ((rd_T63 l0 x7_1).f0.f4.f0)) ∧ w'.cell? ⟨(ad542.add ((x7_1).toNat * 14)).block, (ad542.add ((x7_1).toNat * 14)).off + 7, none⟩ = some (.int .i64 ((rd_T63 l0 x7_1).f0.f4.f1)) ∧ w'.cell? ⟨(ad542.add ((x7_1).toNat * 14)).block, (ad542.add ((x7_1).toNat * 14)).off + 8, none⟩ = some (.int .i64 ((rd_T63 l0 x7_1).f0.f5)) ∧ w'.cell? ⟨(ad542.add ((x7_1).toNat * 14)).block, (ad542.add ((x7_1).toNat * 14)).off + 9, none⟩ = some (.int .i64 ((rd_T63 l0 x7_1).f0.f6)) ∧ w'.cell? ⟨(ad542.add ((x7_1).toNat * 14)).block, (ad542.add ((x7_1).toNat * 14)).off + 10, none⟩ = some (.int .i64 ((rd_T63 l0 x7_1).f1.f0.f0)) ∧ w'.cell? ⟨(ad542.add ((x7_1).toNat * 14)).block, (ad542.add ((x7_1).toNat * 14)).off + 11, none⟩ = some (.int .i64 ((rd_T63 l0 x7_1).f1.f0.f1)) ∧ w'.cell? ⟨(ad542.add ((x7_1).toNat * 14)).block, (ad542.add ((x7_1).toNat * 14)).off + 12, none⟩ = some (.int .i64 ((rd_T63 l0 x7_1).f1.f1)) ∧ w'.cell? ⟨(ad542.add ((x7_1).toNat * 14)).block, (ad542.add ((x7_1).toNat * 14)).off + 13, none⟩ = some (.slice A542_13 ((rd_T63 l0 x7_1).f2).length c542_13)) (ds := []) #[false, false, false, false, false, false, false, false, false] (by kernel_rfl) rfl rfl ⟨(blk_cell BK529.out 0).trans rfl, (blk_cell BK529.out 1).trans rfl, (blk_cell BK529.out 2).trans rfl, (blk_cell BK529.out 3).trans rfl, (blk_cell BK529.out 4).trans rfl, (blk_cell BK529.out 5).trans rfl, (blk_cell BK529.out 6).trans rfl, (blk_cell BK529.out 7).trans rfl, (blk_cell BK529.out 8).trans rfl, (blk_cell BK529.out 9).trans rfl, (cb_ HB hw542_0 :), (cb_ HB hw542_1 :), (cb_ HB hw542_2 :), (cb_ HB hw542_3 :), (cb_ HB hw542_4 :), (cb_ HB hw542_5 :), (cb_ HB hw542_6 :), (cb_ HB hw542_7 :), (cb_ HB hw542_8 :), (cb_ HB hw542_9 :), (cb_ HB hw542_10 :), (cb_ HB hw542_11 :), (cb_ HB hw542_12 :), (cb_ HB hw542_13 :)⟩ (fun hHeld => ?_); refine with_tabW spec_l07From.tab10 spec_l07From.bits10 (fun HT_ HW_ => ?_)
       generalize wr.drew = w25 at BK529 HB HR542_13 hx542_0 hx542_1 hx542_10 hx542_11 hx542_12 hx542_13 hx542_2 hx542_3 hx542_4 hx542_5 hx542_6 hx542_7 hx542_8 hx542_9 hHeld ⊢
       refine pureZ_ (i := 0) (some 43) #[true, false, false, false, false, false, false, false, false] (ao_ HT_) ?_
       refine pureZ_ (i := 1) (some 44) #[true, true, false, false, false, false, false, false, false] (ao_ HT_) ?_
       refine pureZ_ (i := 2) (some 45) #[true, true, true, false, false, false, false, false, false] (ao_ HT_) ?_
       refine pureZ_ (i := 3) (some 46) #[true, true, true, true, false, false, false, false, false] (ao_ HT_) ?_
       refine pureZ_ (i := 4) (some 47) #[true, true, true, true, true, false, false, false, false] (ao_ HT_) ?_
       refine pureZ_ (i := 6) (some 49) #[true, true, true, true, true, false, true, false, false] (ao_ HT_) ?_
       refine takeZ_ (i := 5) (some 48) #[true, true, true, true, true, true, true, false, false] (take_ofW HT_.out HW_.out (by kernel_rfl)) hHeld ?_
       refine takeZ_ (i := 7) (some 50) #[true, true, true, true, true, true, true, true, false] (take_ofW HT_.out HW_.out (by kernel_rfl)) hHeld ?_
       refine pureZ_ (i := 8) (some 51) #[true, true, true, true, true, true, true, true, true] (ao_ HT_) ?_
       refine done_ (done_of HT_.out (by kernel_rfl)) ?_
       go_upto_if 51 with (fail)
       have H := HC24.out
       clear HC24
       by_cases c26 : (!(((rd_T63 l0 x7_1).f1.f0.f0) == a1_4) || (!(((rd_T63 l0 x7_1).f1.f0.f1) == a1_5))) = true
       ·rw [if_pos c26] at H
        have c26b0 : (!(((rd_T63 l0 x7_1).f1.f0.f0) == a1_4) || (!(((rd_T63 l0 x7_1).f1.f0.f1) == a1_5))) = true := c26
        clear c26
        (first | rw [c26b0] | (simp only [i64_w, i32_w]; rw [c26b0]) | skip)
        have H' := aa_ H
        clear H
        go_wp2
        go_roundg k1
        case measure => have := HK1.out; omega
        case rel => exact ⟨(wrap64 (x7_1 + 1)), rf_, H', ⟨by have := HK1.out; omega⟩, ⟨bk_ BK529⟩, ⟨bl_⟩⟩
       ·rw [if_neg c26] at H
        have c26b0 : (!(((rd_T63 l0 x7_1).f1.f0.f0) == a1_4) || (!(((rd_T63 l0 x7_1).f1.f0.f1) == a1_5))) = false := by simpa using c26
        clear c26
        (first | rw [c26b0] | (simp only [i64_w, i32_w]; rw [c26b0]) | skip)
        obtain ⟨t544, A27, H⟩ := bindE_ H
        have HC28 := aa_ H
        clear H
        try go_wp2
        replace BK529 := aa_ (blk_drew BK529.out)
        replace HB := aa_ (below_drew1 HB.out)
        have p543 : 0 ≤ (x7_1 : Int) := od_
        have q543 : x7_1 < (l0.length : Int) := od_
        obtain ⟨ad543, A543_13, c543_13, e543, hx543_0, hx543_1, hx543_2, hx543_3, hx543_4, hx543_5, hx543_6, hx543_7, hx543_8, hx543_9, hx543_10, hx543_11, hx543_12, hx543_13, hl543_13, hi543_13⟩ := at_T63 HR0.out x7_1 p543 q543
        have hw543_13 := hx543_13
        have hw543_12 := hx543_12
        have hw543_11 := hx543_11
        have hw543_10 := hx543_10
        have hw543_9 := hx543_9
        have hw543_8 := hx543_8
        have hw543_7 := hx543_7
        have hw543_6 := hx543_6
        have hw543_5 := hx543_5
        have hw543_4 := hx543_4
        have hw543_3 := hx543_3
        have hw543_2 := hx543_2
        have hw543_1 := hx543_1
        have hw543_0 := hx543_0
        obtain rfl : ad542 = ad543 := (by injection e543)
        replace hx543_0 := cb_ HB hx543_0
        replace hx543_1 := cb_ HB hx543_1
        replace hx543_2 := cb_ HB hx543_2
        replace hx543_3 := cb_ HB hx543_3
        replace hx543_4 := cb_ HB hx543_4
        replace hx543_5 := cb_ HB hx543_5
        replace hx543_6 := cb_ HB hx543_6
        replace hx543_7 := cb_ HB hx543_7
        replace hx543_8 := cb_ HB hx543_8
        replace hx543_9 := cb_ HB hx543_9
        replace hx543_10 := cb_ HB hx543_10
        replace hx543_11 := cb_ HB hx543_11
        replace hx543_12 := cb_ HB hx543_12
        replace hx543_13 := cb_ HB hx543_13
        have HR543_13 := aa_ hi543_13
        have HC543_13 := aa_ hl543_13
        clear hi543_13 hl543_13
        replace p543 := eq_true p543
        replace q543 := eq_true q543
        refine start_ (n := 15) (S := fun w' => w'.cell? ⟨gb529, 0, none⟩ = some (.int .i64 a1_0) ∧ w'.cell? ⟨gb529, 1, none⟩ = some (.int .i64 a1_1) ∧ w'.cell? ⟨gb529, 2, none⟩ = some (.int .i64 a1_2) ∧ w'.cell? ⟨gb529, 3, none⟩ = some (.int .i64 a1_3) ∧ w'.cell? ⟨gb529, 4, none⟩ = some (.int .i64 a1_4) ∧ w'.cell? ⟨gb529, 5, none⟩ = some (.int .i64 a1_5) ∧ w'.cell? ⟨gb529, 6, none⟩ = some (.int .i64 a1_6) ∧ w'.cell? ⟨gb529, 7, none⟩ = some (.int .i64 a1_7) ∧ w'.cell? ⟨gb529, 8, none⟩ = some (.int .i64 a1_8) ∧ w'.cell? ⟨gb529, 9, none⟩ = some (.int .i64 a1_9) ∧ w'.cell? (ad542.add ((x7_1).toNat * 14)) = some (.int .i64 ((rd_T63 l0 x7_1).f0.f0)) ∧ w'.cell? ⟨(ad542.add ((x7_1).toNat * 14)).block, (ad542.add ((x7_1).toNat * 14)).off + 1, none⟩ = some (.int .i64 ((rd_T63 l0 x7_1).f0.f1.f0)) ∧ w'.cell? ⟨(ad542.add ((x7_1).toNat * 14)).block, (ad542.add ((x7_1).toNat * 14)).off + 2, none⟩ = some (.int .i64 ((rd_T63 l0 x7_1).f0.f1.f1)) ∧ w'.cell? ⟨(ad542.add ((x7_1).toNat * 14)).block, (ad542.add ((x7_1).toNat * 14)).off + 3, none⟩ = some (.int .i64 ((rd_T63 l0 x7_1).f0.f2)) ∧ w'.cell? ⟨(ad542.add ((x7_1).toNat * 14)).block, (ad542.add ((x7_1).toNat * 14)).off + 4, none⟩ = some (.int .i64 ((rd_T63 l0 x7_1).f0.f3.f0)) ∧ w'.cell? ⟨(ad542.add ((x7_1).toNat * 14)).block, (ad542.add ((x7_1).toNat * 14)).off + 5, none⟩ = some (.int .i64 ((rd_T63 l0 x7_1).f0.f3.f1)) ∧ w'.cell? ⟨(ad542.add ((x7_1).toNat * 14)).block, (ad542.add ((x7_1).toNat * 14)).off + 6, none⟩ = some (.int .i64 ((rd_T63 l0 x7_1).f0.f4.f0)) ∧ w'.cell? ⟨(ad542.add ((x7_1).toNat * 14)).block, (ad542.add ((x7_1).toNat * 14)).off + 7, none⟩ = some (.int .i64 ((rd_T63 l0 x7_1).f0.f4.f1)) ∧ w'.cell? ⟨(ad542.add ((x7_1).toNat * 14)).block, (ad542.add ((x7_1).toNat * 14)).off + 8, none⟩ = some (.int .i64 ((rd_T63 l0 x7_1).f0.f5)) ∧ w'.cell? ⟨(ad542.add ((x7_1).toNat * 14)).block, (ad542.add ((x7_1).toNat * 14)).off + 9, none⟩ = some (.int .i64 ((rd_T63 l0 x7_1).f0.f6)) ∧ w'.cell? ⟨(ad542.add ((x7_1).toNat * 14)).block, (ad542.add ((x7_1).toNat * 14)).off + 10, none⟩ = some (.int .i64 ((rd_T63 l0 x7_1).f1.f0.f0)) ∧ w'.cell? ⟨(ad542.add ((x7_1).toNat * 14)).block, (ad542.add ((x7_1).toNat * 14)).off + 11, none⟩ = some (.int .i64 ((rd_T63 l0 x7_1).f1.f0.f1)) ∧ w'.cell? ⟨(ad542.add ((x7_1).toNat * 14)).block, (ad542.add ((x7_1).toNat * 14)).off + 12, none⟩ = some (.int .i64 ((rd_T63 l0 x7_1).f1.f1)) ∧ w'.cell? ⟨(ad542.add ((x7_1).toNat * 14)).block, (ad542.add ((x7_1).toNat * 14)).off + 13, none⟩ = some (.slice A543_13 ((rd_T63 l0 x7_1).f2).length c543_13)) (ds := []) #[false, false, false, false, false, false, false, false, false, false, false, false, false, false, false] (by kernel_rfl) rfl rfl ⟨(blk_cell BK529.out 0).trans rfl, (blk_cell BK529.out 1).trans rfl, (blk_cell BK529.out 2).trans rfl, (blk_cell BK529.out 3).trans rfl, (blk_cell BK529.out 4).trans rfl, (blk_cell BK529.out 5).trans rfl, (blk_cell BK529.out 6).trans rfl, (blk_cell BK529.out 7).trans rfl, (blk_cell BK529.out 8).trans rfl, (blk_cell BK529.out 9).trans rfl, (cb_ HB hw543_0 :), (cb_ HB hw543_1 :), (cb_ HB hw543_2 :), (cb_ HB hw543_3 :), (cb_ HB hw543_4 :), (cb_ HB hw543_5 :), (cb_ HB hw543_6 :), (cb_ HB hw543_7 :), (cb_ HB hw543_8 :), (cb_ HB hw543_9 :), (cb_ HB hw543_10 :), (cb_ HB hw543_11 :), (cb_ HB hw543_12 :), (cb_ HB hw543_13 :)⟩ (fun hHeld => ?_); refine with_tabW spec_l07From.tab11 spec_l07From.bits11 (fun HT_ HW_ => ?_)
        generalize w25.drew = w29 at BK529 HB HR543_13 hx543_0 hx543_1 hx543_10 hx543_11 hx543_12 hx543_13 hx543_2 hx543_3 hx543_4 hx543_5 hx543_6 hx543_7 hx543_8 hx543_9 hHeld ⊢
        refine pureZ_ (i := 0) (some 52) #[true, false, false, false, false, false, false, false, false, false, false, false, false, false, false] (ao_ HT_) ?_
        refine pureZ_ (i := 1) (some 53) #[true, true, false, false, false, false, false, false, false, false, false, false, false, false, false] (ao_ HT_) ?_
        refine pureZ_ (i := 2) (some 54) #[true, true, true, false, false, false, false, false, false, false, false, false, false, false, false] (ao_ HT_) ?_
        refine pureZ_ (i := 3) (some 55) #[true, true, true, true, false, false, false, false, false, false, false, false, false, false, false] (ao_ HT_) ?_
        refine pureZ_ (i := 4) (some 56) #[true, true, true, true, true, false, false, false, false, false, false, false, false, false, false] (ao_ HT_) ?_
        refine pureZ_ (i := 5) (some 57) #[true, true, true, true, true, true, false, false, false, false, false, false, false, false, false] (ao_ HT_) ?_
        refine pureZ_ (i := 7) (some 59) #[true, true, true, true, true, true, false, true, false, false, false, false, false, false, false] (ao_ HT_) ?_
        refine pureZ_ (i := 8) (some 60) #[true, true, true, true, true, true, false, true, true, false, false, false, false, false, false] (ao_ HT_) ?_
        refine pureZ_ (i := 11) (some 63) #[true, true, true, true, true, true, false, true, true, false, false, true, false, false, false] (ao_ HT_) ?_
        refine takeZ_ (i := 6) (some 58) #[true, true, true, true, true, true, true, true, true, false, false, true, false, false, false] (take_ofW HT_.out HW_.out (by kernel_rfl)) hHeld ?_
        refine takeZ_ (i := 9) (some 61) #[true, true, true, true, true, true, true, true, true, true, false, true, false, false, false] (take_ofW HT_.out HW_.out (by kernel_rfl)) hHeld ?_
        refine pureZ_ (i := 10) (some 62) #[true, true, true, true, true, true, true, true, true, true, true, true, false, false, false] (ao_ HT_) ?_
        refine pureZ_ (i := 12) (some 64) #[true, true, true, true, true, true, true, true, true, true, true, true, true, false, false] (ao_ HT_) ?_
        refine one_ (i := 13) (N := some 65) #[true, true, true, true, true, true, true, true, true, true, true, true, true, true, false] rfl rfl (one_of HT_.out (by kernel_rfl)) (by decide) (fun K hK => ?_)
        refine goes_ Try.func30 (by kernel_rfl) rfl #[.slice (some ad542) l0.length c0, .agg #[.int .i64 ((rd_T63 l0 x7_1).f1.f1), .int .i64 a1_7, .int .i64 a2]] (by rfl) rfl rfl (by (try simp only [List.map_toArray, List.map_cons, List.map_nil]); first | done | rfl | (simp only [List.length_drop, List.length_take]; rfl)) ?_
        with_reducible refine (spec_l07At.calls k1 _ _ l0 ((rd_T63 l0 x7_1).f1.f1) a1_7 a2 t544 _ ?side1 ?side2 A27.out).mono ?_
        (case side1 => repeat (first | exact (Kd.C_below HR0.out HB.out) | (with_reducible refine Kd.C_alloc ?_ _) | (with_reducible refine Kd.C_drewN ?_ _) | (with_reducible refine Kd.C_drew ?_)))
        (case side2 => exact HC0.out)
        rintro e w30 ⟨rfl, hb⟩
        refine ⟨_, rfl, ?_⟩
        replace BK529 := bkb_ BK529 hb
        replace HB := hbs_ hb
        (try clear hb)
        (try clear hb2)
        (try clear hk)
        (try clear hi)
        refine hK.out _ _ ⟨(blk_cell BK529.out 0).trans rfl, (blk_cell BK529.out 1).trans rfl, (blk_cell BK529.out 2).trans rfl, (blk_cell BK529.out 3).trans rfl, (blk_cell BK529.out 4).trans rfl, (blk_cell BK529.out 5).trans rfl, (blk_cell BK529.out 6).trans rfl, (blk_cell BK529.out 7).trans rfl, (blk_cell BK529.out 8).trans rfl, (blk_cell BK529.out 9).trans rfl, (cb_ HB hw543_0 :), (cb_ HB hw543_1 :), (cb_ HB hw543_2 :), (cb_ HB hw543_3 :), (cb_ HB hw543_4 :), (cb_ HB hw543_5 :), (cb_ HB hw543_6 :), (cb_ HB hw543_7 :), (cb_ HB hw543_8 :), (cb_ HB hw543_9 :), (cb_ HB hw543_10 :), (cb_ HB hw543_11 :), (cb_ HB hw543_12 :), (cb_ HB hw543_13 :)⟩ (fun hHeld => ?_)
        clear hK K
        refine norm_ (a' := ?_) ?_ ?_
        rotate_left
        ·show Act.put _ (some 65) _ = _
         simp only [Act.put, List.setIfInBounds_toArray, List.set_cons_zero, List.set_cons_succ, i64_w, i32_w]
         rfl
        refine pureZ_ (i := 14) (some 8) #[true, true, true, true, true, true, true, true, true, true, true, true, true, true, true] (ao_ HT_) ?_
        refine done_ (done_of HT_.out (by kernel_rfl)) ?_
        go_upto_if 67 with (fail)
        have H := HC28.out
        clear HC28
        by_cases c31 : t544 ≥ 0
        ·rw [if_pos c31] at H
         have c31b0 : decide (0 ≤ t544) = true := decide_eq_true c31
         clear c31
         (first | rw [c31b0] | (simp only [i64_w, i32_w]; rw [c31b0]) | skip)
         obtain ⟨y545, hy545⟩ : ∃ y_ : List Int, y_ = (([x7_1, t544] : List Int)) := ⟨_, rfl⟩
         replace H : (some y545) = some r := rh_ hy545 H
         have Ny545 := aa_ hy545
         clear hy545
         obtain rfl := Option.some.inj H
         go_wp2_with (first | ((with_reducible refine gD_ 70 rfl ?_); refine Kd.R_lit (Kd.int .i64) _ 3 ?hg (N := 70) ?hd (xs := ([x7_1, t544] : List Int)) (inner := [.int .i64 x7_1, .int .i64 t544]) (ok := fun _ => True) (okp := fun _ => True) ?hr ?hp (fun _ hk => hk) trivial (Below.refl _ _) (Nat.le_refl _) (by simp) ?_; (case hd => rfl); (case hg => rfl); (case hr => first | (go_simp; done) | (go_simp; rfl)); (case hp => exact (Reps.one (show Kd.M (Kd.int .i64) _ _ _ x7_1 [.int .i64 x7_1] from rfl) (Reps.one (show Kd.M (Kd.int .i64) _ _ _ t544 [.int .i64 t544] from rfl) (Reps.none _ _)))); intro v546 w32 ho33 hb hg_ hnew_; clear hg_ hnew_; (first | rw [← Ny545.out] at ho33 | (simp only [Int.reduceToNat] at ho33; rw [← Ny545.out] at ho33)); have HO547 := aa_ (Kd.R_lower ho33 bls_); replace BK529 := bkb_ BK529 hb; replace HB := hbs_ hb; clear hb ho33))
         go_ret
         exact ⟨_, eq_, by (with_reducible repeat (first | apply Kd.R_alloc | apply Kd.R_drewN | apply Kd.R_drew)); exact HO547.out, bl_⟩
        ·rw [if_neg c31] at H
         have c31b0 : decide (0 ≤ t544) = false := decide_eq_false c31
         clear c31
         (first | rw [c31b0] | (simp only [i64_w, i32_w]; rw [c31b0]) | skip)
         have H' := aa_ H
         clear H
         go_wp2
         go_roundg k1
         case measure => have := HK1.out; omega
         case rel => exact ⟨(wrap64 (x7_1 + 1)), rf_, H', ⟨by have := HK1.out; omega⟩, ⟨bk_ BK529⟩, ⟨bl_⟩⟩
      ·rw [if_neg c22] at H
       have c22b0 : decide (x7_1 < (l0.length : Int)) = false := decide_eq_false c22
       clear c22
       obtain ⟨y539, hy539⟩ : ∃ y_ : List Int, y_ = (([] : List Int)) := ⟨_, rfl⟩
       replace H : (some y539) = some r := rh_ hy539 H
       have Ny539 := aa_ hy539
       clear hy539
       obtain rfl := Option.some.inj H
       go_wp2_with (first | ((with_reducible refine gD_ 71 rfl ?_); refine Kd.R_lit (Kd.int .i64) _ 3 ?hg (N := 71) ?hd (xs := ([] : List Int)) (inner := []) (ok := fun _ => True) (okp := fun _ => True) ?hr ?hp (fun _ hk => hk) trivial (Below.refl _ _) (Nat.le_refl _) (by simp) ?_; (case hd => rfl); (case hg => rfl); (case hr => first | (go_simp; done) | (go_simp; rfl)); (case hp => exact (Reps.none _ _)); intro v540 w34 ho35 hb hg_ hnew_; clear hg_ hnew_; (first | rw [← Ny539.out] at ho35 | (simp only [Int.reduceToNat] at ho35; rw [← Ny539.out] at ho35)); have HO541 := aa_ (Kd.R_lower ho35 bls_); replace BK529 := bkb_ BK529 hb; replace HB := hbs_ hb; clear hb ho35))
       go_ret
       exact ⟨_, eq_, by (with_reducible repeat (first | apply Kd.R_alloc | apply Kd.R_drewN | apply Kd.R_drew)); exact HO541.out, bl_⟩
   ·rw [if_neg c21] at H
    have c21b0 : (a1_0 == 3) = false := beq_eq_false_iff_ne.mpr c21
    have c21b1 : (a1_0 != 3) = true := bne_iff_ne.mpr c21
    obtain ⟨y548, hy548⟩ : ∃ y_ : List Int, y_ = (([] : List Int)) := ⟨_, rfl⟩
    replace H : (some y548) = some r := rh_ hy548 H
    have Ny548 := aa_ hy548
    clear hy548
    obtain rfl := Option.some.inj H
    go_wp2_with (first | ((with_reducible refine gD_ 71 rfl ?_); refine Kd.R_lit (Kd.int .i64) _ 3 ?hg (N := 71) ?hd (xs := ([] : List Int)) (inner := []) (ok := fun _ => True) (okp := fun _ => True) ?hr ?hp (fun _ hk => hk) trivial (Below.refl _ _) (Nat.le_refl _) (by simp) ?_; (case hd => rfl); (case hg => rfl); (case hr => first | (go_simp; done) | (go_simp; rfl)); (case hp => exact (Reps.none _ _)); intro v549 w36 ho37 hb hg_ hnew_; clear hg_ hnew_; (first | rw [← Ny548.out] at ho37 | (simp only [Int.reduceToNat] at ho37; rw [← Ny548.out] at ho37)); have HO550 := aa_ (Kd.R_lower ho37 bls_); replace BK529 := bkb_ BK529 hb; replace HB := hbs_ hb; clear hb ho37))
    go_ret
    exact ⟨_, eq_, by (with_reducible repeat (first | apply Kd.R_alloc | apply Kd.R_drewN | apply Kd.R_drew)); exact HO550.out, bl_⟩
end Go.Proofs.Ytcbhmcpdnokbiaa.PA
