import Derived.Test.YtjpjidgfcljpcaaKDPDx4
-- A text of this claim: written by the session's own program out of the translation (wip/tools). Lean checks it.
namespace Go.Proofs.Ytjpjidgfcljpcaa.PD
open Go.RowKit Go.Proofs.YtjpjidgfcljpcaaW.PrintWords Go.Proofs.YtjpjidgfcljpcaaW.PrintLast Go.Proofs.YtjpjidgfcljpcaaW.PrintMore
attribute [local go_sem] max2_int min2_int max_two min_two max_three min_three max_four min_four   -- for this text's walks alone
set_option linter.unusedVariables false
set_option linter.unusedSimpArgs false
attribute [local go_sem high] eqA49
mutual
def spec_Follows.j0 : Nat → List (S51) → List (S51) → Int → Bool → Int → Int → Int → Int → Int → Int → Int → Int → Int → Int → Option ((List (S51)))
 | 0, _, _, _, _, _, _, _, _, _, _, _, _, _, _ => none
 | k + 1, x0, x5, x19, x29, x151000, x151001, x151002, x151003, x151004, x151005, x151006, x151007, x151008, x151009 => if x29 = true then (spec_Follows.l0 k x0 x5 0 x151000 x151001 x151002 x151003 x151004 x151005 x151006 x151007 x151008 x151009) else (if x19 = 3 then (spec_Follows.l1 k x0 x5 0 x151000 x151001 x151002 x151003 x151004 x151005 x151006 x151007 x151008 x151009) else (some x5))
def spec_Follows.l0 : Nat → List (S51) → List (S51) → Int → Int → Int → Int → Int → Int → Int → Int → Int → Int → Int → Option ((List (S51)))
 | 0, _, _, _, _, _, _, _, _, _, _, _, _, _ => none
 | k + 1, x0, x5, x6, x151000, x151001, x151002, x151003, x151004, x151005, x151006, x151007, x151008, x151009 => if x6 < (x0.length : Int) then (if 0 ≤ x6 then (if (((rd_T51 x0 x6).f0.f0) == x151004 && (((rd_T51 x0 x6).f0.f1) == x151005)) = true then (if x151000 = 2 then ((spec_l06Put.f k x5 x151001 x151002 ((rd_T51 x0 x6).f1)).bind fun t163 => (spec_Follows.l0 k x0 t163 (wrap64 (x6 + 1)) x151000 x151001 x151002 x151003 x151004 x151005 x151006 x151007 x151008 x151009)) else ((spec_l06Has.f k x0 x151006 x151007 ((rd_T51 x0 x6).f1)).bind fun t166 => (if t166 = true then ((spec_l06Put.f k x5 x151001 x151002 ((rd_T51 x0 x6).f1)).bind fun t167 => (spec_Follows.l0 k x0 t167 (wrap64 (x6 + 1)) x151000 x151001 x151002 x151003 x151004 x151005 x151006 x151007 x151008 x151009)) else (spec_Follows.l0 k x0 x5 (wrap64 (x6 + 1)) x151000 x151001 x151002 x151003 x151004 x151005 x151006 x151007 x151008 x151009)))) else (spec_Follows.l0 k x0 x5 (wrap64 (x6 + 1)) x151000 x151001 x151002 x151003 x151004 x151005 x151006 x151007 x151008 x151009)) else (none)) else (some x5)
def spec_Follows.l1 : Nat → List (S51) → List (S51) → Int → Int → Int → Int → Int → Int → Int → Int → Int → Int → Int → Option ((List (S51)))
 | 0, _, _, _, _, _, _, _, _, _, _, _, _, _ => none
 | k + 1, x0, x5, x8, x151000, x151001, x151002, x151003, x151004, x151005, x151006, x151007, x151008, x151009 => if x8 < (x0.length : Int) then (if 0 ≤ x8 then (if (!(((rd_T51 x0 x8).f0.f0) == x151004) || (!(((rd_T51 x0 x8).f0.f1) == x151005))) = true then (spec_Follows.l1 k x0 x5 (wrap64 (x8 + 1)) x151000 x151001 x151002 x151003 x151004 x151005 x151006 x151007 x151008 x151009) else (spec_Follows.l2 k x0 x5 x8 0 x151000 x151001 x151002 x151003 x151004 x151005 x151006 x151007 x151008 x151009 ((rd_T51 x0 x8).f1) x151007)) else (none)) else (some x5)
def spec_Follows.l2 : Nat → List (S51) → List (S51) → Int → Int → Int → Int → Int → Int → Int → Int → Int → Int → Int → Int → Int → Int → Option ((List (S51)))
 | 0, _, _, _, _, _, _, _, _, _, _, _, _, _, _, _, _ => none
 | k + 1, x0, x5, x8, x10, x151000, x151001, x151002, x151003, x151004, x151005, x151006, x151007, x151008, x151009, x173000, x173001 => if x10 < (x0.length : Int) then (if 0 ≤ x10 then (if (((rd_T51 x0 x10).f0.f0) == x173000 && (((rd_T51 x0 x10).f0.f1) == x173001)) = true then ((spec_l06Put.f k x5 x151001 x151002 ((rd_T51 x0 x10).f1)).bind fun t175 => (spec_Follows.l2 k x0 t175 x8 (wrap64 (x10 + 1)) x151000 x151001 x151002 x151003 x151004 x151005 x151006 x151007 x151008 x151009 x173000 x173001)) else (spec_Follows.l2 k x0 x5 x8 (wrap64 (x10 + 1)) x151000 x151001 x151002 x151003 x151004 x151005 x151006 x151007 x151008 x151009 x173000 x173001)) else (none)) else (spec_Follows.l1 k x0 x5 (wrap64 (x8 + 1)) x151000 x151001 x151002 x151003 x151004 x151005 x151006 x151007 x151008 x151009)
end
def spec_Follows.f (k : Nat) (l0 : List (S51)) (a1_0 : Int) (a1_1 : Int) (a1_2 : Int) (a1_3 : Int) (a1_4 : Int) (a1_5 : Int) (a1_6 : Int) (a1_7 : Int) (a1_8 : Int) (a1_9 : Int) : Option ((List (S51))) := (some (([] : List (S51)) : List (S51))).bind fun y151 => (if y151.length + l0.length < 5864062014805 then ((some (y151 ++ l0 : List (S51))).bind fun y154 => ((spec_CredOk.f k a1_0 a1_1 a1_2 a1_3 a1_4 a1_5 a1_6 a1_7 a1_8 a1_9).bind fun t157 => (if t157 = true then (if a1_0 = 1 then ((spec_l06Put.f k y154 a1_1 a1_2 a1_3).bind fun t158 => (some t158)) else (if a1_0 = 2 then (spec_Follows.j0 k l0 y154 a1_0 (a1_0 == 2) a1_0 a1_1 a1_2 a1_3 a1_4 a1_5 a1_6 a1_7 a1_8 a1_9) else (spec_Follows.j0 k l0 y154 a1_0 (a1_0 == 4) a1_0 a1_1 a1_2 a1_3 a1_4 a1_5 a1_6 a1_7 a1_8 a1_9))) else (some y154)))) else (none))
def spec_Follows.T19 : Bool × List (List Nat × List Nat) := (true, [([], []), ([], []), ([0, 1], [0, 1]), ([2], [2]), ([3], [3]), ([], []), ([5], [5]), ([4, 6], [4, 6])])
def spec_Follows.B19 : List Nat := [0, 0, 3, 7, 15, 0, 32, 127]
theorem spec_Follows.tab19 : rtab .any (opsOf Try.f101 19) = spec_Follows.T19 := by kernel_rfl
theorem spec_Follows.bits19 : waitsOk spec_Follows.T19.2 spec_Follows.B19 = true := by kernel_rfl
def spec_Follows.T20 : Bool × List (List Nat × List Nat) := (true, [([], []), ([], []), ([0, 1], [0, 1]), ([2], [2]), ([3], [3]), ([], []), ([5], [5]), ([6], [6]), ([4, 7], [4, 7]), ([], []), ([9, 8, 0, 1, 2, 3, 4, 5, 6, 7, 8, 9], [8, 9])])
def spec_Follows.B20 : List Nat := [0, 0, 3, 7, 15, 0, 32, 96, 255, 0, 1023]
theorem spec_Follows.tab20 : rtab .any (opsOf Try.f101 20) = spec_Follows.T20 := by kernel_rfl
theorem spec_Follows.bits20 : waitsOk spec_Follows.T20.2 spec_Follows.B20 = true := by kernel_rfl
def spec_Follows.T25 : Bool × List (List Nat × List Nat) := (true, [([], []), ([], []), ([1], [1]), ([], []), ([], []), ([3, 4], [3, 4]), ([5], [5]), ([6], [6]), ([2, 7], [2, 7]), ([0, 8], [0, 8]), ([9, 9, 0, 1, 2, 3, 4, 5, 6, 7, 8, 9], [0, 9])])
def spec_Follows.B25 : List Nat := [0, 0, 2, 0, 0, 24, 56, 120, 254, 511, 1023]
theorem spec_Follows.tab25 : rtab .any (opsOf Try.f101 25) = spec_Follows.T25 := by kernel_rfl
theorem spec_Follows.bits25 : waitsOk spec_Follows.T25.2 spec_Follows.B25 = true := by kernel_rfl
set_option maxHeartbeats 8000000 in
set_option maxRecDepth 100000 in
theorem spec_Follows.calls (k : Nat) (A0 : Option Addr) (c0 : Nat) (l0 : List (S51)) (a1_0 : Int) (a1_1 : Int) (a1_2 : Int) (a1_3 : Int) (a1_4 : Int) (a1_5 : Int) (a1_6 : Int) (a1_7 : Int) (a1_8 : Int) (a1_9 : Int) (r : List (S51)) (w : World) (hr0 : Kd.C k51 w A0 l0.length l0) (hc0 : l0.length ≤ c0) (h : spec_Follows.f k l0 a1_0 a1_1 a1_2 a1_3 a1_4 a1_5 a1_6 a1_7 a1_8 a1_9 = some r) :
  Calls Try.prog 101 #[.slice A0 l0.length c0, .agg #[.int .i64 a1_0, .int .i64 a1_1, .int .i64 a1_2, .int .i64 a1_3, .int .i64 a1_4, .int .i64 a1_5, .int .i64 a1_6, .int .i64 a1_7, .int .i64 a1_8, .int .i64 a1_9]] w fun e w' => ∃ v0_ : Value, e = .returned (v0_) ∧ Kd.R k51 51 w' w.heap.size (fun _ => True) v0_ r ∧ Below w.heap.size w w' := by
 have hu56 := Try.underlying56
 have hu49 := Try.underlying49
 have hu51 := Try.underlying51
 have HR0 := Aside0.mk hr0
 have HC0 := Aside0.mk hc0
 clear hr0 hc0
 have HB := Aside0.mk (Below.refl w.heap.size w)
 have H : ((some (([] : List (S51)) : List (S51))).bind fun y151 => (if y151.length + l0.length < 5864062014805 then ((some (y151 ++ l0 : List (S51))).bind fun y154 => ((spec_CredOk.f k a1_0 a1_1 a1_2 a1_3 a1_4 a1_5 a1_6 a1_7 a1_8 a1_9).bind fun t157 => (if t157 = true then (if a1_0 = 1 then ((spec_l06Put.f k y154 a1_1 a1_2 a1_3).bind fun t158 => (some t158)) else (if a1_0 = 2 then (spec_Follows.j0 k l0 y154 a1_0 (a1_0 == 2) a1_0 a1_1 a1_2 a1_3 a1_4 a1_5 a1_6 a1_7 a1_8 a1_9) else (spec_Follows.j0 k l0 y154 a1_0 (a1_0 == 4) a1_0 a1_1 a1_2 a1_3 a1_4 a1_5 a1_6 a1_7 a1_8 a1_9))) else (some y154)))) else (none))) = some r := h
 clear h
 obtain ⟨y151, hy151⟩ : ∃ y_ : List (S51), y_ = (([] : List (S51))) := ⟨_, rfl⟩
 replace H : (if y151.length + l0.length < 5864062014805 then ((some (y151 ++ l0 : List (S51))).bind fun y154 => ((spec_CredOk.f k a1_0 a1_1 a1_2 a1_3 a1_4 a1_5 a1_6 a1_7 a1_8 a1_9).bind fun t157 => (if t157 = true then (if a1_0 = 1 then ((spec_l06Put.f k y154 a1_1 a1_2 a1_3).bind fun t158 => (some t158)) else (if a1_0 = 2 then (spec_Follows.j0 k l0 y154 a1_0 (a1_0 == 2) a1_0 a1_1 a1_2 a1_3 a1_4 a1_5 a1_6 a1_7 a1_8 a1_9) else (spec_Follows.j0 k l0 y154 a1_0 (a1_0 == 4) a1_0 a1_1 a1_2 a1_3 a1_4 a1_5 a1_6 a1_7 a1_8 a1_9))) else (some y154)))) else (none)) = some r := by first | (rw [hy151]; with_reducible exact H) | (have H2_ := (Option.bind_some _ _).symm.trans H; rw [hy151]; with_reducible exact H2_) | (have H2_ := (Option.bind_some _ _).symm.trans H; with_reducible exact H2_) | with_reducible exact H | (rw [hy151]; exact H) | exact H
 have Ny151 := Aside0.mk hy151
 clear hy151
 by_cases c3 : y151.length + l0.length < 5864062014805
 ·rw [if_pos c3] at H
  have LMc3 := Aside0.mk c3
  clear c3
  obtain ⟨y154, hy154⟩ : ∃ y_ : List (S51), y_ = (y151 ++ l0) := ⟨_, rfl⟩
  replace H : ((spec_CredOk.f k a1_0 a1_1 a1_2 a1_3 a1_4 a1_5 a1_6 a1_7 a1_8 a1_9).bind fun t157 => (if t157 = true then (if a1_0 = 1 then ((spec_l06Put.f k y154 a1_1 a1_2 a1_3).bind fun t158 => (some t158)) else (if a1_0 = 2 then (spec_Follows.j0 k l0 y154 a1_0 (a1_0 == 2) a1_0 a1_1 a1_2 a1_3 a1_4 a1_5 a1_6 a1_7 a1_8 a1_9) else (spec_Follows.j0 k l0 y154 a1_0 (a1_0 == 4) a1_0 a1_1 a1_2 a1_3 a1_4 a1_5 a1_6 a1_7 a1_8 a1_9))) else (some y154))) = some r := by first | (rw [hy154]; with_reducible exact H) | (have H2_ := (Option.bind_some _ _).symm.trans H; rw [hy154]; with_reducible exact H2_) | (have H2_ := (Option.bind_some _ _).symm.trans H; with_reducible exact H2_) | with_reducible exact H | (rw [hy154]; exact H) | exact H
  have Ny154 := Aside0.mk hy154
  clear hy154
  obtain ⟨t157, A4, H⟩ := bindE_ H
  by_cases c5 : t157 = true
  ·subst c5
   replace H := ite_t_ H
   by_cases c6 : a1_0 = 1
   ·rw [if_pos c6] at H
    have c6b0 : (a1_0 == 1) = true := beq_iff_eq.mpr c6
    have c6b1 : (a1_0 != 1) = false := bne_eq_false_iff_eq.mpr c6
    clear c6
    obtain ⟨t158, A7, H⟩ := bindE_ H
    obtain rfl := Option.some.inj H
    go_enter Try.func101, Try.ntmps101
    go_wp2_with (first | ((with_reducible refine gate_dst (N := 3) rfl ?_); refine box_event ?hg (N := 3) ?hd (cs := #[.int .i64 a1_0, .int .i64 a1_1, .int .i64 a1_2, .int .i64 a1_3, .int .i64 a1_4, .int .i64 a1_5, .int .i64 a1_6, .int .i64 a1_7, .int .i64 a1_8, .int .i64 a1_9]) (t := 56) ?hr ?_; (case hd => rfl); (case hg => rfl); (case hr => first | (go_simp; done) | (go_simp; rfl)); intro gb150 hg w8 hbox hb; have BK150 := Aside0.mk (hbox); have GW150 := gs_ hg; have GE150 := gs_ hg; replace HB := hbs_ hb; clear hb hbox hg) | ((with_reducible refine gate_dst (N := 11) rfl ?_); refine Kd.R_lit k51 _ 51 ?hg (N := 11) ?hd (xs := ([] : List (S51))) (inner := []) (ok := fun _ => True) (okp := fun _ => True) ?hr ?hp (fun _ hk => hk) trivial (Below.refl _ _) (Nat.le_refl _) (by simp) ?_; (case hd => rfl); (case hg => rfl); (case hr => first | (go_simp; done) | (go_simp; rfl)); (case hp => exact (Reps.none _ _)); intro v152 w9 ho10 hb hg_ hnew_; clear hg_ hnew_; (first | rw [← Ny151.out] at ho10 | (simp only [Int.reduceToNat] at ho10; rw [← Ny151.out] at ho10)); have HO153 := Aside0.mk (Kd.R_lower ho10 bls_); replace BK150 := bkb_ BK150 hb; replace HB := hbs_ hb; clear hb ho10) | ((with_reducible refine gate_builtin (b := .append) (xs := #[.tmp 11, .tmp 12]) rfl ?_); at_builtin; refine Kd.R_append_rows k51 (w0 := w) w.heap.size rfl (.tmp 11) (.tmp 12) 46 51 (.agg #[(.int .i64 0), (.int .i64 0), (.int .i64 0)]) 24 rfl Try.underlying46 info51 rfl (by decide) (by omega) v152 y151 l0 _ _ _ (fun _ => True) (fun _ => False) rfl rfl ?aO ?aR (fun _ _ h => h) (fun _ h => h.elim) ?aF ?aB ?aS ?aL ?_; (case aR => repeat (first | exact (Kd.C_below HR0.out HB.out) | (with_reducible refine Kd.C_alloc ?_ _) | (with_reducible refine Kd.C_drewN ?_ _) | (with_reducible refine Kd.C_drew ?_))); (case aB => exact bl_); (case aF => exact (fun _ _ => trivial)); (case aO => exact (by (with_reducible repeat (first | apply Kd.R_alloc | apply Kd.R_drewN | apply Kd.R_drew)); exact HO153.out)); (case aS => exact bls_); (case aL => have := LMc3.out; omega); intro v155 w11 ho hb hg hat; rw [← Ny154.out] at ho; replace BK150 := Aside0.mk (blk_grown (g := gb150) (o := .cells #[.int .i64 a1_0, .int .i64 a1_1, .int .i64 a1_2, .int .i64 a1_3, .int .i64 a1_4, .int .i64 a1_5, .int .i64 a1_6, .int .i64 a1_7, .int .i64 a1_8, .int .i64 a1_9] 56 (0, 0)) (bk_ BK150) hg (Kd.R_ne HO153.out BK150.out (by decide))); replace HB := Aside0.mk (hb); have HO156 := Aside0.mk (ho); clear HO153; clear ho hb hg hat; have hcz12 := blk_cell BK150.out; have hfz12 := blk_frozen BK150.out) | ((with_reducible refine gate_callee (f := 94) rfl ?_); refine goesC_ (some 15) Try.func94 #[.agg #[.int .i64 a1_0, .int .i64 a1_1, .int .i64 a1_2, .int .i64 a1_3, .int .i64 a1_4, .int .i64 a1_5, .int .i64 a1_6, .int .i64 a1_7, .int .i64 a1_8, .int .i64 a1_9]] ?_; (with_reducible refine (spec_CredOk.calls k a1_0 a1_1 a1_2 a1_3 a1_4 a1_5 a1_6 a1_7 a1_8 a1_9 true _ A4.out).mono ?_); rintro e w13 ⟨rfl, hb⟩; refine ⟨_, rfl, ?_⟩; replace HO156 := Aside0.mk (Kd.R_below (by (with_reducible repeat (first | apply Kd.R_alloc | apply Kd.R_drewN | apply Kd.R_drew)); exact HO156.out) hb); replace BK150 := bkb_ BK150 hb; replace HB := hbs_ hb; clear hb; have hcz14 := blk_cell BK150.out; have hfz14 := blk_frozen BK150.out; obtain ⟨Ao15, co15, eo15⟩ := Kd.R_slice HO156.out; subst eo15) | ((with_reducible refine gate_callee (f := 175) rfl ?_); refine goesC_ (some 28) Try.func175 #[.slice Ao15 y154.length co15, .agg #[.int .i64 a1_1, .int .i64 a1_2, .int .i64 a1_3]] ?_; (with_reducible refine (spec_l06Put.calls k (fun k_ => some k_ = (.slice Ao15 y154.length co15 : Value).ownBlock) (.slice Ao15 y154.length co15) y154 a1_1 a1_2 a1_3 t158 w _ ?side1 ?side2 A7.out).mono ?_); (case side1 => repeat (first | (with_reducible first | exact HB.out | apply below_alloc | apply pw_below_drewN | apply below_drew1 | refine below_set ?_ GE150.out) | exact HB.out)); (case side2 => exact Kd.R_tight rfl HO156.out); rintro e w16 ⟨v159, rfl, ho0, hb, hkp⟩; refine ⟨_, rfl, ?_⟩; replace BK150 := Aside0.mk (blk_kept (bk_ BK150) hkp (fun hs_ => (fun e_ => (Kd.R_ne HO156.out BK150.out (by decide)) e_) hs_)); have HO160 := Aside0.mk (Kd.R_mono (ok' := fun k_ => True) ho0 (fun k_ hk_ => trivial)); replace HB := Aside0.mk (hb); clear HO156; (try clear hb); (try clear hkp); (try clear ho0)))
    go_ret
    exact ⟨_, eq_, by (with_reducible repeat (first | apply Kd.R_alloc | apply Kd.R_drewN | apply Kd.R_drew)); exact HO160.out, bl_⟩
   ·rw [if_neg c6] at H
    have c6b0 : (a1_0 == 1) = false := beq_eq_false_iff_ne.mpr c6
    have c6b1 : (a1_0 != 1) = true := bne_iff_ne.mpr c6
    have HC17 := Aside0.mk H
    clear H
    go_enter Try.func101, Try.ntmps101
    go_upto_if 29 with (first | ((with_reducible refine gate_dst (N := 3) rfl ?_); refine box_event ?hg (N := 3) ?hd (cs := #[.int .i64 a1_0, .int .i64 a1_1, .int .i64 a1_2, .int .i64 a1_3, .int .i64 a1_4, .int .i64 a1_5, .int .i64 a1_6, .int .i64 a1_7, .int .i64 a1_8, .int .i64 a1_9]) (t := 56) ?hr ?_; (case hd => rfl); (case hg => rfl); (case hr => first | (go_simp; done) | (go_simp; rfl)); intro gb150 hg w18 hbox hb; have BK150 := Aside0.mk (hbox); have GW150 := gs_ hg; have GE150 := gs_ hg; replace HB := hbs_ hb; clear hb hbox hg) | ((with_reducible refine gate_dst (N := 11) rfl ?_); refine Kd.R_lit k51 _ 51 ?hg (N := 11) ?hd (xs := ([] : List (S51))) (inner := []) (ok := fun _ => True) (okp := fun _ => True) ?hr ?hp (fun _ hk => hk) trivial (Below.refl _ _) (Nat.le_refl _) (by simp) ?_; (case hd => rfl); (case hg => rfl); (case hr => first | (go_simp; done) | (go_simp; rfl)); (case hp => exact (Reps.none _ _)); intro v152 w19 ho20 hb hg_ hnew_; clear hg_ hnew_; (first | rw [← Ny151.out] at ho20 | (simp only [Int.reduceToNat] at ho20; rw [← Ny151.out] at ho20)); have HO153 := Aside0.mk (Kd.R_lower ho20 bls_); replace BK150 := bkb_ BK150 hb; replace HB := hbs_ hb; clear hb ho20) | ((with_reducible refine gate_builtin (b := .append) (xs := #[.tmp 11, .tmp 12]) rfl ?_); at_builtin; refine Kd.R_append_rows k51 (w0 := w) w.heap.size rfl (.tmp 11) (.tmp 12) 46 51 (.agg #[(.int .i64 0), (.int .i64 0), (.int .i64 0)]) 24 rfl Try.underlying46 info51 rfl (by decide) (by omega) v152 y151 l0 _ _ _ (fun _ => True) (fun _ => False) rfl rfl ?aO ?aR (fun _ _ h => h) (fun _ h => h.elim) ?aF ?aB ?aS ?aL ?_; (case aR => repeat (first | exact (Kd.C_below HR0.out HB.out) | (with_reducible refine Kd.C_alloc ?_ _) | (with_reducible refine Kd.C_drewN ?_ _) | (with_reducible refine Kd.C_drew ?_))); (case aB => exact bl_); (case aF => exact (fun _ _ => trivial)); (case aO => exact (by (with_reducible repeat (first | apply Kd.R_alloc | apply Kd.R_drewN | apply Kd.R_drew)); exact HO153.out)); (case aS => exact bls_); (case aL => have := LMc3.out; omega); intro v155 w21 ho hb hg hat; rw [← Ny154.out] at ho; replace BK150 := Aside0.mk (blk_grown (g := gb150) (o := .cells #[.int .i64 a1_0, .int .i64 a1_1, .int .i64 a1_2, .int .i64 a1_3, .int .i64 a1_4, .int .i64 a1_5, .int .i64 a1_6, .int .i64 a1_7, .int .i64 a1_8, .int .i64 a1_9] 56 (0, 0)) (bk_ BK150) hg (Kd.R_ne HO153.out BK150.out (by decide))); replace HB := Aside0.mk (hb); have HO156 := Aside0.mk (ho); clear HO153; clear ho hb hg hat; have hcz22 := blk_cell BK150.out; have hfz22 := blk_frozen BK150.out) | ((with_reducible refine gate_callee (f := 94) rfl ?_); refine goesC_ (some 15) Try.func94 #[.agg #[.int .i64 a1_0, .int .i64 a1_1, .int .i64 a1_2, .int .i64 a1_3, .int .i64 a1_4, .int .i64 a1_5, .int .i64 a1_6, .int .i64 a1_7, .int .i64 a1_8, .int .i64 a1_9]] ?_; (with_reducible refine (spec_CredOk.calls k a1_0 a1_1 a1_2 a1_3 a1_4 a1_5 a1_6 a1_7 a1_8 a1_9 true _ A4.out).mono ?_); rintro e w23 ⟨rfl, hb⟩; refine ⟨_, rfl, ?_⟩; replace HO156 := Aside0.mk (Kd.R_below (by (with_reducible repeat (first | apply Kd.R_alloc | apply Kd.R_drewN | apply Kd.R_drew)); exact HO156.out) hb); replace BK150 := bkb_ BK150 hb; replace HB := hbs_ hb; clear hb; have hcz24 := blk_cell BK150.out; have hfz24 := blk_frozen BK150.out))
    (try simp only [Act.put, List.setIfInBounds_toArray, List.set_cons_zero, List.set_cons_succ])
    go_cut [29] (fun v29 wc => ∃ (kq : Nat) (x29_16 : Bool), v29 = .bool x29_16 ∧ Aside0 (spec_Follows.j0 kq l0 y154 a1_0 x29_16 a1_0 a1_1 a1_2 a1_3 a1_4 a1_5 a1_6 a1_7 a1_8 a1_9 = some r) ∧ Aside0 (kq ≤ k) ∧ Aside0 (Kd.R k51 51 wc w.heap.size (fun _ => True) v155 y154) ∧ Aside0 (wc.heap[gb150]? = some (.cells #[.int .i64 a1_0, .int .i64 a1_1, .int .i64 a1_2, .int .i64 a1_3, .int .i64 a1_4, .int .i64 a1_5, .int .i64 a1_6, .int .i64 a1_7, .int .i64 a1_8, .int .i64 a1_9] 56 (0, 0))) ∧ Aside0 (Below w.heap.size w wc))
    case first =>
     have H := HC17.out
     clear HC17
     by_cases c25 : a1_0 = 2
     ·rw [if_pos c25] at H
      have c25b0 : (a1_0 == 2) = true := beq_iff_eq.mpr c25
      have c25b1 : (a1_0 != 2) = false := bne_eq_false_iff_eq.mpr c25
      clear c25
      (first | rw [c25b0] | (simp only [i64_w, i32_w]; rw [c25b0]) | skip)
      have H' := Aside0.mk H
      clear H
      go_wp2
      go_meet
      case rel => exact ⟨_, ((a1_0 == 2)), (by first | rfl | (simp; done) | (simp [*]; done)), H', ⟨by first | omega | exact Nat.le_refl _⟩, ⟨by (with_reducible repeat (first | apply Kd.R_alloc | apply Kd.R_drewN | apply Kd.R_drew)); exact HO156.out⟩, ⟨bk_ BK150⟩, ⟨bl_⟩⟩
     ·rw [if_neg c25] at H
      have c25b0 : (a1_0 == 2) = false := beq_eq_false_iff_ne.mpr c25
      have c25b1 : (a1_0 != 2) = true := bne_iff_ne.mpr c25
      (first | rw [c25b0] | (simp only [i64_w, i32_w]; rw [c25b0]) | skip)
      have H' := Aside0.mk H
      clear H
      go_wp2
      go_meet
      case rel => exact ⟨_, ((a1_0 == 4)), (by first | rfl | (simp; done) | (simp [*]; done)), H', ⟨by first | omega | exact Nat.le_refl _⟩, ⟨by (with_reducible repeat (first | apply Kd.R_alloc | apply Kd.R_drewN | apply Kd.R_drew)); exact HO156.out⟩, ⟨bk_ BK150⟩, ⟨bl_⟩⟩
    case rest =>
     clear HC17
     try clear c1
     try clear c2
     try clear p2
     try clear c3
     try clear c5
     try clear c6
     try clear c6b0
     try clear c6b1
     try clear c9
     try clear c10
     try clear c17
     try clear c25
     try clear c25b0
     try clear c25b1
     try clear hcz12
     try clear hcz14
     try clear hcz22
     try clear hcz24
     try clear hfz12
     try clear hfz14
     try clear hfz22
     try clear hfz24
     obtain ⟨kq, x29_16, rfl, HA, HJ16, HO_5, BK150, HB⟩ := hcut
     cases kq with
     | zero => exact absurd HA.out (by simp [spec_Follows.j0])
     | succ kj16 =>
      have H := HA.out
      clear HA
      simp only [spec_Follows.j0] at H
      by_cases c26 : x29_16 = true
      ·subst c26
       replace H := ite_t_ H
       have H' := Aside0.mk H
       clear H
       go_wp2
       go_loopg [5, 6] kj16 (fun kq v5 v6 w' => ∃ (x5_2 : List (S51)) (x6_2 : Int), v6 = .int .i64 x6_2 ∧ Aside0 (spec_Follows.l0 kq l0 x5_2 x6_2 a1_0 a1_1 a1_2 a1_3 a1_4 a1_5 a1_6 a1_7 a1_8 a1_9 = some r) ∧ Aside0 (kq ≤ kj16) ∧ Aside0 (Kd.R k51 51 w' w.heap.size (fun _ => True) v5 x5_2) ∧ Aside0 (w'.heap[gb150]? = some (.cells #[.int .i64 a1_0, .int .i64 a1_1, .int .i64 a1_2, .int .i64 a1_3, .int .i64 a1_4, .int .i64 a1_5, .int .i64 a1_6, .int .i64 a1_7, .int .i64 a1_8, .int .i64 a1_9] 56 (0, 0))) ∧ Aside0 (Below w.heap.size w w'))
       case atStart => exact ⟨(y154), (0), (by first | rfl | (simp; done) | (simp [*]; done)), H', ⟨Nat.le_refl _⟩, ⟨by (with_reducible repeat (first | apply Kd.R_alloc | apply Kd.R_drewN | apply Kd.R_drew)); exact HO_5.out⟩, ⟨bk_ BK150⟩, ⟨bl_⟩⟩
       case round =>
        clear H'
        try clear c1
        try clear c2
        try clear p2
        try clear c3
        try clear c5
        try clear c6
        try clear c6b0
        try clear c6b1
        try clear c9
        try clear c10
        try clear c17
        try clear c25
        try clear c25b0
        try clear c25b1
        try clear c26
        try clear hcz12
        try clear hcz14
        try clear hcz22
        try clear hcz24
        try clear hfz12
        try clear hfz14
        try clear hfz22
        try clear hfz24
        try clear p2
        obtain ⟨x5_2, x6_2, rfl, HA, HK2, HO_5, BK150, HB⟩ := hrel
        cases gk with
        | zero => exact absurd HA.out (by simp [spec_Follows.l0])
        | succ k2 =>
         have H := HA.out
         clear HA
         simp only [spec_Follows.l0] at H
         by_cases c27 : x6_2 < (l0.length : Int)
         ·rw [if_pos c27] at H
          have c27b0 : decide (x6_2 < (l0.length : Int)) = true := decide_eq_true c27
          clear c27
          by_cases c28 : 0 ≤ x6_2
          ·rw [if_pos c28] at H
           have c28b0 : decide (0 ≤ x6_2) = true := decide_eq_true c28
           clear c28
           by_cases c29 : (((rd_T51 l0 x6_2).f0.f0) == a1_4 && (((rd_T51 l0 x6_2).f0.f1) == a1_5)) = true
           ·rw [if_pos c29] at H
            have c29b0 : (((rd_T51 l0 x6_2).f0.f0) == a1_4 && (((rd_T51 l0 x6_2).f0.f1) == a1_5)) = true := c29
            (try (have c29b1 : decide (((rd_T51 l0 x6_2).f0.f0) = a1_4 && (((rd_T51 l0 x6_2).f0.f1) == a1_5)) = true := by simpa using c29))
            (try (have c29b2 : (((rd_T51 l0 x6_2).f0.f0) == a1_4 && (((rd_T51 l0 x6_2).f0.f1) == a1_5)) = true := by simpa using c29))
            clear c29
            by_cases c30 : a1_0 = 2
            ·rw [if_pos c30] at H
             have c30b0 : (a1_0 == 2) = true := beq_iff_eq.mpr c30
             have c30b1 : (a1_0 != 2) = false := bne_eq_false_iff_eq.mpr c30
             clear c30
             obtain ⟨t163, A31, H⟩ := bindE_ H
             have H' := Aside0.mk H
             clear H
             have p161 : 0 ≤ (x6_2 : Int) := of_decide_eq_true (by first | (with_reducible assumption) | assumption)
             have q161 : x6_2 < (l0.length : Int) := of_decide_eq_true (by first | (with_reducible assumption) | assumption)
             obtain ⟨ad161, e161, hx161_0, hx161_1, hx161_2⟩ := at_T51 (Kd.C_below HR0.out HB.out) x6_2 p161 q161
             cases e161
             replace p161 := eq_true p161
             replace q161 := eq_true q161
             go_wp2_with (first | ((with_reducible refine gate_dst (N := 7) rfl ?_); refine box_event ?hg (N := 7) ?hd (cs := #[.int .i64 0, .int .i64 0, .int .i64 0]) (t := 51) ?hr ?_; (case hd => rfl); (case hg => rfl); (case hr => first | (go_simp; done) | (go_simp; rfl)); intro gb162 hg w32 hbox hb; replace HO_5 := Aside0.mk (Kd.R_below (Kd.R_elderB (by (with_reducible repeat (first | apply Kd.R_alloc | apply Kd.R_drewN | apply Kd.R_drew)); exact HO_5.out) gb162 (Nat.le_of_eq hg.symm)) hb); have BK162 := Aside0.mk (hbox); have GW162 := gs_ hg; have GE162 := gs_ hg; replace HB := hbs_ hb; have NB150_162 := Aside0.mk ((by rw [hg]; exact Nat.ne_of_lt (blk_lt (g := gb150) (o := .cells #[.int .i64 a1_0, .int .i64 a1_1, .int .i64 a1_2, .int .i64 a1_3, .int .i64 a1_4, .int .i64 a1_5, .int .i64 a1_6, .int .i64 a1_7, .int .i64 a1_8, .int .i64 a1_9] 56 (0, 0)) (bk_ BK150)) : gb150 ≠ gb162)); have NB162_150 := Aside0.mk ((by rw [hg]; exact Nat.ne_of_gt (blk_lt (g := gb150) (o := .cells #[.int .i64 a1_0, .int .i64 a1_1, .int .i64 a1_2, .int .i64 a1_3, .int .i64 a1_4, .int .i64 a1_5, .int .i64 a1_6, .int .i64 a1_7, .int .i64 a1_8, .int .i64 a1_9] 56 (0, 0)) (bk_ BK150)) : gb162 ≠ gb150)); replace BK150 := bkb_ BK150 hb; clear hb hbox hg; have hnb33 := NB162_150.out; have hnc33 := NB150_162.out; have hcz34 := blk_cell BK162.out; have hfz34 := blk_frozen BK162.out) | ((with_reducible refine gate_store (t := 51) (p := 7) rfl ?_); refine store_event (t := 51) (p := 7) (v := ?vo_w35) (w1 := (((w32.setCell ⟨gb162, 0, none⟩ (.int .i64 ((rd_T51 l0 x6_2).f0.f0))).setCell ⟨gb162, 1, none⟩ (.int .i64 ((rd_T51 l0 x6_2).f0.f1))).setCell ⟨gb162, 2, none⟩ (.int .i64 ((rd_T51 l0 x6_2).f1)))) ?hg ?ho ?hn ?hr ?_; (case ho => rfl); (case hg => rfl); (case hn => rfl); (case hr => first | (go_simp; done) | (go_simp; rfl)); intro w35 hw; have n0_ : Aside0 (Kd.R k51 51 w35 w.heap.size (fun k_ => k_ ≠ gb162) u5 x5_2) := ⟨(by rw [hw]; exact (by (with_reducible repeat (first | apply Kd.R_alloc | apply Kd.R_drewN | apply Kd.R_drew)); exact Kd.R_mono (Kd.R_far (p := ⟨gb162, 2, none⟩) (Kd.R_far (p := ⟨gb162, 1, none⟩) (Kd.R_far (p := ⟨gb162, 0, none⟩) (Kd.R_mono HO_5.out (fun k_ hk => (⟨hk, hk.2⟩ : _ ∧ k_ ≠ gb162))) (fun _ hk => hk.2) (.int .i64 ((rd_T51 l0 x6_2).f0.f0))) (fun _ hk => hk.2) (.int .i64 ((rd_T51 l0 x6_2).f0.f1))) (fun _ hk => hk.2) (.int .i64 ((rd_T51 l0 x6_2).f1))) (fun _ hk => hk.1.2)))⟩; have n1_ : Aside0 (w35.heap[gb150]? = some (.cells #[.int .i64 a1_0, .int .i64 a1_1, .int .i64 a1_2, .int .i64 a1_3, .int .i64 a1_4, .int .i64 a1_5, .int .i64 a1_6, .int .i64 a1_7, .int .i64 a1_8, .int .i64 a1_9] 56 (0, 0))) := ⟨(by rw [hw]; exact (bk_ BK150))⟩; have n2_ : Aside0 (w35.heap[gb162]? = some (.cells #[.int .i64 ((rd_T51 l0 x6_2).f0.f0), .int .i64 ((rd_T51 l0 x6_2).f0.f1), .int .i64 ((rd_T51 l0 x6_2).f1)] 51 (0, 0))) := ⟨(by rw [hw]; exact (bk_ BK162))⟩; have n3_ : Aside0 (Below w.heap.size w w35) := ⟨(by rw [hw]; exact bl_)⟩; clear hw; clear HO_5; clear BK150; clear BK162; clear HB; have HO_5 := n0_; have BK150 := n1_; have BK162 := n2_; have HB := n3_; clear n0_ n1_ n2_ n3_; have hcz36 := blk_cell BK162.out; have hfz36 := blk_frozen BK162.out; have hcz37 := blk_cell BK150.out; have hfz37 := blk_frozen BK150.out; obtain ⟨Ao38, co38, eo38⟩ := Kd.R_slice HO_5.out; subst eo38) | ((with_reducible refine gate_callee (f := 175) rfl ?_); refine goesC_ (some 67) Try.func175 #[.slice Ao38 x5_2.length co38, .agg #[.int .i64 a1_1, .int .i64 a1_2, .int .i64 ((rd_T51 l0 x6_2).f1)]] ?_; (with_reducible refine (spec_l06Put.calls k2 (fun k_ => some k_ = (.slice Ao38 x5_2.length co38 : Value).ownBlock) (.slice Ao38 x5_2.length co38) x5_2 a1_1 a1_2 ((rd_T51 l0 x6_2).f1) t163 w _ ?side1 ?side2 A31.out).mono ?_); (case side1 => repeat (first | (with_reducible first | exact HB.out | apply below_alloc | apply pw_below_drewN | apply below_drew1 | refine below_set ?_ GE150.out | refine below_set ?_ GE162.out) | exact HB.out)); (case side2 => exact Kd.R_tight rfl HO_5.out); rintro e w39 ⟨v164, rfl, ho0, hb, hkp⟩; refine ⟨_, rfl, ?_⟩; replace BK150 := Aside0.mk (blk_kept (bk_ BK150) hkp (fun hs_ => (fun e_ => (Kd.R_ne HO_5.out BK150.out (by decide)) e_) hs_)); have HO165 := Aside0.mk (Kd.R_mono (ok' := fun k_ => k_ ≠ gb162) ho0 (fun k_ hk_ => Or.elim hk_ (fun hs_ => fun e_ => (Kd.R_away HO_5.out (fun _ hk => hk)) (by rw [← e_]; exact hs_)) (fun hn_ => (Kd.freshB (g := gb162) (o := .cells #[.int .i64 ((rd_T51 l0 x6_2).f0.f0), .int .i64 ((rd_T51 l0 x6_2).f0.f1), .int .i64 ((rd_T51 l0 x6_2).f1)] 51 (0, 0)) (bk_ BK162) k_ hn_)))); replace BK162 := Aside0.mk (blk_kept (bk_ BK162) hkp (fun hs_ => (fun e_ => (Kd.R_away HO_5.out (fun _ hk => hk)) e_) hs_)); replace HB := Aside0.mk (hb); clear HO_5; (try clear hb); (try clear hkp); (try clear ho0)))
             go_roundg k2
             case measure => have := HJ16.out; have := HK2.out; omega
             case rel => exact ⟨(t163), (wrap64 (x6_2 + 1)), (by first | rfl | (simp; done) | (simp [*]; done)), H', ⟨by have := HJ16.out; have := HK2.out; omega⟩, ⟨by (with_reducible repeat (first | apply Kd.R_alloc | apply Kd.R_drewN | apply Kd.R_drew)); exact Kd.R_mono HO165.out (fun _ hk => trivial)⟩, ⟨bk_ BK150⟩, ⟨bl_⟩⟩
            ·rw [if_neg c30] at H
             have c30b0 : (a1_0 == 2) = false := beq_eq_false_iff_ne.mpr c30
             have c30b1 : (a1_0 != 2) = true := bne_iff_ne.mpr c30
             obtain ⟨t166, A40, H⟩ := bindE_ H
             by_cases c41 : t166 = true
             ·subst c41
              replace H := ite_t_ H
              obtain ⟨t167, A42, H⟩ := bindE_ H
              have H' := Aside0.mk H
              clear H
              have p161 : 0 ≤ (x6_2 : Int) := of_decide_eq_true (by first | (with_reducible assumption) | assumption)
              have q161 : x6_2 < (l0.length : Int) := of_decide_eq_true (by first | (with_reducible assumption) | assumption)
              obtain ⟨ad161, e161, hx161_0, hx161_1, hx161_2⟩ := at_T51 (Kd.C_below HR0.out HB.out) x6_2 p161 q161
              cases e161
              replace p161 := eq_true p161
              replace q161 := eq_true q161
              go_wp2_with (first | ((with_reducible refine gate_dst (N := 7) rfl ?_); refine box_event ?hg (N := 7) ?hd (cs := #[.int .i64 0, .int .i64 0, .int .i64 0]) (t := 51) ?hr ?_; (case hd => rfl); (case hg => rfl); (case hr => first | (go_simp; done) | (go_simp; rfl)); intro gb162 hg w43 hbox hb; replace HO_5 := Aside0.mk (Kd.R_below (Kd.R_elderB (by (with_reducible repeat (first | apply Kd.R_alloc | apply Kd.R_drewN | apply Kd.R_drew)); exact HO_5.out) gb162 (Nat.le_of_eq hg.symm)) hb); have BK162 := Aside0.mk (hbox); have GW162 := gs_ hg; have GE162 := gs_ hg; replace HB := hbs_ hb; have NB150_162 := Aside0.mk ((by rw [hg]; exact Nat.ne_of_lt (blk_lt (g := gb150) (o := .cells #[.int .i64 a1_0, .int .i64 a1_1, .int .i64 a1_2, .int .i64 a1_3, .int .i64 a1_4, .int .i64 a1_5, .int .i64 a1_6, .int .i64 a1_7, .int .i64 a1_8, .int .i64 a1_9] 56 (0, 0)) (bk_ BK150)) : gb150 ≠ gb162)); have NB162_150 := Aside0.mk ((by rw [hg]; exact Nat.ne_of_gt (blk_lt (g := gb150) (o := .cells #[.int .i64 a1_0, .int .i64 a1_1, .int .i64 a1_2, .int .i64 a1_3, .int .i64 a1_4, .int .i64 a1_5, .int .i64 a1_6, .int .i64 a1_7, .int .i64 a1_8, .int .i64 a1_9] 56 (0, 0)) (bk_ BK150)) : gb162 ≠ gb150)); replace BK150 := bkb_ BK150 hb; clear hb hbox hg; have hnb44 := NB162_150.out; have hnc44 := NB150_162.out; have hcz45 := blk_cell BK162.out; have hfz45 := blk_frozen BK162.out; have hcz46 := blk_cell BK150.out; have hfz46 := blk_frozen BK150.out) | (go_at_call 120; (with_reducible refine (spec_l06Has.calls k2 _ _ l0 a1_6 a1_7 ((rd_T51 l0 x6_2).f1) true _ ?side1 ?side2 A40.out).mono ?_); (case side1 => exact Kd.C_below HR0.out bl_); (case side2 => exact HC0.out); rintro e w47 ⟨rfl, hb⟩; replace HO_5 := Aside0.mk (Kd.R_below (by (with_reducible repeat (first | apply Kd.R_alloc | apply Kd.R_drewN | apply Kd.R_drew)); exact (Kd.R_mono (Kd.R_far (p := ⟨gb162, 2, none⟩) (Kd.R_far (p := ⟨gb162, 1, none⟩) (Kd.R_far (p := ⟨gb162, 0, none⟩) (Kd.R_mono HO_5.out (fun k_ hk => (⟨hk, hk.2⟩ : _ ∧ k_ ≠ gb162))) (fun _ hk => hk.2) (.int .i64 ((rd_T51 l0 x6_2).f0.f0))) (fun _ hk => hk.2) (.int .i64 ((rd_T51 l0 x6_2).f0.f1))) (fun _ hk => hk.2) (.int .i64 ((rd_T51 l0 x6_2).f1))) (fun _ h_ => h_.1))) hb); replace BK150 := Aside0.mk (blk_below (g := gb150) (o := .cells #[.int .i64 a1_0, .int .i64 a1_1, .int .i64 a1_2, .int .i64 a1_3, .int .i64 a1_4, .int .i64 a1_5, .int .i64 a1_6, .int .i64 a1_7, .int .i64 a1_8, .int .i64 a1_9] 56 (0, 0)) (bk_ BK150) hb); replace BK162 := Aside0.mk (blk_below (g := gb162) (o := .cells #[.int .i64 ((rd_T51 l0 x6_2).f0.f0), .int .i64 ((rd_T51 l0 x6_2).f0.f1), .int .i64 ((rd_T51 l0 x6_2).f1)] 51 (0, 0)) (bk_ BK162) hb); replace HB := hbs_ hb; clear hb; have hcz48 := blk_cell BK150.out; have hfz48 := blk_frozen BK150.out; have hcz49 := blk_cell BK162.out; have hfz49 := blk_frozen BK162.out; obtain ⟨Ao50, co50, eo50⟩ := Kd.R_slice HO_5.out; subst eo50) | ((with_reducible refine gate_callee (f := 175) rfl ?_); refine goesC_ (some 67) Try.func175 #[.slice Ao50 x5_2.length co50, .agg #[.int .i64 a1_1, .int .i64 a1_2, .int .i64 ((rd_T51 l0 x6_2).f1)]] ?_; (with_reducible refine (spec_l06Put.calls k2 (fun k_ => some k_ = (.slice Ao50 x5_2.length co50 : Value).ownBlock) (.slice Ao50 x5_2.length co50) x5_2 a1_1 a1_2 ((rd_T51 l0 x6_2).f1) t167 w _ ?side1 ?side2 A42.out).mono ?_); (case side1 => repeat (first | (with_reducible first | exact HB.out | apply below_alloc | apply pw_below_drewN | apply below_drew1 | refine below_set ?_ GE150.out | refine below_set ?_ GE162.out) | exact HB.out)); (case side2 => exact Kd.R_tight rfl HO_5.out); rintro e w51 ⟨v168, rfl, ho0, hb, hkp⟩; refine ⟨_, rfl, ?_⟩; replace BK150 := Aside0.mk (blk_kept (bk_ BK150) hkp (fun hs_ => (fun e_ => (Kd.R_ne HO_5.out BK150.out (by decide)) e_) hs_)); have HO169 := Aside0.mk (Kd.R_mono (ok' := fun k_ => k_ ≠ gb162) ho0 (fun k_ hk_ => Or.elim hk_ (fun hs_ => fun e_ => (Kd.R_away HO_5.out (fun _ hk => hk.2)) (by rw [← e_]; exact hs_)) (fun hn_ => (Kd.freshB (g := gb162) (o := .cells #[.int .i64 ((rd_T51 l0 x6_2).f0.f0), .int .i64 ((rd_T51 l0 x6_2).f0.f1), .int .i64 ((rd_T51 l0 x6_2).f1)] 51 (0, 0)) (bk_ BK162) k_ hn_)))); replace BK162 := Aside0.mk (blk_kept (bk_ BK162) hkp (fun hs_ => (fun e_ => (Kd.R_away HO_5.out (fun _ hk => hk.2)) e_) hs_)); replace HB := Aside0.mk (hb); clear HO_5; (try clear hb); (try clear hkp); (try clear ho0)))
              go_roundg k2
              case measure => have := HJ16.out; have := HK2.out; omega
              case rel => exact ⟨(t167), (wrap64 (x6_2 + 1)), (by first | rfl | (simp; done) | (simp [*]; done)), H', ⟨by have := HJ16.out; have := HK2.out; omega⟩, ⟨by (with_reducible repeat (first | apply Kd.R_alloc | apply Kd.R_drewN | apply Kd.R_drew)); exact Kd.R_mono HO169.out (fun _ hk => trivial)⟩, ⟨bk_ BK150⟩, ⟨bl_⟩⟩
             ·replace c41 := Bool.eq_false_iff.mpr c41
              subst c41
              replace H := ite_f_ H
              have H' := Aside0.mk H
              clear H
              have p161 : 0 ≤ (x6_2 : Int) := of_decide_eq_true (by first | (with_reducible assumption) | assumption)
              have q161 : x6_2 < (l0.length : Int) := of_decide_eq_true (by first | (with_reducible assumption) | assumption)
              obtain ⟨ad161, e161, hx161_0, hx161_1, hx161_2⟩ := at_T51 (Kd.C_below HR0.out HB.out) x6_2 p161 q161
              cases e161
              replace p161 := eq_true p161
              replace q161 := eq_true q161
              go_wp2_with (first | ((with_reducible refine gate_dst (N := 7) rfl ?_); refine box_event ?hg (N := 7) ?hd (cs := #[.int .i64 0, .int .i64 0, .int .i64 0]) (t := 51) ?hr ?_; (case hd => rfl); (case hg => rfl); (case hr => first | (go_simp; done) | (go_simp; rfl)); intro gb162 hg w52 hbox hb; replace HO_5 := Aside0.mk (Kd.R_below (Kd.R_elderB (by (with_reducible repeat (first | apply Kd.R_alloc | apply Kd.R_drewN | apply Kd.R_drew)); exact HO_5.out) gb162 (Nat.le_of_eq hg.symm)) hb); have BK162 := Aside0.mk (hbox); have GW162 := gs_ hg; have GE162 := gs_ hg; replace HB := hbs_ hb; have NB150_162 := Aside0.mk ((by rw [hg]; exact Nat.ne_of_lt (blk_lt (g := gb150) (o := .cells #[.int .i64 a1_0, .int .i64 a1_1, .int .i64 a1_2, .int .i64 a1_3, .int .i64 a1_4, .int .i64 a1_5, .int .i64 a1_6, .int .i64 a1_7, .int .i64 a1_8, .int .i64 a1_9] 56 (0, 0)) (bk_ BK150)) : gb150 ≠ gb162)); have NB162_150 := Aside0.mk ((by rw [hg]; exact Nat.ne_of_gt (blk_lt (g := gb150) (o := .cells #[.int .i64 a1_0, .int .i64 a1_1, .int .i64 a1_2, .int .i64 a1_3, .int .i64 a1_4, .int .i64 a1_5, .int .i64 a1_6, .int .i64 a1_7, .int .i64 a1_8, .int .i64 a1_9] 56 (0, 0)) (bk_ BK150)) : gb162 ≠ gb150)); replace BK150 := bkb_ BK150 hb; clear hb hbox hg; have hnb53 := NB162_150.out; have hnc53 := NB150_162.out; have hcz54 := blk_cell BK162.out; have hfz54 := blk_frozen BK162.out; have hcz55 := blk_cell BK150.out; have hfz55 := blk_frozen BK150.out) | (go_at_call 120; (with_reducible refine (spec_l06Has.calls k2 _ _ l0 a1_6 a1_7 ((rd_T51 l0 x6_2).f1) false _ ?side1 ?side2 A40.out).mono ?_); (case side1 => exact Kd.C_below HR0.out bl_); (case side2 => exact HC0.out); rintro e w56 ⟨rfl, hb⟩; replace HO_5 := Aside0.mk (Kd.R_below (by (with_reducible repeat (first | apply Kd.R_alloc | apply Kd.R_drewN | apply Kd.R_drew)); exact (Kd.R_mono (Kd.R_far (p := ⟨gb162, 2, none⟩) (Kd.R_far (p := ⟨gb162, 1, none⟩) (Kd.R_far (p := ⟨gb162, 0, none⟩) (Kd.R_mono HO_5.out (fun k_ hk => (⟨hk, hk.2⟩ : _ ∧ k_ ≠ gb162))) (fun _ hk => hk.2) (.int .i64 ((rd_T51 l0 x6_2).f0.f0))) (fun _ hk => hk.2) (.int .i64 ((rd_T51 l0 x6_2).f0.f1))) (fun _ hk => hk.2) (.int .i64 ((rd_T51 l0 x6_2).f1))) (fun _ h_ => h_.1))) hb); replace BK150 := Aside0.mk (blk_below (g := gb150) (o := .cells #[.int .i64 a1_0, .int .i64 a1_1, .int .i64 a1_2, .int .i64 a1_3, .int .i64 a1_4, .int .i64 a1_5, .int .i64 a1_6, .int .i64 a1_7, .int .i64 a1_8, .int .i64 a1_9] 56 (0, 0)) (bk_ BK150) hb); replace BK162 := Aside0.mk (blk_below (g := gb162) (o := .cells #[.int .i64 ((rd_T51 l0 x6_2).f0.f0), .int .i64 ((rd_T51 l0 x6_2).f0.f1), .int .i64 ((rd_T51 l0 x6_2).f1)] 51 (0, 0)) (bk_ BK162) hb); replace HB := hbs_ hb; clear hb))
              go_roundg k2
              case measure => have := HJ16.out; have := HK2.out; omega
              case rel => exact ⟨(x5_2), (wrap64 (x6_2 + 1)), (by first | rfl | (simp; done) | (simp [*]; done)), H', ⟨by have := HJ16.out; have := HK2.out; omega⟩, ⟨by (with_reducible repeat (first | apply Kd.R_alloc | apply Kd.R_drewN | apply Kd.R_drew)); exact Kd.R_mono HO_5.out (fun _ hk => trivial)⟩, ⟨bk_ BK150⟩, ⟨bl_⟩⟩
           ·rw [if_neg c29] at H
            have c29b0 : (((rd_T51 l0 x6_2).f0.f0) == a1_4 && (((rd_T51 l0 x6_2).f0.f1) == a1_5)) = false := by simpa using c29
            (try (have c29b1 : decide (((rd_T51 l0 x6_2).f0.f0) = a1_4 && (((rd_T51 l0 x6_2).f0.f1) == a1_5)) = false := by simpa using c29))
            (try (have c29b2 : (((rd_T51 l0 x6_2).f0.f0) == a1_4 && (((rd_T51 l0 x6_2).f0.f1) == a1_5)) = false := by simpa using c29))
            (try (have c29b3 : ¬ (((rd_T51 l0 x6_2).f0.f0) = a1_4 && (((rd_T51 l0 x6_2).f0.f1) == a1_5)) := by simpa using c29))
            clear c29
            have H' := Aside0.mk H
            clear H
            have p161 : 0 ≤ (x6_2 : Int) := of_decide_eq_true (by first | (with_reducible assumption) | assumption)
            have q161 : x6_2 < (l0.length : Int) := of_decide_eq_true (by first | (with_reducible assumption) | assumption)
            obtain ⟨ad161, e161, hx161_0, hx161_1, hx161_2⟩ := at_T51 (Kd.C_below HR0.out HB.out) x6_2 p161 q161
            cases e161
            replace p161 := eq_true p161
            replace q161 := eq_true q161
            go_wp2_with (first | ((with_reducible refine gate_dst (N := 7) rfl ?_); refine box_event ?hg (N := 7) ?hd (cs := #[.int .i64 0, .int .i64 0, .int .i64 0]) (t := 51) ?hr ?_; (case hd => rfl); (case hg => rfl); (case hr => first | (go_simp; done) | (go_simp; rfl)); intro gb162 hg w57 hbox hb; replace HO_5 := Aside0.mk (Kd.R_below (Kd.R_elderB (by (with_reducible repeat (first | apply Kd.R_alloc | apply Kd.R_drewN | apply Kd.R_drew)); exact HO_5.out) gb162 (Nat.le_of_eq hg.symm)) hb); have BK162 := Aside0.mk (hbox); have GW162 := gs_ hg; have GE162 := gs_ hg; replace HB := hbs_ hb; have NB150_162 := Aside0.mk ((by rw [hg]; exact Nat.ne_of_lt (blk_lt (g := gb150) (o := .cells #[.int .i64 a1_0, .int .i64 a1_1, .int .i64 a1_2, .int .i64 a1_3, .int .i64 a1_4, .int .i64 a1_5, .int .i64 a1_6, .int .i64 a1_7, .int .i64 a1_8, .int .i64 a1_9] 56 (0, 0)) (bk_ BK150)) : gb150 ≠ gb162)); have NB162_150 := Aside0.mk ((by rw [hg]; exact Nat.ne_of_gt (blk_lt (g := gb150) (o := .cells #[.int .i64 a1_0, .int .i64 a1_1, .int .i64 a1_2, .int .i64 a1_3, .int .i64 a1_4, .int .i64 a1_5, .int .i64 a1_6, .int .i64 a1_7, .int .i64 a1_8, .int .i64 a1_9] 56 (0, 0)) (bk_ BK150)) : gb162 ≠ gb150)); replace BK150 := bkb_ BK150 hb; clear hb hbox hg; have hnb58 := NB162_150.out; have hnc58 := NB150_162.out; have hcz59 := blk_cell BK162.out; have hfz59 := blk_frozen BK162.out; have hcz60 := blk_cell BK150.out; have hfz60 := blk_frozen BK150.out))
            go_roundg k2
            case measure => have := HJ16.out; have := HK2.out; omega
            case rel => exact ⟨(x5_2), (wrap64 (x6_2 + 1)), (by first | rfl | (simp; done) | (simp [*]; done)), H', ⟨by have := HJ16.out; have := HK2.out; omega⟩, ⟨by (with_reducible repeat (first | apply Kd.R_alloc | apply Kd.R_drewN | apply Kd.R_drew)); exact Kd.R_mono (Kd.R_far (p := ⟨gb162, 2, none⟩) (Kd.R_far (p := ⟨gb162, 1, none⟩) (Kd.R_far (p := ⟨gb162, 0, none⟩) (Kd.R_mono HO_5.out (fun k_ hk => (⟨hk, hk.2⟩ : _ ∧ k_ ≠ gb162))) (fun _ hk => hk.2) (.int .i64 ((rd_T51 l0 x6_2).f0.f0))) (fun _ hk => hk.2) (.int .i64 ((rd_T51 l0 x6_2).f0.f1))) (fun _ hk => hk.2) (.int .i64 ((rd_T51 l0 x6_2).f1))) (fun _ hk => trivial)⟩, ⟨bk_ BK150⟩, ⟨bl_⟩⟩
          ·rw [if_neg c28] at H
           exact absurd H (by simp)
         ·rw [if_neg c27] at H
          have c27b0 : decide (x6_2 < (l0.length : Int)) = false := decide_eq_false c27
          clear c27
          obtain rfl := Option.some.inj H
          go_wp2
          go_ret
          exact ⟨_, eq_, by (with_reducible repeat (first | apply Kd.R_alloc | apply Kd.R_drewN | apply Kd.R_drew)); exact HO_5.out, bl_⟩
      ·replace c26 := Bool.eq_false_iff.mpr c26
       subst c26
       replace H := ite_f_ H
       by_cases c61 : a1_0 = 3
       ·rw [if_pos c61] at H
        have c61b0 : (a1_0 == 3) = true := beq_iff_eq.mpr c61
        have c61b1 : (a1_0 != 3) = false := bne_eq_false_iff_eq.mpr c61
        clear c61
        have H' := Aside0.mk H
        clear H
        go_wp2
        go_loopg [5, 8] kj16 (fun kq v5 v8 w' => ∃ (x5_2 : List (S51)) (x8_2 : Int), v8 = .int .i64 x8_2 ∧ Aside0 (spec_Follows.l1 kq l0 x5_2 x8_2 a1_0 a1_1 a1_2 a1_3 a1_4 a1_5 a1_6 a1_7 a1_8 a1_9 = some r) ∧ Aside0 (kq ≤ kj16) ∧ Aside0 (Kd.R k51 51 w' w.heap.size (fun _ => True) v5 x5_2) ∧ Aside0 (w'.heap[gb150]? = some (.cells #[.int .i64 a1_0, .int .i64 a1_1, .int .i64 a1_2, .int .i64 a1_3, .int .i64 a1_4, .int .i64 a1_5, .int .i64 a1_6, .int .i64 a1_7, .int .i64 a1_8, .int .i64 a1_9] 56 (0, 0))) ∧ Aside0 (Below w.heap.size w w'))
        case atStart => exact ⟨(y154), (0), (by first | rfl | (simp; done) | (simp [*]; done)), H', ⟨Nat.le_refl _⟩, ⟨by (with_reducible repeat (first | apply Kd.R_alloc | apply Kd.R_drewN | apply Kd.R_drew)); exact HO_5.out⟩, ⟨bk_ BK150⟩, ⟨bl_⟩⟩
        case round =>
         clear H'
         try clear c1
         try clear p1
         try clear q1
         try clear hx1
         try clear c2
         try clear p2
         try clear c3
         try clear c4
         try clear c5
         try clear c6
         try clear c6b0
         try clear c6b1
         try clear p6
         try clear c9
         try clear c10
         try clear p16
         try clear q16
         try clear hx16
         try clear c17
         try clear c25
         try clear c25b0
         try clear c25b1
         try clear c26
         try clear c27
         try clear c27b0
         try clear c28
         try clear c28b0
         try clear c29
         try clear c29b0
         try clear c29b1
         try clear c29b2
         try clear c30
         try clear c30b0
         try clear c30b1
         try clear c33
         try clear c41
         try clear c44
         try clear c53
         try clear c58
         try clear c61
         try clear c61b0
         try clear c61b1
         try clear hcz12
         try clear hcz14
         try clear hcz22
         try clear hcz24
         try clear hcz34
         try clear hcz36
         try clear hcz37
         try clear hcz45
         try clear hcz46
         try clear hcz48
         try clear hcz49
         try clear hcz54
         try clear hcz55
         try clear hcz59
         try clear hcz60
         try clear hfz12
         try clear hfz14
         try clear hfz22
         try clear hfz24
         try clear hfz34
         try clear hfz36
         try clear hfz37
         try clear hfz45
         try clear hfz46
         try clear hfz48
         try clear hfz49
         try clear hfz54
         try clear hfz55
         try clear hfz59
         try clear hfz60
         try clear hx161_0
         try clear hx161_1
         try clear hx161_2
         try clear p161
         try clear p2
         try clear q161
         obtain ⟨x5_2, x8_2, rfl, HA, HK2, HO_5, BK150, HB⟩ := hrel
         cases gk with
         | zero => exact absurd HA.out (by simp [spec_Follows.l1])
         | succ k2 =>
          have H := HA.out
          clear HA
          simp only [spec_Follows.l1] at H
          by_cases c62 : x8_2 < (l0.length : Int)
          ·rw [if_pos c62] at H
           have c62b0 : decide (x8_2 < (l0.length : Int)) = true := decide_eq_true c62
           clear c62
           by_cases c63 : 0 ≤ x8_2
           ·rw [if_pos c63] at H
            have c63b0 : decide (0 ≤ x8_2) = true := decide_eq_true c63
            clear c63
            by_cases c64 : (!(((rd_T51 l0 x8_2).f0.f0) == a1_4) || (!(((rd_T51 l0 x8_2).f0.f1) == a1_5))) = true
            ·rw [if_pos c64] at H
             have c64b0 : (!(((rd_T51 l0 x8_2).f0.f0) == a1_4) || (!(((rd_T51 l0 x8_2).f0.f1) == a1_5))) = true := c64
             clear c64
             have H' := Aside0.mk H
             clear H
             try go_wp2
             replace HO_5 := Aside0.mk (Kd.R_drew HO_5.out)
             replace BK150 := Aside0.mk (blk_drew BK150.out)
             replace HB := Aside0.mk (below_drew1 HB.out)
             have p170 : 0 ≤ (x8_2 : Int) := of_decide_eq_true (by first | (with_reducible assumption) | assumption)
             have q170 : x8_2 < (l0.length : Int) := of_decide_eq_true (by first | (with_reducible assumption) | assumption)
             obtain ⟨ad170, e170, hx170_0, hx170_1, hx170_2⟩ := at_T51 HR0.out x8_2 p170 q170
             have hw170_2 := hx170_2
             have hw170_1 := hx170_1
             have hw170_0 := hx170_0
             cases e170
             replace hx170_0 := cb_ HB hx170_0
             replace hx170_1 := cb_ HB hx170_1
             replace hx170_2 := cb_ HB hx170_2
             replace p170 := eq_true p170
             replace q170 := eq_true q170
             refine start_ (n := 8) (S := fun w' => w'.cell? ⟨gb150, 0, none⟩ = some (.int .i64 a1_0) ∧ w'.cell? ⟨gb150, 1, none⟩ = some (.int .i64 a1_1) ∧ w'.cell? ⟨gb150, 2, none⟩ = some (.int .i64 a1_2) ∧ w'.cell? ⟨gb150, 3, none⟩ = some (.int .i64 a1_3) ∧ w'.cell? ⟨gb150, 4, none⟩ = some (.int .i64 a1_4) ∧ w'.cell? ⟨gb150, 5, none⟩ = some (.int .i64 a1_5) ∧ w'.cell? ⟨gb150, 6, none⟩ = some (.int .i64 a1_6) ∧ w'.cell? ⟨gb150, 7, none⟩ = some (.int .i64 a1_7) ∧ w'.cell? ⟨gb150, 8, none⟩ = some (.int .i64 a1_8) ∧ w'.cell? ⟨gb150, 9, none⟩ = some (.int .i64 a1_9) ∧ w'.cell? (ad170.add ((x8_2).toNat * 3)) = some (.int .i64 ((rd_T51 l0 x8_2).f0.f0)) ∧ w'.cell? ⟨(ad170.add ((x8_2).toNat * 3)).block, (ad170.add ((x8_2).toNat * 3)).off + 1, none⟩ = some (.int .i64 ((rd_T51 l0 x8_2).f0.f1)) ∧ w'.cell? ⟨(ad170.add ((x8_2).toNat * 3)).block, (ad170.add ((x8_2).toNat * 3)).off + 2, none⟩ = some (.int .i64 ((rd_T51 l0 x8_2).f1))) (ds := []) #[false, false, false, false, false, false, false, false] (by kernel_rfl) rfl rfl ⟨(blk_cell BK150.out 0).trans rfl, (blk_cell BK150.out 1).trans rfl, (blk_cell BK150.out 2).trans rfl, (blk_cell BK150.out 3).trans rfl, (blk_cell BK150.out 4).trans rfl, (blk_cell BK150.out 5).trans rfl, (blk_cell BK150.out 6).trans rfl, (blk_cell BK150.out 7).trans rfl, (blk_cell BK150.out 8).trans rfl, (blk_cell BK150.out 9).trans rfl, ((HB.out.cell (World.block_lt_of_cell? w _ hw170_0)).trans hw170_0), ((HB.out.cell (World.block_lt_of_cell? w _ hw170_1)).trans hw170_1), ((HB.out.cell (World.block_lt_of_cell? w _ hw170_2)).trans hw170_2)⟩ (fun hHeld => ?_); refine with_tabW spec_Follows.tab19 spec_Follows.bits19 (fun HT_ HW_ => ?_)
             generalize wr.drew = w65 at HO_5 BK150 HB hx170_0 hx170_1 hx170_2 hHeld ⊢
             refine pureZ_ (i := 0) (some 76) #[true, false, false, false, false, false, false, false] (any_of HT_.out (by kernel_rfl)) ?_
             refine pureZ_ (i := 1) (some 77) #[true, true, false, false, false, false, false, false] (any_of HT_.out (by kernel_rfl)) ?_
             refine pureZ_ (i := 2) (some 78) #[true, true, true, false, false, false, false, false] (any_of HT_.out (by kernel_rfl)) ?_
             refine pureZ_ (i := 3) (some 79) #[true, true, true, true, false, false, false, false] (any_of HT_.out (by kernel_rfl)) ?_
             refine pureZ_ (i := 5) (some 81) #[true, true, true, true, false, true, false, false] (any_of HT_.out (by kernel_rfl)) ?_
             refine takeZ_ (i := 4) (some 80) #[true, true, true, true, true, true, false, false] (take_ofW HT_.out HW_.out (by kernel_rfl)) hHeld ?_
             refine takeZ_ (i := 6) (some 82) #[true, true, true, true, true, true, true, false] (take_ofW HT_.out HW_.out (by kernel_rfl)) hHeld ?_
             refine pureZ_ (i := 7) (some 83) #[true, true, true, true, true, true, true, true] (any_of HT_.out (by kernel_rfl)) ?_
             refine done_ (done_of HT_.out (by kernel_rfl)) ?_
             try go_wp2
             go_roundg k2
             case measure => have := HJ16.out; have := HK2.out; omega
             case rel => exact ⟨(x5_2), (wrap64 (x8_2 + 1)), (by first | rfl | (simp; done) | (simp [*]; done)), H', ⟨by have := HJ16.out; have := HK2.out; omega⟩, ⟨by (with_reducible repeat (first | apply Kd.R_alloc | apply Kd.R_drewN | apply Kd.R_drew)); exact HO_5.out⟩, ⟨bk_ BK150⟩, ⟨bl_⟩⟩
            ·rw [if_neg c64] at H
             have c64b0 : (!(((rd_T51 l0 x8_2).f0.f0) == a1_4) || (!(((rd_T51 l0 x8_2).f0.f1) == a1_5))) = false := by simpa using c64
             clear c64
             have H' := Aside0.mk H
             clear H
             try go_wp2
             replace HO_5 := Aside0.mk (Kd.R_drew HO_5.out)
             replace BK150 := Aside0.mk (blk_drew BK150.out)
             replace HB := Aside0.mk (below_drew1 HB.out)
             have p170 : 0 ≤ (x8_2 : Int) := of_decide_eq_true (by first | (with_reducible assumption) | assumption)
             have q170 : x8_2 < (l0.length : Int) := of_decide_eq_true (by first | (with_reducible assumption) | assumption)
             obtain ⟨ad170, e170, hx170_0, hx170_1, hx170_2⟩ := at_T51 HR0.out x8_2 p170 q170
             have hw170_2 := hx170_2
             have hw170_1 := hx170_1
             have hw170_0 := hx170_0
             cases e170
             replace hx170_0 := cb_ HB hx170_0
             replace hx170_1 := cb_ HB hx170_1
             replace hx170_2 := cb_ HB hx170_2
             replace p170 := eq_true p170
             replace q170 := eq_true q170
             refine start_ (n := 8) (S := fun w' => w'.cell? ⟨gb150, 0, none⟩ = some (.int .i64 a1_0) ∧ w'.cell? ⟨gb150, 1, none⟩ = some (.int .i64 a1_1) ∧ w'.cell? ⟨gb150, 2, none⟩ = some (.int .i64 a1_2) ∧ w'.cell? ⟨gb150, 3, none⟩ = some (.int .i64 a1_3) ∧ w'.cell? ⟨gb150, 4, none⟩ = some (.int .i64 a1_4) ∧ w'.cell? ⟨gb150, 5, none⟩ = some (.int .i64 a1_5) ∧ w'.cell? ⟨gb150, 6, none⟩ = some (.int .i64 a1_6) ∧ w'.cell? ⟨gb150, 7, none⟩ = some (.int .i64 a1_7) ∧ w'.cell? ⟨gb150, 8, none⟩ = some (.int .i64 a1_8) ∧ w'.cell? ⟨gb150, 9, none⟩ = some (.int .i64 a1_9) ∧ w'.cell? (ad170.add ((x8_2).toNat * 3)) = some (.int .i64 ((rd_T51 l0 x8_2).f0.f0)) ∧ w'.cell? ⟨(ad170.add ((x8_2).toNat * 3)).block, (ad170.add ((x8_2).toNat * 3)).off + 1, none⟩ = some (.int .i64 ((rd_T51 l0 x8_2).f0.f1)) ∧ w'.cell? ⟨(ad170.add ((x8_2).toNat * 3)).block, (ad170.add ((x8_2).toNat * 3)).off + 2, none⟩ = some (.int .i64 ((rd_T51 l0 x8_2).f1))) (ds := []) #[false, false, false, false, false, false, false, false] (by kernel_rfl) rfl rfl ⟨(blk_cell BK150.out 0).trans rfl, (blk_cell BK150.out 1).trans rfl, (blk_cell BK150.out 2).trans rfl, (blk_cell BK150.out 3).trans rfl, (blk_cell BK150.out 4).trans rfl, (blk_cell BK150.out 5).trans rfl, (blk_cell BK150.out 6).trans rfl, (blk_cell BK150.out 7).trans rfl, (blk_cell BK150.out 8).trans rfl, (blk_cell BK150.out 9).trans rfl, ((HB.out.cell (World.block_lt_of_cell? w _ hw170_0)).trans hw170_0), ((HB.out.cell (World.block_lt_of_cell? w _ hw170_1)).trans hw170_1), ((HB.out.cell (World.block_lt_of_cell? w _ hw170_2)).trans hw170_2)⟩ (fun hHeld => ?_); refine with_tabW spec_Follows.tab19 spec_Follows.bits19 (fun HT_ HW_ => ?_)
             generalize wr.drew = w66 at HO_5 BK150 HB hx170_0 hx170_1 hx170_2 hHeld ⊢
             refine pureZ_ (i := 0) (some 76) #[true, false, false, false, false, false, false, false] (any_of HT_.out (by kernel_rfl)) ?_
             refine pureZ_ (i := 1) (some 77) #[true, true, false, false, false, false, false, false] (any_of HT_.out (by kernel_rfl)) ?_
             refine pureZ_ (i := 2) (some 78) #[true, true, true, false, false, false, false, false] (any_of HT_.out (by kernel_rfl)) ?_
             refine pureZ_ (i := 3) (some 79) #[true, true, true, true, false, false, false, false] (any_of HT_.out (by kernel_rfl)) ?_
             refine pureZ_ (i := 5) (some 81) #[true, true, true, true, false, true, false, false] (any_of HT_.out (by kernel_rfl)) ?_
             refine takeZ_ (i := 4) (some 80) #[true, true, true, true, true, true, false, false] (take_ofW HT_.out HW_.out (by kernel_rfl)) hHeld ?_
             refine takeZ_ (i := 6) (some 82) #[true, true, true, true, true, true, true, false] (take_ofW HT_.out HW_.out (by kernel_rfl)) hHeld ?_
             refine pureZ_ (i := 7) (some 83) #[true, true, true, true, true, true, true, true] (any_of HT_.out (by kernel_rfl)) ?_
             refine done_ (done_of HT_.out (by kernel_rfl)) ?_
             try go_wp2
             replace HO_5 := Aside0.mk (Kd.R_drew HO_5.out)
             replace BK150 := Aside0.mk (blk_drew BK150.out)
             replace HB := Aside0.mk (below_drew1 HB.out)
             have p171 : 0 ≤ (x8_2 : Int) := of_decide_eq_true (by first | (with_reducible assumption) | assumption)
             have q171 : x8_2 < (l0.length : Int) := of_decide_eq_true (by first | (with_reducible assumption) | assumption)
             obtain ⟨ad171, e171, hx171_0, hx171_1, hx171_2⟩ := at_T51 HR0.out x8_2 p171 q171
             have hw171_2 := hx171_2
             have hw171_1 := hx171_1
             have hw171_0 := hx171_0
             obtain rfl : ad170 = ad171 := (by injection e171)
             replace hx171_0 := cb_ HB hx171_0
             replace hx171_1 := cb_ HB hx171_1
             replace hx171_2 := cb_ HB hx171_2
             replace p171 := eq_true p171
             replace q171 := eq_true q171
             refine start_ (n := 11) (S := fun w' => w'.cell? ⟨gb150, 0, none⟩ = some (.int .i64 a1_0) ∧ w'.cell? ⟨gb150, 1, none⟩ = some (.int .i64 a1_1) ∧ w'.cell? ⟨gb150, 2, none⟩ = some (.int .i64 a1_2) ∧ w'.cell? ⟨gb150, 3, none⟩ = some (.int .i64 a1_3) ∧ w'.cell? ⟨gb150, 4, none⟩ = some (.int .i64 a1_4) ∧ w'.cell? ⟨gb150, 5, none⟩ = some (.int .i64 a1_5) ∧ w'.cell? ⟨gb150, 6, none⟩ = some (.int .i64 a1_6) ∧ w'.cell? ⟨gb150, 7, none⟩ = some (.int .i64 a1_7) ∧ w'.cell? ⟨gb150, 8, none⟩ = some (.int .i64 a1_8) ∧ w'.cell? ⟨gb150, 9, none⟩ = some (.int .i64 a1_9) ∧ w'.cell? (ad170.add ((x8_2).toNat * 3)) = some (.int .i64 ((rd_T51 l0 x8_2).f0.f0)) ∧ w'.cell? ⟨(ad170.add ((x8_2).toNat * 3)).block, (ad170.add ((x8_2).toNat * 3)).off + 1, none⟩ = some (.int .i64 ((rd_T51 l0 x8_2).f0.f1)) ∧ w'.cell? ⟨(ad170.add ((x8_2).toNat * 3)).block, (ad170.add ((x8_2).toNat * 3)).off + 2, none⟩ = some (.int .i64 ((rd_T51 l0 x8_2).f1))) (ds := []) #[false, false, false, false, false, false, false, false, false, false, false] (by kernel_rfl) rfl rfl ⟨(blk_cell BK150.out 0).trans rfl, (blk_cell BK150.out 1).trans rfl, (blk_cell BK150.out 2).trans rfl, (blk_cell BK150.out 3).trans rfl, (blk_cell BK150.out 4).trans rfl, (blk_cell BK150.out 5).trans rfl, (blk_cell BK150.out 6).trans rfl, (blk_cell BK150.out 7).trans rfl, (blk_cell BK150.out 8).trans rfl, (blk_cell BK150.out 9).trans rfl, ((HB.out.cell (World.block_lt_of_cell? w _ hw171_0)).trans hw171_0), ((HB.out.cell (World.block_lt_of_cell? w _ hw171_1)).trans hw171_1), ((HB.out.cell (World.block_lt_of_cell? w _ hw171_2)).trans hw171_2)⟩ (fun hHeld => ?_); refine with_tabW spec_Follows.tab20 spec_Follows.bits20 (fun HT_ HW_ => ?_)
             generalize w66.drew = w67 at HO_5 BK150 HB hx171_0 hx171_1 hx171_2 hHeld ⊢
             refine pureZ_ (i := 0) (some 84) #[true, false, false, false, false, false, false, false, false, false, false] (any_of HT_.out (by kernel_rfl)) ?_
             refine pureZ_ (i := 1) (some 85) #[true, true, false, false, false, false, false, false, false, false, false] (any_of HT_.out (by kernel_rfl)) ?_
             refine pureZ_ (i := 2) (some 86) #[true, true, true, false, false, false, false, false, false, false, false] (any_of HT_.out (by kernel_rfl)) ?_
             refine pureZ_ (i := 3) (some 87) #[true, true, true, true, false, false, false, false, false, false, false] (any_of HT_.out (by kernel_rfl)) ?_
             refine pureZ_ (i := 5) (some 89) #[true, true, true, true, false, true, false, false, false, false, false] (any_of HT_.out (by kernel_rfl)) ?_
             refine pureZ_ (i := 6) (some 90) #[true, true, true, true, false, true, true, false, false, false, false] (any_of HT_.out (by kernel_rfl)) ?_
             refine takeZ_ (i := 4) (some 88) #[true, true, true, true, true, true, true, false, false, false, false] (take_ofW HT_.out HW_.out (by kernel_rfl)) hHeld ?_
             refine takeZ_ (i := 7) (some 91) #[true, true, true, true, true, true, true, true, false, false, false] (take_ofW HT_.out HW_.out (by kernel_rfl)) hHeld ?_
             refine pureZ_ (i := 8) (some 92) #[true, true, true, true, true, true, true, true, true, false, false] (any_of HT_.out (by kernel_rfl)) ?_
             refine one_ (i := 9) (N := some 9) #[true, true, true, true, true, true, true, true, true, true, false] rfl rfl (one_of HT_.out (by kernel_rfl)) (by decide) (fun K hK => ?_)
             refine box_step ?hg (N := 9) ?hd (cs := #[.int .i64 0, .int .i64 0]) (t := 49) ?hr ?_; (case hd => rfl); (case hg => rfl); (case hr => first | (go_simp; done) | (go_simp; rfl))
             intro gb172 hg w68 hbox hb
             replace HO_5 := Aside0.mk (Kd.R_below (by (with_reducible repeat (first | apply Kd.R_alloc | apply Kd.R_drewN | apply Kd.R_drew)); exact HO_5.out) hb)
             have BK172 := Aside0.mk (hbox)
             have GW172 := gs_ hg
             have GE172 := gs_ hg
             replace HB := hbs_ hb
             have NB150_172 := Aside0.mk ((by rw [hg]; exact Nat.ne_of_lt (blk_lt (g := gb150) (o := .cells #[.int .i64 a1_0, .int .i64 a1_1, .int .i64 a1_2, .int .i64 a1_3, .int .i64 a1_4, .int .i64 a1_5, .int .i64 a1_6, .int .i64 a1_7, .int .i64 a1_8, .int .i64 a1_9] 56 (0, 0)) (bk_ BK150)) : gb150 ≠ gb172))
             have NB172_150 := Aside0.mk ((by rw [hg]; exact Nat.ne_of_gt (blk_lt (g := gb150) (o := .cells #[.int .i64 a1_0, .int .i64 a1_1, .int .i64 a1_2, .int .i64 a1_3, .int .i64 a1_4, .int .i64 a1_5, .int .i64 a1_6, .int .i64 a1_7, .int .i64 a1_8, .int .i64 a1_9] 56 (0, 0)) (bk_ BK150)) : gb172 ≠ gb150))
             replace BK150 := bkb_ BK150 hb
             clear hb hbox hg
             refine hK.out _ _ ⟨(blk_cell BK150.out 0).trans rfl, (blk_cell BK150.out 1).trans rfl, (blk_cell BK150.out 2).trans rfl, (blk_cell BK150.out 3).trans rfl, (blk_cell BK150.out 4).trans rfl, (blk_cell BK150.out 5).trans rfl, (blk_cell BK150.out 6).trans rfl, (blk_cell BK150.out 7).trans rfl, (blk_cell BK150.out 8).trans rfl, (blk_cell BK150.out 9).trans rfl, ((HB.out.cell (World.block_lt_of_cell? w _ hw171_0)).trans hw171_0), ((HB.out.cell (World.block_lt_of_cell? w _ hw171_1)).trans hw171_1), ((HB.out.cell (World.block_lt_of_cell? w _ hw171_2)).trans hw171_2)⟩ (fun hHeld => ?_)
             clear hK K
             refine norm_ (a' := ?_) ?_ ?_
             rotate_left
             ·show Act.put _ (some 9) _ = _
              simp only [Act.put, List.setIfInBounds_toArray, List.set_cons_zero, List.set_cons_succ, i64_w, i32_w]
              rfl
             refine one_ (i := 10) (N := none) #[true, true, true, true, true, true, true, true, true, true, true] rfl rfl (one_of HT_.out (by kernel_rfl)) (by decide) (fun K hK => ?_)
             have hs69 : w68.cell? ⟨gb172, 0, none⟩ = some (.int .i64 0) := (blk_cell BK172.out 0).trans rfl
             have hfs69 := blk_frozen BK172.out 0
             have hns69_0 := NB150_172.out
             have hms69_0 := NB172_150.out
             have hs70 : w68.cell? ⟨gb172, 1, none⟩ = some (.int .i64 0) := (blk_cell BK172.out 1).trans rfl
             have hfs70 := blk_frozen BK172.out 1
             have hns70_0 := NB150_172.out
             have hms70_0 := NB172_150.out
             refine skip_ (w1 := ?_) (by rfl) rfl ?_ ?_
             rotate_left
             ·go_simp
              rfl
             refine hK.out _ _ ⟨((cell_far (p := ⟨gb172, _, none⟩) NB150_172.out _).trans (((cell_far (p := ⟨gb172, _, none⟩) NB150_172.out _).trans (hHeld.1)))), ((cell_far (p := ⟨gb172, _, none⟩) NB150_172.out _).trans (((cell_far (p := ⟨gb172, _, none⟩) NB150_172.out _).trans (hHeld.2.1)))), ((cell_far (p := ⟨gb172, _, none⟩) NB150_172.out _).trans (((cell_far (p := ⟨gb172, _, none⟩) NB150_172.out _).trans (hHeld.2.2.1)))), ((cell_far (p := ⟨gb172, _, none⟩) NB150_172.out _).trans (((cell_far (p := ⟨gb172, _, none⟩) NB150_172.out _).trans (hHeld.2.2.2.1)))), ((cell_far (p := ⟨gb172, _, none⟩) NB150_172.out _).trans (((cell_far (p := ⟨gb172, _, none⟩) NB150_172.out _).trans (hHeld.2.2.2.2.1)))), ((cell_far (p := ⟨gb172, _, none⟩) NB150_172.out _).trans (((cell_far (p := ⟨gb172, _, none⟩) NB150_172.out _).trans (hHeld.2.2.2.2.2.1)))), ((cell_far (p := ⟨gb172, _, none⟩) NB150_172.out _).trans (((cell_far (p := ⟨gb172, _, none⟩) NB150_172.out _).trans (hHeld.2.2.2.2.2.2.1)))), ((cell_far (p := ⟨gb172, _, none⟩) NB150_172.out _).trans (((cell_far (p := ⟨gb172, _, none⟩) NB150_172.out _).trans (hHeld.2.2.2.2.2.2.2.1)))), ((cell_far (p := ⟨gb172, _, none⟩) NB150_172.out _).trans (((cell_far (p := ⟨gb172, _, none⟩) NB150_172.out _).trans (hHeld.2.2.2.2.2.2.2.2.1)))), ((cell_far (p := ⟨gb172, _, none⟩) NB150_172.out _).trans (((cell_far (p := ⟨gb172, _, none⟩) NB150_172.out _).trans (hHeld.2.2.2.2.2.2.2.2.2.1)))), ((cell_far (p := ⟨gb172, _, none⟩) (by first | exact Nat.ne_of_lt (Nat.lt_of_lt_of_le (by have := World.block_lt_of_cell? _ _ hw171_0; first | rwa [add_block] at this | exact this) GW172.out) | (rw [add_block]; exact Nat.ne_of_lt (Nat.lt_of_lt_of_le (by have := World.block_lt_of_cell? _ _ hw171_0; first | rwa [add_block] at this | exact this) GW172.out)) | (show (Addr.add _ _).block ≠ _; rw [add_block]; exact Nat.ne_of_lt (Nat.lt_of_lt_of_le (by have := World.block_lt_of_cell? _ _ hw171_0; first | rwa [add_block] at this | exact this) GW172.out)) | (dsimp only; exact Nat.ne_of_lt (Nat.lt_of_lt_of_le (by have := World.block_lt_of_cell? _ _ hw171_0; first | rwa [add_block] at this | exact this) GW172.out))) _).trans (((cell_far (p := ⟨gb172, _, none⟩) (by first | exact Nat.ne_of_lt (Nat.lt_of_lt_of_le (by have := World.block_lt_of_cell? _ _ hw171_0; first | rwa [add_block] at this | exact this) GW172.out) | (rw [add_block]; exact Nat.ne_of_lt (Nat.lt_of_lt_of_le (by have := World.block_lt_of_cell? _ _ hw171_0; first | rwa [add_block] at this | exact this) GW172.out)) | (show (Addr.add _ _).block ≠ _; rw [add_block]; exact Nat.ne_of_lt (Nat.lt_of_lt_of_le (by have := World.block_lt_of_cell? _ _ hw171_0; first | rwa [add_block] at this | exact this) GW172.out)) | (dsimp only; exact Nat.ne_of_lt (Nat.lt_of_lt_of_le (by have := World.block_lt_of_cell? _ _ hw171_0; first | rwa [add_block] at this | exact this) GW172.out))) _).trans (hHeld.2.2.2.2.2.2.2.2.2.2.1)))), ((cell_far (p := ⟨gb172, _, none⟩) (by first | exact Nat.ne_of_lt (Nat.lt_of_lt_of_le (by have := World.block_lt_of_cell? _ _ hw171_1; first | rwa [add_block] at this | exact this) GW172.out) | (rw [add_block]; exact Nat.ne_of_lt (Nat.lt_of_lt_of_le (by have := World.block_lt_of_cell? _ _ hw171_1; first | rwa [add_block] at this | exact this) GW172.out)) | (show (Addr.add _ _).block ≠ _; rw [add_block]; exact Nat.ne_of_lt (Nat.lt_of_lt_of_le (by have := World.block_lt_of_cell? _ _ hw171_1; first | rwa [add_block] at this | exact this) GW172.out)) | (dsimp only; exact Nat.ne_of_lt (Nat.lt_of_lt_of_le (by have := World.block_lt_of_cell? _ _ hw171_1; first | rwa [add_block] at this | exact this) GW172.out))) _).trans (((cell_far (p := ⟨gb172, _, none⟩) (by first | exact Nat.ne_of_lt (Nat.lt_of_lt_of_le (by have := World.block_lt_of_cell? _ _ hw171_1; first | rwa [add_block] at this | exact this) GW172.out) | (rw [add_block]; exact Nat.ne_of_lt (Nat.lt_of_lt_of_le (by have := World.block_lt_of_cell? _ _ hw171_1; first | rwa [add_block] at this | exact this) GW172.out)) | (show (Addr.add _ _).block ≠ _; rw [add_block]; exact Nat.ne_of_lt (Nat.lt_of_lt_of_le (by have := World.block_lt_of_cell? _ _ hw171_1; first | rwa [add_block] at this | exact this) GW172.out)) | (dsimp only; exact Nat.ne_of_lt (Nat.lt_of_lt_of_le (by have := World.block_lt_of_cell? _ _ hw171_1; first | rwa [add_block] at this | exact this) GW172.out))) _).trans (hHeld.2.2.2.2.2.2.2.2.2.2.2.1)))), ((cell_far (p := ⟨gb172, _, none⟩) (by first | exact Nat.ne_of_lt (Nat.lt_of_lt_of_le (by have := World.block_lt_of_cell? _ _ hw171_2; first | rwa [add_block] at this | exact this) GW172.out) | (rw [add_block]; exact Nat.ne_of_lt (Nat.lt_of_lt_of_le (by have := World.block_lt_of_cell? _ _ hw171_2; first | rwa [add_block] at this | exact this) GW172.out)) | (show (Addr.add _ _).block ≠ _; rw [add_block]; exact Nat.ne_of_lt (Nat.lt_of_lt_of_le (by have := World.block_lt_of_cell? _ _ hw171_2; first | rwa [add_block] at this | exact this) GW172.out)) | (dsimp only; exact Nat.ne_of_lt (Nat.lt_of_lt_of_le (by have := World.block_lt_of_cell? _ _ hw171_2; first | rwa [add_block] at this | exact this) GW172.out))) _).trans (((cell_far (p := ⟨gb172, _, none⟩) (by first | exact Nat.ne_of_lt (Nat.lt_of_lt_of_le (by have := World.block_lt_of_cell? _ _ hw171_2; first | rwa [add_block] at this | exact this) GW172.out) | (rw [add_block]; exact Nat.ne_of_lt (Nat.lt_of_lt_of_le (by have := World.block_lt_of_cell? _ _ hw171_2; first | rwa [add_block] at this | exact this) GW172.out)) | (show (Addr.add _ _).block ≠ _; rw [add_block]; exact Nat.ne_of_lt (Nat.lt_of_lt_of_le (by have := World.block_lt_of_cell? _ _ hw171_2; first | rwa [add_block] at this | exact this) GW172.out)) | (dsimp only; exact Nat.ne_of_lt (Nat.lt_of_lt_of_le (by have := World.block_lt_of_cell? _ _ hw171_2; first | rwa [add_block] at this | exact this) GW172.out))) _).trans (hHeld.2.2.2.2.2.2.2.2.2.2.2.2))))⟩ (fun hHeld => ?_)
             clear hK K
             refine done_ (done_of HT_.out (by kernel_rfl)) ?_
             try go_wp2
             go_loopg [5, 10] k2 (fun kq v5 v10 w' => ∃ (x5_3 : List (S51)) (x10_3 : Int), v10 = .int .i64 x10_3 ∧ Aside0 (spec_Follows.l2 kq l0 x5_3 x8_2 x10_3 a1_0 a1_1 a1_2 a1_3 a1_4 a1_5 a1_6 a1_7 a1_8 a1_9 ((rd_T51 l0 x8_2).f1) a1_7 = some r) ∧ Aside0 (kq ≤ k2) ∧ Aside0 (Kd.R k51 51 w' w.heap.size (fun _ => True) v5 x5_3) ∧ Aside0 (w'.heap[gb150]? = some (.cells #[.int .i64 a1_0, .int .i64 a1_1, .int .i64 a1_2, .int .i64 a1_3, .int .i64 a1_4, .int .i64 a1_5, .int .i64 a1_6, .int .i64 a1_7, .int .i64 a1_8, .int .i64 a1_9] 56 (0, 0))) ∧ Aside0 (w'.heap[gb172]? = some (.cells #[.int .i64 ((rd_T51 l0 x8_2).f1), .int .i64 a1_7] 49 (0, 0))) ∧ Aside0 (Below w.heap.size w w'))
             case atStart => exact ⟨(x5_2), (0), (by first | rfl | (simp; done) | (simp [*]; done)), H', ⟨Nat.le_refl _⟩, ⟨by (with_reducible repeat (first | apply Kd.R_alloc | apply Kd.R_drewN | apply Kd.R_drew)); exact Kd.R_mono (Kd.R_far (p := ⟨gb172, 1, none⟩) (Kd.R_far (p := ⟨gb172, 0, none⟩) (Kd.R_types HO_5.out BK172.out (by decide)) (fun _ hk => hk.2) (.int .i64 ((rd_T51 l0 x8_2).f1))) (fun _ hk => hk.2) (.int .i64 a1_7)) (fun _ hk => trivial)⟩, ⟨bk_ BK150⟩, ⟨bk_ BK172⟩, ⟨bl_⟩⟩
             case round =>
              clear H'
              try clear p1
              try clear q1
              try clear hx1
              try clear c2
              try clear p2
              try clear c3
              try clear c4
              try clear c5
              try clear c6
              try clear p6
              try clear p16
              try clear q16
              try clear hx16
              try clear p17
              try clear q17
              try clear hx17
              try clear c27
              try clear c27b0
              try clear c28
              try clear c28b0
              try clear c29
              try clear c29b0
              try clear c29b1
              try clear c29b2
              try clear c30
              try clear c30b0
              try clear c30b1
              try clear c33
              try clear c41
              try clear c44
              try clear c53
              try clear c58
              try clear c61
              try clear c61b0
              try clear c61b1
              try clear c62
              try clear c62b0
              try clear c63
              try clear c63b0
              try clear c64
              try clear c64b0
              try clear p64
              try clear hcz12
              try clear hcz14
              try clear hcz22
              try clear hcz24
              try clear hcz34
              try clear hcz36
              try clear hcz37
              try clear hcz45
              try clear hcz46
              try clear hcz48
              try clear hcz49
              try clear hcz54
              try clear hcz55
              try clear hcz59
              try clear hcz60
              try clear hfz12
              try clear hfz14
              try clear hfz22
              try clear hfz24
              try clear hfz34
              try clear hfz36
              try clear hfz37
              try clear hfz45
              try clear hfz46
              try clear hfz48
              try clear hfz49
              try clear hfz54
              try clear hfz55
              try clear hfz59
              try clear hfz60
              try clear hx161_0
              try clear hx161_1
              try clear hx161_2
              try clear hx170_0
              try clear hx170_1
              try clear hx170_2
              try clear hx171_0
              try clear hx171_1
              try clear hx171_2
              try clear p161
              try clear p170
              try clear p171
              try clear p2
              try clear q161
              try clear q170
              try clear q171
              obtain ⟨x5_3, x10_3, rfl, HA, HK3, HO_5, BK150, BK172, HB⟩ := hrel
              cases gk with
              | zero => exact absurd HA.out (by simp [spec_Follows.l2])
              | succ k3 =>
               have H := HA.out
               clear HA
               simp only [spec_Follows.l2] at H
               by_cases c71 : x10_3 < (l0.length : Int)
               ·rw [if_pos c71] at H
                have c71b0 : decide (x10_3 < (l0.length : Int)) = true := decide_eq_true c71
                clear c71
                by_cases c72 : 0 ≤ x10_3
                ·rw [if_pos c72] at H
                 have c72b0 : decide (0 ≤ x10_3) = true := decide_eq_true c72
                 clear c72
                 by_cases c73 : (((rd_T51 l0 x10_3).f0.f0) == ((rd_T51 l0 x8_2).f1) && (((rd_T51 l0 x10_3).f0.f1) == a1_7)) = true
                 ·rw [if_pos c73] at H
                  have c73b0 : (((rd_T51 l0 x10_3).f0.f0) == ((rd_T51 l0 x8_2).f1) && (((rd_T51 l0 x10_3).f0.f1) == a1_7)) = true := c73
                  (try (have c73b1 : decide (((rd_T51 l0 x10_3).f0.f0) = ((rd_T51 l0 x8_2).f1) && (((rd_T51 l0 x10_3).f0.f1) == a1_7)) = true := by simpa using c73))
                  (try (have c73b2 : (((rd_T51 l0 x10_3).f0.f0) == ((rd_T51 l0 x8_2).f1) && (((rd_T51 l0 x10_3).f0.f1) == a1_7)) = true := by simpa using c73))
                  clear c73
                  obtain ⟨t175, A74, H⟩ := bindE_ H
                  have H' := Aside0.mk H
                  clear H
                  try go_wp2
                  replace HO_5 := Aside0.mk (Kd.R_drew HO_5.out)
                  replace BK150 := Aside0.mk (blk_drew BK150.out)
                  replace BK172 := Aside0.mk (blk_drew BK172.out)
                  replace HB := Aside0.mk (below_drew1 HB.out)
                  have p173 : 0 ≤ (x10_3 : Int) := of_decide_eq_true (by first | (with_reducible assumption) | assumption)
                  have q173 : x10_3 < (l0.length : Int) := of_decide_eq_true (by first | (with_reducible assumption) | assumption)
                  obtain ⟨ad173, e173, hx173_0, hx173_1, hx173_2⟩ := at_T51 HR0.out x10_3 p173 q173
                  have hw173_2 := hx173_2
                  have hw173_1 := hx173_1
                  have hw173_0 := hx173_0
                  obtain rfl : ad170 = ad173 := (by injection e173)
                  replace hx173_0 := cb_ HB hx173_0
                  replace hx173_1 := cb_ HB hx173_1
                  replace hx173_2 := cb_ HB hx173_2
                  replace p173 := eq_true p173
                  replace q173 := eq_true q173
                  refine start_ (n := 7) (S := fun w' => w'.cell? ⟨gb172, 0, none⟩ = some (.int .i64 ((rd_T51 l0 x8_2).f1)) ∧ w'.cell? ⟨gb172, 1, none⟩ = some (.int .i64 a1_7) ∧ w'.cell? (ad170.add ((x10_3).toNat * 3)) = some (.int .i64 ((rd_T51 l0 x10_3).f0.f0)) ∧ w'.cell? ⟨(ad170.add ((x10_3).toNat * 3)).block, (ad170.add ((x10_3).toNat * 3)).off + 1, none⟩ = some (.int .i64 ((rd_T51 l0 x10_3).f0.f1)) ∧ w'.cell? ⟨(ad170.add ((x10_3).toNat * 3)).block, (ad170.add ((x10_3).toNat * 3)).off + 2, none⟩ = some (.int .i64 ((rd_T51 l0 x10_3).f1))) (ds := []) #[false, false, false, false, false, false, false] (by kernel_rfl) rfl rfl ⟨(blk_cell BK172.out 0).trans rfl, (blk_cell BK172.out 1).trans rfl, ((HB.out.cell (World.block_lt_of_cell? w _ hw173_0)).trans hw173_0), ((HB.out.cell (World.block_lt_of_cell? w _ hw173_1)).trans hw173_1), ((HB.out.cell (World.block_lt_of_cell? w _ hw173_2)).trans hw173_2)⟩ (fun hHeld => ?_)
                  generalize wr.drew = w75 at HO_5 BK150 BK172 HB hx173_0 hx173_1 hx173_2 hHeld ⊢
                  refine pure_ (i := 0) (N := some 99) (v := ?_) (a' := ?_) #[true, false, false, false, false, false, false] rfl rfl (by kernel_rfl) (fun _ _ _ h => h) (Or.inl ⟨by rfl, ?_⟩) ?_ ?_
                  rotate_left
                  ·intro w'
                   go_simp
                   with_reducible rfl
                  rotate_left
                  ·simp only [Act.put, List.setIfInBounds_toArray, List.set_cons_zero, List.set_cons_succ, i64_w, i32_w]
                   rfl
                  refine pure_ (i := 1) (N := some 100) (v := ?_) (a' := ?_) #[true, true, false, false, false, false, false] rfl rfl (by kernel_rfl) (fun _ _ _ h => h) (Or.inl ⟨by rfl, ?_⟩) ?_ ?_
                  rotate_left
                  ·intro w'
                   go_simp
                   with_reducible rfl
                  rotate_left
                  ·simp only [Act.put, List.setIfInBounds_toArray, List.set_cons_zero, List.set_cons_succ, i64_w, i32_w]
                   rfl
                  refine pure_ (i := 2) (N := some 101) (v := ?_) (a' := ?_) #[true, true, true, false, false, false, false] rfl rfl (by kernel_rfl) (fun _ _ _ h => h) (Or.inl ⟨by rfl, ?_⟩) ?_ ?_
                  rotate_left
                  ·intro w'
                   go_simp
                   with_reducible rfl
                  rotate_left
                  ·simp only [Act.put, List.setIfInBounds_toArray, List.set_cons_zero, List.set_cons_succ, i64_w, i32_w]
                   rfl
                  refine pure_ (i := 3) (N := some 102) (v := ?_) (a' := ?_) #[true, true, true, true, false, false, false] rfl rfl (by kernel_rfl) (fun _ _ _ h => h) (Or.inl ⟨by rfl, ?_⟩) ?_ ?_
                  rotate_left
                  ·intro w'
                   go_simp
                   with_reducible rfl
                  rotate_left
                  ·simp only [Act.put, List.setIfInBounds_toArray, List.set_cons_zero, List.set_cons_succ, i64_w, i32_w]
                   rfl
                  refine take_ (i := 4) (N := some 103) (v := ?_) (a' := ?_) #[true, true, true, true, true, false, false] rfl rfl (by kernel_rfl) (fun _ _ _ h => h) (Or.inl ⟨by rfl, ?_⟩) hHeld ?_ ?_
                  rotate_left
                  ·rintro w' ⟨s0, s1, s2, s3, s4⟩
                   go_simp
                   with_reducible rfl
                  rotate_left
                  ·simp only [Act.put, List.setIfInBounds_toArray, List.set_cons_zero, List.set_cons_succ, i64_w, i32_w]
                   rfl
                  refine take_ (i := 5) (N := some 104) (v := ?_) (a' := ?_) #[true, true, true, true, true, true, false] rfl rfl (by kernel_rfl) (fun _ _ _ h => h) (Or.inl ⟨by rfl, ?_⟩) hHeld ?_ ?_
                  rotate_left
                  ·rintro w' ⟨s0, s1, s2, s3, s4⟩
                   go_simp
                   with_reducible rfl
                  rotate_left
                  ·simp only [Act.put, List.setIfInBounds_toArray, List.set_cons_zero, List.set_cons_succ, i64_w, i32_w]
                   rfl
                  refine pure_ (i := 6) (N := some 105) (v := ?_) (a' := ?_) #[true, true, true, true, true, true, true] rfl rfl (by kernel_rfl) (fun _ _ _ h => h) (Or.inl ⟨by rfl, ?_⟩) ?_ ?_
                  rotate_left
                  ·intro w'
                   go_simp
                   with_reducible rfl
                  rotate_left
                  ·simp only [Act.put, List.setIfInBounds_toArray, List.set_cons_zero, List.set_cons_succ, i64_w, i32_w]
                   rfl
                  refine done_ (by kernel_rfl) ?_
                  try go_wp2
                  replace HO_5 := Aside0.mk (Kd.R_drew HO_5.out)
                  replace BK150 := Aside0.mk (blk_drew BK150.out)
                  replace BK172 := Aside0.mk (blk_drew BK172.out)
                  replace HB := Aside0.mk (below_drew1 HB.out)
                  have p174 : 0 ≤ (x10_3 : Int) := of_decide_eq_true (by first | (with_reducible assumption) | assumption)
                  have q174 : x10_3 < (l0.length : Int) := of_decide_eq_true (by first | (with_reducible assumption) | assumption)
                  obtain ⟨ad174, e174, hx174_0, hx174_1, hx174_2⟩ := at_T51 HR0.out x10_3 p174 q174
                  have hw174_2 := hx174_2
                  have hw174_1 := hx174_1
                  have hw174_0 := hx174_0
                  obtain rfl : ad170 = ad174 := (by injection e174)
                  replace hx174_0 := cb_ HB hx174_0
                  replace hx174_1 := cb_ HB hx174_1
                  replace hx174_2 := cb_ HB hx174_2
                  replace p174 := eq_true p174
                  replace q174 := eq_true q174
                  obtain ⟨Ao77, co77, eo77⟩ := Kd.R_slice HO_5.out
                  (first | subst eo77 | (injection eo77 with f1_ f2_ f3_; have f4_ := f1_.symm; have f5_ := f3_.symm; clear f1_ f2_ f3_; subst f4_; subst f5_))
                  refine start_ (n := 11) (S := fun w' => w'.cell? ⟨gb150, 0, none⟩ = some (.int .i64 a1_0) ∧ w'.cell? ⟨gb150, 1, none⟩ = some (.int .i64 a1_1) ∧ w'.cell? ⟨gb150, 2, none⟩ = some (.int .i64 a1_2) ∧ w'.cell? ⟨gb150, 3, none⟩ = some (.int .i64 a1_3) ∧ w'.cell? ⟨gb150, 4, none⟩ = some (.int .i64 a1_4) ∧ w'.cell? ⟨gb150, 5, none⟩ = some (.int .i64 a1_5) ∧ w'.cell? ⟨gb150, 6, none⟩ = some (.int .i64 a1_6) ∧ w'.cell? ⟨gb150, 7, none⟩ = some (.int .i64 a1_7) ∧ w'.cell? ⟨gb150, 8, none⟩ = some (.int .i64 a1_8) ∧ w'.cell? ⟨gb150, 9, none⟩ = some (.int .i64 a1_9) ∧ w'.cell? (ad170.add ((x10_3).toNat * 3)) = some (.int .i64 ((rd_T51 l0 x10_3).f0.f0)) ∧ w'.cell? ⟨(ad170.add ((x10_3).toNat * 3)).block, (ad170.add ((x10_3).toNat * 3)).off + 1, none⟩ = some (.int .i64 ((rd_T51 l0 x10_3).f0.f1)) ∧ w'.cell? ⟨(ad170.add ((x10_3).toNat * 3)).block, (ad170.add ((x10_3).toNat * 3)).off + 2, none⟩ = some (.int .i64 ((rd_T51 l0 x10_3).f1))) (ds := []) #[false, false, false, false, false, false, false, false, false, false, false] (by kernel_rfl) rfl rfl ⟨(blk_cell BK150.out 0).trans rfl, (blk_cell BK150.out 1).trans rfl, (blk_cell BK150.out 2).trans rfl, (blk_cell BK150.out 3).trans rfl, (blk_cell BK150.out 4).trans rfl, (blk_cell BK150.out 5).trans rfl, (blk_cell BK150.out 6).trans rfl, (blk_cell BK150.out 7).trans rfl, (blk_cell BK150.out 8).trans rfl, (blk_cell BK150.out 9).trans rfl, ((HB.out.cell (World.block_lt_of_cell? w _ hw174_0)).trans hw174_0), ((HB.out.cell (World.block_lt_of_cell? w _ hw174_1)).trans hw174_1), ((HB.out.cell (World.block_lt_of_cell? w _ hw174_2)).trans hw174_2)⟩ (fun hHeld => ?_); refine with_tabW spec_Follows.tab25 spec_Follows.bits25 (fun HT_ HW_ => ?_)
                  generalize w75.drew = w76 at HO_5 BK150 BK172 HB hx174_0 hx174_1 hx174_2 hHeld ⊢
                  refine pureZ_ (i := 0) (some 106) #[true, false, false, false, false, false, false, false, false, false, false] (any_of HT_.out (by kernel_rfl)) ?_
                  refine pureZ_ (i := 1) (some 107) #[true, true, false, false, false, false, false, false, false, false, false] (any_of HT_.out (by kernel_rfl)) ?_
                  refine pureZ_ (i := 3) (some 109) #[true, true, false, true, false, false, false, false, false, false, false] (any_of HT_.out (by kernel_rfl)) ?_
                  refine pureZ_ (i := 4) (some 110) #[true, true, false, true, true, false, false, false, false, false, false] (any_of HT_.out (by kernel_rfl)) ?_
                  refine pureZ_ (i := 5) (some 111) #[true, true, false, true, true, true, false, false, false, false, false] (any_of HT_.out (by kernel_rfl)) ?_
                  refine pureZ_ (i := 6) (some 112) #[true, true, false, true, true, true, true, false, false, false, false] (any_of HT_.out (by kernel_rfl)) ?_
                  refine takeZ_ (i := 2) (some 108) #[true, true, true, true, true, true, true, false, false, false, false] (take_ofW HT_.out HW_.out (by kernel_rfl)) hHeld ?_
                  refine takeZ_ (i := 7) (some 113) #[true, true, true, true, true, true, true, true, false, false, false] (take_ofW HT_.out HW_.out (by kernel_rfl)) hHeld ?_
                  refine pureZ_ (i := 8) (some 114) #[true, true, true, true, true, true, true, true, true, false, false] (any_of HT_.out (by kernel_rfl)) ?_
                  refine one_ (i := 9) (N := some 115) #[true, true, true, true, true, true, true, true, true, true, false] rfl rfl (one_of HT_.out (by kernel_rfl)) (by decide) (fun K hK => ?_)
                  refine goes_ Try.func175 (by kernel_rfl) rfl #[.slice Ao77 x5_3.length co77, .agg #[.int .i64 a1_1, .int .i64 a1_2, .int .i64 ((rd_T51 l0 x10_3).f1)]] (by rfl) rfl rfl (by (try simp only [List.map_toArray, List.map_cons, List.map_nil]); first | done | rfl | (simp only [List.length_drop, List.length_take]; rfl)) ?_
                  with_reducible refine (spec_l06Put.calls k3 (fun k_ => some k_ = (.slice Ao77 x5_3.length co77 : Value).ownBlock) (.slice Ao77 x5_3.length co77) x5_3 a1_1 a1_2 ((rd_T51 l0 x10_3).f1) t175 w _ ?side1 ?side2 A74.out).mono ?_
                  (case side1 => repeat (first | (with_reducible first | exact HB.out | apply below_alloc | apply pw_below_drewN | apply below_drew1 | refine below_set ?_ GE150.out | refine below_set ?_ GE172.out) | exact HB.out))
                  (case side2 => exact Kd.R_tight rfl HO_5.out)
                  rintro e w78 ⟨v176, rfl, ho0, hb, hkp⟩
                  refine ⟨_, rfl, ?_⟩
                  replace BK150 := Aside0.mk (blk_kept (bk_ BK150) hkp (fun hs_ => (fun e_ => (Kd.R_ne HO_5.out BK150.out (by decide)) e_) hs_))
                  replace BK172 := Aside0.mk (blk_kept (bk_ BK172) hkp (fun hs_ => (fun e_ => (Kd.R_ne HO_5.out BK172.out (by decide)) e_) hs_))
                  have HO177 := Aside0.mk (Kd.R_mono (ok' := fun k_ => True) ho0 (fun k_ hk_ => trivial))
                  replace HB := Aside0.mk (hb)
                  clear HO_5
                  (try clear hb)
                  (try clear hkp)
                  (try clear ho0)
                  refine hK.out _ _ ⟨(blk_cell BK150.out 0).trans rfl, (blk_cell BK150.out 1).trans rfl, (blk_cell BK150.out 2).trans rfl, (blk_cell BK150.out 3).trans rfl, (blk_cell BK150.out 4).trans rfl, (blk_cell BK150.out 5).trans rfl, (blk_cell BK150.out 6).trans rfl, (blk_cell BK150.out 7).trans rfl, (blk_cell BK150.out 8).trans rfl, (blk_cell BK150.out 9).trans rfl, ((HB.out.cell (World.block_lt_of_cell? w _ hw174_0)).trans hw174_0), ((HB.out.cell (World.block_lt_of_cell? w _ hw174_1)).trans hw174_1), ((HB.out.cell (World.block_lt_of_cell? w _ hw174_2)).trans hw174_2)⟩ (fun hHeld => ?_)
                  clear hK K
                  refine norm_ (a' := ?_) ?_ ?_
                  rotate_left
                  ·show Act.put _ (some 115) _ = _
                   simp only [Act.put, List.setIfInBounds_toArray, List.set_cons_zero, List.set_cons_succ, i64_w, i32_w]
                   rfl
                  refine pureZ_ (i := 10) (some 5) #[true, true, true, true, true, true, true, true, true, true, true] (any_of HT_.out (by kernel_rfl)) ?_
                  refine done_ (done_of HT_.out (by kernel_rfl)) ?_
                  try go_wp2
                  go_roundg k3
                  case measure => have := HJ16.out; have := HK2.out; have := HK3.out; omega
                  case rel => exact ⟨(t175), (wrap64 (x10_3 + 1)), (by first | rfl | (simp; done) | (simp [*]; done)), H', ⟨by have := HJ16.out; have := HK2.out; have := HK3.out; omega⟩, ⟨by (with_reducible repeat (first | apply Kd.R_alloc | apply Kd.R_drewN | apply Kd.R_drew)); exact HO177.out⟩, ⟨bk_ BK150⟩, ⟨bk_ BK172⟩, ⟨bl_⟩⟩
                 ·rw [if_neg c73] at H
                  have c73b0 : (((rd_T51 l0 x10_3).f0.f0) == ((rd_T51 l0 x8_2).f1) && (((rd_T51 l0 x10_3).f0.f1) == a1_7)) = false := by simpa using c73
                  (try (have c73b1 : decide (((rd_T51 l0 x10_3).f0.f0) = ((rd_T51 l0 x8_2).f1) && (((rd_T51 l0 x10_3).f0.f1) == a1_7)) = false := by simpa using c73))
                  (try (have c73b2 : (((rd_T51 l0 x10_3).f0.f0) == ((rd_T51 l0 x8_2).f1) && (((rd_T51 l0 x10_3).f0.f1) == a1_7)) = false := by simpa using c73))
                  (try (have c73b3 : ¬ (((rd_T51 l0 x10_3).f0.f0) = ((rd_T51 l0 x8_2).f1) && (((rd_T51 l0 x10_3).f0.f1) == a1_7)) := by simpa using c73))
                  clear c73
                  have H' := Aside0.mk H
                  clear H
                  try go_wp2
                  replace HO_5 := Aside0.mk (Kd.R_drew HO_5.out)
                  replace BK150 := Aside0.mk (blk_drew BK150.out)
                  replace BK172 := Aside0.mk (blk_drew BK172.out)
                  replace HB := Aside0.mk (below_drew1 HB.out)
                  have p173 : 0 ≤ (x10_3 : Int) := of_decide_eq_true (by first | (with_reducible assumption) | assumption)
                  have q173 : x10_3 < (l0.length : Int) := of_decide_eq_true (by first | (with_reducible assumption) | assumption)
                  obtain ⟨ad173, e173, hx173_0, hx173_1, hx173_2⟩ := at_T51 HR0.out x10_3 p173 q173
                  have hw173_2 := hx173_2
                  have hw173_1 := hx173_1
                  have hw173_0 := hx173_0
                  obtain rfl : ad170 = ad173 := (by injection e173)
                  replace hx173_0 := cb_ HB hx173_0
                  replace hx173_1 := cb_ HB hx173_1
                  replace hx173_2 := cb_ HB hx173_2
                  replace p173 := eq_true p173
                  replace q173 := eq_true q173
                  refine start_ (n := 7) (S := fun w' => w'.cell? ⟨gb172, 0, none⟩ = some (.int .i64 ((rd_T51 l0 x8_2).f1)) ∧ w'.cell? ⟨gb172, 1, none⟩ = some (.int .i64 a1_7) ∧ w'.cell? (ad170.add ((x10_3).toNat * 3)) = some (.int .i64 ((rd_T51 l0 x10_3).f0.f0)) ∧ w'.cell? ⟨(ad170.add ((x10_3).toNat * 3)).block, (ad170.add ((x10_3).toNat * 3)).off + 1, none⟩ = some (.int .i64 ((rd_T51 l0 x10_3).f0.f1)) ∧ w'.cell? ⟨(ad170.add ((x10_3).toNat * 3)).block, (ad170.add ((x10_3).toNat * 3)).off + 2, none⟩ = some (.int .i64 ((rd_T51 l0 x10_3).f1))) (ds := []) #[false, false, false, false, false, false, false] (by kernel_rfl) rfl rfl ⟨(blk_cell BK172.out 0).trans rfl, (blk_cell BK172.out 1).trans rfl, ((HB.out.cell (World.block_lt_of_cell? w _ hw173_0)).trans hw173_0), ((HB.out.cell (World.block_lt_of_cell? w _ hw173_1)).trans hw173_1), ((HB.out.cell (World.block_lt_of_cell? w _ hw173_2)).trans hw173_2)⟩ (fun hHeld => ?_)
                  generalize wr.drew = w79 at HO_5 BK150 BK172 HB hx173_0 hx173_1 hx173_2 hHeld ⊢
                  refine pure_ (i := 0) (N := some 99) (v := ?_) (a' := ?_) #[true, false, false, false, false, false, false] rfl rfl (by kernel_rfl) (fun _ _ _ h => h) (Or.inl ⟨by rfl, ?_⟩) ?_ ?_
                  rotate_left
                  ·intro w'
                   go_simp
                   with_reducible rfl
                  rotate_left
                  ·simp only [Act.put, List.setIfInBounds_toArray, List.set_cons_zero, List.set_cons_succ, i64_w, i32_w]
                   rfl
                  refine pure_ (i := 1) (N := some 100) (v := ?_) (a' := ?_) #[true, true, false, false, false, false, false] rfl rfl (by kernel_rfl) (fun _ _ _ h => h) (Or.inl ⟨by rfl, ?_⟩) ?_ ?_
                  rotate_left
                  ·intro w'
                   go_simp
                   with_reducible rfl
                  rotate_left
                  ·simp only [Act.put, List.setIfInBounds_toArray, List.set_cons_zero, List.set_cons_succ, i64_w, i32_w]
                   rfl
                  refine pure_ (i := 2) (N := some 101) (v := ?_) (a' := ?_) #[true, true, true, false, false, false, false] rfl rfl (by kernel_rfl) (fun _ _ _ h => h) (Or.inl ⟨by rfl, ?_⟩) ?_ ?_
                  rotate_left
                  ·intro w'
                   go_simp
                   with_reducible rfl
                  rotate_left
                  ·simp only [Act.put, List.setIfInBounds_toArray, List.set_cons_zero, List.set_cons_succ, i64_w, i32_w]
                   rfl
                  refine pure_ (i := 3) (N := some 102) (v := ?_) (a' := ?_) #[true, true, true, true, false, false, false] rfl rfl (by kernel_rfl) (fun _ _ _ h => h) (Or.inl ⟨by rfl, ?_⟩) ?_ ?_
                  rotate_left
                  ·intro w'
                   go_simp
                   with_reducible rfl
                  rotate_left
                  ·simp only [Act.put, List.setIfInBounds_toArray, List.set_cons_zero, List.set_cons_succ, i64_w, i32_w]
                   rfl
                  refine take_ (i := 4) (N := some 103) (v := ?_) (a' := ?_) #[true, true, true, true, true, false, false] rfl rfl (by kernel_rfl) (fun _ _ _ h => h) (Or.inl ⟨by rfl, ?_⟩) hHeld ?_ ?_
                  rotate_left
                  ·rintro w' ⟨s0, s1, s2, s3, s4⟩
                   go_simp
                   with_reducible rfl
                  rotate_left
                  ·simp only [Act.put, List.setIfInBounds_toArray, List.set_cons_zero, List.set_cons_succ, i64_w, i32_w]
                   rfl
                  refine take_ (i := 5) (N := some 104) (v := ?_) (a' := ?_) #[true, true, true, true, true, true, false] rfl rfl (by kernel_rfl) (fun _ _ _ h => h) (Or.inl ⟨by rfl, ?_⟩) hHeld ?_ ?_
                  rotate_left
                  ·rintro w' ⟨s0, s1, s2, s3, s4⟩
                   go_simp
                   with_reducible rfl
                  rotate_left
                  ·simp only [Act.put, List.setIfInBounds_toArray, List.set_cons_zero, List.set_cons_succ, i64_w, i32_w]
                   rfl
                  refine pure_ (i := 6) (N := some 105) (v := ?_) (a' := ?_) #[true, true, true, true, true, true, true] rfl rfl (by kernel_rfl) (fun _ _ _ h => h) (Or.inl ⟨by rfl, ?_⟩) ?_ ?_
                  rotate_left
                  ·intro w'
                   go_simp
                   with_reducible rfl
                  rotate_left
                  ·simp only [Act.put, List.setIfInBounds_toArray, List.set_cons_zero, List.set_cons_succ, i64_w, i32_w]
                   rfl
                  refine done_ (by kernel_rfl) ?_
                  try go_wp2
                  go_roundg k3
                  case measure => have := HJ16.out; have := HK2.out; have := HK3.out; omega
                  case rel => exact ⟨(x5_3), (wrap64 (x10_3 + 1)), (by first | rfl | (simp; done) | (simp [*]; done)), H', ⟨by have := HJ16.out; have := HK2.out; have := HK3.out; omega⟩, ⟨by (with_reducible repeat (first | apply Kd.R_alloc | apply Kd.R_drewN | apply Kd.R_drew)); exact HO_5.out⟩, ⟨bk_ BK150⟩, ⟨bk_ BK172⟩, ⟨bl_⟩⟩
                ·rw [if_neg c72] at H
                 exact absurd H (by simp)
               ·rw [if_neg c71] at H
                have c71b0 : decide (x10_3 < (l0.length : Int)) = false := decide_eq_false c71
                clear c71
                have H' := Aside0.mk H
                clear H
                go_wp2
                go_roundg k3
                case measure => have := HJ16.out; have := HK2.out; have := HK3.out; omega
                case rel => exact ⟨(x5_3), (wrap64 (x8_2 + 1)), (by first | rfl | (simp; done) | (simp [*]; done)), H', ⟨by have := HJ16.out; have := HK2.out; have := HK3.out; omega⟩, ⟨by (with_reducible repeat (first | apply Kd.R_alloc | apply Kd.R_drewN | apply Kd.R_drew)); exact HO_5.out⟩, ⟨bk_ BK150⟩, ⟨bl_⟩⟩
           ·rw [if_neg c63] at H
            exact absurd H (by simp)
          ·rw [if_neg c62] at H
           have c62b0 : decide (x8_2 < (l0.length : Int)) = false := decide_eq_false c62
           clear c62
           obtain rfl := Option.some.inj H
           go_wp2
           go_ret
           exact ⟨_, eq_, by (with_reducible repeat (first | apply Kd.R_alloc | apply Kd.R_drewN | apply Kd.R_drew)); exact HO_5.out, bl_⟩
       ·rw [if_neg c61] at H
        have c61b0 : (a1_0 == 3) = false := beq_eq_false_iff_ne.mpr c61
        have c61b1 : (a1_0 != 3) = true := bne_iff_ne.mpr c61
        obtain rfl := Option.some.inj H
        go_wp2
        go_ret
        exact ⟨_, eq_, by (with_reducible repeat (first | apply Kd.R_alloc | apply Kd.R_drewN | apply Kd.R_drew)); exact HO_5.out, bl_⟩
  ·replace c5 := Bool.eq_false_iff.mpr c5
   subst c5
   replace H := ite_f_ H
   obtain rfl := Option.some.inj H
   go_enter Try.func101, Try.ntmps101
   go_wp2_with (first | ((with_reducible refine gate_dst (N := 3) rfl ?_); refine box_event ?hg (N := 3) ?hd (cs := #[.int .i64 a1_0, .int .i64 a1_1, .int .i64 a1_2, .int .i64 a1_3, .int .i64 a1_4, .int .i64 a1_5, .int .i64 a1_6, .int .i64 a1_7, .int .i64 a1_8, .int .i64 a1_9]) (t := 56) ?hr ?_; (case hd => rfl); (case hg => rfl); (case hr => first | (go_simp; done) | (go_simp; rfl)); intro gb150 hg w80 hbox hb; have BK150 := Aside0.mk (hbox); have GW150 := gs_ hg; have GE150 := gs_ hg; replace HB := hbs_ hb; clear hb hbox hg) | ((with_reducible refine gate_dst (N := 11) rfl ?_); refine Kd.R_lit k51 _ 51 ?hg (N := 11) ?hd (xs := ([] : List (S51))) (inner := []) (ok := fun _ => True) (okp := fun _ => True) ?hr ?hp (fun _ hk => hk) trivial (Below.refl _ _) (Nat.le_refl _) (by simp) ?_; (case hd => rfl); (case hg => rfl); (case hr => first | (go_simp; done) | (go_simp; rfl)); (case hp => exact (Reps.none _ _)); intro v152 w81 ho82 hb hg_ hnew_; clear hg_ hnew_; (first | rw [← Ny151.out] at ho82 | (simp only [Int.reduceToNat] at ho82; rw [← Ny151.out] at ho82)); have HO153 := Aside0.mk (Kd.R_lower ho82 bls_); replace BK150 := bkb_ BK150 hb; replace HB := hbs_ hb; clear hb ho82) | ((with_reducible refine gate_builtin (b := .append) (xs := #[.tmp 11, .tmp 12]) rfl ?_); at_builtin; refine Kd.R_append_rows k51 (w0 := w) w.heap.size rfl (.tmp 11) (.tmp 12) 46 51 (.agg #[(.int .i64 0), (.int .i64 0), (.int .i64 0)]) 24 rfl Try.underlying46 info51 rfl (by decide) (by omega) v152 y151 l0 _ _ _ (fun _ => True) (fun _ => False) rfl rfl ?aO ?aR (fun _ _ h => h) (fun _ h => h.elim) ?aF ?aB ?aS ?aL ?_; (case aR => repeat (first | exact (Kd.C_below HR0.out HB.out) | (with_reducible refine Kd.C_alloc ?_ _) | (with_reducible refine Kd.C_drewN ?_ _) | (with_reducible refine Kd.C_drew ?_))); (case aB => exact bl_); (case aF => exact (fun _ _ => trivial)); (case aO => exact (by (with_reducible repeat (first | apply Kd.R_alloc | apply Kd.R_drewN | apply Kd.R_drew)); exact HO153.out)); (case aS => exact bls_); (case aL => have := LMc3.out; omega); intro v155 w83 ho hb hg hat; rw [← Ny154.out] at ho; replace BK150 := Aside0.mk (blk_grown (g := gb150) (o := .cells #[.int .i64 a1_0, .int .i64 a1_1, .int .i64 a1_2, .int .i64 a1_3, .int .i64 a1_4, .int .i64 a1_5, .int .i64 a1_6, .int .i64 a1_7, .int .i64 a1_8, .int .i64 a1_9] 56 (0, 0)) (bk_ BK150) hg (Kd.R_ne HO153.out BK150.out (by decide))); replace HB := Aside0.mk (hb); have HO156 := Aside0.mk (ho); clear HO153; clear ho hb hg hat; have hcz84 := blk_cell BK150.out; have hfz84 := blk_frozen BK150.out) | ((with_reducible refine gate_callee (f := 94) rfl ?_); refine goesC_ (some 15) Try.func94 #[.agg #[.int .i64 a1_0, .int .i64 a1_1, .int .i64 a1_2, .int .i64 a1_3, .int .i64 a1_4, .int .i64 a1_5, .int .i64 a1_6, .int .i64 a1_7, .int .i64 a1_8, .int .i64 a1_9]] ?_; (with_reducible refine (spec_CredOk.calls k a1_0 a1_1 a1_2 a1_3 a1_4 a1_5 a1_6 a1_7 a1_8 a1_9 false _ A4.out).mono ?_); rintro e w85 ⟨rfl, hb⟩; refine ⟨_, rfl, ?_⟩; replace HO156 := Aside0.mk (Kd.R_below (by (with_reducible repeat (first | apply Kd.R_alloc | apply Kd.R_drewN | apply Kd.R_drew)); exact HO156.out) hb); replace BK150 := bkb_ BK150 hb; replace HB := hbs_ hb; clear hb))
   go_ret
   exact ⟨_, eq_, by (with_reducible repeat (first | apply Kd.R_alloc | apply Kd.R_drewN | apply Kd.R_drew)); exact HO156.out, bl_⟩
 ·rw [if_neg c3] at H
  exact absurd H (by simp)
end Go.Proofs.Ytjpjidgfcljpcaa.PD
