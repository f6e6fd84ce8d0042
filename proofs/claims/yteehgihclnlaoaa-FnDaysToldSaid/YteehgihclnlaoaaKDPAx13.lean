import Derived.Test.YteehgihclnlaoaaKDPAx12
-- printed by wip/tools
namespace Go.Proofs.Yteehgihclnlaoaa.PA
open Go.RowKit Go.Proofs.YteehgihclnlaoaaW.PrintWords Go.Proofs.YteehgihclnlaoaaW.PrintLast Go.Proofs.YteehgihclnlaoaaW.PrintMore
attribute [local go_sem] max2_int min2_int max_two min_two max_three min_three max_four min_four
set_option linter.unusedVariables false
set_option linter.unusedSimpArgs false
attribute [local go_sem high] eqA26
mutual
def spec_Follows.j0 : Nat → List (S54) → List (S54) → Int → Bool → Int → Int → Int → Int → Int → Int → Int → Int → Int → Int → Option ((List (S54)))
 | 0, _, _, _, _, _, _, _, _, _, _, _, _, _, _ => none
 | k + 1, x0, x5, x19, x29, x489000, x489001, x489002, x489003, x489004, x489005, x489006, x489007, x489008, x489009 => if x29 = true then (spec_Follows.l0 k x0 x5 0 x489000 x489001 x489002 x489003 x489004 x489005 x489006 x489007 x489008 x489009) else (if x19 = 3 then (spec_Follows.l1 k x0 x5 0 x489000 x489001 x489002 x489003 x489004 x489005 x489006 x489007 x489008 x489009) else (some x5))
def spec_Follows.l0 : Nat → List (S54) → List (S54) → Int → Int → Int → Int → Int → Int → Int → Int → Int → Int → Int → Option ((List (S54)))
 | 0, _, _, _, _, _, _, _, _, _, _, _, _, _ => none
 | k + 1, x0, x5, x6, x489000, x489001, x489002, x489003, x489004, x489005, x489006, x489007, x489008, x489009 => if x6 < (x0.length : Int) then (if 0 ≤ x6 then (if (((rd_T54 x0 x6).f0.f0) == x489004 && (((rd_T54 x0 x6).f0.f1) == x489005)) = true then (if x489000 = 2 then ((spec_l06Put.f k x5 x489001 x489002 ((rd_T54 x0 x6).f1)).bind fun t501 => (spec_Follows.l0 k x0 t501 (wrap64 (x6 + 1)) x489000 x489001 x489002 x489003 x489004 x489005 x489006 x489007 x489008 x489009)) else ((spec_l06Has.f k x0 x489006 x489007 ((rd_T54 x0 x6).f1)).bind fun t504 => (if t504 = true then ((spec_l06Put.f k x5 x489001 x489002 ((rd_T54 x0 x6).f1)).bind fun t505 => (spec_Follows.l0 k x0 t505 (wrap64 (x6 + 1)) x489000 x489001 x489002 x489003 x489004 x489005 x489006 x489007 x489008 x489009)) else (spec_Follows.l0 k x0 x5 (wrap64 (x6 + 1)) x489000 x489001 x489002 x489003 x489004 x489005 x489006 x489007 x489008 x489009)))) else (spec_Follows.l0 k x0 x5 (wrap64 (x6 + 1)) x489000 x489001 x489002 x489003 x489004 x489005 x489006 x489007 x489008 x489009)) else (none)) else (some x5)
def spec_Follows.l1 : Nat → List (S54) → List (S54) → Int → Int → Int → Int → Int → Int → Int → Int → Int → Int → Int → Option ((List (S54)))
 | 0, _, _, _, _, _, _, _, _, _, _, _, _, _ => none
 | k + 1, x0, x5, x8, x489000, x489001, x489002, x489003, x489004, x489005, x489006, x489007, x489008, x489009 => if x8 < (x0.length : Int) then (if 0 ≤ x8 then (if (!(((rd_T54 x0 x8).f0.f0) == x489004) || (!(((rd_T54 x0 x8).f0.f1) == x489005))) = true then (spec_Follows.l1 k x0 x5 (wrap64 (x8 + 1)) x489000 x489001 x489002 x489003 x489004 x489005 x489006 x489007 x489008 x489009) else (spec_Follows.l2 k x0 x5 x8 0 x489000 x489001 x489002 x489003 x489004 x489005 x489006 x489007 x489008 x489009 ((rd_T54 x0 x8).f1) x489007)) else (none)) else (some x5)
def spec_Follows.l2 : Nat → List (S54) → List (S54) → Int → Int → Int → Int → Int → Int → Int → Int → Int → Int → Int → Int → Int → Int → Option ((List (S54)))
 | 0, _, _, _, _, _, _, _, _, _, _, _, _, _, _, _, _ => none
 | k + 1, x0, x5, x8, x10, x489000, x489001, x489002, x489003, x489004, x489005, x489006, x489007, x489008, x489009, x511000, x511001 => if x10 < (x0.length : Int) then (if 0 ≤ x10 then (if (((rd_T54 x0 x10).f0.f0) == x511000 && (((rd_T54 x0 x10).f0.f1) == x511001)) = true then ((spec_l06Put.f k x5 x489001 x489002 ((rd_T54 x0 x10).f1)).bind fun t513 => (spec_Follows.l2 k x0 t513 x8 (wrap64 (x10 + 1)) x489000 x489001 x489002 x489003 x489004 x489005 x489006 x489007 x489008 x489009 x511000 x511001)) else (spec_Follows.l2 k x0 x5 x8 (wrap64 (x10 + 1)) x489000 x489001 x489002 x489003 x489004 x489005 x489006 x489007 x489008 x489009 x511000 x511001)) else (none)) else (spec_Follows.l1 k x0 x5 (wrap64 (x8 + 1)) x489000 x489001 x489002 x489003 x489004 x489005 x489006 x489007 x489008 x489009)
end
def spec_Follows.f (k : Nat) (l0 : List (S54)) (a1_0 : Int) (a1_1 : Int) (a1_2 : Int) (a1_3 : Int) (a1_4 : Int) (a1_5 : Int) (a1_6 : Int) (a1_7 : Int) (a1_8 : Int) (a1_9 : Int) : Option ((List (S54))) := (some (([] : List (S54)) : List (S54))).bind fun y489 => (if y489.length + l0.length < 5864062014805 then ((some (y489 ++ l0 : List (S54))).bind fun y492 => ((spec_CredOk.f k a1_0 a1_1 a1_2 a1_3 a1_4 a1_5 a1_6 a1_7 a1_8 a1_9).bind fun t495 => (if t495 = true then (if a1_0 = 1 then ((spec_l06Put.f k y492 a1_1 a1_2 a1_3).bind fun t496 => (some t496)) else (if a1_0 = 2 then (spec_Follows.j0 k l0 y492 a1_0 (a1_0 == 2) a1_0 a1_1 a1_2 a1_3 a1_4 a1_5 a1_6 a1_7 a1_8 a1_9) else (spec_Follows.j0 k l0 y492 a1_0 (a1_0 == 4) a1_0 a1_1 a1_2 a1_3 a1_4 a1_5 a1_6 a1_7 a1_8 a1_9))) else (some y492)))) else (none))
def spec_Follows.T19 : Bool × List (List Nat × List Nat) := (true, [([], []), ([], []), ([0, 1], [0, 1]), ([2], [2]), ([3], [3]), ([], []), ([5], [5]), ([4, 6], [4, 6])])
def spec_Follows.B19 : List Nat := [0, 0, 3, 7, 15, 0, 32, 127]
theorem spec_Follows.tab19 : rtab .any (opsOf Try.f52 19) = spec_Follows.T19 := by kernel_rfl
theorem spec_Follows.bits19 : waitsOk spec_Follows.T19.2 spec_Follows.B19 = true := by kernel_rfl
def spec_Follows.T20 : Bool × List (List Nat × List Nat) := (true, [([], []), ([], []), ([0, 1], [0, 1]), ([2], [2]), ([3], [3]), ([], []), ([5], [5]), ([6], [6]), ([4, 7], [4, 7]), ([], []), ([9, 8, 0, 1, 2, 3, 4, 5, 6, 7, 8, 9], [8, 9])])
def spec_Follows.B20 : List Nat := [0, 0, 3, 7, 15, 0, 32, 96, 255, 0, 1023]
theorem spec_Follows.tab20 : rtab .any (opsOf Try.f52 20) = spec_Follows.T20 := by kernel_rfl
theorem spec_Follows.bits20 : waitsOk spec_Follows.T20.2 spec_Follows.B20 = true := by kernel_rfl
def spec_Follows.T25 : Bool × List (List Nat × List Nat) := (true, [([], []), ([], []), ([1], [1]), ([], []), ([], []), ([3, 4], [3, 4]), ([5], [5]), ([6], [6]), ([2, 7], [2, 7]), ([0, 8], [0, 8]), ([9, 9, 0, 1, 2, 3, 4, 5, 6, 7, 8, 9], [0, 9])])
def spec_Follows.B25 : List Nat := [0, 0, 2, 0, 0, 24, 56, 120, 254, 511, 1023]
theorem spec_Follows.tab25 : rtab .any (opsOf Try.f52 25) = spec_Follows.T25 := by kernel_rfl
theorem spec_Follows.bits25 : waitsOk spec_Follows.T25.2 spec_Follows.B25 = true := by kernel_rfl
set_option maxHeartbeats 8000000 in
set_option maxRecDepth 100000 in
theorem spec_Follows.calls (k : Nat) (A0 : Option Addr) (c0 : Nat) (l0 : List (S54)) (a1_0 : Int) (a1_1 : Int) (a1_2 : Int) (a1_3 : Int) (a1_4 : Int) (a1_5 : Int) (a1_6 : Int) (a1_7 : Int) (a1_8 : Int) (a1_9 : Int) (r : List (S54)) (w : World) (hr0 : Kd.C k54 w A0 l0.length l0) (hc0 : l0.length ≤ c0) (h : spec_Follows.f k l0 a1_0 a1_1 a1_2 a1_3 a1_4 a1_5 a1_6 a1_7 a1_8 a1_9 = some r) :
  Calls Try.prog 52 #[.slice A0 l0.length c0, .agg #[.int .i64 a1_0, .int .i64 a1_1, .int .i64 a1_2, .int .i64 a1_3, .int .i64 a1_4, .int .i64 a1_5, .int .i64 a1_6, .int .i64 a1_7, .int .i64 a1_8, .int .i64 a1_9]] w fun e w' => ∃ v0_ : Value, e = .returned (v0_) ∧ Kd.R k54 54 w' w.heap.size (fun _ => True) v0_ r ∧ Below w.heap.size w w' := by
 have hu48 := Try.underlying48
 have hu26 := Try.underlying26
 have hu54 := Try.underlying54
 have HR0 := Aside0.mk hr0
 have HC0 := Aside0.mk hc0
 clear hr0 hc0
 have HB := Aside0.mk (Below.refl w.heap.size w)
 have H : ((some (([] : List (S54)) : List (S54))).bind fun y489 => (if y489.length + l0.length < 5864062014805 then ((some (y489 ++ l0 : List (S54))).bind fun y492 => ((spec_CredOk.f k a1_0 a1_1 a1_2 a1_3 a1_4 a1_5 a1_6 a1_7 a1_8 a1_9).bind fun t495 => (if t495 = true then (if a1_0 = 1 then ((spec_l06Put.f k y492 a1_1 a1_2 a1_3).bind fun t496 => (some t496)) else (if a1_0 = 2 then (spec_Follows.j0 k l0 y492 a1_0 (a1_0 == 2) a1_0 a1_1 a1_2 a1_3 a1_4 a1_5 a1_6 a1_7 a1_8 a1_9) else (spec_Follows.j0 k l0 y492 a1_0 (a1_0 == 4) a1_0 a1_1 a1_2 a1_3 a1_4 a1_5 a1_6 a1_7 a1_8 a1_9))) else (some y492)))) else (none))) = some r := h
 clear h
 obtain ⟨y489, hy489⟩ : ∃ y_ : List (S54), y_ = (([] : List (S54))) := ⟨_, rfl⟩
 replace H : (if y489.length + l0.length < 5864062014805 then ((some (y489 ++ l0 : List (S54))).bind fun y492 => ((spec_CredOk.f k a1_0 a1_1 a1_2 a1_3 a1_4 a1_5 a1_6 a1_7 a1_8 a1_9).bind fun t495 => (if t495 = true then (if a1_0 = 1 then ((spec_l06Put.f k y492 a1_1 a1_2 a1_3).bind fun t496 => (some t496)) else (if a1_0 = 2 then (spec_Follows.j0 k l0 y492 a1_0 (a1_0 == 2) a1_0 a1_1 a1_2 a1_3 a1_4 a1_5 a1_6 a1_7 a1_8 a1_9) else (spec_Follows.j0 k l0 y492 a1_0 (a1_0 == 4) a1_0 a1_1 a1_2 a1_3 a1_4 a1_5 a1_6 a1_7 a1_8 a1_9))) else (some y492)))) else (none)) = some r := by first | (rw [hy489]; with_reducible exact H) | (have H2_ := (Option.bind_some _ _).symm.trans H; rw [hy489]; with_reducible exact H2_) | (have H2_ := (Option.bind_some _ _).symm.trans H; with_reducible exact H2_) | with_reducible exact H | (rw [hy489]; exact H) | exact H
 have Ny489 := Aside0.mk hy489
 clear hy489
 obtain ⟨c3, H⟩ := ifn_ H
 have LMc3 := Aside0.mk c3
 clear c3
 obtain ⟨y492, hy492⟩ : ∃ y_ : List (S54), y_ = (y489 ++ l0) := ⟨_, rfl⟩
 replace H : ((spec_CredOk.f k a1_0 a1_1 a1_2 a1_3 a1_4 a1_5 a1_6 a1_7 a1_8 a1_9).bind fun t495 => (if t495 = true then (if a1_0 = 1 then ((spec_l06Put.f k y492 a1_1 a1_2 a1_3).bind fun t496 => (some t496)) else (if a1_0 = 2 then (spec_Follows.j0 k l0 y492 a1_0 (a1_0 == 2) a1_0 a1_1 a1_2 a1_3 a1_4 a1_5 a1_6 a1_7 a1_8 a1_9) else (spec_Follows.j0 k l0 y492 a1_0 (a1_0 == 4) a1_0 a1_1 a1_2 a1_3 a1_4 a1_5 a1_6 a1_7 a1_8 a1_9))) else (some y492))) = some r := by first | (rw [hy492]; with_reducible exact H) | (have H2_ := (Option.bind_some _ _).symm.trans H; rw [hy492]; with_reducible exact H2_) | (have H2_ := (Option.bind_some _ _).symm.trans H; with_reducible exact H2_) | with_reducible exact H | (rw [hy492]; exact H) | exact H
 have Ny492 := Aside0.mk hy492
 clear hy492
 obtain ⟨t495, A4, H⟩ := bindE_ H
 by_cases c5 : t495 = true
 ·subst c5
  replace H := ite_t_ H
  by_cases c6 : a1_0 = 1
  ·rw [if_pos c6] at H
   have c6b0 : (a1_0 == 1) = true := beq_iff_eq.mpr c6
   have c6b1 : (a1_0 != 1) = false := bne_eq_false_iff_eq.mpr c6
   clear c6
   obtain ⟨t496, A7, H⟩ := bindE_ H
   obtain rfl := Option.some.inj H
   go_enter Try.func52, Try.ntmps52
   go_wp2_with (first | ((with_reducible refine gate_dst (N := 3) rfl ?_); refine box_event ?hg (N := 3) ?hd (cs := #[.int .i64 a1_0, .int .i64 a1_1, .int .i64 a1_2, .int .i64 a1_3, .int .i64 a1_4, .int .i64 a1_5, .int .i64 a1_6, .int .i64 a1_7, .int .i64 a1_8, .int .i64 a1_9]) (t := 48) ?hr ?_; (case hd => rfl); (case hg => rfl); (case hr => first | (go_simp; done) | (go_simp; rfl)); intro gb488 hg w8 hbox hb; have BK488 := Aside0.mk (hbox); have GW488 := gs_ hg; have GE488 := gs_ hg; replace HB := hbs_ hb; clear hb hbox hg) | ((with_reducible refine gate_dst (N := 11) rfl ?_); refine Kd.R_lit k54 _ 54 ?hg (N := 11) ?hd (xs := ([] : List (S54))) (inner := []) (ok := fun _ => True) (okp := fun _ => True) ?hr ?hp (fun _ hk => hk) trivial (Below.refl _ _) (Nat.le_refl _) (by simp) ?_; (case hd => rfl); (case hg => rfl); (case hr => first | (go_simp; done) | (go_simp; rfl)); (case hp => exact (Reps.none _ _)); intro v490 w9 ho10 hb hg_ hnew_; clear hg_ hnew_; (first | rw [← Ny489.out] at ho10 | (simp only [Int.reduceToNat] at ho10; rw [← Ny489.out] at ho10)); have HO491 := Aside0.mk (Kd.R_lower ho10 bls_); replace BK488 := bkb_ BK488 hb; replace HB := hbs_ hb; clear hb ho10) | ((with_reducible refine gate_builtin (b := .append) (xs := #[.tmp 11, .tmp 12]) rfl ?_); at_builtin; refine Kd.R_append_rows k54 (w0 := w) w.heap.size rfl (.tmp 11) (.tmp 12) 38 54 (.agg #[(.int .i64 0), (.int .i64 0), (.int .i64 0)]) 24 rfl Try.underlying38 info54 rfl (by decide) (by omega) v490 y489 l0 _ _ _ (fun _ => True) (fun _ => False) rfl rfl ?aO ?aR (fun _ _ h => h) (fun _ h => h.elim) ?aF ?aB ?aS ?aL ?_; (case aR => repeat (first | exact (Kd.C_below HR0.out HB.out) | (with_reducible refine Kd.C_alloc ?_ _) | (with_reducible refine Kd.C_drewN ?_ _) | (with_reducible refine Kd.C_drew ?_))); (case aB => exact bl_); (case aF => exact (fun _ _ => trivial)); (case aO => exact (by (with_reducible repeat (first | apply Kd.R_alloc | apply Kd.R_drewN | apply Kd.R_drew)); exact HO491.out)); (case aS => exact bls_); (case aL => have := LMc3.out; omega); intro v493 w11 ho hb hg hat; rw [← Ny492.out] at ho; replace BK488 := Aside0.mk (blk_grown (g := gb488) (o := .cells #[.int .i64 a1_0, .int .i64 a1_1, .int .i64 a1_2, .int .i64 a1_3, .int .i64 a1_4, .int .i64 a1_5, .int .i64 a1_6, .int .i64 a1_7, .int .i64 a1_8, .int .i64 a1_9] 48 (0, 0)) (bk_ BK488) hg (Kd.R_ne HO491.out BK488.out (by decide))); replace HB := Aside0.mk (hb); have HO494 := Aside0.mk (ho); clear HO491; clear ho hb hg hat; have hcz12 := blk_cell BK488.out; have hfz12 := blk_frozen BK488.out) | ((with_reducible refine gate_callee (f := 32) rfl ?_); refine goesC_ (some 15) Try.func32 #[.agg #[.int .i64 a1_0, .int .i64 a1_1, .int .i64 a1_2, .int .i64 a1_3, .int .i64 a1_4, .int .i64 a1_5, .int .i64 a1_6, .int .i64 a1_7, .int .i64 a1_8, .int .i64 a1_9]] ?_; (with_reducible refine (spec_CredOk.calls k a1_0 a1_1 a1_2 a1_3 a1_4 a1_5 a1_6 a1_7 a1_8 a1_9 true _ A4.out).mono ?_); rintro e w13 ⟨rfl, hb⟩; refine ⟨_, rfl, ?_⟩; replace HO494 := hob_ HO494 hb; replace BK488 := bkb_ BK488 hb; replace HB := hbs_ hb; clear hb; have hcz14 := blk_cell BK488.out; have hfz14 := blk_frozen BK488.out; obtain ⟨Ao15, co15, eo15⟩ := Kd.R_slice HO494.out; subst eo15) | ((with_reducible refine gate_callee (f := 73) rfl ?_); refine goesC_ (some 28) Try.func73 #[.slice Ao15 y492.length co15, .agg #[.int .i64 a1_1, .int .i64 a1_2, .int .i64 a1_3]] ?_; (with_reducible refine (spec_l06Put.calls k (fun k_ => some k_ = (.slice Ao15 y492.length co15 : Value).ownBlock) (.slice Ao15 y492.length co15) y492 a1_1 a1_2 a1_3 t496 w _ ?side1 ?side2 A7.out).mono ?_); (case side1 => repeat (first | (with_reducible first | exact HB.out | apply below_alloc | apply pw_below_drewN | apply below_drew1 | refine below_set ?_ GE488.out) | exact HB.out)); (case side2 => exact Kd.R_tight rfl HO494.out); rintro e w16 ⟨v497, rfl, ho0, hb, hkp⟩; refine ⟨_, rfl, ?_⟩; replace BK488 := Aside0.mk (blk_kept (bk_ BK488) hkp (fun hs_ => (fun e_ => (Kd.R_ne HO494.out BK488.out (by decide)) e_) hs_)); have HO498 := Aside0.mk (Kd.R_mono (ok' := fun k_ => True) ho0 (fun k_ hk_ => trivial)); replace HB := Aside0.mk (hb); clear HO494; (try clear hb); (try clear hkp); (try clear ho0)))
   go_ret
   exact ⟨_, eq_, by (with_reducible repeat (first | apply Kd.R_alloc | apply Kd.R_drewN | apply Kd.R_drew)); exact HO498.out, bl_⟩
  ·rw [if_neg c6] at H
   have c6b0 : (a1_0 == 1) = false := beq_eq_false_iff_ne.mpr c6
   have c6b1 : (a1_0 != 1) = true := bne_iff_ne.mpr c6
   have HC17 := Aside0.mk H
   clear H
   go_enter Try.func52, Try.ntmps52
   go_upto_if 29 with (first | ((with_reducible refine gate_dst (N := 3) rfl ?_); refine box_event ?hg (N := 3) ?hd (cs := #[.int .i64 a1_0, .int .i64 a1_1, .int .i64 a1_2, .int .i64 a1_3, .int .i64 a1_4, .int .i64 a1_5, .int .i64 a1_6, .int .i64 a1_7, .int .i64 a1_8, .int .i64 a1_9]) (t := 48) ?hr ?_; (case hd => rfl); (case hg => rfl); (case hr => first | (go_simp; done) | (go_simp; rfl)); intro gb488 hg w18 hbox hb; have BK488 := Aside0.mk (hbox); have GW488 := gs_ hg; have GE488 := gs_ hg; replace HB := hbs_ hb; clear hb hbox hg) | ((with_reducible refine gate_dst (N := 11) rfl ?_); refine Kd.R_lit k54 _ 54 ?hg (N := 11) ?hd (xs := ([] : List (S54))) (inner := []) (ok := fun _ => True) (okp := fun _ => True) ?hr ?hp (fun _ hk => hk) trivial (Below.refl _ _) (Nat.le_refl _) (by simp) ?_; (case hd => rfl); (case hg => rfl); (case hr => first | (go_simp; done) | (go_simp; rfl)); (case hp => exact (Reps.none _ _)); intro v490 w19 ho20 hb hg_ hnew_; clear hg_ hnew_; (first | rw [← Ny489.out] at ho20 | (simp only [Int.reduceToNat] at ho20; rw [← Ny489.out] at ho20)); have HO491 := Aside0.mk (Kd.R_lower ho20 bls_); replace BK488 := bkb_ BK488 hb; replace HB := hbs_ hb; clear hb ho20) | ((with_reducible refine gate_builtin (b := .append) (xs := #[.tmp 11, .tmp 12]) rfl ?_); at_builtin; refine Kd.R_append_rows k54 (w0 := w) w.heap.size rfl (.tmp 11) (.tmp 12) 38 54 (.agg #[(.int .i64 0), (.int .i64 0), (.int .i64 0)]) 24 rfl Try.underlying38 info54 rfl (by decide) (by omega) v490 y489 l0 _ _ _ (fun _ => True) (fun _ => False) rfl rfl ?aO ?aR (fun _ _ h => h) (fun _ h => h.elim) ?aF ?aB ?aS ?aL ?_; (case aR => repeat (first | exact (Kd.C_below HR0.out HB.out) | (with_reducible refine Kd.C_alloc ?_ _) | (with_reducible refine Kd.C_drewN ?_ _) | (with_reducible refine Kd.C_drew ?_))); (case aB => exact bl_); (case aF => exact (fun _ _ => trivial)); (case aO => exact (by (with_reducible repeat (first | apply Kd.R_alloc | apply Kd.R_drewN | apply Kd.R_drew)); exact HO491.out)); (case aS => exact bls_); (case aL => have := LMc3.out; omega); intro v493 w21 ho hb hg hat; rw [← Ny492.out] at ho; replace BK488 := Aside0.mk (blk_grown (g := gb488) (o := .cells #[.int .i64 a1_0, .int .i64 a1_1, .int .i64 a1_2, .int .i64 a1_3, .int .i64 a1_4, .int .i64 a1_5, .int .i64 a1_6, .int .i64 a1_7, .int .i64 a1_8, .int .i64 a1_9] 48 (0, 0)) (bk_ BK488) hg (Kd.R_ne HO491.out BK488.out (by decide))); replace HB := Aside0.mk (hb); have HO494 := Aside0.mk (ho); clear HO491; clear ho hb hg hat; have hcz22 := blk_cell BK488.out; have hfz22 := blk_frozen BK488.out) | ((with_reducible refine gate_callee (f := 32) rfl ?_); refine goesC_ (some 15) Try.func32 #[.agg #[.int .i64 a1_0, .int .i64 a1_1, .int .i64 a1_2, .int .i64 a1_3, .int .i64 a1_4, .int .i64 a1_5, .int .i64 a1_6, .int .i64 a1_7, .int .i64 a1_8, .int .i64 a1_9]] ?_; (with_reducible refine (spec_CredOk.calls k a1_0 a1_1 a1_2 a1_3 a1_4 a1_5 a1_6 a1_7 a1_8 a1_9 true _ A4.out).mono ?_); rintro e w23 ⟨rfl, hb⟩; refine ⟨_, rfl, ?_⟩; replace HO494 := hob_ HO494 hb; replace BK488 := bkb_ BK488 hb; replace HB := hbs_ hb; clear hb; have hcz24 := blk_cell BK488.out; have hfz24 := blk_frozen BK488.out))
   (try simp only [Act.put, List.setIfInBounds_toArray, List.set_cons_zero, List.set_cons_succ])
   go_cut [29] (fun v29 wc => ∃ (kq : Nat) (x29_16 : Bool), v29 = .bool x29_16 ∧ Aside0 (spec_Follows.j0 kq l0 y492 a1_0 x29_16 a1_0 a1_1 a1_2 a1_3 a1_4 a1_5 a1_6 a1_7 a1_8 a1_9 = some r) ∧ Aside0 (kq ≤ k) ∧ Aside0 (Kd.R k54 54 wc w.heap.size (fun _ => True) v493 y492) ∧ Aside0 (wc.heap[gb488]? = some (.cells #[.int .i64 a1_0, .int .i64 a1_1, .int .i64 a1_2, .int .i64 a1_3, .int .i64 a1_4, .int .i64 a1_5, .int .i64 a1_6, .int .i64 a1_7, .int .i64 a1_8, .int .i64 a1_9] 48 (0, 0))) ∧ Aside0 (Below w.heap.size w wc))
   case first =>
    have H := HC17.out
    clear HC17
    by_cases c25 : a1_0 = 2
    ·rw [if_pos c25] at H
     have c25b0 : (a1_0 == 2) = true := beq_iff_eq.mpr c25
     have c25b1 : (a1_0 != 2) = false := bne_eq_false_iff_eq.mpr c25
     clear c25
     (first | rw [c25b0] | (simp only [i64_w, i32_w]; rw [c25b0]) | skip)
     have H' := Aside0.mk H
     clear H
     go_wp2
     go_meet
     case rel => exact ⟨_, ((a1_0 == 2)), rf_, H', ⟨by first | omega | exact Nat.le_refl _⟩, ⟨by (with_reducible repeat (first | apply Kd.R_alloc | apply Kd.R_drewN | apply Kd.R_drew)); exact HO494.out⟩, ⟨bk_ BK488⟩, ⟨bl_⟩⟩
    ·rw [if_neg c25] at H
     have c25b0 : (a1_0 == 2) = false := beq_eq_false_iff_ne.mpr c25
     have c25b1 : (a1_0 != 2) = true := bne_iff_ne.mpr c25
     (first | rw [c25b0] | (simp only [i64_w, i32_w]; rw [c25b0]) | skip)
     have H' := Aside0.mk H
     clear H
     go_wp2
     go_meet
     case rel => exact ⟨_, ((a1_0 == 4)), rf_, H', ⟨by first | omega | exact Nat.le_refl _⟩, ⟨by (with_reducible repeat (first | apply Kd.R_alloc | apply Kd.R_drewN | apply Kd.R_drew)); exact HO494.out⟩, ⟨bk_ BK488⟩, ⟨bl_⟩⟩
   case rest =>
    clear HC17
    try clear c2
    try clear p2
    try clear c3
    try clear c5
    try clear c6
    try clear c6b0
    try clear c6b1
    try clear c7
    try clear c25
    try clear c25b0
    try clear c25b1
    try clear hcz12
    try clear hcz14
    try clear hcz22
    try clear hcz24
    try clear hfz12
    try clear hfz14
    try clear hfz22
    try clear hfz24
    obtain ⟨kq, x29_16, rfl, HA, HJ16, HO_5, BK488, HB⟩ := hcut
    cases kq with
    | zero => exact absurd HA.out (by simp [spec_Follows.j0])
    | succ kj16 =>
     have H := HA.out
     clear HA
     simp only [spec_Follows.j0] at H
     by_cases c26 : x29_16 = true
     ·subst c26
      replace H := ite_t_ H
      have H' := Aside0.mk H
      clear H
      go_wp2
      go_loopg [5, 6] kj16 (fun kq v5 v6 w' => ∃ (x5_2 : List (S54)) (x6_2 : Int), v6 = .int .i64 x6_2 ∧ Aside0 (spec_Follows.l0 kq l0 x5_2 x6_2 a1_0 a1_1 a1_2 a1_3 a1_4 a1_5 a1_6 a1_7 a1_8 a1_9 = some r) ∧ Aside0 (kq ≤ kj16) ∧ Aside0 (Kd.R k54 54 w' w.heap.size (fun _ => True) v5 x5_2) ∧ Aside0 (w'.heap[gb488]? = some (.cells #[.int .i64 a1_0, .int .i64 a1_1, .int .i64 a1_2, .int .i64 a1_3, .int .i64 a1_4, .int .i64 a1_5, .int .i64 a1_6, .int .i64 a1_7, .int .i64 a1_8, .int .i64 a1_9] 48 (0, 0))) ∧ Aside0 (Below w.heap.size w w'))
      case atStart => exact ⟨(y492), (0), rf_, H', ⟨Nat.le_refl _⟩, ⟨by (with_reducible repeat (first | apply Kd.R_alloc | apply Kd.R_drewN | apply Kd.R_drew)); exact HO_5.out⟩, ⟨bk_ BK488⟩, ⟨bl_⟩⟩
      case round =>
       clear H'
       try clear c2
       try clear p2
       try clear c3
       try clear c5
       try clear c6
       try clear c6b0
       try clear c6b1
       try clear c7
       try clear c25
       try clear c25b0
       try clear c25b1
       try clear c26
       try clear hcz12
       try clear hcz14
       try clear hcz22
       try clear hcz24
       try clear hfz12
       try clear hfz14
       try clear hfz22
       try clear hfz24
       try clear p2
       obtain ⟨x5_2, x6_2, rfl, HA, HK2, HO_5, BK488, HB⟩ := hrel
       cases gk with
       | zero => exact absurd HA.out (by simp [spec_Follows.l0])
       | succ k2 =>
        have H := HA.out
        clear HA
        simp only [spec_Follows.l0] at H
        by_cases c27 : x6_2 < (l0.length : Int)
        ·rw [if_pos c27] at H
         have c27b0 : decide (x6_2 < (l0.length : Int)) = true := decide_eq_true c27
         clear c27
         obtain ⟨c28b0, H⟩ := ifd_ H
         by_cases c29 : (((rd_T54 l0 x6_2).f0.f0) == a1_4 && (((rd_T54 l0 x6_2).f0.f1) == a1_5)) = true
         ·rw [if_pos c29] at H
          have c29b0 : (((rd_T54 l0 x6_2).f0.f0) == a1_4 && (((rd_T54 l0 x6_2).f0.f1) == a1_5)) = true := c29
          (try (have c29b1 : decide (((rd_T54 l0 x6_2).f0.f0) = a1_4 && (((rd_T54 l0 x6_2).f0.f1) == a1_5)) = true := by simpa using c29))
          (try (have c29b2 : (((rd_T54 l0 x6_2).f0.f0) == a1_4 && (((rd_T54 l0 x6_2).f0.f1) == a1_5)) = true := by simpa using c29))
          clear c29
          by_cases c30 : a1_0 = 2
          ·rw [if_pos c30] at H
           have c30b0 : (a1_0 == 2) = true := beq_iff_eq.mpr c30
           have c30b1 : (a1_0 != 2) = false := bne_eq_false_iff_eq.mpr c30
           clear c30
           obtain ⟨t501, A31, H⟩ := bindE_ H
           have H' := Aside0.mk H
           clear H
           have p499 : 0 ≤ (x6_2 : Int) := od_
           have q499 : x6_2 < (l0.length : Int) := od_
           obtain ⟨ad499, e499, hx499_0, hx499_1, hx499_2⟩ := at_T54 (Kd.C_below HR0.out HB.out) x6_2 p499 q499
           cases e499
           replace p499 := eq_true p499
           replace q499 := eq_true q499
           go_wp2_with (first | ((with_reducible refine gate_dst (N := 7) rfl ?_); refine box_event ?hg (N := 7) ?hd (cs := #[.int .i64 0, .int .i64 0, .int .i64 0]) (t := 54) ?hr ?_; (case hd => rfl); (case hg => rfl); (case hr => first | (go_simp; done) | (go_simp; rfl)); intro gb500 hg w32 hbox hb; replace HO_5 := Aside0.mk (Kd.R_below (Kd.R_elderB (by (with_reducible repeat (first | apply Kd.R_alloc | apply Kd.R_drewN | apply Kd.R_drew)); exact HO_5.out) gb500 (Nat.le_of_eq hg.symm)) hb); have BK500 := Aside0.mk (hbox); have GW500 := gs_ hg; have GE500 := gs_ hg; replace HB := hbs_ hb; have NB488_500 := nl_ hg BK488; have NB500_488 := nr_ hg BK488; replace BK488 := bkb_ BK488 hb; clear hb hbox hg; have hnb33 := NB500_488.out; have hnc33 := NB488_500.out; have hcz34 := blk_cell BK500.out; have hfz34 := blk_frozen BK500.out) | ((with_reducible refine gate_store (t := 54) (p := 7) rfl ?_); refine store_event (t := 54) (p := 7) (v := ?vo_w35) (w1 := (((w32.setCell ⟨gb500, 0, none⟩ (.int .i64 ((rd_T54 l0 x6_2).f0.f0))).setCell ⟨gb500, 1, none⟩ (.int .i64 ((rd_T54 l0 x6_2).f0.f1))).setCell ⟨gb500, 2, none⟩ (.int .i64 ((rd_T54 l0 x6_2).f1)))) ?hg ?ho ?hn ?hr ?_; (case ho => rfl); (case hg => rfl); (case hn => rfl); (case hr => first | (go_simp; done) | (go_simp; rfl)); intro w35 hw; have n0_ : Aside0 (Kd.R k54 54 w35 w.heap.size (fun k_ => k_ ≠ gb500) u5 x5_2) := ⟨(by rw [hw]; exact (by (with_reducible repeat (first | apply Kd.R_alloc | apply Kd.R_drewN | apply Kd.R_drew)); exact Kd.R_mono (Kd.R_far (p := ⟨gb500, 2, none⟩) (Kd.R_far (p := ⟨gb500, 1, none⟩) (Kd.R_far (p := ⟨gb500, 0, none⟩) (Kd.R_mono HO_5.out (fun k_ hk => (⟨hk, hk.2⟩ : _ ∧ k_ ≠ gb500))) (fun _ hk => hk.2) (.int .i64 ((rd_T54 l0 x6_2).f0.f0))) (fun _ hk => hk.2) (.int .i64 ((rd_T54 l0 x6_2).f0.f1))) (fun _ hk => hk.2) (.int .i64 ((rd_T54 l0 x6_2).f1))) (fun _ hk => hk.1.2)))⟩; have n1_ : Aside0 (w35.heap[gb488]? = some (.cells #[.int .i64 a1_0, .int .i64 a1_1, .int .i64 a1_2, .int .i64 a1_3, .int .i64 a1_4, .int .i64 a1_5, .int .i64 a1_6, .int .i64 a1_7, .int .i64 a1_8, .int .i64 a1_9] 48 (0, 0))) := ⟨(by rw [hw]; exact (bk_ BK488))⟩; have n2_ : Aside0 (w35.heap[gb500]? = some (.cells #[.int .i64 ((rd_T54 l0 x6_2).f0.f0), .int .i64 ((rd_T54 l0 x6_2).f0.f1), .int .i64 ((rd_T54 l0 x6_2).f1)] 54 (0, 0))) := ⟨(by rw [hw]; exact (bk_ BK500))⟩; have n3_ : Aside0 (Below w.heap.size w w35) := ⟨(by rw [hw]; exact bl_)⟩; clear hw; clear HO_5; clear BK488; clear BK500; clear HB; have HO_5 := n0_; have BK488 := n1_; have BK500 := n2_; have HB := n3_; clear n0_ n1_ n2_ n3_; have hcz36 := blk_cell BK500.out; have hfz36 := blk_frozen BK500.out; have hcz37 := blk_cell BK488.out; have hfz37 := blk_frozen BK488.out; obtain ⟨Ao38, co38, eo38⟩ := Kd.R_slice HO_5.out; subst eo38) | ((with_reducible refine gate_callee (f := 73) rfl ?_); refine goesC_ (some 67) Try.func73 #[.slice Ao38 x5_2.length co38, .agg #[.int .i64 a1_1, .int .i64 a1_2, .int .i64 ((rd_T54 l0 x6_2).f1)]] ?_; (with_reducible refine (spec_l06Put.calls k2 (fun k_ => some k_ = (.slice Ao38 x5_2.length co38 : Value).ownBlock) (.slice Ao38 x5_2.length co38) x5_2 a1_1 a1_2 ((rd_T54 l0 x6_2).f1) t501 w _ ?side1 ?side2 A31.out).mono ?_); (case side1 => repeat (first | (with_reducible first | exact HB.out | apply below_alloc | apply pw_below_drewN | apply below_drew1 | refine below_set ?_ GE488.out | refine below_set ?_ GE500.out) | exact HB.out)); (case side2 => exact Kd.R_tight rfl HO_5.out); rintro e w39 ⟨v502, rfl, ho0, hb, hkp⟩; refine ⟨_, rfl, ?_⟩; replace BK488 := Aside0.mk (blk_kept (bk_ BK488) hkp (fun hs_ => (fun e_ => (Kd.R_ne HO_5.out BK488.out (by decide)) e_) hs_)); have HO503 := Aside0.mk (Kd.R_mono (ok' := fun k_ => k_ ≠ gb500) ho0 (fun k_ hk_ => Or.elim hk_ (fun hs_ => fun e_ => (Kd.R_away HO_5.out (fun _ hk => hk)) (by rw [← e_]; exact hs_)) (fun hn_ => (Kd.freshB (g := gb500) (o := .cells #[.int .i64 ((rd_T54 l0 x6_2).f0.f0), .int .i64 ((rd_T54 l0 x6_2).f0.f1), .int .i64 ((rd_T54 l0 x6_2).f1)] 54 (0, 0)) (bk_ BK500) k_ hn_)))); replace BK500 := Aside0.mk (blk_kept (bk_ BK500) hkp (fun hs_ => (fun e_ => (Kd.R_away HO_5.out (fun _ hk => hk)) e_) hs_)); replace HB := Aside0.mk (hb); clear HO_5; (try clear hb); (try clear hkp); (try clear ho0)))
           go_roundg k2
           case measure => have := HJ16.out; have := HK2.out; omega
           case rel => exact ⟨(t501), (wrap64 (x6_2 + 1)), rf_, H', ⟨by have := HJ16.out; have := HK2.out; omega⟩, ⟨by (with_reducible repeat (first | apply Kd.R_alloc | apply Kd.R_drewN | apply Kd.R_drew)); exact Kd.R_mono HO503.out (fun _ hk => trivial)⟩, ⟨bk_ BK488⟩, ⟨bl_⟩⟩
          ·rw [if_neg c30] at H
           have c30b0 : (a1_0 == 2) = false := beq_eq_false_iff_ne.mpr c30
           have c30b1 : (a1_0 != 2) = true := bne_iff_ne.mpr c30
           obtain ⟨t504, A40, H⟩ := bindE_ H
           by_cases c41 : t504 = true
           ·subst c41
            replace H := ite_t_ H
            obtain ⟨t505, A42, H⟩ := bindE_ H
            have H' := Aside0.mk H
            clear H
            have p499 : 0 ≤ (x6_2 : Int) := od_
            have q499 : x6_2 < (l0.length : Int) := od_
            obtain ⟨ad499, e499, hx499_0, hx499_1, hx499_2⟩ := at_T54 (Kd.C_below HR0.out HB.out) x6_2 p499 q499
            cases e499
            replace p499 := eq_true p499
            replace q499 := eq_true q499
            go_wp2_with (first | ((with_reducible refine gate_dst (N := 7) rfl ?_); refine box_event ?hg (N := 7) ?hd (cs := #[.int .i64 0, .int .i64 0, .int .i64 0]) (t := 54) ?hr ?_; (case hd => rfl); (case hg => rfl); (case hr => first | (go_simp; done) | (go_simp; rfl)); intro gb500 hg w43 hbox hb; replace HO_5 := Aside0.mk (Kd.R_below (Kd.R_elderB (by (with_reducible repeat (first | apply Kd.R_alloc | apply Kd.R_drewN | apply Kd.R_drew)); exact HO_5.out) gb500 (Nat.le_of_eq hg.symm)) hb); have BK500 := Aside0.mk (hbox); have GW500 := gs_ hg; have GE500 := gs_ hg; replace HB := hbs_ hb; have NB488_500 := nl_ hg BK488; have NB500_488 := nr_ hg BK488; replace BK488 := bkb_ BK488 hb; clear hb hbox hg; have hnb44 := NB500_488.out; have hnc44 := NB488_500.out; have hcz45 := blk_cell BK500.out; have hfz45 := blk_frozen BK500.out; have hcz46 := blk_cell BK488.out; have hfz46 := blk_frozen BK488.out) | (go_at_call 41; (with_reducible refine (spec_l06Has.calls k2 _ _ l0 a1_6 a1_7 ((rd_T54 l0 x6_2).f1) true _ ?side1 ?side2 A40.out).mono ?_); (case side1 => exact Kd.C_below HR0.out bl_); (case side2 => exact HC0.out); rintro e w47 ⟨rfl, hb⟩; replace HO_5 := Aside0.mk (Kd.R_below (by (with_reducible repeat (first | apply Kd.R_alloc | apply Kd.R_drewN | apply Kd.R_drew)); exact (Kd.R_mono (Kd.R_far (p := ⟨gb500, 2, none⟩) (Kd.R_far (p := ⟨gb500, 1, none⟩) (Kd.R_far (p := ⟨gb500, 0, none⟩) (Kd.R_mono HO_5.out (fun k_ hk => (⟨hk, hk.2⟩ : _ ∧ k_ ≠ gb500))) (fun _ hk => hk.2) (.int .i64 ((rd_T54 l0 x6_2).f0.f0))) (fun _ hk => hk.2) (.int .i64 ((rd_T54 l0 x6_2).f0.f1))) (fun _ hk => hk.2) (.int .i64 ((rd_T54 l0 x6_2).f1))) (fun _ h_ => h_.1))) hb); replace BK488 := Aside0.mk (blk_below (g := gb488) (o := .cells #[.int .i64 a1_0, .int .i64 a1_1, .int .i64 a1_2, .int .i64 a1_3, .int .i64 a1_4, .int .i64 a1_5, .int .i64 a1_6, .int .i64 a1_7, .int .i64 a1_8, .int .i64 a1_9] 48 (0, 0)) (bk_ BK488) hb); replace BK500 := Aside0.mk (blk_below (g := gb500) (o := .cells #[.int .i64 ((rd_T54 l0 x6_2).f0.f0), .int .i64 ((rd_T54 l0 x6_2).f0.f1), .int .i64 ((rd_T54 l0 x6_2).f1)] 54 (0, 0)) (bk_ BK500) hb); replace HB := hbs_ hb; clear hb; have hcz48 := blk_cell BK488.out; have hfz48 := blk_frozen BK488.out; have hcz49 := blk_cell BK500.out; have hfz49 := blk_frozen BK500.out; obtain ⟨Ao50, co50, eo50⟩ := Kd.R_slice HO_5.out; subst eo50) | ((with_reducible refine gate_callee (f := 73) rfl ?_); refine goesC_ (some 67) Try.func73 #[.slice Ao50 x5_2.length co50, .agg #[.int .i64 a1_1, .int .i64 a1_2, .int .i64 ((rd_T54 l0 x6_2).f1)]] ?_; (with_reducible refine (spec_l06Put.calls k2 (fun k_ => some k_ = (.slice Ao50 x5_2.length co50 : Value).ownBlock) (.slice Ao50 x5_2.length co50) x5_2 a1_1 a1_2 ((rd_T54 l0 x6_2).f1) t505 w _ ?side1 ?side2 A42.out).mono ?_); (case side1 => repeat (first | (with_reducible first | exact HB.out | apply below_alloc | apply pw_below_drewN | apply below_drew1 | refine below_set ?_ GE488.out | refine below_set ?_ GE500.out) | exact HB.out)); (case side2 => exact Kd.R_tight rfl HO_5.out); rintro e w51 ⟨v506, rfl, ho0, hb, hkp⟩; refine ⟨_, rfl, ?_⟩; replace BK488 := Aside0.mk (blk_kept (bk_ BK488) hkp (fun hs_ => (fun e_ => (Kd.R_ne HO_5.out BK488.out (by decide)) e_) hs_)); have HO507 := Aside0.mk (Kd.R_mono (ok' := fun k_ => k_ ≠ gb500) ho0 (fun k_ hk_ => Or.elim hk_ (fun hs_ => fun e_ => (Kd.R_away HO_5.out (fun _ hk => hk.2)) (by rw [← e_]; exact hs_)) (fun hn_ => (Kd.freshB (g := gb500) (o := .cells #[.int .i64 ((rd_T54 l0 x6_2).f0.f0), .int .i64 ((rd_T54 l0 x6_2).f0.f1), .int .i64 ((rd_T54 l0 x6_2).f1)] 54 (0, 0)) (bk_ BK500) k_ hn_)))); replace BK500 := Aside0.mk (blk_kept (bk_ BK500) hkp (fun hs_ => (fun e_ => (Kd.R_away HO_5.out (fun _ hk => hk.2)) e_) hs_)); replace HB := Aside0.mk (hb); clear HO_5; (try clear hb); (try clear hkp); (try clear ho0)))
            go_roundg k2
            case measure => have := HJ16.out; have := HK2.out; omega
            case rel => exact ⟨(t505), (wrap64 (x6_2 + 1)), rf_, H', ⟨by have := HJ16.out; have := HK2.out; omega⟩, ⟨by (with_reducible repeat (first | apply Kd.R_alloc | apply Kd.R_drewN | apply Kd.R_drew)); exact Kd.R_mono HO507.out (fun _ hk => trivial)⟩, ⟨bk_ BK488⟩, ⟨bl_⟩⟩
           ·replace c41 := Bool.eq_false_iff.mpr c41
            subst c41
            replace H := ite_f_ H
            have H' := Aside0.mk H
            clear H
            have p499 : 0 ≤ (x6_2 : Int) := od_
            have q499 : x6_2 < (l0.length : Int) := od_
            obtain ⟨ad499, e499, hx499_0, hx499_1, hx499_2⟩ := at_T54 (Kd.C_below HR0.out HB.out) x6_2 p499 q499
            cases e499
            replace p499 := eq_true p499
            replace q499 := eq_true q499
            go_wp2_with (first | ((with_reducible refine gate_dst (N := 7) rfl ?_); refine box_event ?hg (N := 7) ?hd (cs := #[.int .i64 0, .int .i64 0, .int .i64 0]) (t := 54) ?hr ?_; (case hd => rfl); (case hg => rfl); (case hr => first | (go_simp; done) | (go_simp; rfl)); intro gb500 hg w52 hbox hb; replace HO_5 := Aside0.mk (Kd.R_below (Kd.R_elderB (by (with_reducible repeat (first | apply Kd.R_alloc | apply Kd.R_drewN | apply Kd.R_drew)); exact HO_5.out) gb500 (Nat.le_of_eq hg.symm)) hb); have BK500 := Aside0.mk (hbox); have GW500 := gs_ hg; have GE500 := gs_ hg; replace HB := hbs_ hb; have NB488_500 := nl_ hg BK488; have NB500_488 := nr_ hg BK488; replace BK488 := bkb_ BK488 hb; clear hb hbox hg; have hnb53 := NB500_488.out; have hnc53 := NB488_500.out; have hcz54 := blk_cell BK500.out; have hfz54 := blk_frozen BK500.out; have hcz55 := blk_cell BK488.out; have hfz55 := blk_frozen BK488.out) | (go_at_call 41; (with_reducible refine (spec_l06Has.calls k2 _ _ l0 a1_6 a1_7 ((rd_T54 l0 x6_2).f1) false _ ?side1 ?side2 A40.out).mono ?_); (case side1 => exact Kd.C_below HR0.out bl_); (case side2 => exact HC0.out); rintro e w56 ⟨rfl, hb⟩; replace HO_5 := Aside0.mk (Kd.R_below (by (with_reducible repeat (first | apply Kd.R_alloc | apply Kd.R_drewN | apply Kd.R_drew)); exact (Kd.R_mono (Kd.R_far (p := ⟨gb500, 2, none⟩) (Kd.R_far (p := ⟨gb500, 1, none⟩) (Kd.R_far (p := ⟨gb500, 0, none⟩) (Kd.R_mono HO_5.out (fun k_ hk => (⟨hk, hk.2⟩ : _ ∧ k_ ≠ gb500))) (fun _ hk => hk.2) (.int .i64 ((rd_T54 l0 x6_2).f0.f0))) (fun _ hk => hk.2) (.int .i64 ((rd_T54 l0 x6_2).f0.f1))) (fun _ hk => hk.2) (.int .i64 ((rd_T54 l0 x6_2).f1))) (fun _ h_ => h_.1))) hb); replace BK488 := Aside0.mk (blk_below (g := gb488) (o := .cells #[.int .i64 a1_0, .int .i64 a1_1, .int .i64 a1_2, .int .i64 a1_3, .int .i64 a1_4, .int .i64 a1_5, .int .i64 a1_6, .int .i64 a1_7, .int .i64 a1_8, .int .i64 a1_9] 48 (0, 0)) (bk_ BK488) hb); replace BK500 := Aside0.mk (blk_below (g := gb500) (o := .cells #[.int .i64 ((rd_T54 l0 x6_2).f0.f0), .int .i64 ((rd_T54 l0 x6_2).f0.f1), .int .i64 ((rd_T54 l0 x6_2).f1)] 54 (0, 0)) (bk_ BK500) hb); replace HB := hbs_ hb; clear hb))
            go_roundg k2
            case measure => have := HJ16.out; have := HK2.out; omega
            case rel => exact ⟨(x5_2), (wrap64 (x6_2 + 1)), rf_, H', ⟨by have := HJ16.out; have := HK2.out; omega⟩, ⟨by (with_reducible repeat (first | apply Kd.R_alloc | apply Kd.R_drewN | apply Kd.R_drew)); exact Kd.R_mono HO_5.out (fun _ hk => trivial)⟩, ⟨bk_ BK488⟩, ⟨bl_⟩⟩
         ·rw [if_neg c29] at H
          have c29b0 : (((rd_T54 l0 x6_2).f0.f0) == a1_4 && (((rd_T54 l0 x6_2).f0.f1) == a1_5)) = false := by simpa using c29
          (try (have c29b1 : decide (((rd_T54 l0 x6_2).f0.f0) = a1_4 && (((rd_T54 l0 x6_2).f0.f1) == a1_5)) = false := by simpa using c29))
          (try (have c29b2 : (((rd_T54 l0 x6_2).f0.f0) == a1_4 && (((rd_T54 l0 x6_2).f0.f1) == a1_5)) = false := by simpa using c29))
          (try (have c29b3 : ¬ (((rd_T54 l0 x6_2).f0.f0) = a1_4 && (((rd_T54 l0 x6_2).f0.f1) == a1_5)) := by simpa using c29))
          clear c29
          have H' := Aside0.mk H
          clear H
          have p499 : 0 ≤ (x6_2 : Int) := od_
          have q499 : x6_2 < (l0.length : Int) := od_
          obtain ⟨ad499, e499, hx499_0, hx499_1, hx499_2⟩ := at_T54 (Kd.C_below HR0.out HB.out) x6_2 p499 q499
          cases e499
          replace p499 := eq_true p499
          replace q499 := eq_true q499
          go_wp2_with (first | ((with_reducible refine gate_dst (N := 7) rfl ?_); refine box_event ?hg (N := 7) ?hd (cs := #[.int .i64 0, .int .i64 0, .int .i64 0]) (t := 54) ?hr ?_; (case hd => rfl); (case hg => rfl); (case hr => first | (go_simp; done) | (go_simp; rfl)); intro gb500 hg w57 hbox hb; replace HO_5 := Aside0.mk (Kd.R_below (Kd.R_elderB (by (with_reducible repeat (first | apply Kd.R_alloc | apply Kd.R_drewN | apply Kd.R_drew)); exact HO_5.out) gb500 (Nat.le_of_eq hg.symm)) hb); have BK500 := Aside0.mk (hbox); have GW500 := gs_ hg; have GE500 := gs_ hg; replace HB := hbs_ hb; have NB488_500 := nl_ hg BK488; have NB500_488 := nr_ hg BK488; replace BK488 := bkb_ BK488 hb; clear hb hbox hg; have hnb58 := NB500_488.out; have hnc58 := NB488_500.out; have hcz59 := blk_cell BK500.out; have hfz59 := blk_frozen BK500.out; have hcz60 := blk_cell BK488.out; have hfz60 := blk_frozen BK488.out))
          go_roundg k2
          case measure => have := HJ16.out; have := HK2.out; omega
          case rel => exact ⟨(x5_2), (wrap64 (x6_2 + 1)), rf_, H', ⟨by have := HJ16.out; have := HK2.out; omega⟩, ⟨by (with_reducible repeat (first | apply Kd.R_alloc | apply Kd.R_drewN | apply Kd.R_drew)); exact Kd.R_mono (Kd.R_far (p := ⟨gb500, 2, none⟩) (Kd.R_far (p := ⟨gb500, 1, none⟩) (Kd.R_far (p := ⟨gb500, 0, none⟩) (Kd.R_mono HO_5.out (fun k_ hk => (⟨hk, hk.2⟩ : _ ∧ k_ ≠ gb500))) (fun _ hk => hk.2) (.int .i64 ((rd_T54 l0 x6_2).f0.f0))) (fun _ hk => hk.2) (.int .i64 ((rd_T54 l0 x6_2).f0.f1))) (fun _ hk => hk.2) (.int .i64 ((rd_T54 l0 x6_2).f1))) (fun _ hk => trivial)⟩, ⟨bk_ BK488⟩, ⟨bl_⟩⟩
        ·rw [if_neg c27] at H
         have c27b0 : decide (x6_2 < (l0.length : Int)) = false := decide_eq_false c27
         clear c27
         obtain rfl := Option.some.inj H
         go_wp2
         go_ret
         exact ⟨_, eq_, by (with_reducible repeat (first | apply Kd.R_alloc | apply Kd.R_drewN | apply Kd.R_drew)); exact HO_5.out, bl_⟩
     ·replace c26 := Bool.eq_false_iff.mpr c26
      subst c26
      replace H := ite_f_ H
      by_cases c61 : a1_0 = 3
      ·rw [if_pos c61] at H
       have c61b0 : (a1_0 == 3) = true := beq_iff_eq.mpr c61
       have c61b1 : (a1_0 != 3) = false := bne_eq_false_iff_eq.mpr c61
       clear c61
       have H' := Aside0.mk H
       clear H
       go_wp2
       go_loopg [5, 8] kj16 (fun kq v5 v8 w' => ∃ (x5_2 : List (S54)) (x8_2 : Int), v8 = .int .i64 x8_2 ∧ Aside0 (spec_Follows.l1 kq l0 x5_2 x8_2 a1_0 a1_1 a1_2 a1_3 a1_4 a1_5 a1_6 a1_7 a1_8 a1_9 = some r) ∧ Aside0 (kq ≤ kj16) ∧ Aside0 (Kd.R k54 54 w' w.heap.size (fun _ => True) v5 x5_2) ∧ Aside0 (w'.heap[gb488]? = some (.cells #[.int .i64 a1_0, .int .i64 a1_1, .int .i64 a1_2, .int .i64 a1_3, .int .i64 a1_4, .int .i64 a1_5, .int .i64 a1_6, .int .i64 a1_7, .int .i64 a1_8, .int .i64 a1_9] 48 (0, 0))) ∧ Aside0 (Below w.heap.size w w'))
       case atStart => exact ⟨(y492), (0), rf_, H', ⟨Nat.le_refl _⟩, ⟨by (with_reducible repeat (first | apply Kd.R_alloc | apply Kd.R_drewN | apply Kd.R_drew)); exact HO_5.out⟩, ⟨bk_ BK488⟩, ⟨bl_⟩⟩
       case round =>
        clear H'
        try clear c2
        try clear p2
        try clear c3
        try clear c4
        try clear p4
        try clear q4
        try clear hx4
        try clear c5
        try clear c6
        try clear c6b0
        try clear c6b1
        try clear p6
        try clear c7
        try clear c25
        try clear c25b0
        try clear c25b1
        try clear c26
        try clear c27
        try clear c27b0
        try clear c28
        try clear c28b0
        try clear c29
        try clear c29b0
        try clear c29b1
        try clear c29b2
        try clear c30
        try clear c30b0
        try clear c30b1
        try clear c32
        try clear c33
        try clear c41
        try clear c44
        try clear p49
        try clear q49
        try clear hx49
        try clear c52
        try clear c53
        try clear c58
        try clear c61
        try clear c61b0
        try clear c61b1
        try clear hcz12
        try clear hcz14
        try clear hcz22
        try clear hcz24
        try clear hcz34
        try clear hcz36
        try clear hcz37
        try clear hcz45
        try clear hcz46
        try clear hcz48
        try clear hcz49
        try clear hcz54
        try clear hcz55
        try clear hcz59
        try clear hcz60
        try clear hfz12
        try clear hfz14
        try clear hfz22
        try clear hfz24
        try clear hfz34
        try clear hfz36
        try clear hfz37
        try clear hfz45
        try clear hfz46
        try clear hfz48
        try clear hfz49
        try clear hfz54
        try clear hfz55
        try clear hfz59
        try clear hfz60
        try clear hx499_0
        try clear hx499_1
        try clear hx499_2
        try clear p2
        try clear p499
        try clear q499
        obtain ⟨x5_2, x8_2, rfl, HA, HK2, HO_5, BK488, HB⟩ := hrel
        cases gk with
        | zero => exact absurd HA.out (by simp [spec_Follows.l1])
        | succ k2 =>
         have H := HA.out
         clear HA
         simp only [spec_Follows.l1] at H
         by_cases c62 : x8_2 < (l0.length : Int)
         ·rw [if_pos c62] at H
          have c62b0 : decide (x8_2 < (l0.length : Int)) = true := decide_eq_true c62
          clear c62
          obtain ⟨c63b0, H⟩ := ifd_ H
          by_cases c64 : (!(((rd_T54 l0 x8_2).f0.f0) == a1_4) || (!(((rd_T54 l0 x8_2).f0.f1) == a1_5))) = true
          ·rw [if_pos c64] at H
           have c64b0 : (!(((rd_T54 l0 x8_2).f0.f0) == a1_4) || (!(((rd_T54 l0 x8_2).f0.f1) == a1_5))) = true := c64
           clear c64
           have H' := Aside0.mk H
           clear H
           try go_wp2
           replace HO_5 := Aside0.mk (Kd.R_drew HO_5.out)
           replace BK488 := Aside0.mk (blk_drew BK488.out)
           replace HB := Aside0.mk (below_drew1 HB.out)
           have p508 : 0 ≤ (x8_2 : Int) := od_
           have q508 : x8_2 < (l0.length : Int) := od_
           obtain ⟨ad508, e508, hx508_0, hx508_1, hx508_2⟩ := at_T54 HR0.out x8_2 p508 q508
           have hw508_2 := hx508_2
           have hw508_1 := hx508_1
           have hw508_0 := hx508_0
           cases e508
           replace hx508_0 := cb_ HB hx508_0
           replace hx508_1 := cb_ HB hx508_1
           replace hx508_2 := cb_ HB hx508_2
           replace p508 := eq_true p508
           replace q508 := eq_true q508
           refine start_ (n := 8) (S := fun w' => w'.cell? ⟨gb488, 0, none⟩ = some (.int .i64 a1_0) ∧ w'.cell? ⟨gb488, 1, none⟩ = some (.int .i64 a1_1) ∧ w'.cell? ⟨gb488, 2, none⟩ = some (.int .i64 a1_2) ∧ w'.cell? ⟨gb488, 3, none⟩ = some (.int .i64 a1_3) ∧ w'.cell? ⟨gb488, 4, none⟩ = some (.int .i64 a1_4) ∧ w'.cell? ⟨gb488, 5, none⟩ = some (.int .i64 a1_5) ∧ w'.cell? ⟨gb488, 6, none⟩ = some (.int .i64 a1_6) ∧ w'.cell? ⟨gb488, 7, none⟩ = some (.int .i64 a1_7) ∧ w'.cell? ⟨gb488, 8, none⟩ = some (.int .i64 a1_8) ∧ w'.cell? ⟨gb488, 9, none⟩ = some (.int .i64 a1_9) ∧ w'.cell? (ad508.add ((x8_2).toNat * 3)) = some (.int .i64 ((rd_T54 l0 x8_2).f0.f0)) ∧ w'.cell? ⟨(ad508.add ((x8_2).toNat * 3)).block, (ad508.add ((x8_2).toNat * 3)).off + 1, none⟩ = some (.int .i64 ((rd_T54 l0 x8_2).f0.f1)) ∧ w'.cell? ⟨(ad508.add ((x8_2).toNat * 3)).block, (ad508.add ((x8_2).toNat * 3)).off + 2, none⟩ = some (.int .i64 ((rd_T54 l0 x8_2).f1))) (ds := []) #[false, false, false, false, false, false, false, false] (by kernel_rfl) rfl rfl ⟨(blk_cell BK488.out 0).trans rfl, (blk_cell BK488.out 1).trans rfl, (blk_cell BK488.out 2).trans rfl, (blk_cell BK488.out 3).trans rfl, (blk_cell BK488.out 4).trans rfl, (blk_cell BK488.out 5).trans rfl, (blk_cell BK488.out 6).trans rfl, (blk_cell BK488.out 7).trans rfl, (blk_cell BK488.out 8).trans rfl, (blk_cell BK488.out 9).trans rfl, (cb_ HB hw508_0 :), (cb_ HB hw508_1 :), (cb_ HB hw508_2 :)⟩ (fun hHeld => ?_); refine with_tabW spec_Follows.tab19 spec_Follows.bits19 (fun HT_ HW_ => ?_)
           generalize wr.drew = w65 at HO_5 BK488 HB hx508_0 hx508_1 hx508_2 hHeld ⊢
           refine pureZ_ (i := 0) (some 76) #[true, false, false, false, false, false, false, false] (any_of HT_.out (by kernel_rfl)) ?_
           refine pureZ_ (i := 1) (some 77) #[true, true, false, false, false, false, false, false] (any_of HT_.out (by kernel_rfl)) ?_
           refine pureZ_ (i := 2) (some 78) #[true, true, true, false, false, false, false, false] (any_of HT_.out (by kernel_rfl)) ?_
           refine pureZ_ (i := 3) (some 79) #[true, true, true, true, false, false, false, false] (any_of HT_.out (by kernel_rfl)) ?_
           refine pureZ_ (i := 5) (some 81) #[true, true, true, true, false, true, false, false] (any_of HT_.out (by kernel_rfl)) ?_
           refine takeZ_ (i := 4) (some 80) #[true, true, true, true, true, true, false, false] (take_ofW HT_.out HW_.out (by kernel_rfl)) hHeld ?_
           refine takeZ_ (i := 6) (some 82) #[true, true, true, true, true, true, true, false] (take_ofW HT_.out HW_.out (by kernel_rfl)) hHeld ?_
           refine pureZ_ (i := 7) (some 83) #[true, true, true, true, true, true, true, true] (any_of HT_.out (by kernel_rfl)) ?_
           refine done_ (done_of HT_.out (by kernel_rfl)) ?_
           try go_wp2
           go_roundg k2
           case measure => have := HJ16.out; have := HK2.out; omega
           case rel => exact ⟨(x5_2), (wrap64 (x8_2 + 1)), rf_, H', ⟨by have := HJ16.out; have := HK2.out; omega⟩, ⟨by (with_reducible repeat (first | apply Kd.R_alloc | apply Kd.R_drewN | apply Kd.R_drew)); exact HO_5.out⟩, ⟨bk_ BK488⟩, ⟨bl_⟩⟩
          ·rw [if_neg c64] at H
           have c64b0 : (!(((rd_T54 l0 x8_2).f0.f0) == a1_4) || (!(((rd_T54 l0 x8_2).f0.f1) == a1_5))) = false := by simpa using c64
           clear c64
           have H' := Aside0.mk H
           clear H
           try go_wp2
           replace HO_5 := Aside0.mk (Kd.R_drew HO_5.out)
           replace BK488 := Aside0.mk (blk_drew BK488.out)
           replace HB := Aside0.mk (below_drew1 HB.out)
           have p508 : 0 ≤ (x8_2 : Int) := od_
           have q508 : x8_2 < (l0.length : Int) := od_
           obtain ⟨ad508, e508, hx508_0, hx508_1, hx508_2⟩ := at_T54 HR0.out x8_2 p508 q508
           have hw508_2 := hx508_2
           have hw508_1 := hx508_1
           have hw508_0 := hx508_0
           cases e508
           replace hx508_0 := cb_ HB hx508_0
           replace hx508_1 := cb_ HB hx508_1
           replace hx508_2 := cb_ HB hx508_2
           replace p508 := eq_true p508
           replace q508 := eq_true q508
           refine start_ (n := 8) (S := fun w' => w'.cell? ⟨gb488, 0, none⟩ = some (.int .i64 a1_0) ∧ w'.cell? ⟨gb488, 1, none⟩ = some (.int .i64 a1_1) ∧ w'.cell? ⟨gb488, 2, none⟩ = some (.int .i64 a1_2) ∧ w'.cell? ⟨gb488, 3, none⟩ = some (.int .i64 a1_3) ∧ w'.cell? ⟨gb488, 4, none⟩ = some (.int .i64 a1_4) ∧ w'.cell? ⟨gb488, 5, none⟩ = some (.int .i64 a1_5) ∧ w'.cell? ⟨gb488, 6, none⟩ = some (.int .i64 a1_6) ∧ w'.cell? ⟨gb488, 7, none⟩ = some (.int .i64 a1_7) ∧ w'.cell? ⟨gb488, 8, none⟩ = some (.int .i64 a1_8) ∧ w'.cell? ⟨gb488, 9, none⟩ = some (.int .i64 a1_9) ∧ w'.cell? (ad508.add ((x8_2).toNat * 3)) = some (.int .i64 ((rd_T54 l0 x8_2).f0.f0)) ∧ w'.cell? ⟨(ad508.add ((x8_2).toNat * 3)).block, (ad508.add ((x8_2).toNat * 3)).off + 1, none⟩ = some (.int .i64 ((rd_T54 l0 x8_2).f0.f1)) ∧ w'.cell? ⟨(ad508.add ((x8_2).toNat * 3)).block, (ad508.add ((x8_2).toNat * 3)).off + 2, none⟩ = some (.int .i64 ((rd_T54 l0 x8_2).f1))) (ds := []) #[false, false, false, false, false, false, false, false] (by kernel_rfl) rfl rfl ⟨(blk_cell BK488.out 0).trans rfl, (blk_cell BK488.out 1).trans rfl, (blk_cell BK488.out 2).trans rfl, (blk_cell BK488.out 3).trans rfl, (blk_cell BK488.out 4).trans rfl, (blk_cell BK488.out 5).trans rfl, (blk_cell BK488.out 6).trans rfl, (blk_cell BK488.out 7).trans rfl, (blk_cell BK488.out 8).trans rfl, (blk_cell BK488.out 9).trans rfl, (cb_ HB hw508_0 :), (cb_ HB hw508_1 :), (cb_ HB hw508_2 :)⟩ (fun hHeld => ?_); refine with_tabW spec_Follows.tab19 spec_Follows.bits19 (fun HT_ HW_ => ?_)
           generalize wr.drew = w66 at HO_5 BK488 HB hx508_0 hx508_1 hx508_2 hHeld ⊢
           refine pureZ_ (i := 0) (some 76) #[true, false, false, false, false, false, false, false] (any_of HT_.out (by kernel_rfl)) ?_
           refine pureZ_ (i := 1) (some 77) #[true, true, false, false, false, false, false, false] (any_of HT_.out (by kernel_rfl)) ?_
           refine pureZ_ (i := 2) (some 78) #[true, true, true, false, false, false, false, false] (any_of HT_.out (by kernel_rfl)) ?_
           refine pureZ_ (i := 3) (some 79) #[true, true, true, true, false, false, false, false] (any_of HT_.out (by kernel_rfl)) ?_
           refine pureZ_ (i := 5) (some 81) #[true, true, true, true, false, true, false, false] (any_of HT_.out (by kernel_rfl)) ?_
           refine takeZ_ (i := 4) (some 80) #[true, true, true, true, true, true, false, false] (take_ofW HT_.out HW_.out (by kernel_rfl)) hHeld ?_
           refine takeZ_ (i := 6) (some 82) #[true, true, true, true, true, true, true, false] (take_ofW HT_.out HW_.out (by kernel_rfl)) hHeld ?_
           refine pureZ_ (i := 7) (some 83) #[true, true, true, true, true, true, true, true] (any_of HT_.out (by kernel_rfl)) ?_
           refine done_ (done_of HT_.out (by kernel_rfl)) ?_
           try go_wp2
           replace HO_5 := Aside0.mk (Kd.R_drew HO_5.out)
           replace BK488 := Aside0.mk (blk_drew BK488.out)
           replace HB := Aside0.mk (below_drew1 HB.out)
           have p509 : 0 ≤ (x8_2 : Int) := od_
           have q509 : x8_2 < (l0.length : Int) := od_
           obtain ⟨ad509, e509, hx509_0, hx509_1, hx509_2⟩ := at_T54 HR0.out x8_2 p509 q509
           have hw509_2 := hx509_2
           have hw509_1 := hx509_1
           have hw509_0 := hx509_0
           obtain rfl : ad508 = ad509 := (by injection e509)
           replace hx509_0 := cb_ HB hx509_0
           replace hx509_1 := cb_ HB hx509_1
           replace hx509_2 := cb_ HB hx509_2
           replace p509 := eq_true p509
           replace q509 := eq_true q509
           refine start_ (n := 11) (S := fun w' => w'.cell? ⟨gb488, 0, none⟩ = some (.int .i64 a1_0) ∧ w'.cell? ⟨gb488, 1, none⟩ = some (.int .i64 a1_1) ∧ w'.cell? ⟨gb488, 2, none⟩ = some (.int .i64 a1_2) ∧ w'.cell? ⟨gb488, 3, none⟩ = some (.int .i64 a1_3) ∧ w'.cell? ⟨gb488, 4, none⟩ = some (.int .i64 a1_4) ∧ w'.cell? ⟨gb488, 5, none⟩ = some (.int .i64 a1_5) ∧ w'.cell? ⟨gb488, 6, none⟩ = some (.int .i64 a1_6) ∧ w'.cell? ⟨gb488, 7, none⟩ = some (.int .i64 a1_7) ∧ w'.cell? ⟨gb488, 8, none⟩ = some (.int .i64 a1_8) ∧ w'.cell? ⟨gb488, 9, none⟩ = some (.int .i64 a1_9) ∧ w'.cell? (ad508.add ((x8_2).toNat * 3)) = some (.int .i64 ((rd_T54 l0 x8_2).f0.f0)) ∧ w'.cell? ⟨(ad508.add ((x8_2).toNat * 3)).block, (ad508.add ((x8_2).toNat * 3)).off + 1, none⟩ = some (.int .i64 ((rd_T54 l0 x8_2).f0.f1)) ∧ w'.cell? ⟨(ad508.add ((x8_2).toNat * 3)).block, (ad508.add ((x8_2).toNat * 3)).off + 2, none⟩ = some (.int .i64 ((rd_T54 l0 x8_2).f1))) (ds := []) #[false, false, false, false, false, false, false, false, false, false, false] (by kernel_rfl) rfl rfl ⟨(blk_cell BK488.out 0).trans rfl, (blk_cell BK488.out 1).trans rfl, (blk_cell BK488.out 2).trans rfl, (blk_cell BK488.out 3).trans rfl, (blk_cell BK488.out 4).trans rfl, (blk_cell BK488.out 5).trans rfl, (blk_cell BK488.out 6).trans rfl, (blk_cell BK488.out 7).trans rfl, (blk_cell BK488.out 8).trans rfl, (blk_cell BK488.out 9).trans rfl, (cb_ HB hw509_0 :), (cb_ HB hw509_1 :), (cb_ HB hw509_2 :)⟩ (fun hHeld => ?_); refine with_tabW spec_Follows.tab20 spec_Follows.bits20 (fun HT_ HW_ => ?_)
           generalize w66.drew = w67 at HO_5 BK488 HB hx509_0 hx509_1 hx509_2 hHeld ⊢
           refine pureZ_ (i := 0) (some 84) #[true, false, false, false, false, false, false, false, false, false, false] (any_of HT_.out (by kernel_rfl)) ?_
           refine pureZ_ (i := 1) (some 85) #[true, true, false, false, false, false, false, false, false, false, false] (any_of HT_.out (by kernel_rfl)) ?_
           refine pureZ_ (i := 2) (some 86) #[true, true, true, false, false, false, false, false, false, false, false] (any_of HT_.out (by kernel_rfl)) ?_
           refine pureZ_ (i := 3) (some 87) #[true, true, true, true, false, false, false, false, false, false, false] (any_of HT_.out (by kernel_rfl)) ?_
           refine pureZ_ (i := 5) (some 89) #[true, true, true, true, false, true, false, false, false, false, false] (any_of HT_.out (by kernel_rfl)) ?_
           refine pureZ_ (i := 6) (some 90) #[true, true, true, true, false, true, true, false, false, false, false] (any_of HT_.out (by kernel_rfl)) ?_
           refine takeZ_ (i := 4) (some 88) #[true, true, true, true, true, true, true, false, false, false, false] (take_ofW HT_.out HW_.out (by kernel_rfl)) hHeld ?_
           refine takeZ_ (i := 7) (some 91) #[true, true, true, true, true, true, true, true, false, false, false] (take_ofW HT_.out HW_.out (by kernel_rfl)) hHeld ?_
           refine pureZ_ (i := 8) (some 92) #[true, true, true, true, true, true, true, true, true, false, false] (any_of HT_.out (by kernel_rfl)) ?_
           refine one_ (i := 9) (N := some 9) #[true, true, true, true, true, true, true, true, true, true, false] rfl rfl (one_of HT_.out (by kernel_rfl)) (by decide) (fun K hK => ?_)
           refine box_step ?hg (N := 9) ?hd (cs := #[.int .i64 0, .int .i64 0]) (t := 26) ?hr ?_; (case hd => rfl); (case hg => rfl); (case hr => first | (go_simp; done) | (go_simp; rfl))
           intro gb510 hg w68 hbox hb
           replace HO_5 := hob_ HO_5 hb
           have BK510 := Aside0.mk (hbox)
           have GW510 := gs_ hg
           have GE510 := gs_ hg
           replace HB := hbs_ hb
           have NB488_510 := nl_ hg BK488
           have NB510_488 := nr_ hg BK488
           replace BK488 := bkb_ BK488 hb
           clear hb hbox hg
           refine hK.out _ _ ⟨(blk_cell BK488.out 0).trans rfl, (blk_cell BK488.out 1).trans rfl, (blk_cell BK488.out 2).trans rfl, (blk_cell BK488.out 3).trans rfl, (blk_cell BK488.out 4).trans rfl, (blk_cell BK488.out 5).trans rfl, (blk_cell BK488.out 6).trans rfl, (blk_cell BK488.out 7).trans rfl, (blk_cell BK488.out 8).trans rfl, (blk_cell BK488.out 9).trans rfl, (cb_ HB hw509_0 :), (cb_ HB hw509_1 :), (cb_ HB hw509_2 :)⟩ (fun hHeld => ?_)
           clear hK K
           refine norm_ (a' := ?_) ?_ ?_
           rotate_left
           ·show Act.put _ (some 9) _ = _
            simp only [Act.put, List.setIfInBounds_toArray, List.set_cons_zero, List.set_cons_succ, i64_w, i32_w]
            rfl
           refine one_ (i := 10) (N := none) #[true, true, true, true, true, true, true, true, true, true, true] rfl rfl (one_of HT_.out (by kernel_rfl)) (by decide) (fun K hK => ?_)
           have hs69 : w68.cell? ⟨gb510, 0, none⟩ = some (.int .i64 0) := (blk_cell BK510.out 0).trans rfl
           have hfs69 := blk_frozen BK510.out 0
           have hns69_0 := NB488_510.out
           have hms69_0 := NB510_488.out
           have hs70 : w68.cell? ⟨gb510, 1, none⟩ = some (.int .i64 0) := (blk_cell BK510.out 1).trans rfl
           have hfs70 := blk_frozen BK510.out 1
           have hns70_0 := NB488_510.out
           have hms70_0 := NB510_488.out
           refine skip_ (w1 := ?_) (by rfl) rfl ?_ ?_
           rotate_left
           ·go_simp
            rfl
           refine hK.out _ _ ⟨((cell_far (p := ⟨gb510, _, none⟩) NB488_510.out _).trans (((cell_far (p := ⟨gb510, _, none⟩) NB488_510.out _).trans (hHeld.1)))), ((cell_far (p := ⟨gb510, _, none⟩) NB488_510.out _).trans (((cell_far (p := ⟨gb510, _, none⟩) NB488_510.out _).trans (hHeld.2.1)))), ((cell_far (p := ⟨gb510, _, none⟩) NB488_510.out _).trans (((cell_far (p := ⟨gb510, _, none⟩) NB488_510.out _).trans (hHeld.2.2.1)))), ((cell_far (p := ⟨gb510, _, none⟩) NB488_510.out _).trans (((cell_far (p := ⟨gb510, _, none⟩) NB488_510.out _).trans (hHeld.2.2.2.1)))), ((cell_far (p := ⟨gb510, _, none⟩) NB488_510.out _).trans (((cell_far (p := ⟨gb510, _, none⟩) NB488_510.out _).trans (hHeld.2.2.2.2.1)))), ((cell_far (p := ⟨gb510, _, none⟩) NB488_510.out _).trans (((cell_far (p := ⟨gb510, _, none⟩) NB488_510.out _).trans (hHeld.2.2.2.2.2.1)))), ((cell_far (p := ⟨gb510, _, none⟩) NB488_510.out _).trans (((cell_far (p := ⟨gb510, _, none⟩) NB488_510.out _).trans (hHeld.2.2.2.2.2.2.1)))), ((cell_far (p := ⟨gb510, _, none⟩) NB488_510.out _).trans (((cell_far (p := ⟨gb510, _, none⟩) NB488_510.out _).trans (hHeld.2.2.2.2.2.2.2.1)))), ((cell_far (p := ⟨gb510, _, none⟩) NB488_510.out _).trans (((cell_far (p := ⟨gb510, _, none⟩) NB488_510.out _).trans (hHeld.2.2.2.2.2.2.2.2.1)))), ((cell_far (p := ⟨gb510, _, none⟩) NB488_510.out _).trans (((cell_far (p := ⟨gb510, _, none⟩) NB488_510.out _).trans (hHeld.2.2.2.2.2.2.2.2.2.1)))), ((cell_far (p := ⟨gb510, _, none⟩) (fb_ hw509_0 GW510.out) _).trans (((cell_far (p := ⟨gb510, _, none⟩) (fb_ hw509_0 GW510.out) _).trans (hHeld.2.2.2.2.2.2.2.2.2.2.1)))), ((cell_far (p := ⟨gb510, _, none⟩) (fb_ hw509_1 GW510.out) _).trans (((cell_far (p := ⟨gb510, _, none⟩) (fb_ hw509_1 GW510.out) _).trans (hHeld.2.2.2.2.2.2.2.2.2.2.2.1)))), ((cell_far (p := ⟨gb510, _, none⟩) (fb_ hw509_2 GW510.out) _).trans (((cell_far (p := ⟨gb510, _, none⟩) (fb_ hw509_2 GW510.out) _).trans (hHeld.2.2.2.2.2.2.2.2.2.2.2.2))))⟩ (fun hHeld => ?_)
           clear hK K
           refine done_ (done_of HT_.out (by kernel_rfl)) ?_
           try go_wp2
           go_loopg [5, 10] k2 (fun kq v5 v10 w' => ∃ (x5_3 : List (S54)) (x10_3 : Int), v10 = .int .i64 x10_3 ∧ Aside0 (spec_Follows.l2 kq l0 x5_3 x8_2 x10_3 a1_0 a1_1 a1_2 a1_3 a1_4 a1_5 a1_6 a1_7 a1_8 a1_9 ((rd_T54 l0 x8_2).f1) a1_7 = some r) ∧ Aside0 (kq ≤ k2) ∧ Aside0 (Kd.R k54 54 w' w.heap.size (fun _ => True) v5 x5_3) ∧ Aside0 (w'.heap[gb488]? = some (.cells #[.int .i64 a1_0, .int .i64 a1_1, .int .i64 a1_2, .int .i64 a1_3, .int .i64 a1_4, .int .i64 a1_5, .int .i64 a1_6, .int .i64 a1_7, .int .i64 a1_8, .int .i64 a1_9] 48 (0, 0))) ∧ Aside0 (w'.heap[gb510]? = some (.cells #[.int .i64 ((rd_T54 l0 x8_2).f1), .int .i64 a1_7] 26 (0, 0))) ∧ Aside0 (Below w.heap.size w w'))
           case atStart => exact ⟨(x5_2), (0), rf_, H', ⟨Nat.le_refl _⟩, ⟨by (with_reducible repeat (first | apply Kd.R_alloc | apply Kd.R_drewN | apply Kd.R_drew)); exact Kd.R_mono (Kd.R_far (p := ⟨gb510, 1, none⟩) (Kd.R_far (p := ⟨gb510, 0, none⟩) (Kd.R_types HO_5.out BK510.out (by decide)) (fun _ hk => hk.2) (.int .i64 ((rd_T54 l0 x8_2).f1))) (fun _ hk => hk.2) (.int .i64 a1_7)) (fun _ hk => trivial)⟩, ⟨bk_ BK488⟩, ⟨bk_ BK510⟩, ⟨bl_⟩⟩
           case round =>
            clear H'
            try clear c2
            try clear p2
            try clear c3
            try clear c4
            try clear p4
            try clear q4
            try clear hx4
            try clear c5
            try clear p5
            try clear q5
            try clear hx5
            try clear c6
            try clear p6
            try clear c29
            try clear c29b0
            try clear c29b1
            try clear c29b2
            try clear c30
            try clear c30b0
            try clear c30b1
            try clear c32
            try clear c33
            try clear c41
            try clear c44
            try clear p49
            try clear q49
            try clear hx49
            try clear p50
            try clear q50
            try clear hx50
            try clear c52
            try clear c53
            try clear c58
            try clear c61
            try clear c61b0
            try clear c61b1
            try clear c62
            try clear c62b0
            try clear c63
            try clear c63b0
            try clear c64
            try clear c64b0
            try clear p64
            try clear hcz12
            try clear hcz14
            try clear hcz22
            try clear hcz24
            try clear hcz34
            try clear hcz36
            try clear hcz37
            try clear hcz45
            try clear hcz46
            try clear hcz48
            try clear hcz49
            try clear hcz54
            try clear hcz55
            try clear hcz59
            try clear hcz60
            try clear hfz12
            try clear hfz14
            try clear hfz22
            try clear hfz24
            try clear hfz34
            try clear hfz36
            try clear hfz37
            try clear hfz45
            try clear hfz46
            try clear hfz48
            try clear hfz49
            try clear hfz54
            try clear hfz55
            try clear hfz59
            try clear hfz60
            try clear hx499_0
            try clear hx499_1
            try clear hx499_2
            try clear hx508_0
            try clear hx508_1
            try clear hx508_2
            try clear hx509_0
            try clear hx509_1
            try clear hx509_2
            try clear p2
            try clear p49
            try clear p499
            try clear p508
            try clear p509
            try clear q49
            try clear q499
            try clear q508
            try clear q509
            obtain ⟨x5_3, x10_3, rfl, HA, HK3, HO_5, BK488, BK510, HB⟩ := hrel
            cases gk with
            | zero => exact absurd HA.out (by simp [spec_Follows.l2])
            | succ k3 =>
             have H := HA.out
             clear HA
             simp only [spec_Follows.l2] at H
             by_cases c71 : x10_3 < (l0.length : Int)
             ·rw [if_pos c71] at H
              have c71b0 : decide (x10_3 < (l0.length : Int)) = true := decide_eq_true c71
              clear c71
              obtain ⟨c72b0, H⟩ := ifd_ H
              by_cases c73 : (((rd_T54 l0 x10_3).f0.f0) == ((rd_T54 l0 x8_2).f1) && (((rd_T54 l0 x10_3).f0.f1) == a1_7)) = true
              ·rw [if_pos c73] at H
               have c73b0 : (((rd_T54 l0 x10_3).f0.f0) == ((rd_T54 l0 x8_2).f1) && (((rd_T54 l0 x10_3).f0.f1) == a1_7)) = true := c73
               (try (have c73b1 : decide (((rd_T54 l0 x10_3).f0.f0) = ((rd_T54 l0 x8_2).f1) && (((rd_T54 l0 x10_3).f0.f1) == a1_7)) = true := by simpa using c73))
               (try (have c73b2 : (((rd_T54 l0 x10_3).f0.f0) == ((rd_T54 l0 x8_2).f1) && (((rd_T54 l0 x10_3).f0.f1) == a1_7)) = true := by simpa using c73))
               clear c73
               obtain ⟨t513, A74, H⟩ := bindE_ H
               have H' := Aside0.mk H
               clear H
               try go_wp2
               replace HO_5 := Aside0.mk (Kd.R_drew HO_5.out)
               replace BK488 := Aside0.mk (blk_drew BK488.out)
               replace BK510 := Aside0.mk (blk_drew BK510.out)
               replace HB := Aside0.mk (below_drew1 HB.out)
               have p511 : 0 ≤ (x10_3 : Int) := od_
               have q511 : x10_3 < (l0.length : Int) := od_
               obtain ⟨ad511, e511, hx511_0, hx511_1, hx511_2⟩ := at_T54 HR0.out x10_3 p511 q511
               have hw511_2 := hx511_2
               have hw511_1 := hx511_1
               have hw511_0 := hx511_0
               obtain rfl : ad508 = ad511 := (by injection e511)
               replace hx511_0 := cb_ HB hx511_0
               replace hx511_1 := cb_ HB hx511_1
               replace hx511_2 := cb_ HB hx511_2
               replace p511 := eq_true p511
               replace q511 := eq_true q511
               refine start_ (n := 7) (S := fun w' => w'.cell? ⟨gb510, 0, none⟩ = some (.int .i64 ((rd_T54 l0 x8_2).f1)) ∧ w'.cell? ⟨gb510, 1, none⟩ = some (.int .i64 a1_7) ∧ w'.cell? (ad508.add ((x10_3).toNat * 3)) = some (.int .i64 ((rd_T54 l0 x10_3).f0.f0)) ∧ w'.cell? ⟨(ad508.add ((x10_3).toNat * 3)).block, (ad508.add ((x10_3).toNat * 3)).off + 1, none⟩ = some (.int .i64 ((rd_T54 l0 x10_3).f0.f1)) ∧ w'.cell? ⟨(ad508.add ((x10_3).toNat * 3)).block, (ad508.add ((x10_3).toNat * 3)).off + 2, none⟩ = some (.int .i64 ((rd_T54 l0 x10_3).f1))) (ds := []) #[false, false, false, false, false, false, false] (by kernel_rfl) rfl rfl ⟨(blk_cell BK510.out 0).trans rfl, (blk_cell BK510.out 1).trans rfl, (cb_ HB hw511_0 :), (cb_ HB hw511_1 :), (cb_ HB hw511_2 :)⟩ (fun hHeld => ?_)
               generalize wr.drew = w75 at HO_5 BK488 BK510 HB hx511_0 hx511_1 hx511_2 hHeld ⊢
               refine pure_ (i := 0) (N := some 99) (v := ?_) (a' := ?_) #[true, false, false, false, false, false, false] rfl rfl (by kernel_rfl) (fun _ _ _ h => h) (Or.inl ⟨by rfl, ?_⟩) ?_ ?_
               rotate_left
               ·intro w'
                go_simp
                with_reducible rfl
               rotate_left
               ·simp only [Act.put, List.setIfInBounds_toArray, List.set_cons_zero, List.set_cons_succ, i64_w, i32_w]
                rfl
               refine pure_ (i := 1) (N := some 100) (v := ?_) (a' := ?_) #[true, true, false, false, false, false, false] rfl rfl (by kernel_rfl) (fun _ _ _ h => h) (Or.inl ⟨by rfl, ?_⟩) ?_ ?_
               rotate_left
               ·intro w'
                go_simp
                with_reducible rfl
               rotate_left
               ·simp only [Act.put, List.setIfInBounds_toArray, List.set_cons_zero, List.set_cons_succ, i64_w, i32_w]
                rfl
               refine pure_ (i := 2) (N := some 101) (v := ?_) (a' := ?_) #[true, true, true, false, false, false, false] rfl rfl (by kernel_rfl) (fun _ _ _ h => h) (Or.inl ⟨by rfl, ?_⟩) ?_ ?_
               rotate_left
               ·intro w'
                go_simp
                with_reducible rfl
               rotate_left
               ·simp only [Act.put, List.setIfInBounds_toArray, List.set_cons_zero, List.set_cons_succ, i64_w, i32_w]
                rfl
               refine pure_ (i := 3) (N := some 102) (v := ?_) (a' := ?_) #[true, true, true, true, false, false, false] rfl rfl (by kernel_rfl) (fun _ _ _ h => h) (Or.inl ⟨by rfl, ?_⟩) ?_ ?_
               rotate_left
               ·intro w'
                go_simp
                with_reducible rfl
               rotate_left
               ·simp only [Act.put, List.setIfInBounds_toArray, List.set_cons_zero, List.set_cons_succ, i64_w, i32_w]
                rfl
               refine take_ (i := 4) (N := some 103) (v := ?_) (a' := ?_) #[true, true, true, true, true, false, false] rfl rfl (by kernel_rfl) (fun _ _ _ h => h) (Or.inl ⟨by rfl, ?_⟩) hHeld ?_ ?_
               rotate_left
               ·rintro w' ⟨s0, s1, s2, s3, s4⟩
                go_simp
                with_reducible rfl
               rotate_left
               ·simp only [Act.put, List.setIfInBounds_toArray, List.set_cons_zero, List.set_cons_succ, i64_w, i32_w]
                rfl
               refine take_ (i := 5) (N := some 104) (v := ?_) (a' := ?_) #[true, true, true, true, true, true, false] rfl rfl (by kernel_rfl) (fun _ _ _ h => h) (Or.inl ⟨by rfl, ?_⟩) hHeld ?_ ?_
               rotate_left
               ·rintro w' ⟨s0, s1, s2, s3, s4⟩
                go_simp
                with_reducible rfl
               rotate_left
               ·simp only [Act.put, List.setIfInBounds_toArray, List.set_cons_zero, List.set_cons_succ, i64_w, i32_w]
                rfl
               refine pure_ (i := 6) (N := some 105) (v := ?_) (a' := ?_) #[true, true, true, true, true, true, true] rfl rfl (by kernel_rfl) (fun _ _ _ h => h) (Or.inl ⟨by rfl, ?_⟩) ?_ ?_
               rotate_left
               ·intro w'
                go_simp
                with_reducible rfl
               rotate_left
               ·simp only [Act.put, List.setIfInBounds_toArray, List.set_cons_zero, List.set_cons_succ, i64_w, i32_w]
                rfl
               refine done_ (by kernel_rfl) ?_
               try go_wp2
               replace HO_5 := Aside0.mk (Kd.R_drew HO_5.out)
               replace BK488 := Aside0.mk (blk_drew BK488.out)
               replace BK510 := Aside0.mk (blk_drew BK510.out)
               replace HB := Aside0.mk (below_drew1 HB.out)
               have p512 : 0 ≤ (x10_3 : Int) := od_
               have q512 : x10_3 < (l0.length : Int) := od_
               obtain ⟨ad512, e512, hx512_0, hx512_1, hx512_2⟩ := at_T54 HR0.out x10_3 p512 q512
               have hw512_2 := hx512_2
               have hw512_1 := hx512_1
               have hw512_0 := hx512_0
               obtain rfl : ad508 = ad512 := (by injection e512)
               replace hx512_0 := cb_ HB hx512_0
               replace hx512_1 := cb_ HB hx512_1
               replace hx512_2 := cb_ HB hx512_2
               replace p512 := eq_true p512
               replace q512 := eq_true q512
               obtain ⟨Ao77, co77, eo77⟩ := Kd.R_slice HO_5.out
               (first | subst eo77 | (injection eo77 with f1_ f2_ f3_; have f4_ := f1_.symm; have f5_ := f3_.symm; clear f1_ f2_ f3_; subst f4_; subst f5_))
               refine start_ (n := 11) (S := fun w' => w'.cell? ⟨gb488, 0, none⟩ = some (.int .i64 a1_0) ∧ w'.cell? ⟨gb488, 1, none⟩ = some (.int .i64 a1_1) ∧ w'.cell? ⟨gb488, 2, none⟩ = some (.int .i64 a1_2) ∧ w'.cell? ⟨gb488, 3, none⟩ = some (.int .i64 a1_3) ∧ w'.cell? ⟨gb488, 4, none⟩ = some (.int .i64 a1_4) ∧ w'.cell? ⟨gb488, 5, none⟩ = some (.int .i64 a1_5) ∧ w'.cell? ⟨gb488, 6, none⟩ = some (.int .i64 a1_6) ∧ w'.cell? ⟨gb488, 7, none⟩ = some (.int .i64 a1_7) ∧ w'.cell? ⟨gb488, 8, none⟩ = some (.int .i64 a1_8) ∧ w'.cell? ⟨gb488, 9, none⟩ = some (.int .i64 a1_9) ∧ w'.cell? (ad508.add ((x10_3).toNat * 3)) = some (.int .i64 ((rd_T54 l0 x10_3).f0.f0)) ∧ w'.cell? ⟨(ad508.add ((x10_3).toNat * 3)).block, (ad508.add ((x10_3).toNat * 3)).off + 1, none⟩ = some (.int .i64 ((rd_T54 l0 x10_3).f0.f1)) ∧ w'.cell? ⟨(ad508.add ((x10_3).toNat * 3)).block, (ad508.add ((x10_3).toNat * 3)).off + 2, none⟩ = some (.int .i64 ((rd_T54 l0 x10_3).f1))) (ds := []) #[false, false, false, false, false, false, false, false, false, false, false] (by kernel_rfl) rfl rfl ⟨(blk_cell BK488.out 0).trans rfl, (blk_cell BK488.out 1).trans rfl, (blk_cell BK488.out 2).trans rfl, (blk_cell BK488.out 3).trans rfl, (blk_cell BK488.out 4).trans rfl, (blk_cell BK488.out 5).trans rfl, (blk_cell BK488.out 6).trans rfl, (blk_cell BK488.out 7).trans rfl, (blk_cell BK488.out 8).trans rfl, (blk_cell BK488.out 9).trans rfl, (cb_ HB hw512_0 :), (cb_ HB hw512_1 :), (cb_ HB hw512_2 :)⟩ (fun hHeld => ?_); refine with_tabW spec_Follows.tab25 spec_Follows.bits25 (fun HT_ HW_ => ?_)
               generalize w75.drew = w76 at HO_5 BK488 BK510 HB hx512_0 hx512_1 hx512_2 hHeld ⊢
               refine pureZ_ (i := 0) (some 106) #[true, false, false, false, false, false, false, false, false, false, false] (any_of HT_.out (by kernel_rfl)) ?_
               refine pureZ_ (i := 1) (some 107) #[true, true, false, false, false, false, false, false, false, false, false] (any_of HT_.out (by kernel_rfl)) ?_
               refine pureZ_ (i := 3) (some 109) #[true, true, false, true, false, false, false, false, false, false, false] (any_of HT_.out (by kernel_rfl)) ?_
               refine pureZ_ (i := 4) (some 110) #[true, true, false, true, true, false, false, false, false, false, false] (any_of HT_.out (by kernel_rfl)) ?_
               refine pureZ_ (i := 5) (some 111) #[true, true, false, true, true, true, false, false, false, false, false] (any_of HT_.out (by kernel_rfl)) ?_
               refine pureZ_ (i := 6) (some 112) #[true, true, false, true, true, true, true, false, false, false, false] (any_of HT_.out (by kernel_rfl)) ?_
               refine takeZ_ (i := 2) (some 108) #[true, true, true, true, true, true, true, false, false, false, false] (take_ofW HT_.out HW_.out (by kernel_rfl)) hHeld ?_
               refine takeZ_ (i := 7) (some 113) #[true, true, true, true, true, true, true, true, false, false, false] (take_ofW HT_.out HW_.out (by kernel_rfl)) hHeld ?_
               refine pureZ_ (i := 8) (some 114) #[true, true, true, true, true, true, true, true, true, false, false] (any_of HT_.out (by kernel_rfl)) ?_
               refine one_ (i := 9) (N := some 115) #[true, true, true, true, true, true, true, true, true, true, false] rfl rfl (one_of HT_.out (by kernel_rfl)) (by decide) (fun K hK => ?_)
               refine goes_ Try.func73 (by kernel_rfl) rfl #[.slice Ao77 x5_3.length co77, .agg #[.int .i64 a1_1, .int .i64 a1_2, .int .i64 ((rd_T54 l0 x10_3).f1)]] (by rfl) rfl rfl (by (try simp only [List.map_toArray, List.map_cons, List.map_nil]); first | done | rfl | (simp only [List.length_drop, List.length_take]; rfl)) ?_
               with_reducible refine (spec_l06Put.calls k3 (fun k_ => some k_ = (.slice Ao77 x5_3.length co77 : Value).ownBlock) (.slice Ao77 x5_3.length co77) x5_3 a1_1 a1_2 ((rd_T54 l0 x10_3).f1) t513 w _ ?side1 ?side2 A74.out).mono ?_
               (case side1 => repeat (first | (with_reducible first | exact HB.out | apply below_alloc | apply pw_below_drewN | apply below_drew1 | refine below_set ?_ GE488.out | refine below_set ?_ GE510.out) | exact HB.out))
               (case side2 => exact Kd.R_tight rfl HO_5.out)
               rintro e w78 ⟨v514, rfl, ho0, hb, hkp⟩
               refine ⟨_, rfl, ?_⟩
               replace BK488 := Aside0.mk (blk_kept (bk_ BK488) hkp (fun hs_ => (fun e_ => (Kd.R_ne HO_5.out BK488.out (by decide)) e_) hs_))
               replace BK510 := Aside0.mk (blk_kept (bk_ BK510) hkp (fun hs_ => (fun e_ => (Kd.R_ne HO_5.out BK510.out (by decide)) e_) hs_))
               have HO515 := Aside0.mk (Kd.R_mono (ok' := fun k_ => True) ho0 (fun k_ hk_ => trivial))
               replace HB := Aside0.mk (hb)
               clear HO_5
               (try clear hb)
               (try clear hkp)
               (try clear ho0)
               refine hK.out _ _ ⟨(blk_cell BK488.out 0).trans rfl, (blk_cell BK488.out 1).trans rfl, (blk_cell BK488.out 2).trans rfl, (blk_cell BK488.out 3).trans rfl, (blk_cell BK488.out 4).trans rfl, (blk_cell BK488.out 5).trans rfl, (blk_cell BK488.out 6).trans rfl, (blk_cell BK488.out 7).trans rfl, (blk_cell BK488.out 8).trans rfl, (blk_cell BK488.out 9).trans rfl, (cb_ HB hw512_0 :), (cb_ HB hw512_1 :), (cb_ HB hw512_2 :)⟩ (fun hHeld => ?_)
               clear hK K
               refine norm_ (a' := ?_) ?_ ?_
               rotate_left
               ·show Act.put _ (some 115) _ = _
                simp only [Act.put, List.setIfInBounds_toArray, List.set_cons_zero, List.set_cons_succ, i64_w, i32_w]
                rfl
               refine pureZ_ (i := 10) (some 5) #[true, true, true, true, true, true, true, true, true, true, true] (any_of HT_.out (by kernel_rfl)) ?_
               refine done_ (done_of HT_.out (by kernel_rfl)) ?_
               try go_wp2
               go_roundg k3
               case measure => have := HJ16.out; have := HK2.out; have := HK3.out; omega
               case rel => exact ⟨(t513), (wrap64 (x10_3 + 1)), rf_, H', ⟨by have := HJ16.out; have := HK2.out; have := HK3.out; omega⟩, ⟨by (with_reducible repeat (first | apply Kd.R_alloc | apply Kd.R_drewN | apply Kd.R_drew)); exact HO515.out⟩, ⟨bk_ BK488⟩, ⟨bk_ BK510⟩, ⟨bl_⟩⟩
              ·rw [if_neg c73] at H
               have c73b0 : (((rd_T54 l0 x10_3).f0.f0) == ((rd_T54 l0 x8_2).f1) && (((rd_T54 l0 x10_3).f0.f1) == a1_7)) = false := by simpa using c73
               (try (have c73b1 : decide (((rd_T54 l0 x10_3).f0.f0) = ((rd_T54 l0 x8_2).f1) && (((rd_T54 l0 x10_3).f0.f1) == a1_7)) = false := by simpa using c73))
               (try (have c73b2 : (((rd_T54 l0 x10_3).f0.f0) == ((rd_T54 l0 x8_2).f1) && (((rd_T54 l0 x10_3).f0.f1) == a1_7)) = false := by simpa using c73))
               (try (have c73b3 : ¬ (((rd_T54 l0 x10_3).f0.f0) = ((rd_T54 l0 x8_2).f1) && (((rd_T54 l0 x10_3).f0.f1) == a1_7)) := by simpa using c73))
               clear c73
               have H' := Aside0.mk H
               clear H
               try go_wp2
               replace HO_5 := Aside0.mk (Kd.R_drew HO_5.out)
               replace BK488 := Aside0.mk (blk_drew BK488.out)
               replace BK510 := Aside0.mk (blk_drew BK510.out)
               replace HB := Aside0.mk (below_drew1 HB.out)
               have p511 : 0 ≤ (x10_3 : Int) := od_
               have q511 : x10_3 < (l0.length : Int) := od_
               obtain ⟨ad511, e511, hx511_0, hx511_1, hx511_2⟩ := at_T54 HR0.out x10_3 p511 q511
               have hw511_2 := hx511_2
               have hw511_1 := hx511_1
               have hw511_0 := hx511_0
               obtain rfl : ad508 = ad511 := (by injection e511)
               replace hx511_0 := cb_ HB hx511_0
               replace hx511_1 := cb_ HB hx511_1
               replace hx511_2 := cb_ HB hx511_2
               replace p511 := eq_true p511
               replace q511 := eq_true q511
               refine start_ (n := 7) (S := fun w' => w'.cell? ⟨gb510, 0, none⟩ = some (.int .i64 ((rd_T54 l0 x8_2).f1)) ∧ w'.cell? ⟨gb510, 1, none⟩ = some (.int .i64 a1_7) ∧ w'.cell? (ad508.add ((x10_3).toNat * 3)) = some (.int .i64 ((rd_T54 l0 x10_3).f0.f0)) ∧ w'.cell? ⟨(ad508.add ((x10_3).toNat * 3)).block, (ad508.add ((x10_3).toNat * 3)).off + 1, none⟩ = some (.int .i64 ((rd_T54 l0 x10_3).f0.f1)) ∧ w'.cell? ⟨(ad508.add ((x10_3).toNat * 3)).block, (ad508.add ((x10_3).toNat * 3)).off + 2, none⟩ = some (.int .i64 ((rd_T54 l0 x10_3).f1))) (ds := []) #[false, false, false, false, false, false, false] (by kernel_rfl) rfl rfl ⟨(blk_cell BK510.out 0).trans rfl, (blk_cell BK510.out 1).trans rfl, (cb_ HB hw511_0 :), (cb_ HB hw511_1 :), (cb_ HB hw511_2 :)⟩ (fun hHeld => ?_)
               generalize wr.drew = w79 at HO_5 BK488 BK510 HB hx511_0 hx511_1 hx511_2 hHeld ⊢
               refine pure_ (i := 0) (N := some 99) (v := ?_) (a' := ?_) #[true, false, false, false, false, false, false] rfl rfl (by kernel_rfl) (fun _ _ _ h => h) (Or.inl ⟨by rfl, ?_⟩) ?_ ?_
               rotate_left
               ·intro w'
                go_simp
                with_reducible rfl
               rotate_left
               ·simp only [Act.put, List.setIfInBounds_toArray, List.set_cons_zero, List.set_cons_succ, i64_w, i32_w]
                rfl
               refine pure_ (i := 1) (N := some 100) (v := ?_) (a' := ?_) #[true, true, false, false, false, false, false] rfl rfl (by kernel_rfl) (fun _ _ _ h => h) (Or.inl ⟨by rfl, ?_⟩) ?_ ?_
               rotate_left
               ·intro w'
                go_simp
                with_reducible rfl
               rotate_left
               ·simp only [Act.put, List.setIfInBounds_toArray, List.set_cons_zero, List.set_cons_succ, i64_w, i32_w]
                rfl
               refine pure_ (i := 2) (N := some 101) (v := ?_) (a' := ?_) #[true, true, true, false, false, false, false] rfl rfl (by kernel_rfl) (fun _ _ _ h => h) (Or.inl ⟨by rfl, ?_⟩) ?_ ?_
               rotate_left
               ·intro w'
                go_simp
                with_reducible rfl
               rotate_left
               ·simp only [Act.put, List.setIfInBounds_toArray, List.set_cons_zero, List.set_cons_succ, i64_w, i32_w]
                rfl
               refine pure_ (i := 3) (N := some 102) (v := ?_) (a' := ?_) #[true, true, true, true, false, false, false] rfl rfl (by kernel_rfl) (fun _ _ _ h => h) (Or.inl ⟨by rfl, ?_⟩) ?_ ?_
               rotate_left
               ·intro w'
                go_simp
                with_reducible rfl
               rotate_left
               ·simp only [Act.put, List.setIfInBounds_toArray, List.set_cons_zero, List.set_cons_succ, i64_w, i32_w]
                rfl
               refine take_ (i := 4) (N := some 103) (v := ?_) (a' := ?_) #[true, true, true, true, true, false, false] rfl rfl (by kernel_rfl) (fun _ _ _ h => h) (Or.inl ⟨by rfl, ?_⟩) hHeld ?_ ?_
               rotate_left
               ·rintro w' ⟨s0, s1, s2, s3, s4⟩
                go_simp
                with_reducible rfl
               rotate_left
               ·simp only [Act.put, List.setIfInBounds_toArray, List.set_cons_zero, List.set_cons_succ, i64_w, i32_w]
                rfl
               refine take_ (i := 5) (N := some 104) (v := ?_) (a' := ?_) #[true, true, true, true, true, true, false] rfl rfl (by kernel_rfl) (fun _ _ _ h => h) (Or.inl ⟨by rfl, ?_⟩) hHeld ?_ ?_
               rotate_left
               ·rintro w' ⟨s0, s1, s2, s3, s4⟩
                go_simp
                with_reducible rfl
               rotate_left
               ·simp only [Act.put, List.setIfInBounds_toArray, List.set_cons_zero, List.set_cons_succ, i64_w, i32_w]
                rfl
               refine pure_ (i := 6) (N := some 105) (v := ?_) (a' := ?_) #[true, true, true, true, true, true, true] rfl rfl (by kernel_rfl) (fun _ _ _ h => h) (Or.inl ⟨by rfl, ?_⟩) ?_ ?_
               rotate_left
               ·intro w'
                go_simp
                with_reducible rfl
               rotate_left
               ·simp only [Act.put, List.setIfInBounds_toArray, List.set_cons_zero, List.set_cons_succ, i64_w, i32_w]
                rfl
               refine done_ (by kernel_rfl) ?_
               try go_wp2
               go_roundg k3
               case measure => have := HJ16.out; have := HK2.out; have := HK3.out; omega
               case rel => exact ⟨(x5_3), (wrap64 (x10_3 + 1)), rf_, H', ⟨by have := HJ16.out; have := HK2.out; have := HK3.out; omega⟩, ⟨by (with_reducible repeat (first | apply Kd.R_alloc | apply Kd.R_drewN | apply Kd.R_drew)); exact HO_5.out⟩, ⟨bk_ BK488⟩, ⟨bk_ BK510⟩, ⟨bl_⟩⟩
             ·rw [if_neg c71] at H
              have c71b0 : decide (x10_3 < (l0.length : Int)) = false := decide_eq_false c71
              clear c71
              have H' := Aside0.mk H
              clear H
              go_wp2
              go_roundg k3
              case measure => have := HJ16.out; have := HK2.out; have := HK3.out; omega
              case rel => exact ⟨(x5_3), (wrap64 (x8_2 + 1)), rf_, H', ⟨by have := HJ16.out; have := HK2.out; have := HK3.out; omega⟩, ⟨by (with_reducible repeat (first | apply Kd.R_alloc | apply Kd.R_drewN | apply Kd.R_drew)); exact HO_5.out⟩, ⟨bk_ BK488⟩, ⟨bl_⟩⟩
         ·rw [if_neg c62] at H
          have c62b0 : decide (x8_2 < (l0.length : Int)) = false := decide_eq_false c62
          clear c62
          obtain rfl := Option.some.inj H
          go_wp2
          go_ret
          exact ⟨_, eq_, by (with_reducible repeat (first | apply Kd.R_alloc | apply Kd.R_drewN | apply Kd.R_drew)); exact HO_5.out, bl_⟩
      ·rw [if_neg c61] at H
       have c61b0 : (a1_0 == 3) = false := beq_eq_false_iff_ne.mpr c61
       have c61b1 : (a1_0 != 3) = true := bne_iff_ne.mpr c61
       obtain rfl := Option.some.inj H
       go_wp2
       go_ret
       exact ⟨_, eq_, by (with_reducible repeat (first | apply Kd.R_alloc | apply Kd.R_drewN | apply Kd.R_drew)); exact HO_5.out, bl_⟩
 ·replace c5 := Bool.eq_false_iff.mpr c5
  subst c5
  replace H := ite_f_ H
  obtain rfl := Option.some.inj H
  go_enter Try.func52, Try.ntmps52
  go_wp2_with (first | ((with_reducible refine gate_dst (N := 3) rfl ?_); refine box_event ?hg (N := 3) ?hd (cs := #[.int .i64 a1_0, .int .i64 a1_1, .int .i64 a1_2, .int .i64 a1_3, .int .i64 a1_4, .int .i64 a1_5, .int .i64 a1_6, .int .i64 a1_7, .int .i64 a1_8, .int .i64 a1_9]) (t := 48) ?hr ?_; (case hd => rfl); (case hg => rfl); (case hr => first | (go_simp; done) | (go_simp; rfl)); intro gb488 hg w80 hbox hb; have BK488 := Aside0.mk (hbox); have GW488 := gs_ hg; have GE488 := gs_ hg; replace HB := hbs_ hb; clear hb hbox hg) | ((with_reducible refine gate_dst (N := 11) rfl ?_); refine Kd.R_lit k54 _ 54 ?hg (N := 11) ?hd (xs := ([] : List (S54))) (inner := []) (ok := fun _ => True) (okp := fun _ => True) ?hr ?hp (fun _ hk => hk) trivial (Below.refl _ _) (Nat.le_refl _) (by simp) ?_; (case hd => rfl); (case hg => rfl); (case hr => first | (go_simp; done) | (go_simp; rfl)); (case hp => exact (Reps.none _ _)); intro v490 w81 ho82 hb hg_ hnew_; clear hg_ hnew_; (first | rw [← Ny489.out] at ho82 | (simp only [Int.reduceToNat] at ho82; rw [← Ny489.out] at ho82)); have HO491 := Aside0.mk (Kd.R_lower ho82 bls_); replace BK488 := bkb_ BK488 hb; replace HB := hbs_ hb; clear hb ho82) | ((with_reducible refine gate_builtin (b := .append) (xs := #[.tmp 11, .tmp 12]) rfl ?_); at_builtin; refine Kd.R_append_rows k54 (w0 := w) w.heap.size rfl (.tmp 11) (.tmp 12) 38 54 (.agg #[(.int .i64 0), (.int .i64 0), (.int .i64 0)]) 24 rfl Try.underlying38 info54 rfl (by decide) (by omega) v490 y489 l0 _ _ _ (fun _ => True) (fun _ => False) rfl rfl ?aO ?aR (fun _ _ h => h) (fun _ h => h.elim) ?aF ?aB ?aS ?aL ?_; (case aR => repeat (first | exact (Kd.C_below HR0.out HB.out) | (with_reducible refine Kd.C_alloc ?_ _) | (with_reducible refine Kd.C_drewN ?_ _) | (with_reducible refine Kd.C_drew ?_))); (case aB => exact bl_); (case aF => exact (fun _ _ => trivial)); (case aO => exact (by (with_reducible repeat (first | apply Kd.R_alloc | apply Kd.R_drewN | apply Kd.R_drew)); exact HO491.out)); (case aS => exact bls_); (case aL => have := LMc3.out; omega); intro v493 w83 ho hb hg hat; rw [← Ny492.out] at ho; replace BK488 := Aside0.mk (blk_grown (g := gb488) (o := .cells #[.int .i64 a1_0, .int .i64 a1_1, .int .i64 a1_2, .int .i64 a1_3, .int .i64 a1_4, .int .i64 a1_5, .int .i64 a1_6, .int .i64 a1_7, .int .i64 a1_8, .int .i64 a1_9] 48 (0, 0)) (bk_ BK488) hg (Kd.R_ne HO491.out BK488.out (by decide))); replace HB := Aside0.mk (hb); have HO494 := Aside0.mk (ho); clear HO491; clear ho hb hg hat; have hcz84 := blk_cell BK488.out; have hfz84 := blk_frozen BK488.out) | ((with_reducible refine gate_callee (f := 32) rfl ?_); refine goesC_ (some 15) Try.func32 #[.agg #[.int .i64 a1_0, .int .i64 a1_1, .int .i64 a1_2, .int .i64 a1_3, .int .i64 a1_4, .int .i64 a1_5, .int .i64 a1_6, .int .i64 a1_7, .int .i64 a1_8, .int .i64 a1_9]] ?_; (with_reducible refine (spec_CredOk.calls k a1_0 a1_1 a1_2 a1_3 a1_4 a1_5 a1_6 a1_7 a1_8 a1_9 false _ A4.out).mono ?_); rintro e w85 ⟨rfl, hb⟩; refine ⟨_, rfl, ?_⟩; replace HO494 := hob_ HO494 hb; replace BK488 := bkb_ BK488 hb; replace HB := hbs_ hb; clear hb))
  go_ret
  exact ⟨_, eq_, by (with_reducible repeat (first | apply Kd.R_alloc | apply Kd.R_drewN | apply Kd.R_drew)); exact HO494.out, bl_⟩
end Go.Proofs.Yteehgihclnlaoaa.PA
