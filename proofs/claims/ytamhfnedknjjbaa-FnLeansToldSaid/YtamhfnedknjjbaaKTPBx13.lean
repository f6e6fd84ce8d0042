import Derived.Test.YtamhfnedknjjbaaKTPBx12
-- printed by wip/tools
namespace Go.Proofs.Ytamhfnedknjjbaa.PB
open Go.RowKit Go.Proofs.YtamhfnedknjjbaaW.PrintWords Go.Proofs.YtamhfnedknjjbaaW.PrintLast Go.Proofs.YtamhfnedknjjbaaW.PrintMore
attribute [local go_sem] max2_int min2_int max_two min_two max_three min_three max_four min_four
set_option linter.unusedVariables false
set_option linter.unusedSimpArgs false
attribute [local go_sem high] eqA26
mutual
def spec_Follows.j0 : Nat → List (S58) → List (S58) → Int → Bool → Int → Int → Int → Int → Int → Int → Int → Int → Int → Int → Option ((List (S58)))
 | 0, _, _, _, _, _, _, _, _, _, _, _, _, _, _ => none
 | k + 1, x0, x5, x19, x29, x518000, x518001, x518002, x518003, x518004, x518005, x518006, x518007, x518008, x518009 => if x29 = true then (spec_Follows.l0 k x0 x5 0 x518000 x518001 x518002 x518003 x518004 x518005 x518006 x518007 x518008 x518009) else (if x19 = 3 then (spec_Follows.l1 k x0 x5 0 x518000 x518001 x518002 x518003 x518004 x518005 x518006 x518007 x518008 x518009) else (some x5))
def spec_Follows.l0 : Nat → List (S58) → List (S58) → Int → Int → Int → Int → Int → Int → Int → Int → Int → Int → Int → Option ((List (S58)))
 | 0, _, _, _, _, _, _, _, _, _, _, _, _, _ => none
 | k + 1, x0, x5, x6, x518000, x518001, x518002, x518003, x518004, x518005, x518006, x518007, x518008, x518009 => if x6 < (x0.length : Int) then (if 0 ≤ x6 then (if (((rd_T58 x0 x6).f0.f0) == x518004 && (((rd_T58 x0 x6).f0.f1) == x518005)) = true then (if x518000 = 2 then ((spec_l06Put.f k x5 x518001 x518002 ((rd_T58 x0 x6).f1)).bind fun t530 => (spec_Follows.l0 k x0 t530 (wrap64 (x6 + 1)) x518000 x518001 x518002 x518003 x518004 x518005 x518006 x518007 x518008 x518009)) else ((spec_l06Has.f k x0 x518006 x518007 ((rd_T58 x0 x6).f1)).bind fun t533 => (if t533 = true then ((spec_l06Put.f k x5 x518001 x518002 ((rd_T58 x0 x6).f1)).bind fun t534 => (spec_Follows.l0 k x0 t534 (wrap64 (x6 + 1)) x518000 x518001 x518002 x518003 x518004 x518005 x518006 x518007 x518008 x518009)) else (spec_Follows.l0 k x0 x5 (wrap64 (x6 + 1)) x518000 x518001 x518002 x518003 x518004 x518005 x518006 x518007 x518008 x518009)))) else (spec_Follows.l0 k x0 x5 (wrap64 (x6 + 1)) x518000 x518001 x518002 x518003 x518004 x518005 x518006 x518007 x518008 x518009)) else (none)) else (some x5)
def spec_Follows.l1 : Nat → List (S58) → List (S58) → Int → Int → Int → Int → Int → Int → Int → Int → Int → Int → Int → Option ((List (S58)))
 | 0, _, _, _, _, _, _, _, _, _, _, _, _, _ => none
 | k + 1, x0, x5, x8, x518000, x518001, x518002, x518003, x518004, x518005, x518006, x518007, x518008, x518009 => if x8 < (x0.length : Int) then (if 0 ≤ x8 then (if (!(((rd_T58 x0 x8).f0.f0) == x518004) || (!(((rd_T58 x0 x8).f0.f1) == x518005))) = true then (spec_Follows.l1 k x0 x5 (wrap64 (x8 + 1)) x518000 x518001 x518002 x518003 x518004 x518005 x518006 x518007 x518008 x518009) else (spec_Follows.l2 k x0 x5 x8 0 x518000 x518001 x518002 x518003 x518004 x518005 x518006 x518007 x518008 x518009 ((rd_T58 x0 x8).f1) x518007)) else (none)) else (some x5)
def spec_Follows.l2 : Nat → List (S58) → List (S58) → Int → Int → Int → Int → Int → Int → Int → Int → Int → Int → Int → Int → Int → Int → Option ((List (S58)))
 | 0, _, _, _, _, _, _, _, _, _, _, _, _, _, _, _, _ => none
 | k + 1, x0, x5, x8, x10, x518000, x518001, x518002, x518003, x518004, x518005, x518006, x518007, x518008, x518009, x540000, x540001 => if x10 < (x0.length : Int) then (if 0 ≤ x10 then (if (((rd_T58 x0 x10).f0.f0) == x540000 && (((rd_T58 x0 x10).f0.f1) == x540001)) = true then ((spec_l06Put.f k x5 x518001 x518002 ((rd_T58 x0 x10).f1)).bind fun t542 => (spec_Follows.l2 k x0 t542 x8 (wrap64 (x10 + 1)) x518000 x518001 x518002 x518003 x518004 x518005 x518006 x518007 x518008 x518009 x540000 x540001)) else (spec_Follows.l2 k x0 x5 x8 (wrap64 (x10 + 1)) x518000 x518001 x518002 x518003 x518004 x518005 x518006 x518007 x518008 x518009 x540000 x540001)) else (none)) else (spec_Follows.l1 k x0 x5 (wrap64 (x8 + 1)) x518000 x518001 x518002 x518003 x518004 x518005 x518006 x518007 x518008 x518009)
end
def spec_Follows.f (k : Nat) (l0 : List (S58)) (a1_0 : Int) (a1_1 : Int) (a1_2 : Int) (a1_3 : Int) (a1_4 : Int) (a1_5 : Int) (a1_6 : Int) (a1_7 : Int) (a1_8 : Int) (a1_9 : Int) : Option ((List (S58))) := (some (([] : List (S58)) : List (S58))).bind fun y518 => (if y518.length + l0.length < 5864062014805 then ((some (y518 ++ l0 : List (S58))).bind fun y521 => ((spec_CredOk.f k a1_0 a1_1 a1_2 a1_3 a1_4 a1_5 a1_6 a1_7 a1_8 a1_9).bind fun t524 => (if t524 = true then (if a1_0 = 1 then ((spec_l06Put.f k y521 a1_1 a1_2 a1_3).bind fun t525 => (some t525)) else (if a1_0 = 2 then (spec_Follows.j0 k l0 y521 a1_0 (a1_0 == 2) a1_0 a1_1 a1_2 a1_3 a1_4 a1_5 a1_6 a1_7 a1_8 a1_9) else (spec_Follows.j0 k l0 y521 a1_0 (a1_0 == 4) a1_0 a1_1 a1_2 a1_3 a1_4 a1_5 a1_6 a1_7 a1_8 a1_9))) else (some y521)))) else (none))
def spec_Follows.T19 : Bool × List (List Nat × List Nat) := (true, [([], []), ([], []), ([0, 1], [0, 1]), ([2], [2]), ([3], [3]), ([], []), ([5], [5]), ([4, 6], [4, 6])])
def spec_Follows.B19 : List Nat := [0, 0, 3, 7, 15, 0, 32, 127]
theorem spec_Follows.tab19 : rtab .any (opsOf Try.f52 19) = spec_Follows.T19 := by kernel_rfl
theorem spec_Follows.bits19 : waitsOk spec_Follows.T19.2 spec_Follows.B19 = true := by kernel_rfl
def spec_Follows.T20 : Bool × List (List Nat × List Nat) := (true, [([], []), ([], []), ([0, 1], [0, 1]), ([2], [2]), ([3], [3]), ([], []), ([5], [5]), ([6], [6]), ([4, 7], [4, 7]), ([], []), ([9, 8, 0, 1, 2, 3, 4, 5, 6, 7, 8, 9], [8, 9])])
def spec_Follows.B20 : List Nat := [0, 0, 3, 7, 15, 0, 32, 96, 255, 0, 1023]
theorem spec_Follows.tab20 : rtab .any (opsOf Try.f52 20) = spec_Follows.T20 := by kernel_rfl
theorem spec_Follows.bits20 : waitsOk spec_Follows.T20.2 spec_Follows.B20 = true := by kernel_rfl
def spec_Follows.T25 : Bool × List (List Nat × List Nat) := (true, [([], []), ([], []), ([1], [1]), ([], []), ([], []), ([3, 4], [3, 4]), ([5], [5]), ([6], [6]), ([2, 7], [2, 7]), ([0, 8], [0, 8]), ([9, 9, 0, 1, 2, 3, 4, 5, 6, 7, 8, 9], [0, 9])])
def spec_Follows.B25 : List Nat := [0, 0, 2, 0, 0, 24, 56, 120, 254, 511, 1023]
theorem spec_Follows.tab25 : rtab .any (opsOf Try.f52 25) = spec_Follows.T25 := by kernel_rfl
theorem spec_Follows.bits25 : waitsOk spec_Follows.T25.2 spec_Follows.B25 = true := by kernel_rfl
set_option maxHeartbeats 8000000 in
set_option maxRecDepth 100000 in
theorem spec_Follows.calls (k : Nat) (A0 : Option Addr) (c0 : Nat) (l0 : List (S58)) (a1_0 : Int) (a1_1 : Int) (a1_2 : Int) (a1_3 : Int) (a1_4 : Int) (a1_5 : Int) (a1_6 : Int) (a1_7 : Int) (a1_8 : Int) (a1_9 : Int) (r : List (S58)) (w : World) (hr0 : Kd.C k58 w A0 l0.length l0) (hc0 : l0.length ≤ c0) (h : spec_Follows.f k l0 a1_0 a1_1 a1_2 a1_3 a1_4 a1_5 a1_6 a1_7 a1_8 a1_9 = some r) :
  Calls Try.prog 52 #[.slice A0 l0.length c0, .agg #[.int .i64 a1_0, .int .i64 a1_1, .int .i64 a1_2, .int .i64 a1_3, .int .i64 a1_4, .int .i64 a1_5, .int .i64 a1_6, .int .i64 a1_7, .int .i64 a1_8, .int .i64 a1_9]] w fun e w' => ∃ v0_ : Value, e = .returned (v0_) ∧ Kd.R k58 58 w' w.heap.size (fun _ => True) v0_ r ∧ Below w.heap.size w w' := by
 have hu49 := Try.underlying49
 have hu26 := Try.underlying26
 have hu58 := Try.underlying58
 have HR0 := Aside0.mk hr0
 have HC0 := Aside0.mk hc0
 clear hr0 hc0
 have HB := Aside0.mk (Below.refl w.heap.size w)
 have H : ((some (([] : List (S58)) : List (S58))).bind fun y518 => (if y518.length + l0.length < 5864062014805 then ((some (y518 ++ l0 : List (S58))).bind fun y521 => ((spec_CredOk.f k a1_0 a1_1 a1_2 a1_3 a1_4 a1_5 a1_6 a1_7 a1_8 a1_9).bind fun t524 => (if t524 = true then (if a1_0 = 1 then ((spec_l06Put.f k y521 a1_1 a1_2 a1_3).bind fun t525 => (some t525)) else (if a1_0 = 2 then (spec_Follows.j0 k l0 y521 a1_0 (a1_0 == 2) a1_0 a1_1 a1_2 a1_3 a1_4 a1_5 a1_6 a1_7 a1_8 a1_9) else (spec_Follows.j0 k l0 y521 a1_0 (a1_0 == 4) a1_0 a1_1 a1_2 a1_3 a1_4 a1_5 a1_6 a1_7 a1_8 a1_9))) else (some y521)))) else (none))) = some r := h
 clear h
 obtain ⟨y518, hy518⟩ : ∃ y_ : List (S58), y_ = (([] : List (S58))) := ⟨_, rfl⟩
 replace H : (if y518.length + l0.length < 5864062014805 then ((some (y518 ++ l0 : List (S58))).bind fun y521 => ((spec_CredOk.f k a1_0 a1_1 a1_2 a1_3 a1_4 a1_5 a1_6 a1_7 a1_8 a1_9).bind fun t524 => (if t524 = true then (if a1_0 = 1 then ((spec_l06Put.f k y521 a1_1 a1_2 a1_3).bind fun t525 => (some t525)) else (if a1_0 = 2 then (spec_Follows.j0 k l0 y521 a1_0 (a1_0 == 2) a1_0 a1_1 a1_2 a1_3 a1_4 a1_5 a1_6 a1_7 a1_8 a1_9) else (spec_Follows.j0 k l0 y521 a1_0 (a1_0 == 4) a1_0 a1_1 a1_2 a1_3 a1_4 a1_5 a1_6 a1_7 a1_8 a1_9))) else (some y521)))) else (none)) = some r := rh_ hy518 H
 have Ny518 := Aside0.mk hy518
 clear hy518
 obtain ⟨c3, H⟩ := ifn_ H
 have LMc3 := Aside0.mk c3
 clear c3
 obtain ⟨y521, hy521⟩ : ∃ y_ : List (S58), y_ = (y518 ++ l0) := ⟨_, rfl⟩
 replace H : ((spec_CredOk.f k a1_0 a1_1 a1_2 a1_3 a1_4 a1_5 a1_6 a1_7 a1_8 a1_9).bind fun t524 => (if t524 = true then (if a1_0 = 1 then ((spec_l06Put.f k y521 a1_1 a1_2 a1_3).bind fun t525 => (some t525)) else (if a1_0 = 2 then (spec_Follows.j0 k l0 y521 a1_0 (a1_0 == 2) a1_0 a1_1 a1_2 a1_3 a1_4 a1_5 a1_6 a1_7 a1_8 a1_9) else (spec_Follows.j0 k l0 y521 a1_0 (a1_0 == 4) a1_0 a1_1 a1_2 a1_3 a1_4 a1_5 a1_6 a1_7 a1_8 a1_9))) else (some y521))) = some r := rh_ hy521 H
 have Ny521 := Aside0.mk hy521
 clear hy521
 obtain ⟨t524, A4, H⟩ := bindE_ H
 have HC5 := Aside0.mk H
 clear H
 go_enter Try.func52, Try.ntmps52
 go_upto_if 16 with (first | ((with_reducible refine gate_dst (N := 3) rfl ?_); refine box_event ?hg (N := 3) ?hd (cs := #[.int .i64 a1_0, .int .i64 a1_1, .int .i64 a1_2, .int .i64 a1_3, .int .i64 a1_4, .int .i64 a1_5, .int .i64 a1_6, .int .i64 a1_7, .int .i64 a1_8, .int .i64 a1_9]) (t := 49) ?hr ?_; (case hd => rfl); (case hg => rfl); (case hr => first | (go_simp; done) | (go_simp; rfl)); intro gb517 hg w6 hbox hb; have BK517 := Aside0.mk (hbox); have GW517 := gs_ hg; have GE517 := gs_ hg; replace HB := hbs_ hb; clear hb hbox hg) | ((with_reducible refine gate_dst (N := 11) rfl ?_); refine Kd.R_lit k58 _ 58 ?hg (N := 11) ?hd (xs := ([] : List (S58))) (inner := []) (ok := fun _ => True) (okp := fun _ => True) ?hr ?hp (fun _ hk => hk) trivial (Below.refl _ _) (Nat.le_refl _) (by simp) ?_; (case hd => rfl); (case hg => rfl); (case hr => first | (go_simp; done) | (go_simp; rfl)); (case hp => exact (Reps.none _ _)); intro v519 w7 ho8 hb hg_ hnew_; clear hg_ hnew_; (first | rw [← Ny518.out] at ho8 | (simp only [Int.reduceToNat] at ho8; rw [← Ny518.out] at ho8)); have HO520 := Aside0.mk (Kd.R_lower ho8 bls_); replace BK517 := bkb_ BK517 hb; replace HB := hbs_ hb; clear hb ho8) | ((with_reducible refine gate_builtin (b := .append) (xs := #[.tmp 11, .tmp 12]) rfl ?_); at_builtin; refine Kd.R_append_rows k58 (w0 := w) w.heap.size rfl (.tmp 11) (.tmp 12) 53 58 (.agg #[(.int .i64 0), (.int .i64 0), (.int .i64 0)]) 24 rfl Try.underlying53 info58 rfl (by decide) (by omega) v519 y518 l0 _ _ _ (fun _ => True) (fun _ => False) rfl rfl ?aO ?aR (fun _ _ h => h) (fun _ h => h.elim) ?aF ?aB ?aS ?aL ?_; (case aR => repeat (first | exact (Kd.C_below HR0.out HB.out) | (with_reducible refine Kd.C_alloc ?_ _) | (with_reducible refine Kd.C_drewN ?_ _) | (with_reducible refine Kd.C_drew ?_))); (case aB => exact bl_); (case aF => exact (fun _ _ => trivial)); (case aO => exact (rr_ HO520)); (case aS => exact bls_); (case aL => have := LMc3.out; omega); intro v522 w9 ho hb hg hat; rw [← Ny521.out] at ho; replace BK517 := Aside0.mk (blk_grown (g := gb517) (o := .cells #[.int .i64 a1_0, .int .i64 a1_1, .int .i64 a1_2, .int .i64 a1_3, .int .i64 a1_4, .int .i64 a1_5, .int .i64 a1_6, .int .i64 a1_7, .int .i64 a1_8, .int .i64 a1_9] 49 (0, 0)) (bk_ BK517) hg (Kd.R_ne HO520.out BK517.out (by decide))); replace HB := Aside0.mk (hb); have HO523 := Aside0.mk (ho); clear HO520; clear ho hb hg hat; obtain ⟨hcz10, hfz10⟩ := bcf_ BK517) | ((with_reducible refine gate_callee (f := 34) rfl ?_); refine goesC_ (some 15) Try.func34 #[.agg #[.int .i64 a1_0, .int .i64 a1_1, .int .i64 a1_2, .int .i64 a1_3, .int .i64 a1_4, .int .i64 a1_5, .int .i64 a1_6, .int .i64 a1_7, .int .i64 a1_8, .int .i64 a1_9]] ?_; (with_reducible refine (spec_CredOk.calls k a1_0 a1_1 a1_2 a1_3 a1_4 a1_5 a1_6 a1_7 a1_8 a1_9 t524 _ A4.out).mono ?_); rintro e w11 ⟨rfl, hb⟩; refine ⟨_, rfl, ?_⟩; replace HO523 := hob_ HO523 hb; replace BK517 := bkb_ BK517 hb; replace HB := hbs_ hb; clear hb))
 (try simp only [Act.put, List.setIfInBounds_toArray, List.set_cons_zero, List.set_cons_succ])
 have H := HC5.out
 clear HC5
 by_cases c12 : t524 = true
 ·subst c12
  replace H := ite_t_ H
  by_cases c13 : a1_0 = 1
  ·rw [if_pos c13] at H
   have c13b0 : (a1_0 == 1) = true := beq_iff_eq.mpr c13
   have c13b1 : (a1_0 != 1) = false := bne_eq_false_iff_eq.mpr c13
   clear c13
   (first | rw [c13b0] | (simp only [i64_w, i32_w]; rw [c13b0]) | skip)
   obtain ⟨t525, A14, H⟩ := bindE_ H
   obtain rfl := Option.some.inj H
   have hcz15 := blk_cell BK517.out
   have hfz15 := blk_frozen BK517.out
   obtain ⟨Ao16, co16, eo16⟩ := Kd.R_slice HO523.out
   subst eo16
   go_wp2_with (first | ((with_reducible refine gate_callee (f := 61) rfl ?_); refine goesC_ (some 28) Try.func61 #[.slice Ao16 y521.length co16, .agg #[.int .i64 a1_1, .int .i64 a1_2, .int .i64 a1_3]] ?_; (with_reducible refine (spec_l06Put.calls k (fun k_ => some k_ = (.slice Ao16 y521.length co16 : Value).ownBlock) (.slice Ao16 y521.length co16) y521 a1_1 a1_2 a1_3 t525 w _ ?side1 ?side2 A14.out).mono ?_); (case side1 => repeat (first | (with_reducible first | exact HB.out | apply below_alloc | apply pw_below_drewN | apply below_drew1 | refine below_set ?_ GE517.out) | exact HB.out)); (case side2 => exact Kd.R_tight rfl HO523.out); rintro e w17 ⟨v526, rfl, ho0, hb, hkp⟩; refine ⟨_, rfl, ?_⟩; replace BK517 := Aside0.mk (blk_kept (bk_ BK517) hkp (fun hs_ => (fun e_ => (Kd.R_ne HO523.out BK517.out (by decide)) e_) hs_)); have HO527 := Aside0.mk (Kd.R_mono (ok' := fun k_ => True) ho0 (fun k_ hk_ => trivial)); replace HB := Aside0.mk (hb); clear HO523; (try clear hb hkp ho0)))
   go_ret
   exact ⟨_, eq_, by (with_reducible repeat (first | apply Kd.R_alloc | apply Kd.R_drewN | apply Kd.R_drew)); exact HO527.out, bl_⟩
  ·rw [if_neg c13] at H
   have c13b0 : (a1_0 == 1) = false := beq_eq_false_iff_ne.mpr c13
   have c13b1 : (a1_0 != 1) = true := bne_iff_ne.mpr c13
   (first | rw [c13b0] | (simp only [i64_w, i32_w]; rw [c13b0]) | skip)
   have HC18 := Aside0.mk H
   clear H
   have hcz19 := blk_cell BK517.out
   have hfz19 := blk_frozen BK517.out
   go_upto_if 29 with (fail)
   go_cut [29] (fun v29 wc => ∃ (kq : Nat) (x29_17 : Bool), v29 = .bool x29_17 ∧ Aside0 (spec_Follows.j0 kq l0 y521 a1_0 x29_17 a1_0 a1_1 a1_2 a1_3 a1_4 a1_5 a1_6 a1_7 a1_8 a1_9 = some r) ∧ Aside0 (kq ≤ k) ∧ Aside0 (Kd.R k58 58 wc w.heap.size (fun _ => True) v522 y521) ∧ Aside0 (wc.heap[gb517]? = some (.cells #[.int .i64 a1_0, .int .i64 a1_1, .int .i64 a1_2, .int .i64 a1_3, .int .i64 a1_4, .int .i64 a1_5, .int .i64 a1_6, .int .i64 a1_7, .int .i64 a1_8, .int .i64 a1_9] 49 (0, 0))) ∧ Aside0 (Below w.heap.size w wc))
   case first =>
    have H := HC18.out
    clear HC18
    by_cases c20 : a1_0 = 2
    ·rw [if_pos c20] at H
     have c20b0 : (a1_0 == 2) = true := beq_iff_eq.mpr c20
     have c20b1 : (a1_0 != 2) = false := bne_eq_false_iff_eq.mpr c20
     clear c20
     (first | rw [c20b0] | (simp only [i64_w, i32_w]; rw [c20b0]) | skip)
     have H' := Aside0.mk H
     clear H
     go_wp2
     go_meet
     case rel => exact ⟨_, ((a1_0 == 2)), rf_, H', ⟨by first | omega | exact Nat.le_refl _⟩, ⟨rr_ HO523⟩, ⟨bk_ BK517⟩, ⟨bl_⟩⟩
    ·rw [if_neg c20] at H
     have c20b0 : (a1_0 == 2) = false := beq_eq_false_iff_ne.mpr c20
     have c20b1 : (a1_0 != 2) = true := bne_iff_ne.mpr c20
     (first | rw [c20b0] | (simp only [i64_w, i32_w]; rw [c20b0]) | skip)
     have H' := Aside0.mk H
     clear H
     go_wp2
     go_meet
     case rel => exact ⟨_, ((a1_0 == 4)), rf_, H', ⟨by first | omega | exact Nat.le_refl _⟩, ⟨rr_ HO523⟩, ⟨bk_ BK517⟩, ⟨bl_⟩⟩
   case rest =>
    clear HC18
    try clear c1
    try clear c2
    try clear p2
    try clear c3
    try clear c5
    try clear c6
    try clear c12
    try clear c13
    try clear c13b0
    try clear c13b1
    try clear c20
    try clear c20b0
    try clear c20b1
    try clear hcz10
    try clear hcz15
    try clear hcz19
    try clear hfz10
    try clear hfz15
    try clear hfz19
    obtain ⟨kq, x29_17, rfl, HA, HJ17, HO_5, BK517, HB⟩ := hcut
    cases kq with
    | zero => exact absurd HA.out (by simp [spec_Follows.j0])
    | succ kj17 =>
     have H := HA.out
     clear HA
     simp only [spec_Follows.j0] at H
     by_cases c21 : x29_17 = true
     ·subst c21
      replace H := ite_t_ H
      have H' := Aside0.mk H
      clear H
      go_wp2
      go_loopg [5, 6] kj17 (fun kq v5 v6 w' => ∃ (x5_2 : List (S58)) (x6_2 : Int), v6 = .int .i64 x6_2 ∧ Aside0 (spec_Follows.l0 kq l0 x5_2 x6_2 a1_0 a1_1 a1_2 a1_3 a1_4 a1_5 a1_6 a1_7 a1_8 a1_9 = some r) ∧ Aside0 (kq ≤ kj17) ∧ Aside0 (Kd.R k58 58 w' w.heap.size (fun _ => True) v5 x5_2) ∧ Aside0 (w'.heap[gb517]? = some (.cells #[.int .i64 a1_0, .int .i64 a1_1, .int .i64 a1_2, .int .i64 a1_3, .int .i64 a1_4, .int .i64 a1_5, .int .i64 a1_6, .int .i64 a1_7, .int .i64 a1_8, .int .i64 a1_9] 49 (0, 0))) ∧ Aside0 (Below w.heap.size w w'))
      case atStart => exact ⟨(y521), (0), rf_, H', ⟨Nat.le_refl _⟩, ⟨rr_ HO_5⟩, ⟨bk_ BK517⟩, ⟨bl_⟩⟩
      case round =>
       clear H'
       try clear c1
       try clear c2
       try clear p2
       try clear c3
       try clear c5
       try clear c6
       try clear c12
       try clear c13
       try clear c13b0
       try clear c13b1
       try clear c20
       try clear c20b0
       try clear c20b1
       try clear c21
       try clear hcz10
       try clear hcz15
       try clear hcz19
       try clear hfz10
       try clear hfz15
       try clear hfz19
       try clear p2
       obtain ⟨x5_2, x6_2, rfl, HA, HK2, HO_5, BK517, HB⟩ := hrel
       cases gk with
       | zero => exact absurd HA.out (by simp [spec_Follows.l0])
       | succ k2 =>
        have H := HA.out
        clear HA
        simp only [spec_Follows.l0] at H
        by_cases c22 : x6_2 < (l0.length : Int)
        ·rw [if_pos c22] at H
         have c22b0 : decide (x6_2 < (l0.length : Int)) = true := decide_eq_true c22
         clear c22
         obtain ⟨c23b0, H⟩ := ifd_ H
         by_cases c24 : (((rd_T58 l0 x6_2).f0.f0) == a1_4 && (((rd_T58 l0 x6_2).f0.f1) == a1_5)) = true
         ·rw [if_pos c24] at H
          have c24b0 : (((rd_T58 l0 x6_2).f0.f0) == a1_4 && (((rd_T58 l0 x6_2).f0.f1) == a1_5)) = true := c24
          (try (have c24b1 : decide (((rd_T58 l0 x6_2).f0.f0) = a1_4 && (((rd_T58 l0 x6_2).f0.f1) == a1_5)) = true := by simpa using c24))
          (try (have c24b2 : (((rd_T58 l0 x6_2).f0.f0) == a1_4 && (((rd_T58 l0 x6_2).f0.f1) == a1_5)) = true := by simpa using c24))
          clear c24
          by_cases c25 : a1_0 = 2
          ·rw [if_pos c25] at H
           have c25b0 : (a1_0 == 2) = true := beq_iff_eq.mpr c25
           have c25b1 : (a1_0 != 2) = false := bne_eq_false_iff_eq.mpr c25
           clear c25
           obtain ⟨t530, A26, H⟩ := bindE_ H
           have H' := Aside0.mk H
           clear H
           have p528 : 0 ≤ (x6_2 : Int) := od_
           have q528 : x6_2 < (l0.length : Int) := od_
           obtain ⟨ad528, e528, hx528_0, hx528_1, hx528_2⟩ := at_T58 (Kd.C_below HR0.out HB.out) x6_2 p528 q528
           cases e528
           replace p528 := eq_true p528
           replace q528 := eq_true q528
           go_wp2_with (first | ((with_reducible refine gate_dst (N := 7) rfl ?_); refine box_event ?hg (N := 7) ?hd (cs := #[.int .i64 0, .int .i64 0, .int .i64 0]) (t := 58) ?hr ?_; (case hd => rfl); (case hg => rfl); (case hr => first | (go_simp; done) | (go_simp; rfl)); intro gb529 hg w27 hbox hb; replace HO_5 := Aside0.mk (Kd.R_below (Kd.R_elderB (rr_ HO_5) gb529 (Nat.le_of_eq hg.symm)) hb); have BK529 := Aside0.mk (hbox); have GW529 := gs_ hg; have GE529 := gs_ hg; replace HB := hbs_ hb; have NB517_529 := nl_ hg BK517; have NB529_517 := nr_ hg BK517; replace BK517 := bkb_ BK517 hb; clear hb hbox hg; have hnb28 := NB529_517.out; have hnc28 := NB517_529.out; obtain ⟨hcz29, hfz29⟩ := bcf_ BK529) | ((with_reducible refine gate_store (t := 58) (p := 7) rfl ?_); refine store_event (t := 58) (p := 7) (v := ?vo_w30) (w1 := (((w27.setCell ⟨gb529, 0, none⟩ (.int .i64 ((rd_T58 l0 x6_2).f0.f0))).setCell ⟨gb529, 1, none⟩ (.int .i64 ((rd_T58 l0 x6_2).f0.f1))).setCell ⟨gb529, 2, none⟩ (.int .i64 ((rd_T58 l0 x6_2).f1)))) ?hg ?ho ?hn ?hr ?_; (case ho => rfl); (case hg => rfl); (case hn => rfl); (case hr => first | (go_simp; done) | (go_simp; rfl)); intro w30 hw; have n0_ : Aside0 (Kd.R k58 58 w30 w.heap.size (fun k_ => k_ ≠ gb529) u5 x5_2) := ⟨(by rw [hw]; exact (by (with_reducible repeat (first | apply Kd.R_alloc | apply Kd.R_drewN | apply Kd.R_drew)); exact Kd.R_mono (fr3_ (Kd.R_mono HO_5.out (fun k_ hk => (⟨hk, hk.2⟩ : _ ∧ k_ ≠ gb529))) (fun _ hk => hk.2)) (fun _ hk => hk.1.2)))⟩; have n1_ : Aside0 (w30.heap[gb517]? = some (.cells #[.int .i64 a1_0, .int .i64 a1_1, .int .i64 a1_2, .int .i64 a1_3, .int .i64 a1_4, .int .i64 a1_5, .int .i64 a1_6, .int .i64 a1_7, .int .i64 a1_8, .int .i64 a1_9] 49 (0, 0))) := ⟨(by rw [hw]; exact (bk_ BK517))⟩; have n2_ : Aside0 (w30.heap[gb529]? = some (.cells #[.int .i64 ((rd_T58 l0 x6_2).f0.f0), .int .i64 ((rd_T58 l0 x6_2).f0.f1), .int .i64 ((rd_T58 l0 x6_2).f1)] 58 (0, 0))) := ⟨(by rw [hw]; exact (bk_ BK529))⟩; have n3_ : Aside0 (Below w.heap.size w w30) := ⟨(by rw [hw]; exact bl_)⟩; clear hw; clear HO_5; clear BK517; clear BK529; clear HB; have HO_5 := n0_; have BK517 := n1_; have BK529 := n2_; have HB := n3_; clear n0_ n1_ n2_ n3_; obtain ⟨hcz31, hfz31⟩ := bcf_ BK529; obtain ⟨hcz32, hfz32⟩ := bcf_ BK517; obtain ⟨Ao33, co33, eo33⟩ := Kd.R_slice HO_5.out; subst eo33) | ((with_reducible refine gate_callee (f := 61) rfl ?_); refine goesC_ (some 67) Try.func61 #[.slice Ao33 x5_2.length co33, .agg #[.int .i64 a1_1, .int .i64 a1_2, .int .i64 ((rd_T58 l0 x6_2).f1)]] ?_; (with_reducible refine (spec_l06Put.calls k2 (fun k_ => some k_ = (.slice Ao33 x5_2.length co33 : Value).ownBlock) (.slice Ao33 x5_2.length co33) x5_2 a1_1 a1_2 ((rd_T58 l0 x6_2).f1) t530 w _ ?side1 ?side2 A26.out).mono ?_); (case side1 => repeat (first | (with_reducible first | exact HB.out | apply below_alloc | apply pw_below_drewN | apply below_drew1 | refine below_set ?_ GE517.out | refine below_set ?_ GE529.out) | exact HB.out)); (case side2 => exact Kd.R_tight rfl HO_5.out); rintro e w34 ⟨v531, rfl, ho0, hb, hkp⟩; refine ⟨_, rfl, ?_⟩; replace BK517 := Aside0.mk (blk_kept (bk_ BK517) hkp (fun hs_ => (fun e_ => (Kd.R_ne HO_5.out BK517.out (by decide)) e_) hs_)); have HO532 := Aside0.mk (Kd.R_mono (ok' := fun k_ => k_ ≠ gb529) ho0 (fun k_ hk_ => Or.elim hk_ (fun hs_ => fun e_ => (Kd.R_away HO_5.out (fun _ hk => hk)) (by rw [← e_]; exact hs_)) (fun hn_ => (Kd.freshB (g := gb529) (o := .cells #[.int .i64 ((rd_T58 l0 x6_2).f0.f0), .int .i64 ((rd_T58 l0 x6_2).f0.f1), .int .i64 ((rd_T58 l0 x6_2).f1)] 58 (0, 0)) (bk_ BK529) k_ hn_)))); replace BK529 := Aside0.mk (blk_kept (bk_ BK529) hkp (fun hs_ => (fun e_ => (Kd.R_away HO_5.out (fun _ hk => hk)) e_) hs_)); replace HB := Aside0.mk (hb); clear HO_5; (try clear hb hkp ho0)))
           go_roundg k2
           case measure => have := HJ17.out; have := HK2.out; omega
           case rel => exact ⟨(t530), (wrap64 (x6_2 + 1)), rf_, H', ⟨by have := HJ17.out; have := HK2.out; omega⟩, ⟨by (with_reducible repeat (first | apply Kd.R_alloc | apply Kd.R_drewN | apply Kd.R_drew)); exact Kd.R_mono HO532.out (fun _ hk => trivial)⟩, ⟨bk_ BK517⟩, ⟨bl_⟩⟩
          ·rw [if_neg c25] at H
           have c25b0 : (a1_0 == 2) = false := beq_eq_false_iff_ne.mpr c25
           have c25b1 : (a1_0 != 2) = true := bne_iff_ne.mpr c25
           obtain ⟨t533, A35, H⟩ := bindE_ H
           have HC36 := Aside0.mk H
           clear H
           have p528 : 0 ≤ (x6_2 : Int) := od_
           have q528 : x6_2 < (l0.length : Int) := od_
           obtain ⟨ad528, e528, hx528_0, hx528_1, hx528_2⟩ := at_T58 (Kd.C_below HR0.out HB.out) x6_2 p528 q528
           cases e528
           replace p528 := eq_true p528
           replace q528 := eq_true q528
           go_upto_if 60 with (first | ((with_reducible refine gate_dst (N := 7) rfl ?_); refine box_event ?hg (N := 7) ?hd (cs := #[.int .i64 0, .int .i64 0, .int .i64 0]) (t := 58) ?hr ?_; (case hd => rfl); (case hg => rfl); (case hr => first | (go_simp; done) | (go_simp; rfl)); intro gb529 hg w37 hbox hb; replace HO_5 := Aside0.mk (Kd.R_below (Kd.R_elderB (rr_ HO_5) gb529 (Nat.le_of_eq hg.symm)) hb); have BK529 := Aside0.mk (hbox); have GW529 := gs_ hg; have GE529 := gs_ hg; replace HB := hbs_ hb; have NB517_529 := nl_ hg BK517; have NB529_517 := nr_ hg BK517; replace BK517 := bkb_ BK517 hb; clear hb hbox hg; have hnb38 := NB529_517.out; have hnc38 := NB517_529.out; obtain ⟨hcz39, hfz39⟩ := bcf_ BK529; obtain ⟨hcz40, hfz40⟩ := bcf_ BK517) | (go_at_call 36; (with_reducible refine (spec_l06Has.calls k2 _ _ l0 a1_6 a1_7 ((rd_T58 l0 x6_2).f1) t533 _ ?side1 ?side2 A35.out).mono ?_); (case side1 => exact Kd.C_below HR0.out bl_); (case side2 => exact HC0.out); rintro e w41 ⟨rfl, hb⟩; replace HO_5 := Aside0.mk (Kd.R_below (by (with_reducible repeat (first | apply Kd.R_alloc | apply Kd.R_drewN | apply Kd.R_drew)); exact (Kd.R_mono (fr3_ (Kd.R_mono HO_5.out (fun k_ hk => (⟨hk, hk.2⟩ : _ ∧ k_ ≠ gb529))) (fun _ hk => hk.2)) (fun _ h_ => h_.1))) hb); replace BK517 := Aside0.mk (blk_below (g := gb517) (o := .cells #[.int .i64 a1_0, .int .i64 a1_1, .int .i64 a1_2, .int .i64 a1_3, .int .i64 a1_4, .int .i64 a1_5, .int .i64 a1_6, .int .i64 a1_7, .int .i64 a1_8, .int .i64 a1_9] 49 (0, 0)) (bk_ BK517) hb); replace BK529 := Aside0.mk (blk_below (g := gb529) (o := .cells #[.int .i64 ((rd_T58 l0 x6_2).f0.f0), .int .i64 ((rd_T58 l0 x6_2).f0.f1), .int .i64 ((rd_T58 l0 x6_2).f1)] 58 (0, 0)) (bk_ BK529) hb); replace HB := hbs_ hb; clear hb))
           (try simp only [Act.put, List.setIfInBounds_toArray, List.set_cons_zero, List.set_cons_succ])
           have H := HC36.out
           clear HC36
           by_cases c42 : t533 = true
           ·subst c42
            replace H := ite_t_ H
            obtain ⟨t534, A43, H⟩ := bindE_ H
            have H' := Aside0.mk H
            clear H
            have hnb44 := NB517_529.out
            have hnc44 := NB529_517.out
            have hcz45 := blk_cell BK517.out
            have hfz45 := blk_frozen BK517.out
            have hcz46 := blk_cell BK529.out
            have hfz46 := blk_frozen BK529.out
            obtain ⟨Ao47, co47, eo47⟩ := Kd.R_slice HO_5.out
            subst eo47
            go_wp2_with (first | ((with_reducible refine gate_callee (f := 61) rfl ?_); refine goesC_ (some 67) Try.func61 #[.slice Ao47 x5_2.length co47, .agg #[.int .i64 a1_1, .int .i64 a1_2, .int .i64 ((rd_T58 l0 x6_2).f1)]] ?_; (with_reducible refine (spec_l06Put.calls k2 (fun k_ => some k_ = (.slice Ao47 x5_2.length co47 : Value).ownBlock) (.slice Ao47 x5_2.length co47) x5_2 a1_1 a1_2 ((rd_T58 l0 x6_2).f1) t534 w _ ?side1 ?side2 A43.out).mono ?_); (case side1 => repeat (first | (with_reducible first | exact HB.out | apply below_alloc | apply pw_below_drewN | apply below_drew1 | refine below_set ?_ GE517.out | refine below_set ?_ GE529.out) | exact HB.out)); (case side2 => exact Kd.R_tight rfl HO_5.out); rintro e w48 ⟨v535, rfl, ho0, hb, hkp⟩; refine ⟨_, rfl, ?_⟩; replace BK517 := Aside0.mk (blk_kept (bk_ BK517) hkp (fun hs_ => (fun e_ => (Kd.R_ne HO_5.out BK517.out (by decide)) e_) hs_)); have HO536 := Aside0.mk (Kd.R_mono (ok' := fun k_ => k_ ≠ gb529) ho0 (fun k_ hk_ => Or.elim hk_ (fun hs_ => fun e_ => (Kd.R_away HO_5.out (fun _ hk => hk.2)) (by rw [← e_]; exact hs_)) (fun hn_ => (Kd.freshB (g := gb529) (o := .cells #[.int .i64 ((rd_T58 l0 x6_2).f0.f0), .int .i64 ((rd_T58 l0 x6_2).f0.f1), .int .i64 ((rd_T58 l0 x6_2).f1)] 58 (0, 0)) (bk_ BK529) k_ hn_)))); replace BK529 := Aside0.mk (blk_kept (bk_ BK529) hkp (fun hs_ => (fun e_ => (Kd.R_away HO_5.out (fun _ hk => hk.2)) e_) hs_)); replace HB := Aside0.mk (hb); clear HO_5; (try clear hb hkp ho0)))
            go_roundg k2
            case measure => have := HJ17.out; have := HK2.out; omega
            case rel => exact ⟨(t534), (wrap64 (x6_2 + 1)), rf_, H', ⟨by have := HJ17.out; have := HK2.out; omega⟩, ⟨by (with_reducible repeat (first | apply Kd.R_alloc | apply Kd.R_drewN | apply Kd.R_drew)); exact Kd.R_mono HO536.out (fun _ hk => trivial)⟩, ⟨bk_ BK517⟩, ⟨bl_⟩⟩
           ·replace c42 := Bool.eq_false_iff.mpr c42
            subst c42
            replace H := ite_f_ H
            have H' := Aside0.mk H
            clear H
            go_wp2
            go_roundg k2
            case measure => have := HJ17.out; have := HK2.out; omega
            case rel => exact ⟨(x5_2), (wrap64 (x6_2 + 1)), rf_, H', ⟨by have := HJ17.out; have := HK2.out; omega⟩, ⟨by (with_reducible repeat (first | apply Kd.R_alloc | apply Kd.R_drewN | apply Kd.R_drew)); exact Kd.R_mono HO_5.out (fun _ hk => trivial)⟩, ⟨bk_ BK517⟩, ⟨bl_⟩⟩
         ·rw [if_neg c24] at H
          have c24b0 : (((rd_T58 l0 x6_2).f0.f0) == a1_4 && (((rd_T58 l0 x6_2).f0.f1) == a1_5)) = false := by simpa using c24
          (try (have c24b1 : decide (((rd_T58 l0 x6_2).f0.f0) = a1_4 && (((rd_T58 l0 x6_2).f0.f1) == a1_5)) = false := by simpa using c24))
          (try (have c24b2 : (((rd_T58 l0 x6_2).f0.f0) == a1_4 && (((rd_T58 l0 x6_2).f0.f1) == a1_5)) = false := by simpa using c24))
          (try (have c24b3 : ¬ (((rd_T58 l0 x6_2).f0.f0) = a1_4 && (((rd_T58 l0 x6_2).f0.f1) == a1_5)) := by simpa using c24))
          clear c24
          have H' := Aside0.mk H
          clear H
          have p528 : 0 ≤ (x6_2 : Int) := od_
          have q528 : x6_2 < (l0.length : Int) := od_
          obtain ⟨ad528, e528, hx528_0, hx528_1, hx528_2⟩ := at_T58 (Kd.C_below HR0.out HB.out) x6_2 p528 q528
          cases e528
          replace p528 := eq_true p528
          replace q528 := eq_true q528
          go_wp2_with (first | ((with_reducible refine gate_dst (N := 7) rfl ?_); refine box_event ?hg (N := 7) ?hd (cs := #[.int .i64 0, .int .i64 0, .int .i64 0]) (t := 58) ?hr ?_; (case hd => rfl); (case hg => rfl); (case hr => first | (go_simp; done) | (go_simp; rfl)); intro gb529 hg w49 hbox hb; replace HO_5 := Aside0.mk (Kd.R_below (Kd.R_elderB (rr_ HO_5) gb529 (Nat.le_of_eq hg.symm)) hb); have BK529 := Aside0.mk (hbox); have GW529 := gs_ hg; have GE529 := gs_ hg; replace HB := hbs_ hb; have NB517_529 := nl_ hg BK517; have NB529_517 := nr_ hg BK517; replace BK517 := bkb_ BK517 hb; clear hb hbox hg; have hnb50 := NB529_517.out; have hnc50 := NB517_529.out; obtain ⟨hcz51, hfz51⟩ := bcf_ BK529; obtain ⟨hcz52, hfz52⟩ := bcf_ BK517))
          go_roundg k2
          case measure => have := HJ17.out; have := HK2.out; omega
          case rel => exact ⟨(x5_2), (wrap64 (x6_2 + 1)), rf_, H', ⟨by have := HJ17.out; have := HK2.out; omega⟩, ⟨by (with_reducible repeat (first | apply Kd.R_alloc | apply Kd.R_drewN | apply Kd.R_drew)); exact Kd.R_mono (fr3_ (Kd.R_mono HO_5.out (fun k_ hk => (⟨hk, hk.2⟩ : _ ∧ k_ ≠ gb529))) (fun _ hk => hk.2)) (fun _ hk => trivial)⟩, ⟨bk_ BK517⟩, ⟨bl_⟩⟩
        ·rw [if_neg c22] at H
         have c22b0 : decide (x6_2 < (l0.length : Int)) = false := decide_eq_false c22
         clear c22
         obtain rfl := Option.some.inj H
         go_wp2
         go_ret
         exact ⟨_, eq_, by (with_reducible repeat (first | apply Kd.R_alloc | apply Kd.R_drewN | apply Kd.R_drew)); exact HO_5.out, bl_⟩
     ·replace c21 := Bool.eq_false_iff.mpr c21
      subst c21
      replace H := ite_f_ H
      by_cases c53 : a1_0 = 3
      ·rw [if_pos c53] at H
       have c53b0 : (a1_0 == 3) = true := beq_iff_eq.mpr c53
       have c53b1 : (a1_0 != 3) = false := bne_eq_false_iff_eq.mpr c53
       clear c53
       have H' := Aside0.mk H
       clear H
       go_wp2
       go_loopg [5, 8] kj17 (fun kq v5 v8 w' => ∃ (x5_2 : List (S58)) (x8_2 : Int), v8 = .int .i64 x8_2 ∧ Aside0 (spec_Follows.l1 kq l0 x5_2 x8_2 a1_0 a1_1 a1_2 a1_3 a1_4 a1_5 a1_6 a1_7 a1_8 a1_9 = some r) ∧ Aside0 (kq ≤ kj17) ∧ Aside0 (Kd.R k58 58 w' w.heap.size (fun _ => True) v5 x5_2) ∧ Aside0 (w'.heap[gb517]? = some (.cells #[.int .i64 a1_0, .int .i64 a1_1, .int .i64 a1_2, .int .i64 a1_3, .int .i64 a1_4, .int .i64 a1_5, .int .i64 a1_6, .int .i64 a1_7, .int .i64 a1_8, .int .i64 a1_9] 49 (0, 0))) ∧ Aside0 (Below w.heap.size w w'))
       case atStart => exact ⟨(y521), (0), rf_, H', ⟨Nat.le_refl _⟩, ⟨rr_ HO_5⟩, ⟨bk_ BK517⟩, ⟨bl_⟩⟩
       case round =>
        clear H'
        try clear c1
        try clear c2
        try clear p2
        try clear c3
        try clear c4
        try clear c5
        try clear p5
        try clear q5
        try clear hx5
        try clear c6
        try clear p6
        try clear c12
        try clear c13
        try clear c13b0
        try clear c13b1
        try clear c20
        try clear c20b0
        try clear c20b1
        try clear c21
        try clear c22
        try clear c22b0
        try clear c23
        try clear c23b0
        try clear c24
        try clear c24b0
        try clear c24b1
        try clear c24b2
        try clear c25
        try clear c25b0
        try clear c25b1
        try clear c28
        try clear c34
        try clear c38
        try clear c42
        try clear c44
        try clear c50
        try clear c52
        try clear p52
        try clear q52
        try clear hx52
        try clear c53
        try clear c53b0
        try clear c53b1
        try clear hcz10
        try clear hcz15
        try clear hcz19
        try clear hcz29
        try clear hcz31
        try clear hcz32
        try clear hcz39
        try clear hcz40
        try clear hcz45
        try clear hcz46
        try clear hcz51
        try clear hcz52
        try clear hfz10
        try clear hfz15
        try clear hfz19
        try clear hfz29
        try clear hfz31
        try clear hfz32
        try clear hfz39
        try clear hfz40
        try clear hfz45
        try clear hfz46
        try clear hfz51
        try clear hfz52
        try clear hx528_0
        try clear hx528_1
        try clear hx528_2
        try clear p2
        try clear p528
        try clear q528
        obtain ⟨x5_2, x8_2, rfl, HA, HK2, HO_5, BK517, HB⟩ := hrel
        cases gk with
        | zero => exact absurd HA.out (by simp [spec_Follows.l1])
        | succ k2 =>
         have H := HA.out
         clear HA
         simp only [spec_Follows.l1] at H
         by_cases c54 : x8_2 < (l0.length : Int)
         ·rw [if_pos c54] at H
          have c54b0 : decide (x8_2 < (l0.length : Int)) = true := decide_eq_true c54
          clear c54
          obtain ⟨c55b0, H⟩ := ifd_ H
          have HC56 := Aside0.mk H
          clear H
          try go_wp2
          replace HO_5 := Aside0.mk (Kd.R_drew HO_5.out)
          replace BK517 := Aside0.mk (blk_drew BK517.out)
          replace HB := Aside0.mk (below_drew1 HB.out)
          have p537 : 0 ≤ (x8_2 : Int) := od_
          have q537 : x8_2 < (l0.length : Int) := od_
          obtain ⟨ad537, e537, hx537_0, hx537_1, hx537_2⟩ := at_T58 HR0.out x8_2 p537 q537
          have hw537_2 := hx537_2
          have hw537_1 := hx537_1
          have hw537_0 := hx537_0
          cases e537
          replace hx537_0 := cb_ HB hx537_0
          replace hx537_1 := cb_ HB hx537_1
          replace hx537_2 := cb_ HB hx537_2
          replace p537 := eq_true p537
          replace q537 := eq_true q537
          refine start_ (n := 8) (S := fun w' => w'.cell? ⟨gb517, 0, none⟩ = some (.int .i64 a1_0) ∧ w'.cell? ⟨gb517, 1, none⟩ = some (.int .i64 a1_1) ∧ w'.cell? ⟨gb517, 2, none⟩ = some (.int .i64 a1_2) ∧ w'.cell? ⟨gb517, 3, none⟩ = some (.int .i64 a1_3) ∧ w'.cell? ⟨gb517, 4, none⟩ = some (.int .i64 a1_4) ∧ w'.cell? ⟨gb517, 5, none⟩ = some (.int .i64 a1_5) ∧ w'.cell? ⟨gb517, 6, none⟩ = some (.int .i64 a1_6) ∧ w'.cell? ⟨gb517, 7, none⟩ = some (.int .i64 a1_7) ∧ w'.cell? ⟨gb517, 8, none⟩ = some (.int .i64 a1_8) ∧ w'.cell? ⟨gb517, 9, none⟩ = some (.int .i64 a1_9) ∧ w'.cell? (ad537.add ((x8_2).toNat * 3)) = some (.int .i64 ((rd_T58 l0 x8_2).f0.f0)) ∧ w'.cell? ⟨(ad537.add ((x8_2).toNat * 3)).block, (ad537.add ((x8_2).toNat * 3)).off + 1, none⟩ = some (.int .i64 ((rd_T58 l0 x8_2).f0.f1)) ∧ w'.cell? ⟨(ad537.add ((x8_2).toNat * 3)).block, (ad537.add ((x8_2).toNat * 3)).off + 2, none⟩ = some (.int .i64 ((rd_T58 l0 x8_2).f1))) (ds := []) #[false, false, false, false, false, false, false, false] (by kernel_rfl) rfl rfl ⟨(blk_cell BK517.out 0).trans rfl, (blk_cell BK517.out 1).trans rfl, (blk_cell BK517.out 2).trans rfl, (blk_cell BK517.out 3).trans rfl, (blk_cell BK517.out 4).trans rfl, (blk_cell BK517.out 5).trans rfl, (blk_cell BK517.out 6).trans rfl, (blk_cell BK517.out 7).trans rfl, (blk_cell BK517.out 8).trans rfl, (blk_cell BK517.out 9).trans rfl, (cb_ HB hw537_0 :), (cb_ HB hw537_1 :), (cb_ HB hw537_2 :)⟩ (fun hHeld => ?_); refine with_tabW spec_Follows.tab19 spec_Follows.bits19 (fun HT_ HW_ => ?_)
          generalize wr.drew = w57 at HO_5 BK517 HB hx537_0 hx537_1 hx537_2 hHeld ⊢
          refine pureZ_ (i := 0) (some 76) #[true, false, false, false, false, false, false, false] (ao_ HT_) ?_
          refine pureZ_ (i := 1) (some 77) #[true, true, false, false, false, false, false, false] (ao_ HT_) ?_
          refine pureZ_ (i := 2) (some 78) #[true, true, true, false, false, false, false, false] (ao_ HT_) ?_
          refine pureZ_ (i := 3) (some 79) #[true, true, true, true, false, false, false, false] (ao_ HT_) ?_
          refine pureZ_ (i := 5) (some 81) #[true, true, true, true, false, true, false, false] (ao_ HT_) ?_
          refine takeZ_ (i := 4) (some 80) #[true, true, true, true, true, true, false, false] (take_ofW HT_.out HW_.out (by kernel_rfl)) hHeld ?_
          refine takeZ_ (i := 6) (some 82) #[true, true, true, true, true, true, true, false] (take_ofW HT_.out HW_.out (by kernel_rfl)) hHeld ?_
          refine pureZ_ (i := 7) (some 83) #[true, true, true, true, true, true, true, true] (ao_ HT_) ?_
          refine done_ (done_of HT_.out (by kernel_rfl)) ?_
          go_upto_if 83 with (fail)
          have H := HC56.out
          clear HC56
          by_cases c58 : (!(((rd_T58 l0 x8_2).f0.f0) == a1_4) || (!(((rd_T58 l0 x8_2).f0.f1) == a1_5))) = true
          ·rw [if_pos c58] at H
           have c58b0 : (!(((rd_T58 l0 x8_2).f0.f0) == a1_4) || (!(((rd_T58 l0 x8_2).f0.f1) == a1_5))) = true := c58
           clear c58
           (first | rw [c58b0] | (simp only [i64_w, i32_w]; rw [c58b0]) | skip)
           have H' := Aside0.mk H
           clear H
           go_wp2
           go_roundg k2
           case measure => have := HJ17.out; have := HK2.out; omega
           case rel => exact ⟨(x5_2), (wrap64 (x8_2 + 1)), rf_, H', ⟨by have := HJ17.out; have := HK2.out; omega⟩, ⟨rr_ HO_5⟩, ⟨bk_ BK517⟩, ⟨bl_⟩⟩
          ·rw [if_neg c58] at H
           have c58b0 : (!(((rd_T58 l0 x8_2).f0.f0) == a1_4) || (!(((rd_T58 l0 x8_2).f0.f1) == a1_5))) = false := by simpa using c58
           clear c58
           (first | rw [c58b0] | (simp only [i64_w, i32_w]; rw [c58b0]) | skip)
           have H' := Aside0.mk H
           clear H
           try go_wp2
           replace HO_5 := Aside0.mk (Kd.R_drew HO_5.out)
           replace BK517 := Aside0.mk (blk_drew BK517.out)
           replace HB := Aside0.mk (below_drew1 HB.out)
           have p538 : 0 ≤ (x8_2 : Int) := od_
           have q538 : x8_2 < (l0.length : Int) := od_
           obtain ⟨ad538, e538, hx538_0, hx538_1, hx538_2⟩ := at_T58 HR0.out x8_2 p538 q538
           have hw538_2 := hx538_2
           have hw538_1 := hx538_1
           have hw538_0 := hx538_0
           obtain rfl : ad537 = ad538 := (by injection e538)
           replace hx538_0 := cb_ HB hx538_0
           replace hx538_1 := cb_ HB hx538_1
           replace hx538_2 := cb_ HB hx538_2
           replace p538 := eq_true p538
           replace q538 := eq_true q538
           refine start_ (n := 11) (S := fun w' => w'.cell? ⟨gb517, 0, none⟩ = some (.int .i64 a1_0) ∧ w'.cell? ⟨gb517, 1, none⟩ = some (.int .i64 a1_1) ∧ w'.cell? ⟨gb517, 2, none⟩ = some (.int .i64 a1_2) ∧ w'.cell? ⟨gb517, 3, none⟩ = some (.int .i64 a1_3) ∧ w'.cell? ⟨gb517, 4, none⟩ = some (.int .i64 a1_4) ∧ w'.cell? ⟨gb517, 5, none⟩ = some (.int .i64 a1_5) ∧ w'.cell? ⟨gb517, 6, none⟩ = some (.int .i64 a1_6) ∧ w'.cell? ⟨gb517, 7, none⟩ = some (.int .i64 a1_7) ∧ w'.cell? ⟨gb517, 8, none⟩ = some (.int .i64 a1_8) ∧ w'.cell? ⟨gb517, 9, none⟩ = some (.int .i64 a1_9) ∧ w'.cell? (ad537.add ((x8_2).toNat * 3)) = some (.int .i64 ((rd_T58 l0 x8_2).f0.f0)) ∧ w'.cell? ⟨(ad537.add ((x8_2).toNat * 3)).block, (ad537.add ((x8_2).toNat * 3)).off + 1, none⟩ = some (.int .i64 ((rd_T58 l0 x8_2).f0.f1)) ∧ w'.cell? ⟨(ad537.add ((x8_2).toNat * 3)).block, (ad537.add ((x8_2).toNat * 3)).off + 2, none⟩ = some (.int .i64 ((rd_T58 l0 x8_2).f1))) (ds := []) #[false, false, false, false, false, false, false, false, false, false, false] (by kernel_rfl) rfl rfl ⟨(blk_cell BK517.out 0).trans rfl, (blk_cell BK517.out 1).trans rfl, (blk_cell BK517.out 2).trans rfl, (blk_cell BK517.out 3).trans rfl, (blk_cell BK517.out 4).trans rfl, (blk_cell BK517.out 5).trans rfl, (blk_cell BK517.out 6).trans rfl, (blk_cell BK517.out 7).trans rfl, (blk_cell BK517.out 8).trans rfl, (blk_cell BK517.out 9).trans rfl, (cb_ HB hw538_0 :), (cb_ HB hw538_1 :), (cb_ HB hw538_2 :)⟩ (fun hHeld => ?_); refine with_tabW spec_Follows.tab20 spec_Follows.bits20 (fun HT_ HW_ => ?_)
           generalize w57.drew = w59 at HO_5 BK517 HB hx538_0 hx538_1 hx538_2 hHeld ⊢
           refine pureZ_ (i := 0) (some 84) #[true, false, false, false, false, false, false, false, false, false, false] (ao_ HT_) ?_
           refine pureZ_ (i := 1) (some 85) #[true, true, false, false, false, false, false, false, false, false, false] (ao_ HT_) ?_
           refine pureZ_ (i := 2) (some 86) #[true, true, true, false, false, false, false, false, false, false, false] (ao_ HT_) ?_
           refine pureZ_ (i := 3) (some 87) #[true, true, true, true, false, false, false, false, false, false, false] (ao_ HT_) ?_
           refine pureZ_ (i := 5) (some 89) #[true, true, true, true, false, true, false, false, false, false, false] (ao_ HT_) ?_
           refine pureZ_ (i := 6) (some 90) #[true, true, true, true, false, true, true, false, false, false, false] (ao_ HT_) ?_
           refine takeZ_ (i := 4) (some 88) #[true, true, true, true, true, true, true, false, false, false, false] (take_ofW HT_.out HW_.out (by kernel_rfl)) hHeld ?_
           refine takeZ_ (i := 7) (some 91) #[true, true, true, true, true, true, true, true, false, false, false] (take_ofW HT_.out HW_.out (by kernel_rfl)) hHeld ?_
           refine pureZ_ (i := 8) (some 92) #[true, true, true, true, true, true, true, true, true, false, false] (ao_ HT_) ?_
           refine one_ (i := 9) (N := some 9) #[true, true, true, true, true, true, true, true, true, true, false] rfl rfl (one_of HT_.out (by kernel_rfl)) (by decide) (fun K hK => ?_)
           refine box_step ?hg (N := 9) ?hd (cs := #[.int .i64 0, .int .i64 0]) (t := 26) ?hr ?_; (case hd => rfl); (case hg => rfl); (case hr => first | (go_simp; done) | (go_simp; rfl))
           intro gb539 hg w60 hbox hb
           replace HO_5 := hob_ HO_5 hb
           have BK539 := Aside0.mk (hbox)
           have GW539 := gs_ hg
           have GE539 := gs_ hg
           replace HB := hbs_ hb
           have NB517_539 := nl_ hg BK517
           have NB539_517 := nr_ hg BK517
           replace BK517 := bkb_ BK517 hb
           clear hb hbox hg
           refine hK.out _ _ ⟨(blk_cell BK517.out 0).trans rfl, (blk_cell BK517.out 1).trans rfl, (blk_cell BK517.out 2).trans rfl, (blk_cell BK517.out 3).trans rfl, (blk_cell BK517.out 4).trans rfl, (blk_cell BK517.out 5).trans rfl, (blk_cell BK517.out 6).trans rfl, (blk_cell BK517.out 7).trans rfl, (blk_cell BK517.out 8).trans rfl, (blk_cell BK517.out 9).trans rfl, (cb_ HB hw538_0 :), (cb_ HB hw538_1 :), (cb_ HB hw538_2 :)⟩ (fun hHeld => ?_)
           clear hK K
           refine norm_ (a' := ?_) ?_ ?_
           rotate_left
           ·show Act.put _ (some 9) _ = _
            simp only [Act.put, List.setIfInBounds_toArray, List.set_cons_zero, List.set_cons_succ, i64_w, i32_w]
            rfl
           refine one_ (i := 10) (N := none) #[true, true, true, true, true, true, true, true, true, true, true] rfl rfl (one_of HT_.out (by kernel_rfl)) (by decide) (fun K hK => ?_)
           have hs61 : w60.cell? ⟨gb539, 0, none⟩ = some (.int .i64 0) := (blk_cell BK539.out 0).trans rfl
           have hfs61 := blk_frozen BK539.out 0
           have hns61_0 := NB517_539.out
           have hms61_0 := NB539_517.out
           have hs62 : w60.cell? ⟨gb539, 1, none⟩ = some (.int .i64 0) := (blk_cell BK539.out 1).trans rfl
           have hfs62 := blk_frozen BK539.out 1
           have hns62_0 := NB517_539.out
           have hms62_0 := NB539_517.out
           refine skip_ (w1 := ?_) (by rfl) rfl ?_ ?_
           rotate_left
           ·go_simp
            rfl
           refine hK.out _ _ ⟨((cell_far (p := ⟨gb539, _, none⟩) NB517_539.out _).trans (((cell_far (p := ⟨gb539, _, none⟩) NB517_539.out _).trans (hHeld.1)))), ((cell_far (p := ⟨gb539, _, none⟩) NB517_539.out _).trans (((cell_far (p := ⟨gb539, _, none⟩) NB517_539.out _).trans (hHeld.2.1)))), ((cell_far (p := ⟨gb539, _, none⟩) NB517_539.out _).trans (((cell_far (p := ⟨gb539, _, none⟩) NB517_539.out _).trans (hHeld.2.2.1)))), ((cell_far (p := ⟨gb539, _, none⟩) NB517_539.out _).trans (((cell_far (p := ⟨gb539, _, none⟩) NB517_539.out _).trans (hHeld.2.2.2.1)))), ((cell_far (p := ⟨gb539, _, none⟩) NB517_539.out _).trans (((cell_far (p := ⟨gb539, _, none⟩) NB517_539.out _).trans (hHeld.2.2.2.2.1)))), ((cell_far (p := ⟨gb539, _, none⟩) NB517_539.out _).trans (((cell_far (p := ⟨gb539, _, none⟩) NB517_539.out _).trans (hHeld.2.2.2.2.2.1)))), ((cell_far (p := ⟨gb539, _, none⟩) NB517_539.out _).trans (((cell_far (p := ⟨gb539, _, none⟩) NB517_539.out _).trans (hHeld.2.2.2.2.2.2.1)))), ((cell_far (p := ⟨gb539, _, none⟩) NB517_539.out _).trans (((cell_far (p := ⟨gb539, _, none⟩) NB517_539.out _).trans (hHeld.2.2.2.2.2.2.2.1)))), ((cell_far (p := ⟨gb539, _, none⟩) NB517_539.out _).trans (((cell_far (p := ⟨gb539, _, none⟩) NB517_539.out _).trans (hHeld.2.2.2.2.2.2.2.2.1)))), ((cell_far (p := ⟨gb539, _, none⟩) NB517_539.out _).trans (((cell_far (p := ⟨gb539, _, none⟩) NB517_539.out _).trans (hHeld.2.2.2.2.2.2.2.2.2.1)))), ((cell_far (p := ⟨gb539, _, none⟩) (fb_ hw538_0 GW539.out) _).trans (((cell_far (p := ⟨gb539, _, none⟩) (fb_ hw538_0 GW539.out) _).trans (hHeld.2.2.2.2.2.2.2.2.2.2.1)))), ((cell_far (p := ⟨gb539, _, none⟩) (fb_ hw538_1 GW539.out) _).trans (((cell_far (p := ⟨gb539, _, none⟩) (fb_ hw538_1 GW539.out) _).trans (hHeld.2.2.2.2.2.2.2.2.2.2.2.1)))), ((cell_far (p := ⟨gb539, _, none⟩) (fb_ hw538_2 GW539.out) _).trans (((cell_far (p := ⟨gb539, _, none⟩) (fb_ hw538_2 GW539.out) _).trans (hHeld.2.2.2.2.2.2.2.2.2.2.2.2))))⟩ (fun hHeld => ?_)
           clear hK K
           refine done_ (done_of HT_.out (by kernel_rfl)) ?_
           try go_wp2
           go_loopg [5, 10] k2 (fun kq v5 v10 w' => ∃ (x5_3 : List (S58)) (x10_3 : Int), v10 = .int .i64 x10_3 ∧ Aside0 (spec_Follows.l2 kq l0 x5_3 x8_2 x10_3 a1_0 a1_1 a1_2 a1_3 a1_4 a1_5 a1_6 a1_7 a1_8 a1_9 ((rd_T58 l0 x8_2).f1) a1_7 = some r) ∧ Aside0 (kq ≤ k2) ∧ Aside0 (Kd.R k58 58 w' w.heap.size (fun _ => True) v5 x5_3) ∧ Aside0 (w'.heap[gb517]? = some (.cells #[.int .i64 a1_0, .int .i64 a1_1, .int .i64 a1_2, .int .i64 a1_3, .int .i64 a1_4, .int .i64 a1_5, .int .i64 a1_6, .int .i64 a1_7, .int .i64 a1_8, .int .i64 a1_9] 49 (0, 0))) ∧ Aside0 (w'.heap[gb539]? = some (.cells #[.int .i64 ((rd_T58 l0 x8_2).f1), .int .i64 a1_7] 26 (0, 0))) ∧ Aside0 (Below w.heap.size w w'))
           case atStart => exact ⟨(x5_2), (0), rf_, H', ⟨Nat.le_refl _⟩, ⟨by (with_reducible repeat (first | apply Kd.R_alloc | apply Kd.R_drewN | apply Kd.R_drew)); exact Kd.R_mono (fr2_ (Kd.R_types HO_5.out BK539.out (by decide)) (fun _ hk => hk.2)) (fun _ hk => trivial)⟩, ⟨bk_ BK517⟩, ⟨bk_ BK539⟩, ⟨bl_⟩⟩
           case round =>
            clear H'
            try clear c1
            try clear c2
            try clear p2
            try clear c3
            try clear c4
            try clear c5
            try clear p5
            try clear q5
            try clear hx5
            try clear c6
            try clear p6
            try clear c12
            try clear c13
            try clear c13b0
            try clear c13b1
            try clear c20
            try clear c20b0
            try clear c20b1
            try clear c21
            try clear c22
            try clear c22b0
            try clear c23
            try clear c23b0
            try clear c24
            try clear c24b0
            try clear c24b1
            try clear c24b2
            try clear c25
            try clear c25b0
            try clear c25b1
            try clear c28
            try clear c34
            try clear c38
            try clear c42
            try clear c44
            try clear c50
            try clear c52
            try clear p52
            try clear q52
            try clear hx52
            try clear c53
            try clear c53b0
            try clear c53b1
            try clear p53
            try clear q53
            try clear hx53
            try clear c54
            try clear c54b0
            try clear c55
            try clear c55b0
            try clear c58
            try clear c58b0
            try clear c61
            try clear hcz10
            try clear hcz15
            try clear hcz19
            try clear hcz29
            try clear hcz31
            try clear hcz32
            try clear hcz39
            try clear hcz40
            try clear hcz45
            try clear hcz46
            try clear hcz51
            try clear hcz52
            try clear hfz10
            try clear hfz15
            try clear hfz19
            try clear hfz29
            try clear hfz31
            try clear hfz32
            try clear hfz39
            try clear hfz40
            try clear hfz45
            try clear hfz46
            try clear hfz51
            try clear hfz52
            try clear hx528_0
            try clear hx528_1
            try clear hx528_2
            try clear hx537_0
            try clear hx537_1
            try clear hx537_2
            try clear hx538_0
            try clear hx538_1
            try clear hx538_2
            try clear p2
            try clear p5
            try clear p52
            try clear p528
            try clear p537
            try clear p538
            try clear p6
            try clear q5
            try clear q52
            try clear q528
            try clear q537
            try clear q538
            obtain ⟨x5_3, x10_3, rfl, HA, HK3, HO_5, BK517, BK539, HB⟩ := hrel
            cases gk with
            | zero => exact absurd HA.out (by simp [spec_Follows.l2])
            | succ k3 =>
             have H := HA.out
             clear HA
             simp only [spec_Follows.l2] at H
             by_cases c63 : x10_3 < (l0.length : Int)
             ·rw [if_pos c63] at H
              have c63b0 : decide (x10_3 < (l0.length : Int)) = true := decide_eq_true c63
              clear c63
              obtain ⟨c64b0, H⟩ := ifd_ H
              have HC65 := Aside0.mk H
              clear H
              try go_wp2
              replace HO_5 := Aside0.mk (Kd.R_drew HO_5.out)
              replace BK517 := Aside0.mk (blk_drew BK517.out)
              replace BK539 := Aside0.mk (blk_drew BK539.out)
              replace HB := Aside0.mk (below_drew1 HB.out)
              have p540 : 0 ≤ (x10_3 : Int) := od_
              have q540 : x10_3 < (l0.length : Int) := od_
              obtain ⟨ad540, e540, hx540_0, hx540_1, hx540_2⟩ := at_T58 HR0.out x10_3 p540 q540
              have hw540_2 := hx540_2
              have hw540_1 := hx540_1
              have hw540_0 := hx540_0
              obtain rfl : ad537 = ad540 := (by injection e540)
              replace hx540_0 := cb_ HB hx540_0
              replace hx540_1 := cb_ HB hx540_1
              replace hx540_2 := cb_ HB hx540_2
              replace p540 := eq_true p540
              replace q540 := eq_true q540
              refine start_ (n := 7) (S := fun w' => w'.cell? ⟨gb539, 0, none⟩ = some (.int .i64 ((rd_T58 l0 x8_2).f1)) ∧ w'.cell? ⟨gb539, 1, none⟩ = some (.int .i64 a1_7) ∧ w'.cell? (ad537.add ((x10_3).toNat * 3)) = some (.int .i64 ((rd_T58 l0 x10_3).f0.f0)) ∧ w'.cell? ⟨(ad537.add ((x10_3).toNat * 3)).block, (ad537.add ((x10_3).toNat * 3)).off + 1, none⟩ = some (.int .i64 ((rd_T58 l0 x10_3).f0.f1)) ∧ w'.cell? ⟨(ad537.add ((x10_3).toNat * 3)).block, (ad537.add ((x10_3).toNat * 3)).off + 2, none⟩ = some (.int .i64 ((rd_T58 l0 x10_3).f1))) (ds := []) #[false, false, false, false, false, false, false] (by kernel_rfl) rfl rfl ⟨(blk_cell BK539.out 0).trans rfl, (blk_cell BK539.out 1).trans rfl, (cb_ HB hw540_0 :), (cb_ HB hw540_1 :), (cb_ HB hw540_2 :)⟩ (fun hHeld => ?_)
              generalize wr.drew = w66 at HO_5 BK517 BK539 HB hx540_0 hx540_1 hx540_2 hHeld ⊢
              refine pure_ (i := 0) (N := some 99) (v := ?_) (a' := ?_) #[true, false, false, false, false, false, false] rfl rfl (by kernel_rfl) (fun _ _ _ h => h) (Or.inl ⟨by rfl, ?_⟩) ?_ ?_
              rotate_left
              ·intro w'
               go_simp
               with_reducible rfl
              rotate_left
              ·simp only [Act.put, List.setIfInBounds_toArray, List.set_cons_zero, List.set_cons_succ, i64_w, i32_w]
               rfl
              refine pure_ (i := 1) (N := some 100) (v := ?_) (a' := ?_) #[true, true, false, false, false, false, false] rfl rfl (by kernel_rfl) (fun _ _ _ h => h) (Or.inl ⟨by rfl, ?_⟩) ?_ ?_
              rotate_left
              ·intro w'
               go_simp
               with_reducible rfl
              rotate_left
              ·simp only [Act.put, List.setIfInBounds_toArray, List.set_cons_zero, List.set_cons_succ, i64_w, i32_w]
               rfl
              refine pure_ (i := 2) (N := some 101) (v := ?_) (a' := ?_) #[true, true, true, false, false, false, false] rfl rfl (by kernel_rfl) (fun _ _ _ h => h) (Or.inl ⟨by rfl, ?_⟩) ?_ ?_
              rotate_left
              ·intro w'
               go_simp
               with_reducible rfl
              rotate_left
              ·simp only [Act.put, List.setIfInBounds_toArray, List.set_cons_zero, List.set_cons_succ, i64_w, i32_w]
               rfl
              refine pure_ (i := 3) (N := some 102) (v := ?_) (a' := ?_) #[true, true, true, true, false, false, false] rfl rfl (by kernel_rfl) (fun _ _ _ h => h) (Or.inl ⟨by rfl, ?_⟩) ?_ ?_
              rotate_left
              ·intro w'
               go_simp
               with_reducible rfl
              rotate_left
              ·simp only [Act.put, List.setIfInBounds_toArray, List.set_cons_zero, List.set_cons_succ, i64_w, i32_w]
               rfl
              refine take_ (i := 4) (N := some 103) (v := ?_) (a' := ?_) #[true, true, true, true, true, false, false] rfl rfl (by kernel_rfl) (fun _ _ _ h => h) (Or.inl ⟨by rfl, ?_⟩) hHeld ?_ ?_
              rotate_left
              ·rintro w' ⟨s0, s1, s2, s3, s4⟩
               go_simp
               with_reducible rfl
              rotate_left
              ·simp only [Act.put, List.setIfInBounds_toArray, List.set_cons_zero, List.set_cons_succ, i64_w, i32_w]
               rfl
              refine take_ (i := 5) (N := some 104) (v := ?_) (a' := ?_) #[true, true, true, true, true, true, false] rfl rfl (by kernel_rfl) (fun _ _ _ h => h) (Or.inl ⟨by rfl, ?_⟩) hHeld ?_ ?_
              rotate_left
              ·rintro w' ⟨s0, s1, s2, s3, s4⟩
               go_simp
               with_reducible rfl
              rotate_left
              ·simp only [Act.put, List.setIfInBounds_toArray, List.set_cons_zero, List.set_cons_succ, i64_w, i32_w]
               rfl
              refine pure_ (i := 6) (N := some 105) (v := ?_) (a' := ?_) #[true, true, true, true, true, true, true] rfl rfl (by kernel_rfl) (fun _ _ _ h => h) (Or.inl ⟨by rfl, ?_⟩) ?_ ?_
              rotate_left
              ·intro w'
               go_simp
               with_reducible rfl
              rotate_left
              ·simp only [Act.put, List.setIfInBounds_toArray, List.set_cons_zero, List.set_cons_succ, i64_w, i32_w]
               rfl
              refine done_ (by kernel_rfl) ?_
              go_upto_if 105 with (fail)
              have H := HC65.out
              clear HC65
              by_cases c67 : (((rd_T58 l0 x10_3).f0.f0) == ((rd_T58 l0 x8_2).f1) && (((rd_T58 l0 x10_3).f0.f1) == a1_7)) = true
              ·rw [if_pos c67] at H
               have c67b0 : (((rd_T58 l0 x10_3).f0.f0) == ((rd_T58 l0 x8_2).f1) && (((rd_T58 l0 x10_3).f0.f1) == a1_7)) = true := c67
               (try (have c67b1 : decide (((rd_T58 l0 x10_3).f0.f0) = ((rd_T58 l0 x8_2).f1) && (((rd_T58 l0 x10_3).f0.f1) == a1_7)) = true := by simpa using c67))
               (try (have c67b2 : (((rd_T58 l0 x10_3).f0.f0) == ((rd_T58 l0 x8_2).f1) && (((rd_T58 l0 x10_3).f0.f1) == a1_7)) = true := by simpa using c67))
               clear c67
               (first | rw [c67b0] | (simp only [i64_w, i32_w]; rw [c67b0]) | skip)
               obtain ⟨t542, A68, H⟩ := bindE_ H
               have H' := Aside0.mk H
               clear H
               try go_wp2
               replace HO_5 := Aside0.mk (Kd.R_drew HO_5.out)
               replace BK517 := Aside0.mk (blk_drew BK517.out)
               replace BK539 := Aside0.mk (blk_drew BK539.out)
               replace HB := Aside0.mk (below_drew1 HB.out)
               have p541 : 0 ≤ (x10_3 : Int) := od_
               have q541 : x10_3 < (l0.length : Int) := od_
               obtain ⟨ad541, e541, hx541_0, hx541_1, hx541_2⟩ := at_T58 HR0.out x10_3 p541 q541
               have hw541_2 := hx541_2
               have hw541_1 := hx541_1
               have hw541_0 := hx541_0
               obtain rfl : ad537 = ad541 := (by injection e541)
               replace hx541_0 := cb_ HB hx541_0
               replace hx541_1 := cb_ HB hx541_1
               replace hx541_2 := cb_ HB hx541_2
               replace p541 := eq_true p541
               replace q541 := eq_true q541
               obtain ⟨Ao70, co70, eo70⟩ := Kd.R_slice HO_5.out
               (first | subst eo70 | (injection eo70 with f1_ f2_ f3_; have f4_ := f1_.symm; have f5_ := f3_.symm; clear f1_ f2_ f3_; subst f4_; subst f5_))
               refine start_ (n := 11) (S := fun w' => w'.cell? ⟨gb517, 0, none⟩ = some (.int .i64 a1_0) ∧ w'.cell? ⟨gb517, 1, none⟩ = some (.int .i64 a1_1) ∧ w'.cell? ⟨gb517, 2, none⟩ = some (.int .i64 a1_2) ∧ w'.cell? ⟨gb517, 3, none⟩ = some (.int .i64 a1_3) ∧ w'.cell? ⟨gb517, 4, none⟩ = some (.int .i64 a1_4) ∧ w'.cell? ⟨gb517, 5, none⟩ = some (.int .i64 a1_5) ∧ w'.cell? ⟨gb517, 6, none⟩ = some (.int .i64 a1_6) ∧ w'.cell? ⟨gb517, 7, none⟩ = some (.int .i64 a1_7) ∧ w'.cell? ⟨gb517, 8, none⟩ = some (.int .i64 a1_8) ∧ w'.cell? ⟨gb517, 9, none⟩ = some (.int .i64 a1_9) ∧ w'.cell? (ad537.add ((x10_3).toNat * 3)) = some (.int .i64 ((rd_T58 l0 x10_3).f0.f0)) ∧ w'.cell? ⟨(ad537.add ((x10_3).toNat * 3)).block, (ad537.add ((x10_3).toNat * 3)).off + 1, none⟩ = some (.int .i64 ((rd_T58 l0 x10_3).f0.f1)) ∧ w'.cell? ⟨(ad537.add ((x10_3).toNat * 3)).block, (ad537.add ((x10_3).toNat * 3)).off + 2, none⟩ = some (.int .i64 ((rd_T58 l0 x10_3).f1))) (ds := []) #[false, false, false, false, false, false, false, false, false, false, false] (by kernel_rfl) rfl rfl ⟨(blk_cell BK517.out 0).trans rfl, (blk_cell BK517.out 1).trans rfl, (blk_cell BK517.out 2).trans rfl, (blk_cell BK517.out 3).trans rfl, (blk_cell BK517.out 4).trans rfl, (blk_cell BK517.out 5).trans rfl, (blk_cell BK517.out 6).trans rfl, (blk_cell BK517.out 7).trans rfl, (blk_cell BK517.out 8).trans rfl, (blk_cell BK517.out 9).trans rfl, (cb_ HB hw541_0 :), (cb_ HB hw541_1 :), (cb_ HB hw541_2 :)⟩ (fun hHeld => ?_); refine with_tabW spec_Follows.tab25 spec_Follows.bits25 (fun HT_ HW_ => ?_)
               generalize w66.drew = w69 at HO_5 BK517 BK539 HB hx541_0 hx541_1 hx541_2 hHeld ⊢
               refine pureZ_ (i := 0) (some 106) #[true, false, false, false, false, false, false, false, false, false, false] (ao_ HT_) ?_
               refine pureZ_ (i := 1) (some 107) #[true, true, false, false, false, false, false, false, false, false, false] (ao_ HT_) ?_
               refine pureZ_ (i := 3) (some 109) #[true, true, false, true, false, false, false, false, false, false, false] (ao_ HT_) ?_
               refine pureZ_ (i := 4) (some 110) #[true, true, false, true, true, false, false, false, false, false, false] (ao_ HT_) ?_
               refine pureZ_ (i := 5) (some 111) #[true, true, false, true, true, true, false, false, false, false, false] (ao_ HT_) ?_
               refine pureZ_ (i := 6) (some 112) #[true, true, false, true, true, true, true, false, false, false, false] (ao_ HT_) ?_
               refine takeZ_ (i := 2) (some 108) #[true, true, true, true, true, true, true, false, false, false, false] (take_ofW HT_.out HW_.out (by kernel_rfl)) hHeld ?_
               refine takeZ_ (i := 7) (some 113) #[true, true, true, true, true, true, true, true, false, false, false] (take_ofW HT_.out HW_.out (by kernel_rfl)) hHeld ?_
               refine pureZ_ (i := 8) (some 114) #[true, true, true, true, true, true, true, true, true, false, false] (ao_ HT_) ?_
               refine one_ (i := 9) (N := some 115) #[true, true, true, true, true, true, true, true, true, true, false] rfl rfl (one_of HT_.out (by kernel_rfl)) (by decide) (fun K hK => ?_)
               refine goes_ Try.func61 (by kernel_rfl) rfl #[.slice Ao70 x5_3.length co70, .agg #[.int .i64 a1_1, .int .i64 a1_2, .int .i64 ((rd_T58 l0 x10_3).f1)]] (by rfl) rfl rfl (by (try simp only [List.map_toArray, List.map_cons, List.map_nil]); first | done | rfl | (simp only [List.length_drop, List.length_take]; rfl)) ?_
               with_reducible refine (spec_l06Put.calls k3 (fun k_ => some k_ = (.slice Ao70 x5_3.length co70 : Value).ownBlock) (.slice Ao70 x5_3.length co70) x5_3 a1_1 a1_2 ((rd_T58 l0 x10_3).f1) t542 w _ ?side1 ?side2 A68.out).mono ?_
               (case side1 => repeat (first | (with_reducible first | exact HB.out | apply below_alloc | apply pw_below_drewN | apply below_drew1 | refine below_set ?_ GE517.out | refine below_set ?_ GE539.out) | exact HB.out))
               (case side2 => exact Kd.R_tight rfl HO_5.out)
               rintro e w71 ⟨v543, rfl, ho0, hb, hkp⟩
               refine ⟨_, rfl, ?_⟩
               replace BK517 := Aside0.mk (blk_kept (bk_ BK517) hkp (fun hs_ => (fun e_ => (Kd.R_ne HO_5.out BK517.out (by decide)) e_) hs_))
               replace BK539 := Aside0.mk (blk_kept (bk_ BK539) hkp (fun hs_ => (fun e_ => (Kd.R_ne HO_5.out BK539.out (by decide)) e_) hs_))
               have HO544 := Aside0.mk (Kd.R_mono (ok' := fun k_ => True) ho0 (fun k_ hk_ => trivial))
               replace HB := Aside0.mk (hb)
               clear HO_5
               (try clear hb)
               (try clear hkp)
               (try clear ho0)
               refine hK.out _ _ ⟨(blk_cell BK517.out 0).trans rfl, (blk_cell BK517.out 1).trans rfl, (blk_cell BK517.out 2).trans rfl, (blk_cell BK517.out 3).trans rfl, (blk_cell BK517.out 4).trans rfl, (blk_cell BK517.out 5).trans rfl, (blk_cell BK517.out 6).trans rfl, (blk_cell BK517.out 7).trans rfl, (blk_cell BK517.out 8).trans rfl, (blk_cell BK517.out 9).trans rfl, (cb_ HB hw541_0 :), (cb_ HB hw541_1 :), (cb_ HB hw541_2 :)⟩ (fun hHeld => ?_)
               clear hK K
               refine norm_ (a' := ?_) ?_ ?_
               rotate_left
               ·show Act.put _ (some 115) _ = _
                simp only [Act.put, List.setIfInBounds_toArray, List.set_cons_zero, List.set_cons_succ, i64_w, i32_w]
                rfl
               refine pureZ_ (i := 10) (some 5) #[true, true, true, true, true, true, true, true, true, true, true] (ao_ HT_) ?_
               refine done_ (done_of HT_.out (by kernel_rfl)) ?_
               try go_wp2
               go_roundg k3
               case measure => have := HJ17.out; have := HK2.out; have := HK3.out; omega
               case rel => exact ⟨(t542), (wrap64 (x10_3 + 1)), rf_, H', ⟨by have := HJ17.out; have := HK2.out; have := HK3.out; omega⟩, ⟨rr_ HO544⟩, ⟨bk_ BK517⟩, ⟨bk_ BK539⟩, ⟨bl_⟩⟩
              ·rw [if_neg c67] at H
               have c67b0 : (((rd_T58 l0 x10_3).f0.f0) == ((rd_T58 l0 x8_2).f1) && (((rd_T58 l0 x10_3).f0.f1) == a1_7)) = false := by simpa using c67
               (try (have c67b1 : decide (((rd_T58 l0 x10_3).f0.f0) = ((rd_T58 l0 x8_2).f1) && (((rd_T58 l0 x10_3).f0.f1) == a1_7)) = false := by simpa using c67))
               (try (have c67b2 : (((rd_T58 l0 x10_3).f0.f0) == ((rd_T58 l0 x8_2).f1) && (((rd_T58 l0 x10_3).f0.f1) == a1_7)) = false := by simpa using c67))
               (try (have c67b3 : ¬ (((rd_T58 l0 x10_3).f0.f0) = ((rd_T58 l0 x8_2).f1) && (((rd_T58 l0 x10_3).f0.f1) == a1_7)) := by simpa using c67))
               clear c67
               (first | rw [c67b0] | (simp only [i64_w, i32_w]; rw [c67b0]) | skip)
               have H' := Aside0.mk H
               clear H
               go_wp2
               go_roundg k3
               case measure => have := HJ17.out; have := HK2.out; have := HK3.out; omega
               case rel => exact ⟨(x5_3), (wrap64 (x10_3 + 1)), rf_, H', ⟨by have := HJ17.out; have := HK2.out; have := HK3.out; omega⟩, ⟨rr_ HO_5⟩, ⟨bk_ BK517⟩, ⟨bk_ BK539⟩, ⟨bl_⟩⟩
             ·rw [if_neg c63] at H
              have c63b0 : decide (x10_3 < (l0.length : Int)) = false := decide_eq_false c63
              clear c63
              have H' := Aside0.mk H
              clear H
              go_wp2
              go_roundg k3
              case measure => have := HJ17.out; have := HK2.out; have := HK3.out; omega
              case rel => exact ⟨(x5_3), (wrap64 (x8_2 + 1)), rf_, H', ⟨by have := HJ17.out; have := HK2.out; have := HK3.out; omega⟩, ⟨rr_ HO_5⟩, ⟨bk_ BK517⟩, ⟨bl_⟩⟩
         ·rw [if_neg c54] at H
          have c54b0 : decide (x8_2 < (l0.length : Int)) = false := decide_eq_false c54
          clear c54
          obtain rfl := Option.some.inj H
          go_wp2
          go_ret
          exact ⟨_, eq_, by (with_reducible repeat (first | apply Kd.R_alloc | apply Kd.R_drewN | apply Kd.R_drew)); exact HO_5.out, bl_⟩
      ·rw [if_neg c53] at H
       have c53b0 : (a1_0 == 3) = false := beq_eq_false_iff_ne.mpr c53
       have c53b1 : (a1_0 != 3) = true := bne_iff_ne.mpr c53
       obtain rfl := Option.some.inj H
       go_wp2
       go_ret
       exact ⟨_, eq_, by (with_reducible repeat (first | apply Kd.R_alloc | apply Kd.R_drewN | apply Kd.R_drew)); exact HO_5.out, bl_⟩
 ·replace c12 := Bool.eq_false_iff.mpr c12
  subst c12
  replace H := ite_f_ H
  obtain rfl := Option.some.inj H
  go_wp2
  go_ret
  exact ⟨_, eq_, by (with_reducible repeat (first | apply Kd.R_alloc | apply Kd.R_drewN | apply Kd.R_drew)); exact HO523.out, bl_⟩
end Go.Proofs.Ytamhfnedknjjbaa.PB
