import Derived.Test.YtppdmcimddhbaaaKTPHx6
-- A text of this claim: written by the session's own program out of the translation (wip/tools). Lean checks it.
namespace Go.Proofs.Ytppdmcimddhbaaa.PH
open Go.RowKit Go.Proofs.YtppdmcimddhbaaaW.PrintWords Go.Proofs.YtppdmcimddhbaaaW.PrintLast Go.Proofs.YtppdmcimddhbaaaW.PrintMore
attribute [local go_sem] max2_int min2_int max_two min_two max_three min_three max_four min_four   -- for this text's walks alone
set_option linter.unusedVariables false
set_option linter.unusedSimpArgs false
attribute [local go_sem high] eqA27
mutual
def spec_Follows.j0 : Nat → List (S29) → List (S29) → Int → Bool → Int → Int → Int → Int → Int → Int → Int → Int → Int → Int → Option ((List (S29)))
 | 0, _, _, _, _, _, _, _, _, _, _, _, _, _, _ => none
 | k + 1, x0, x5, x19, x29, x182000, x182001, x182002, x182003, x182004, x182005, x182006, x182007, x182008, x182009 => if x29 = true then (spec_Follows.l0 k x0 x5 0 x182000 x182001 x182002 x182003 x182004 x182005 x182006 x182007 x182008 x182009) else (if x19 = 3 then (spec_Follows.l1 k x0 x5 0 x182000 x182001 x182002 x182003 x182004 x182005 x182006 x182007 x182008 x182009) else (some x5))
def spec_Follows.l0 : Nat → List (S29) → List (S29) → Int → Int → Int → Int → Int → Int → Int → Int → Int → Int → Int → Option ((List (S29)))
 | 0, _, _, _, _, _, _, _, _, _, _, _, _, _ => none
 | k + 1, x0, x5, x6, x182000, x182001, x182002, x182003, x182004, x182005, x182006, x182007, x182008, x182009 => if x6 < (x0.length : Int) then (if 0 ≤ x6 then (if (((rd_T29 x0 x6).f0.f0) == x182004 && (((rd_T29 x0 x6).f0.f1) == x182005)) = true then (if x182000 = 2 then ((spec_l06Put.f k x5 x182001 x182002 ((rd_T29 x0 x6).f1)).bind fun t194 => (spec_Follows.l0 k x0 t194 (wrap64 (x6 + 1)) x182000 x182001 x182002 x182003 x182004 x182005 x182006 x182007 x182008 x182009)) else ((spec_l06Has.f k x0 x182006 x182007 ((rd_T29 x0 x6).f1)).bind fun t197 => (if t197 = true then ((spec_l06Put.f k x5 x182001 x182002 ((rd_T29 x0 x6).f1)).bind fun t198 => (spec_Follows.l0 k x0 t198 (wrap64 (x6 + 1)) x182000 x182001 x182002 x182003 x182004 x182005 x182006 x182007 x182008 x182009)) else (spec_Follows.l0 k x0 x5 (wrap64 (x6 + 1)) x182000 x182001 x182002 x182003 x182004 x182005 x182006 x182007 x182008 x182009)))) else (spec_Follows.l0 k x0 x5 (wrap64 (x6 + 1)) x182000 x182001 x182002 x182003 x182004 x182005 x182006 x182007 x182008 x182009)) else (none)) else (some x5)
def spec_Follows.l1 : Nat → List (S29) → List (S29) → Int → Int → Int → Int → Int → Int → Int → Int → Int → Int → Int → Option ((List (S29)))
 | 0, _, _, _, _, _, _, _, _, _, _, _, _, _ => none
 | k + 1, x0, x5, x8, x182000, x182001, x182002, x182003, x182004, x182005, x182006, x182007, x182008, x182009 => if x8 < (x0.length : Int) then (if 0 ≤ x8 then (if (!(((rd_T29 x0 x8).f0.f0) == x182004) || (!(((rd_T29 x0 x8).f0.f1) == x182005))) = true then (spec_Follows.l1 k x0 x5 (wrap64 (x8 + 1)) x182000 x182001 x182002 x182003 x182004 x182005 x182006 x182007 x182008 x182009) else (spec_Follows.l2 k x0 x5 x8 0 x182000 x182001 x182002 x182003 x182004 x182005 x182006 x182007 x182008 x182009 ((rd_T29 x0 x8).f1) x182007)) else (none)) else (some x5)
def spec_Follows.l2 : Nat → List (S29) → List (S29) → Int → Int → Int → Int → Int → Int → Int → Int → Int → Int → Int → Int → Int → Int → Option ((List (S29)))
 | 0, _, _, _, _, _, _, _, _, _, _, _, _, _, _, _, _ => none
 | k + 1, x0, x5, x8, x10, x182000, x182001, x182002, x182003, x182004, x182005, x182006, x182007, x182008, x182009, x204000, x204001 => if x10 < (x0.length : Int) then (if 0 ≤ x10 then (if (((rd_T29 x0 x10).f0.f0) == x204000 && (((rd_T29 x0 x10).f0.f1) == x204001)) = true then ((spec_l06Put.f k x5 x182001 x182002 ((rd_T29 x0 x10).f1)).bind fun t206 => (spec_Follows.l2 k x0 t206 x8 (wrap64 (x10 + 1)) x182000 x182001 x182002 x182003 x182004 x182005 x182006 x182007 x182008 x182009 x204000 x204001)) else (spec_Follows.l2 k x0 x5 x8 (wrap64 (x10 + 1)) x182000 x182001 x182002 x182003 x182004 x182005 x182006 x182007 x182008 x182009 x204000 x204001)) else (none)) else (spec_Follows.l1 k x0 x5 (wrap64 (x8 + 1)) x182000 x182001 x182002 x182003 x182004 x182005 x182006 x182007 x182008 x182009)
end
def spec_Follows.f (k : Nat) (l0 : List (S29)) (a1_0 : Int) (a1_1 : Int) (a1_2 : Int) (a1_3 : Int) (a1_4 : Int) (a1_5 : Int) (a1_6 : Int) (a1_7 : Int) (a1_8 : Int) (a1_9 : Int) : Option ((List (S29))) := (some (([] : List (S29)) : List (S29))).bind fun y182 => (if y182.length + l0.length < 5864062014805 then ((some (y182 ++ l0 : List (S29))).bind fun y185 => ((spec_CredOk.f k a1_0 a1_1 a1_2 a1_3 a1_4 a1_5 a1_6 a1_7 a1_8 a1_9).bind fun t188 => (if t188 = true then (if a1_0 = 1 then ((spec_l06Put.f k y185 a1_1 a1_2 a1_3).bind fun t189 => (some t189)) else (if a1_0 = 2 then (spec_Follows.j0 k l0 y185 a1_0 (a1_0 == 2) a1_0 a1_1 a1_2 a1_3 a1_4 a1_5 a1_6 a1_7 a1_8 a1_9) else (spec_Follows.j0 k l0 y185 a1_0 (a1_0 == 4) a1_0 a1_1 a1_2 a1_3 a1_4 a1_5 a1_6 a1_7 a1_8 a1_9))) else (some y185)))) else (none))
def spec_Follows.T19 : Bool × List (List Nat × List Nat) := (true, [([], []), ([], []), ([0, 1], [0, 1]), ([2], [2]), ([3], [3]), ([], []), ([5], [5]), ([4, 6], [4, 6])])
def spec_Follows.B19 : List Nat := [0, 0, 3, 7, 15, 0, 32, 127]
theorem spec_Follows.tab19 : rtab .any (opsOf Try.f120 19) = spec_Follows.T19 := by kernel_rfl
theorem spec_Follows.bits19 : waitsOk spec_Follows.T19.2 spec_Follows.B19 = true := by kernel_rfl
def spec_Follows.T20 : Bool × List (List Nat × List Nat) := (true, [([], []), ([], []), ([0, 1], [0, 1]), ([2], [2]), ([3], [3]), ([], []), ([5], [5]), ([6], [6]), ([4, 7], [4, 7]), ([], []), ([9, 8, 0, 1, 2, 3, 4, 5, 6, 7, 8, 9], [8, 9])])
def spec_Follows.B20 : List Nat := [0, 0, 3, 7, 15, 0, 32, 96, 255, 0, 1023]
theorem spec_Follows.tab20 : rtab .any (opsOf Try.f120 20) = spec_Follows.T20 := by kernel_rfl
theorem spec_Follows.bits20 : waitsOk spec_Follows.T20.2 spec_Follows.B20 = true := by kernel_rfl
def spec_Follows.T25 : Bool × List (List Nat × List Nat) := (true, [([], []), ([], []), ([1], [1]), ([], []), ([], []), ([3, 4], [3, 4]), ([5], [5]), ([6], [6]), ([2, 7], [2, 7]), ([0, 8], [0, 8]), ([9, 9, 0, 1, 2, 3, 4, 5, 6, 7, 8, 9], [0, 9])])
def spec_Follows.B25 : List Nat := [0, 0, 2, 0, 0, 24, 56, 120, 254, 511, 1023]
theorem spec_Follows.tab25 : rtab .any (opsOf Try.f120 25) = spec_Follows.T25 := by kernel_rfl
theorem spec_Follows.bits25 : waitsOk spec_Follows.T25.2 spec_Follows.B25 = true := by kernel_rfl
set_option maxHeartbeats 8000000 in
set_option maxRecDepth 100000 in
theorem spec_Follows.calls (k : Nat) (A0 : Option Addr) (c0 : Nat) (l0 : List (S29)) (a1_0 : Int) (a1_1 : Int) (a1_2 : Int) (a1_3 : Int) (a1_4 : Int) (a1_5 : Int) (a1_6 : Int) (a1_7 : Int) (a1_8 : Int) (a1_9 : Int) (r : List (S29)) (w : World) (hr0 : Kd.C k29 w A0 l0.length l0) (hc0 : l0.length ≤ c0) (h : spec_Follows.f k l0 a1_0 a1_1 a1_2 a1_3 a1_4 a1_5 a1_6 a1_7 a1_8 a1_9 = some r) :
  Calls Try.prog 120 #[.slice A0 l0.length c0, .agg #[.int .i64 a1_0, .int .i64 a1_1, .int .i64 a1_2, .int .i64 a1_3, .int .i64 a1_4, .int .i64 a1_5, .int .i64 a1_6, .int .i64 a1_7, .int .i64 a1_8, .int .i64 a1_9]] w fun e w' => ∃ v0_ : Value, e = .returned (v0_) ∧ Kd.R k29 29 w' w.heap.size (fun _ => True) v0_ r ∧ Below w.heap.size w w' := by
 have hu46 := Try.underlying46
 have hu27 := Try.underlying27
 have hu29 := Try.underlying29
 have HR0 := Aside0.mk hr0
 have HC0 := Aside0.mk hc0
 clear hr0 hc0
 have HB := Aside0.mk (Below.refl w.heap.size w)
 have H : ((some (([] : List (S29)) : List (S29))).bind fun y182 => (if y182.length + l0.length < 5864062014805 then ((some (y182 ++ l0 : List (S29))).bind fun y185 => ((spec_CredOk.f k a1_0 a1_1 a1_2 a1_3 a1_4 a1_5 a1_6 a1_7 a1_8 a1_9).bind fun t188 => (if t188 = true then (if a1_0 = 1 then ((spec_l06Put.f k y185 a1_1 a1_2 a1_3).bind fun t189 => (some t189)) else (if a1_0 = 2 then (spec_Follows.j0 k l0 y185 a1_0 (a1_0 == 2) a1_0 a1_1 a1_2 a1_3 a1_4 a1_5 a1_6 a1_7 a1_8 a1_9) else (spec_Follows.j0 k l0 y185 a1_0 (a1_0 == 4) a1_0 a1_1 a1_2 a1_3 a1_4 a1_5 a1_6 a1_7 a1_8 a1_9))) else (some y185)))) else (none))) = some r := h
 clear h
 obtain ⟨y182, hy182⟩ : ∃ y_ : List (S29), y_ = (([] : List (S29))) := ⟨_, rfl⟩
 replace H : (if y182.length + l0.length < 5864062014805 then ((some (y182 ++ l0 : List (S29))).bind fun y185 => ((spec_CredOk.f k a1_0 a1_1 a1_2 a1_3 a1_4 a1_5 a1_6 a1_7 a1_8 a1_9).bind fun t188 => (if t188 = true then (if a1_0 = 1 then ((spec_l06Put.f k y185 a1_1 a1_2 a1_3).bind fun t189 => (some t189)) else (if a1_0 = 2 then (spec_Follows.j0 k l0 y185 a1_0 (a1_0 == 2) a1_0 a1_1 a1_2 a1_3 a1_4 a1_5 a1_6 a1_7 a1_8 a1_9) else (spec_Follows.j0 k l0 y185 a1_0 (a1_0 == 4) a1_0 a1_1 a1_2 a1_3 a1_4 a1_5 a1_6 a1_7 a1_8 a1_9))) else (some y185)))) else (none)) = some r := by first | (rw [hy182]; with_reducible exact H) | (have H2_ := (Option.bind_some _ _).symm.trans H; rw [hy182]; with_reducible exact H2_) | (have H2_ := (Option.bind_some _ _).symm.trans H; with_reducible exact H2_) | with_reducible exact H | (rw [hy182]; exact H) | exact H
 have Ny182 := Aside0.mk hy182
 clear hy182
 by_cases c3 : y182.length + l0.length < 5864062014805
 ·rw [if_pos c3] at H
  have LMc3 := Aside0.mk c3
  clear c3
  obtain ⟨y185, hy185⟩ : ∃ y_ : List (S29), y_ = (y182 ++ l0) := ⟨_, rfl⟩
  replace H : ((spec_CredOk.f k a1_0 a1_1 a1_2 a1_3 a1_4 a1_5 a1_6 a1_7 a1_8 a1_9).bind fun t188 => (if t188 = true then (if a1_0 = 1 then ((spec_l06Put.f k y185 a1_1 a1_2 a1_3).bind fun t189 => (some t189)) else (if a1_0 = 2 then (spec_Follows.j0 k l0 y185 a1_0 (a1_0 == 2) a1_0 a1_1 a1_2 a1_3 a1_4 a1_5 a1_6 a1_7 a1_8 a1_9) else (spec_Follows.j0 k l0 y185 a1_0 (a1_0 == 4) a1_0 a1_1 a1_2 a1_3 a1_4 a1_5 a1_6 a1_7 a1_8 a1_9))) else (some y185))) = some r := by first | (rw [hy185]; with_reducible exact H) | (have H2_ := (Option.bind_some _ _).symm.trans H; rw [hy185]; with_reducible exact H2_) | (have H2_ := (Option.bind_some _ _).symm.trans H; with_reducible exact H2_) | with_reducible exact H | (rw [hy185]; exact H) | exact H
  have Ny185 := Aside0.mk hy185
  clear hy185
  obtain ⟨t188, A4, H⟩ := bindE_ H
  by_cases c5 : t188 = true
  ·subst c5
   replace H := ite_t_ H
   by_cases c6 : a1_0 = 1
   ·rw [if_pos c6] at H
    have c6b0 : (a1_0 == 1) = true := beq_iff_eq.mpr c6
    have c6b1 : (a1_0 != 1) = false := bne_eq_false_iff_eq.mpr c6
    clear c6
    obtain ⟨t189, A7, H⟩ := bindE_ H
    obtain rfl := Option.some.inj H
    go_enter Try.func120, Try.ntmps120
    go_wp2_with (first | ((with_reducible refine gate_dst (N := 3) rfl ?_); refine box_event ?hg (N := 3) ?hd (cs := #[.int .i64 a1_0, .int .i64 a1_1, .int .i64 a1_2, .int .i64 a1_3, .int .i64 a1_4, .int .i64 a1_5, .int .i64 a1_6, .int .i64 a1_7, .int .i64 a1_8, .int .i64 a1_9]) (t := 46) ?hr ?_; (case hd => rfl); (case hg => rfl); (case hr => first | (go_simp; done) | (go_simp; rfl)); intro gb181 hg w8 hbox hb; have BK181 := Aside0.mk (hbox); have GW181 := gs_ hg; have GE181 := gs_ hg; replace HB := hbs_ hb; clear hb hbox hg) | ((with_reducible refine gate_dst (N := 11) rfl ?_); refine Kd.R_lit k29 _ 29 ?hg (N := 11) ?hd (xs := ([] : List (S29))) (inner := []) (ok := fun _ => True) (okp := fun _ => True) ?hr ?hp (fun _ hk => hk) trivial (Below.refl _ _) (Nat.le_refl _) (by simp) ?_; (case hd => rfl); (case hg => rfl); (case hr => first | (go_simp; done) | (go_simp; rfl)); (case hp => exact (Reps.none _ _)); intro v183 w9 ho10 hb hg_ hnew_; clear hg_ hnew_; (first | rw [← Ny182.out] at ho10 | (simp only [Int.reduceToNat] at ho10; rw [← Ny182.out] at ho10)); have HO184 := Aside0.mk (Kd.R_lower ho10 bls_); replace BK181 := bkb_ BK181 hb; replace HB := hbs_ hb; clear hb ho10) | ((with_reducible refine gate_builtin (b := .append) (xs := #[.tmp 11, .tmp 12]) rfl ?_); at_builtin; refine Kd.R_append_rows k29 (w0 := w) w.heap.size rfl (.tmp 11) (.tmp 12) 79 29 (.agg #[(.int .i64 0), (.int .i64 0), (.int .i64 0)]) 24 rfl Try.underlying79 info29 rfl (by decide) (by omega) v183 y182 l0 _ _ _ (fun _ => True) (fun _ => False) rfl rfl ?aO ?aR (fun _ _ h => h) (fun _ h => h.elim) ?aF ?aB ?aS ?aL ?_; (case aR => repeat (first | exact (Kd.C_below HR0.out HB.out) | (with_reducible refine Kd.C_alloc ?_ _) | (with_reducible refine Kd.C_drewN ?_ _) | (with_reducible refine Kd.C_drew ?_))); (case aB => exact bl_); (case aF => exact (fun _ _ => trivial)); (case aO => exact (by (with_reducible repeat (first | apply Kd.R_alloc | apply Kd.R_drewN | apply Kd.R_drew)); exact HO184.out)); (case aS => exact bls_); (case aL => have := LMc3.out; omega); intro v186 w11 ho hb hg hat; rw [← Ny185.out] at ho; replace BK181 := Aside0.mk (blk_grown (g := gb181) (o := .cells #[.int .i64 a1_0, .int .i64 a1_1, .int .i64 a1_2, .int .i64 a1_3, .int .i64 a1_4, .int .i64 a1_5, .int .i64 a1_6, .int .i64 a1_7, .int .i64 a1_8, .int .i64 a1_9] 46 (0, 0)) (bk_ BK181) hg (Kd.R_ne HO184.out BK181.out (by decide))); replace HB := Aside0.mk (hb); have HO187 := Aside0.mk (ho); clear HO184; clear ho hb hg hat; have hcz12 := blk_cell BK181.out; have hfz12 := blk_frozen BK181.out) | ((with_reducible refine gate_callee (f := 115) rfl ?_); refine goesC_ (some 15) Try.func115 #[.agg #[.int .i64 a1_0, .int .i64 a1_1, .int .i64 a1_2, .int .i64 a1_3, .int .i64 a1_4, .int .i64 a1_5, .int .i64 a1_6, .int .i64 a1_7, .int .i64 a1_8, .int .i64 a1_9]] ?_; (with_reducible refine (spec_CredOk.calls k a1_0 a1_1 a1_2 a1_3 a1_4 a1_5 a1_6 a1_7 a1_8 a1_9 true _ A4.out).mono ?_); rintro e w13 ⟨rfl, hb⟩; refine ⟨_, rfl, ?_⟩; replace HO187 := Aside0.mk (Kd.R_below (by (with_reducible repeat (first | apply Kd.R_alloc | apply Kd.R_drewN | apply Kd.R_drew)); exact HO187.out) hb); replace BK181 := bkb_ BK181 hb; replace HB := hbs_ hb; clear hb; have hcz14 := blk_cell BK181.out; have hfz14 := blk_frozen BK181.out; obtain ⟨Ao15, co15, eo15⟩ := Kd.R_slice HO187.out; subst eo15) | ((with_reducible refine gate_callee (f := 144) rfl ?_); refine goesC_ (some 28) Try.func144 #[.slice Ao15 y185.length co15, .agg #[.int .i64 a1_1, .int .i64 a1_2, .int .i64 a1_3]] ?_; (with_reducible refine (spec_l06Put.calls k (fun k_ => some k_ = (.slice Ao15 y185.length co15 : Value).ownBlock) (.slice Ao15 y185.length co15) y185 a1_1 a1_2 a1_3 t189 w _ ?side1 ?side2 A7.out).mono ?_); (case side1 => repeat (first | (with_reducible first | exact HB.out | apply below_alloc | apply pw_below_drewN | apply below_drew1 | refine below_set ?_ GE181.out) | exact HB.out)); (case side2 => exact Kd.R_tight rfl HO187.out); rintro e w16 ⟨v190, rfl, ho0, hb, hkp⟩; refine ⟨_, rfl, ?_⟩; replace BK181 := Aside0.mk (blk_kept (bk_ BK181) hkp (fun hs_ => (fun e_ => (Kd.R_ne HO187.out BK181.out (by decide)) e_) hs_)); have HO191 := Aside0.mk (Kd.R_mono (ok' := fun k_ => True) ho0 (fun k_ hk_ => trivial)); replace HB := Aside0.mk (hb); clear HO187; (try clear hb); (try clear hkp); (try clear ho0)))
    go_ret
    exact ⟨_, eq_, by (with_reducible repeat (first | apply Kd.R_alloc | apply Kd.R_drewN | apply Kd.R_drew)); exact HO191.out, bl_⟩
   ·rw [if_neg c6] at H
    have c6b0 : (a1_0 == 1) = false := beq_eq_false_iff_ne.mpr c6
    have c6b1 : (a1_0 != 1) = true := bne_iff_ne.mpr c6
    have HC17 := Aside0.mk H
    clear H
    go_enter Try.func120, Try.ntmps120
    go_upto_if 29 with (first | ((with_reducible refine gate_dst (N := 3) rfl ?_); refine box_event ?hg (N := 3) ?hd (cs := #[.int .i64 a1_0, .int .i64 a1_1, .int .i64 a1_2, .int .i64 a1_3, .int .i64 a1_4, .int .i64 a1_5, .int .i64 a1_6, .int .i64 a1_7, .int .i64 a1_8, .int .i64 a1_9]) (t := 46) ?hr ?_; (case hd => rfl); (case hg => rfl); (case hr => first | (go_simp; done) | (go_simp; rfl)); intro gb181 hg w18 hbox hb; have BK181 := Aside0.mk (hbox); have GW181 := gs_ hg; have GE181 := gs_ hg; replace HB := hbs_ hb; clear hb hbox hg) | ((with_reducible refine gate_dst (N := 11) rfl ?_); refine Kd.R_lit k29 _ 29 ?hg (N := 11) ?hd (xs := ([] : List (S29))) (inner := []) (ok := fun _ => True) (okp := fun _ => True) ?hr ?hp (fun _ hk => hk) trivial (Below.refl _ _) (Nat.le_refl _) (by simp) ?_; (case hd => rfl); (case hg => rfl); (case hr => first | (go_simp; done) | (go_simp; rfl)); (case hp => exact (Reps.none _ _)); intro v183 w19 ho20 hb hg_ hnew_; clear hg_ hnew_; (first | rw [← Ny182.out] at ho20 | (simp only [Int.reduceToNat] at ho20; rw [← Ny182.out] at ho20)); have HO184 := Aside0.mk (Kd.R_lower ho20 bls_); replace BK181 := bkb_ BK181 hb; replace HB := hbs_ hb; clear hb ho20) | ((with_reducible refine gate_builtin (b := .append) (xs := #[.tmp 11, .tmp 12]) rfl ?_); at_builtin; refine Kd.R_append_rows k29 (w0 := w) w.heap.size rfl (.tmp 11) (.tmp 12) 79 29 (.agg #[(.int .i64 0), (.int .i64 0), (.int .i64 0)]) 24 rfl Try.underlying79 info29 rfl (by decide) (by omega) v183 y182 l0 _ _ _ (fun _ => True) (fun _ => False) rfl rfl ?aO ?aR (fun _ _ h => h) (fun _ h => h.elim) ?aF ?aB ?aS ?aL ?_; (case aR => repeat (first | exact (Kd.C_below HR0.out HB.out) | (with_reducible refine Kd.C_alloc ?_ _) | (with_reducible refine Kd.C_drewN ?_ _) | (with_reducible refine Kd.C_drew ?_))); (case aB => exact bl_); (case aF => exact (fun _ _ => trivial)); (case aO => exact (by (with_reducible repeat (first | apply Kd.R_alloc | apply Kd.R_drewN | apply Kd.R_drew)); exact HO184.out)); (case aS => exact bls_); (case aL => have := LMc3.out; omega); intro v186 w21 ho hb hg hat; rw [← Ny185.out] at ho; replace BK181 := Aside0.mk (blk_grown (g := gb181) (o := .cells #[.int .i64 a1_0, .int .i64 a1_1, .int .i64 a1_2, .int .i64 a1_3, .int .i64 a1_4, .int .i64 a1_5, .int .i64 a1_6, .int .i64 a1_7, .int .i64 a1_8, .int .i64 a1_9] 46 (0, 0)) (bk_ BK181) hg (Kd.R_ne HO184.out BK181.out (by decide))); replace HB := Aside0.mk (hb); have HO187 := Aside0.mk (ho); clear HO184; clear ho hb hg hat; have hcz22 := blk_cell BK181.out; have hfz22 := blk_frozen BK181.out) | ((with_reducible refine gate_callee (f := 115) rfl ?_); refine goesC_ (some 15) Try.func115 #[.agg #[.int .i64 a1_0, .int .i64 a1_1, .int .i64 a1_2, .int .i64 a1_3, .int .i64 a1_4, .int .i64 a1_5, .int .i64 a1_6, .int .i64 a1_7, .int .i64 a1_8, .int .i64 a1_9]] ?_; (with_reducible refine (spec_CredOk.calls k a1_0 a1_1 a1_2 a1_3 a1_4 a1_5 a1_6 a1_7 a1_8 a1_9 true _ A4.out).mono ?_); rintro e w23 ⟨rfl, hb⟩; refine ⟨_, rfl, ?_⟩; replace HO187 := Aside0.mk (Kd.R_below (by (with_reducible repeat (first | apply Kd.R_alloc | apply Kd.R_drewN | apply Kd.R_drew)); exact HO187.out) hb); replace BK181 := bkb_ BK181 hb; replace HB := hbs_ hb; clear hb; have hcz24 := blk_cell BK181.out; have hfz24 := blk_frozen BK181.out))
    (try simp only [Act.put, List.setIfInBounds_toArray, List.set_cons_zero, List.set_cons_succ])
    go_cut [29] (fun v29 wc => ∃ (kq : Nat) (x29_16 : Bool), v29 = .bool x29_16 ∧ Aside0 (spec_Follows.j0 kq l0 y185 a1_0 x29_16 a1_0 a1_1 a1_2 a1_3 a1_4 a1_5 a1_6 a1_7 a1_8 a1_9 = some r) ∧ Aside0 (kq ≤ k) ∧ Aside0 (Kd.R k29 29 wc w.heap.size (fun _ => True) v186 y185) ∧ Aside0 (wc.heap[gb181]? = some (.cells #[.int .i64 a1_0, .int .i64 a1_1, .int .i64 a1_2, .int .i64 a1_3, .int .i64 a1_4, .int .i64 a1_5, .int .i64 a1_6, .int .i64 a1_7, .int .i64 a1_8, .int .i64 a1_9] 46 (0, 0))) ∧ Aside0 (Below w.heap.size w wc))
    case first =>
     have H := HC17.out
     clear HC17
     by_cases c25 : a1_0 = 2
     ·rw [if_pos c25] at H
      have c25b0 : (a1_0 == 2) = true := beq_iff_eq.mpr c25
      have c25b1 : (a1_0 != 2) = false := bne_eq_false_iff_eq.mpr c25
      clear c25
      (first | rw [c25b0] | (simp only [i64_w, i32_w]; rw [c25b0]) | skip)
      have H' := Aside0.mk H
      clear H
      go_wp2
      go_meet
      case rel => exact ⟨_, ((a1_0 == 2)), (by first | rfl | (simp; done) | (simp [*]; done)), H', ⟨by first | omega | exact Nat.le_refl _⟩, ⟨by (with_reducible repeat (first | apply Kd.R_alloc | apply Kd.R_drewN | apply Kd.R_drew)); exact HO187.out⟩, ⟨bk_ BK181⟩, ⟨bl_⟩⟩
     ·rw [if_neg c25] at H
      have c25b0 : (a1_0 == 2) = false := beq_eq_false_iff_ne.mpr c25
      have c25b1 : (a1_0 != 2) = true := bne_iff_ne.mpr c25
      (first | rw [c25b0] | (simp only [i64_w, i32_w]; rw [c25b0]) | skip)
      have H' := Aside0.mk H
      clear H
      go_wp2
      go_meet
      case rel => exact ⟨_, ((a1_0 == 4)), (by first | rfl | (simp; done) | (simp [*]; done)), H', ⟨by first | omega | exact Nat.le_refl _⟩, ⟨by (with_reducible repeat (first | apply Kd.R_alloc | apply Kd.R_drewN | apply Kd.R_drew)); exact HO187.out⟩, ⟨bk_ BK181⟩, ⟨bl_⟩⟩
    case rest =>
     clear HC17
     try clear c1
     try clear c2
     try clear p2
     try clear c3
     try clear c5
     try clear c6
     try clear c6b0
     try clear c6b1
     try clear c11
     try clear c12
     try clear c14
     try clear c25
     try clear c25b0
     try clear c25b1
     try clear hcz12
     try clear hcz14
     try clear hcz22
     try clear hcz24
     try clear hfz12
     try clear hfz14
     try clear hfz22
     try clear hfz24
     obtain ⟨kq, x29_16, rfl, HA, HJ16, HO_5, BK181, HB⟩ := hcut
     cases kq with
     | zero => exact absurd HA.out (by simp [spec_Follows.j0])
     | succ kj16 =>
      have H := HA.out
      clear HA
      simp only [spec_Follows.j0] at H
      by_cases c26 : x29_16 = true
      ·subst c26
       replace H := ite_t_ H
       have H' := Aside0.mk H
       clear H
       go_wp2
       go_loopg [5, 6] kj16 (fun kq v5 v6 w' => ∃ (x5_2 : List (S29)) (x6_2 : Int), v6 = .int .i64 x6_2 ∧ Aside0 (spec_Follows.l0 kq l0 x5_2 x6_2 a1_0 a1_1 a1_2 a1_3 a1_4 a1_5 a1_6 a1_7 a1_8 a1_9 = some r) ∧ Aside0 (kq ≤ kj16) ∧ Aside0 (Kd.R k29 29 w' w.heap.size (fun _ => True) v5 x5_2) ∧ Aside0 (w'.heap[gb181]? = some (.cells #[.int .i64 a1_0, .int .i64 a1_1, .int .i64 a1_2, .int .i64 a1_3, .int .i64 a1_4, .int .i64 a1_5, .int .i64 a1_6, .int .i64 a1_7, .int .i64 a1_8, .int .i64 a1_9] 46 (0, 0))) ∧ Aside0 (Below w.heap.size w w'))
       case atStart => exact ⟨(y185), (0), (by first | rfl | (simp; done) | (simp [*]; done)), H', ⟨Nat.le_refl _⟩, ⟨by (with_reducible repeat (first | apply Kd.R_alloc | apply Kd.R_drewN | apply Kd.R_drew)); exact HO_5.out⟩, ⟨bk_ BK181⟩, ⟨bl_⟩⟩
       case round =>
        clear H'
        try clear c1
        try clear c2
        try clear p2
        try clear c3
        try clear c5
        try clear c6
        try clear c6b0
        try clear c6b1
        try clear c11
        try clear c12
        try clear c14
        try clear c25
        try clear c25b0
        try clear c25b1
        try clear c26
        try clear hcz12
        try clear hcz14
        try clear hcz22
        try clear hcz24
        try clear hfz12
        try clear hfz14
        try clear hfz22
        try clear hfz24
        try clear p2
        obtain ⟨x5_2, x6_2, rfl, HA, HK2, HO_5, BK181, HB⟩ := hrel
        cases gk with
        | zero => exact absurd HA.out (by simp [spec_Follows.l0])
        | succ k2 =>
         have H := HA.out
         clear HA
         simp only [spec_Follows.l0] at H
         by_cases c27 : x6_2 < (l0.length : Int)
         ·rw [if_pos c27] at H
          have c27b0 : decide (x6_2 < (l0.length : Int)) = true := decide_eq_true c27
          clear c27
          by_cases c28 : 0 ≤ x6_2
          ·rw [if_pos c28] at H
           have c28b0 : decide (0 ≤ x6_2) = true := decide_eq_true c28
           clear c28
           by_cases c29 : (((rd_T29 l0 x6_2).f0.f0) == a1_4 && (((rd_T29 l0 x6_2).f0.f1) == a1_5)) = true
           ·rw [if_pos c29] at H
            have c29b0 : (((rd_T29 l0 x6_2).f0.f0) == a1_4 && (((rd_T29 l0 x6_2).f0.f1) == a1_5)) = true := c29
            (try (have c29b1 : decide (((rd_T29 l0 x6_2).f0.f0) = a1_4 && (((rd_T29 l0 x6_2).f0.f1) == a1_5)) = true := by simpa using c29))
            (try (have c29b2 : (((rd_T29 l0 x6_2).f0.f0) == a1_4 && (((rd_T29 l0 x6_2).f0.f1) == a1_5)) = true := by simpa using c29))
            clear c29
            by_cases c30 : a1_0 = 2
            ·rw [if_pos c30] at H
             have c30b0 : (a1_0 == 2) = true := beq_iff_eq.mpr c30
             have c30b1 : (a1_0 != 2) = false := bne_eq_false_iff_eq.mpr c30
             clear c30
             obtain ⟨t194, A31, H⟩ := bindE_ H
             have H' := Aside0.mk H
             clear H
             have p192 : 0 ≤ (x6_2 : Int) := of_decide_eq_true (by first | (with_reducible assumption) | assumption)
             have q192 : x6_2 < (l0.length : Int) := of_decide_eq_true (by first | (with_reducible assumption) | assumption)
             obtain ⟨ad192, e192, hx192_0, hx192_1, hx192_2⟩ := at_T29 (Kd.C_below HR0.out HB.out) x6_2 p192 q192
             cases e192
             replace p192 := eq_true p192
             replace q192 := eq_true q192
             go_wp2_with (first | ((with_reducible refine gate_dst (N := 7) rfl ?_); refine box_event ?hg (N := 7) ?hd (cs := #[.int .i64 0, .int .i64 0, .int .i64 0]) (t := 29) ?hr ?_; (case hd => rfl); (case hg => rfl); (case hr => first | (go_simp; done) | (go_simp; rfl)); intro gb193 hg w32 hbox hb; replace HO_5 := Aside0.mk (Kd.R_below (Kd.R_elderB (by (with_reducible repeat (first | apply Kd.R_alloc | apply Kd.R_drewN | apply Kd.R_drew)); exact HO_5.out) gb193 (Nat.le_of_eq hg.symm)) hb); have BK193 := Aside0.mk (hbox); have GW193 := gs_ hg; have GE193 := gs_ hg; replace HB := hbs_ hb; have NB181_193 := Aside0.mk ((by rw [hg]; exact Nat.ne_of_lt (blk_lt (g := gb181) (o := .cells #[.int .i64 a1_0, .int .i64 a1_1, .int .i64 a1_2, .int .i64 a1_3, .int .i64 a1_4, .int .i64 a1_5, .int .i64 a1_6, .int .i64 a1_7, .int .i64 a1_8, .int .i64 a1_9] 46 (0, 0)) (bk_ BK181)) : gb181 ≠ gb193)); have NB193_181 := Aside0.mk ((by rw [hg]; exact Nat.ne_of_gt (blk_lt (g := gb181) (o := .cells #[.int .i64 a1_0, .int .i64 a1_1, .int .i64 a1_2, .int .i64 a1_3, .int .i64 a1_4, .int .i64 a1_5, .int .i64 a1_6, .int .i64 a1_7, .int .i64 a1_8, .int .i64 a1_9] 46 (0, 0)) (bk_ BK181)) : gb193 ≠ gb181)); replace BK181 := bkb_ BK181 hb; clear hb hbox hg; have hnb33 := NB193_181.out; have hnc33 := NB181_193.out; have hcz34 := blk_cell BK193.out; have hfz34 := blk_frozen BK193.out) | ((with_reducible refine gate_store (t := 29) (p := 7) rfl ?_); refine store_event (t := 29) (p := 7) (v := ?vo_w35) (w1 := (((w32.setCell ⟨gb193, 0, none⟩ (.int .i64 ((rd_T29 l0 x6_2).f0.f0))).setCell ⟨gb193, 1, none⟩ (.int .i64 ((rd_T29 l0 x6_2).f0.f1))).setCell ⟨gb193, 2, none⟩ (.int .i64 ((rd_T29 l0 x6_2).f1)))) ?hg ?ho ?hn ?hr ?_; (case ho => rfl); (case hg => rfl); (case hn => rfl); (case hr => first | (go_simp; done) | (go_simp; rfl)); intro w35 hw; have n0_ : Aside0 (Kd.R k29 29 w35 w.heap.size (fun k_ => k_ ≠ gb193) u5 x5_2) := ⟨(by rw [hw]; exact (by (with_reducible repeat (first | apply Kd.R_alloc | apply Kd.R_drewN | apply Kd.R_drew)); exact Kd.R_mono (Kd.R_far (p := ⟨gb193, 2, none⟩) (Kd.R_far (p := ⟨gb193, 1, none⟩) (Kd.R_far (p := ⟨gb193, 0, none⟩) (Kd.R_mono HO_5.out (fun k_ hk => (⟨hk, hk.2⟩ : _ ∧ k_ ≠ gb193))) (fun _ hk => hk.2) (.int .i64 ((rd_T29 l0 x6_2).f0.f0))) (fun _ hk => hk.2) (.int .i64 ((rd_T29 l0 x6_2).f0.f1))) (fun _ hk => hk.2) (.int .i64 ((rd_T29 l0 x6_2).f1))) (fun _ hk => hk.1.2)))⟩; have n1_ : Aside0 (w35.heap[gb181]? = some (.cells #[.int .i64 a1_0, .int .i64 a1_1, .int .i64 a1_2, .int .i64 a1_3, .int .i64 a1_4, .int .i64 a1_5, .int .i64 a1_6, .int .i64 a1_7, .int .i64 a1_8, .int .i64 a1_9] 46 (0, 0))) := ⟨(by rw [hw]; exact (bk_ BK181))⟩; have n2_ : Aside0 (w35.heap[gb193]? = some (.cells #[.int .i64 ((rd_T29 l0 x6_2).f0.f0), .int .i64 ((rd_T29 l0 x6_2).f0.f1), .int .i64 ((rd_T29 l0 x6_2).f1)] 29 (0, 0))) := ⟨(by rw [hw]; exact (bk_ BK193))⟩; have n3_ : Aside0 (Below w.heap.size w w35) := ⟨(by rw [hw]; exact bl_)⟩; clear hw; clear HO_5; clear BK181; clear BK193; clear HB; have HO_5 := n0_; have BK181 := n1_; have BK193 := n2_; have HB := n3_; clear n0_ n1_ n2_ n3_; have hcz36 := blk_cell BK193.out; have hfz36 := blk_frozen BK193.out; have hcz37 := blk_cell BK181.out; have hfz37 := blk_frozen BK181.out; obtain ⟨Ao38, co38, eo38⟩ := Kd.R_slice HO_5.out; subst eo38) | ((with_reducible refine gate_callee (f := 144) rfl ?_); refine goesC_ (some 67) Try.func144 #[.slice Ao38 x5_2.length co38, .agg #[.int .i64 a1_1, .int .i64 a1_2, .int .i64 ((rd_T29 l0 x6_2).f1)]] ?_; (with_reducible refine (spec_l06Put.calls k2 (fun k_ => some k_ = (.slice Ao38 x5_2.length co38 : Value).ownBlock) (.slice Ao38 x5_2.length co38) x5_2 a1_1 a1_2 ((rd_T29 l0 x6_2).f1) t194 w _ ?side1 ?side2 A31.out).mono ?_); (case side1 => repeat (first | (with_reducible first | exact HB.out | apply below_alloc | apply pw_below_drewN | apply below_drew1 | refine below_set ?_ GE181.out | refine below_set ?_ GE193.out) | exact HB.out)); (case side2 => exact Kd.R_tight rfl HO_5.out); rintro e w39 ⟨v195, rfl, ho0, hb, hkp⟩; refine ⟨_, rfl, ?_⟩; replace BK181 := Aside0.mk (blk_kept (bk_ BK181) hkp (fun hs_ => (fun e_ => (Kd.R_ne HO_5.out BK181.out (by decide)) e_) hs_)); have HO196 := Aside0.mk (Kd.R_mono (ok' := fun k_ => k_ ≠ gb193) ho0 (fun k_ hk_ => Or.elim hk_ (fun hs_ => fun e_ => (Kd.R_away HO_5.out (fun _ hk => hk)) (by rw [← e_]; exact hs_)) (fun hn_ => (Kd.freshB (g := gb193) (o := .cells #[.int .i64 ((rd_T29 l0 x6_2).f0.f0), .int .i64 ((rd_T29 l0 x6_2).f0.f1), .int .i64 ((rd_T29 l0 x6_2).f1)] 29 (0, 0)) (bk_ BK193) k_ hn_)))); replace BK193 := Aside0.mk (blk_kept (bk_ BK193) hkp (fun hs_ => (fun e_ => (Kd.R_away HO_5.out (fun _ hk => hk)) e_) hs_)); replace HB := Aside0.mk (hb); clear HO_5; (try clear hb); (try clear hkp); (try clear ho0)))
             go_roundg k2
             case measure => have := HJ16.out; have := HK2.out; omega
             case rel => exact ⟨(t194), (wrap64 (x6_2 + 1)), (by first | rfl | (simp; done) | (simp [*]; done)), H', ⟨by have := HJ16.out; have := HK2.out; omega⟩, ⟨by (with_reducible repeat (first | apply Kd.R_alloc | apply Kd.R_drewN | apply Kd.R_drew)); exact Kd.R_mono HO196.out (fun _ hk => trivial)⟩, ⟨bk_ BK181⟩, ⟨bl_⟩⟩
            ·rw [if_neg c30] at H
             have c30b0 : (a1_0 == 2) = false := beq_eq_false_iff_ne.mpr c30
             have c30b1 : (a1_0 != 2) = true := bne_iff_ne.mpr c30
             obtain ⟨t197, A40, H⟩ := bindE_ H
             by_cases c41 : t197 = true
             ·subst c41
              replace H := ite_t_ H
              obtain ⟨t198, A42, H⟩ := bindE_ H
              have H' := Aside0.mk H
              clear H
              have p192 : 0 ≤ (x6_2 : Int) := of_decide_eq_true (by first | (with_reducible assumption) | assumption)
              have q192 : x6_2 < (l0.length : Int) := of_decide_eq_true (by first | (with_reducible assumption) | assumption)
              obtain ⟨ad192, e192, hx192_0, hx192_1, hx192_2⟩ := at_T29 (Kd.C_below HR0.out HB.out) x6_2 p192 q192
              cases e192
              replace p192 := eq_true p192
              replace q192 := eq_true q192
              go_wp2_with (first | ((with_reducible refine gate_dst (N := 7) rfl ?_); refine box_event ?hg (N := 7) ?hd (cs := #[.int .i64 0, .int .i64 0, .int .i64 0]) (t := 29) ?hr ?_; (case hd => rfl); (case hg => rfl); (case hr => first | (go_simp; done) | (go_simp; rfl)); intro gb193 hg w43 hbox hb; replace HO_5 := Aside0.mk (Kd.R_below (Kd.R_elderB (by (with_reducible repeat (first | apply Kd.R_alloc | apply Kd.R_drewN | apply Kd.R_drew)); exact HO_5.out) gb193 (Nat.le_of_eq hg.symm)) hb); have BK193 := Aside0.mk (hbox); have GW193 := gs_ hg; have GE193 := gs_ hg; replace HB := hbs_ hb; have NB181_193 := Aside0.mk ((by rw [hg]; exact Nat.ne_of_lt (blk_lt (g := gb181) (o := .cells #[.int .i64 a1_0, .int .i64 a1_1, .int .i64 a1_2, .int .i64 a1_3, .int .i64 a1_4, .int .i64 a1_5, .int .i64 a1_6, .int .i64 a1_7, .int .i64 a1_8, .int .i64 a1_9] 46 (0, 0)) (bk_ BK181)) : gb181 ≠ gb193)); have NB193_181 := Aside0.mk ((by rw [hg]; exact Nat.ne_of_gt (blk_lt (g := gb181) (o := .cells #[.int .i64 a1_0, .int .i64 a1_1, .int .i64 a1_2, .int .i64 a1_3, .int .i64 a1_4, .int .i64 a1_5, .int .i64 a1_6, .int .i64 a1_7, .int .i64 a1_8, .int .i64 a1_9] 46 (0, 0)) (bk_ BK181)) : gb193 ≠ gb181)); replace BK181 := bkb_ BK181 hb; clear hb hbox hg; have hnb44 := NB193_181.out; have hnc44 := NB181_193.out; have hcz45 := blk_cell BK193.out; have hfz45 := blk_frozen BK193.out; have hcz46 := blk_cell BK181.out; have hfz46 := blk_frozen BK181.out) | (go_at_call 77; (with_reducible refine (spec_l06Has.calls k2 _ _ l0 a1_6 a1_7 ((rd_T29 l0 x6_2).f1) true _ ?side1 ?side2 A40.out).mono ?_); (case side1 => exact Kd.C_below HR0.out bl_); (case side2 => exact HC0.out); rintro e w47 ⟨rfl, hb⟩; replace HO_5 := Aside0.mk (Kd.R_below (by (with_reducible repeat (first | apply Kd.R_alloc | apply Kd.R_drewN | apply Kd.R_drew)); exact (Kd.R_mono (Kd.R_far (p := ⟨gb193, 2, none⟩) (Kd.R_far (p := ⟨gb193, 1, none⟩) (Kd.R_far (p := ⟨gb193, 0, none⟩) (Kd.R_mono HO_5.out (fun k_ hk => (⟨hk, hk.2⟩ : _ ∧ k_ ≠ gb193))) (fun _ hk => hk.2) (.int .i64 ((rd_T29 l0 x6_2).f0.f0))) (fun _ hk => hk.2) (.int .i64 ((rd_T29 l0 x6_2).f0.f1))) (fun _ hk => hk.2) (.int .i64 ((rd_T29 l0 x6_2).f1))) (fun _ h_ => h_.1))) hb); replace BK181 := Aside0.mk (blk_below (g := gb181) (o := .cells #[.int .i64 a1_0, .int .i64 a1_1, .int .i64 a1_2, .int .i64 a1_3, .int .i64 a1_4, .int .i64 a1_5, .int .i64 a1_6, .int .i64 a1_7, .int .i64 a1_8, .int .i64 a1_9] 46 (0, 0)) (bk_ BK181) hb); replace BK193 := Aside0.mk (blk_below (g := gb193) (o := .cells #[.int .i64 ((rd_T29 l0 x6_2).f0.f0), .int .i64 ((rd_T29 l0 x6_2).f0.f1), .int .i64 ((rd_T29 l0 x6_2).f1)] 29 (0, 0)) (bk_ BK193) hb); replace HB := hbs_ hb; clear hb; have hcz48 := blk_cell BK181.out; have hfz48 := blk_frozen BK181.out; have hcz49 := blk_cell BK193.out; have hfz49 := blk_frozen BK193.out; obtain ⟨Ao50, co50, eo50⟩ := Kd.R_slice HO_5.out; subst eo50) | ((with_reducible refine gate_callee (f := 144) rfl ?_); refine goesC_ (some 67) Try.func144 #[.slice Ao50 x5_2.length co50, .agg #[.int .i64 a1_1, .int .i64 a1_2, .int .i64 ((rd_T29 l0 x6_2).f1)]] ?_; (with_reducible refine (spec_l06Put.calls k2 (fun k_ => some k_ = (.slice Ao50 x5_2.length co50 : Value).ownBlock) (.slice Ao50 x5_2.length co50) x5_2 a1_1 a1_2 ((rd_T29 l0 x6_2).f1) t198 w _ ?side1 ?side2 A42.out).mono ?_); (case side1 => repeat (first | (with_reducible first | exact HB.out | apply below_alloc | apply pw_below_drewN | apply below_drew1 | refine below_set ?_ GE181.out | refine below_set ?_ GE193.out) | exact HB.out)); (case side2 => exact Kd.R_tight rfl HO_5.out); rintro e w51 ⟨v199, rfl, ho0, hb, hkp⟩; refine ⟨_, rfl, ?_⟩; replace BK181 := Aside0.mk (blk_kept (bk_ BK181) hkp (fun hs_ => (fun e_ => (Kd.R_ne HO_5.out BK181.out (by decide)) e_) hs_)); have HO200 := Aside0.mk (Kd.R_mono (ok' := fun k_ => k_ ≠ gb193) ho0 (fun k_ hk_ => Or.elim hk_ (fun hs_ => fun e_ => (Kd.R_away HO_5.out (fun _ hk => hk.2)) (by rw [← e_]; exact hs_)) (fun hn_ => (Kd.freshB (g := gb193) (o := .cells #[.int .i64 ((rd_T29 l0 x6_2).f0.f0), .int .i64 ((rd_T29 l0 x6_2).f0.f1), .int .i64 ((rd_T29 l0 x6_2).f1)] 29 (0, 0)) (bk_ BK193) k_ hn_)))); replace BK193 := Aside0.mk (blk_kept (bk_ BK193) hkp (fun hs_ => (fun e_ => (Kd.R_away HO_5.out (fun _ hk => hk.2)) e_) hs_)); replace HB := Aside0.mk (hb); clear HO_5; (try clear hb); (try clear hkp); (try clear ho0)))
              go_roundg k2
              case measure => have := HJ16.out; have := HK2.out; omega
              case rel => exact ⟨(t198), (wrap64 (x6_2 + 1)), (by first | rfl | (simp; done) | (simp [*]; done)), H', ⟨by have := HJ16.out; have := HK2.out; omega⟩, ⟨by (with_reducible repeat (first | apply Kd.R_alloc | apply Kd.R_drewN | apply Kd.R_drew)); exact Kd.R_mono HO200.out (fun _ hk => trivial)⟩, ⟨bk_ BK181⟩, ⟨bl_⟩⟩
             ·replace c41 := Bool.eq_false_iff.mpr c41
              subst c41
              replace H := ite_f_ H
              have H' := Aside0.mk H
              clear H
              have p192 : 0 ≤ (x6_2 : Int) := of_decide_eq_true (by first | (with_reducible assumption) | assumption)
              have q192 : x6_2 < (l0.length : Int) := of_decide_eq_true (by first | (with_reducible assumption) | assumption)
              obtain ⟨ad192, e192, hx192_0, hx192_1, hx192_2⟩ := at_T29 (Kd.C_below HR0.out HB.out) x6_2 p192 q192
              cases e192
              replace p192 := eq_true p192
              replace q192 := eq_true q192
              go_wp2_with (first | ((with_reducible refine gate_dst (N := 7) rfl ?_); refine box_event ?hg (N := 7) ?hd (cs := #[.int .i64 0, .int .i64 0, .int .i64 0]) (t := 29) ?hr ?_; (case hd => rfl); (case hg => rfl); (case hr => first | (go_simp; done) | (go_simp; rfl)); intro gb193 hg w52 hbox hb; replace HO_5 := Aside0.mk (Kd.R_below (Kd.R_elderB (by (with_reducible repeat (first | apply Kd.R_alloc | apply Kd.R_drewN | apply Kd.R_drew)); exact HO_5.out) gb193 (Nat.le_of_eq hg.symm)) hb); have BK193 := Aside0.mk (hbox); have GW193 := gs_ hg; have GE193 := gs_ hg; replace HB := hbs_ hb; have NB181_193 := Aside0.mk ((by rw [hg]; exact Nat.ne_of_lt (blk_lt (g := gb181) (o := .cells #[.int .i64 a1_0, .int .i64 a1_1, .int .i64 a1_2, .int .i64 a1_3, .int .i64 a1_4, .int .i64 a1_5, .int .i64 a1_6, .int .i64 a1_7, .int .i64 a1_8, .int .i64 a1_9] 46 (0, 0)) (bk_ BK181)) : gb181 ≠ gb193)); have NB193_181 := Aside0.mk ((by rw [hg]; exact Nat.ne_of_gt (blk_lt (g := gb181) (o := .cells #[.int .i64 a1_0, .int .i64 a1_1, .int .i64 a1_2, .int .i64 a1_3, .int .i64 a1_4, .int .i64 a1_5, .int .i64 a1_6, .int .i64 a1_7, .int .i64 a1_8, .int .i64 a1_9] 46 (0, 0)) (bk_ BK181)) : gb193 ≠ gb181)); replace BK181 := bkb_ BK181 hb; clear hb hbox hg; have hnb53 := NB193_181.out; have hnc53 := NB181_193.out; have hcz54 := blk_cell BK193.out; have hfz54 := blk_frozen BK193.out; have hcz55 := blk_cell BK181.out; have hfz55 := blk_frozen BK181.out) | (go_at_call 77; (with_reducible refine (spec_l06Has.calls k2 _ _ l0 a1_6 a1_7 ((rd_T29 l0 x6_2).f1) false _ ?side1 ?side2 A40.out).mono ?_); (case side1 => exact Kd.C_below HR0.out bl_); (case side2 => exact HC0.out); rintro e w56 ⟨rfl, hb⟩; replace HO_5 := Aside0.mk (Kd.R_below (by (with_reducible repeat (first | apply Kd.R_alloc | apply Kd.R_drewN | apply Kd.R_drew)); exact (Kd.R_mono (Kd.R_far (p := ⟨gb193, 2, none⟩) (Kd.R_far (p := ⟨gb193, 1, none⟩) (Kd.R_far (p := ⟨gb193, 0, none⟩) (Kd.R_mono HO_5.out (fun k_ hk => (⟨hk, hk.2⟩ : _ ∧ k_ ≠ gb193))) (fun _ hk => hk.2) (.int .i64 ((rd_T29 l0 x6_2).f0.f0))) (fun _ hk => hk.2) (.int .i64 ((rd_T29 l0 x6_2).f0.f1))) (fun _ hk => hk.2) (.int .i64 ((rd_T29 l0 x6_2).f1))) (fun _ h_ => h_.1))) hb); replace BK181 := Aside0.mk (blk_below (g := gb181) (o := .cells #[.int .i64 a1_0, .int .i64 a1_1, .int .i64 a1_2, .int .i64 a1_3, .int .i64 a1_4, .int .i64 a1_5, .int .i64 a1_6, .int .i64 a1_7, .int .i64 a1_8, .int .i64 a1_9] 46 (0, 0)) (bk_ BK181) hb); replace BK193 := Aside0.mk (blk_below (g := gb193) (o := .cells #[.int .i64 ((rd_T29 l0 x6_2).f0.f0), .int .i64 ((rd_T29 l0 x6_2).f0.f1), .int .i64 ((rd_T29 l0 x6_2).f1)] 29 (0, 0)) (bk_ BK193) hb); replace HB := hbs_ hb; clear hb))
              go_roundg k2
              case measure => have := HJ16.out; have := HK2.out; omega
              case rel => exact ⟨(x5_2), (wrap64 (x6_2 + 1)), (by first | rfl | (simp; done) | (simp [*]; done)), H', ⟨by have := HJ16.out; have := HK2.out; omega⟩, ⟨by (with_reducible repeat (first | apply Kd.R_alloc | apply Kd.R_drewN | apply Kd.R_drew)); exact Kd.R_mono HO_5.out (fun _ hk => trivial)⟩, ⟨bk_ BK181⟩, ⟨bl_⟩⟩
           ·rw [if_neg c29] at H
            have c29b0 : (((rd_T29 l0 x6_2).f0.f0) == a1_4 && (((rd_T29 l0 x6_2).f0.f1) == a1_5)) = false := by simpa using c29
            (try (have c29b1 : decide (((rd_T29 l0 x6_2).f0.f0) = a1_4 && (((rd_T29 l0 x6_2).f0.f1) == a1_5)) = false := by simpa using c29))
            (try (have c29b2 : (((rd_T29 l0 x6_2).f0.f0) == a1_4 && (((rd_T29 l0 x6_2).f0.f1) == a1_5)) = false := by simpa using c29))
            (try (have c29b3 : ¬ (((rd_T29 l0 x6_2).f0.f0) = a1_4 && (((rd_T29 l0 x6_2).f0.f1) == a1_5)) := by simpa using c29))
            clear c29
            have H' := Aside0.mk H
            clear H
            have p192 : 0 ≤ (x6_2 : Int) := of_decide_eq_true (by first | (with_reducible assumption) | assumption)
            have q192 : x6_2 < (l0.length : Int) := of_decide_eq_true (by first | (with_reducible assumption) | assumption)
            obtain ⟨ad192, e192, hx192_0, hx192_1, hx192_2⟩ := at_T29 (Kd.C_below HR0.out HB.out) x6_2 p192 q192
            cases e192
            replace p192 := eq_true p192
            replace q192 := eq_true q192
            go_wp2_with (first | ((with_reducible refine gate_dst (N := 7) rfl ?_); refine box_event ?hg (N := 7) ?hd (cs := #[.int .i64 0, .int .i64 0, .int .i64 0]) (t := 29) ?hr ?_; (case hd => rfl); (case hg => rfl); (case hr => first | (go_simp; done) | (go_simp; rfl)); intro gb193 hg w57 hbox hb; replace HO_5 := Aside0.mk (Kd.R_below (Kd.R_elderB (by (with_reducible repeat (first | apply Kd.R_alloc | apply Kd.R_drewN | apply Kd.R_drew)); exact HO_5.out) gb193 (Nat.le_of_eq hg.symm)) hb); have BK193 := Aside0.mk (hbox); have GW193 := gs_ hg; have GE193 := gs_ hg; replace HB := hbs_ hb; have NB181_193 := Aside0.mk ((by rw [hg]; exact Nat.ne_of_lt (blk_lt (g := gb181) (o := .cells #[.int .i64 a1_0, .int .i64 a1_1, .int .i64 a1_2, .int .i64 a1_3, .int .i64 a1_4, .int .i64 a1_5, .int .i64 a1_6, .int .i64 a1_7, .int .i64 a1_8, .int .i64 a1_9] 46 (0, 0)) (bk_ BK181)) : gb181 ≠ gb193)); have NB193_181 := Aside0.mk ((by rw [hg]; exact Nat.ne_of_gt (blk_lt (g := gb181) (o := .cells #[.int .i64 a1_0, .int .i64 a1_1, .int .i64 a1_2, .int .i64 a1_3, .int .i64 a1_4, .int .i64 a1_5, .int .i64 a1_6, .int .i64 a1_7, .int .i64 a1_8, .int .i64 a1_9] 46 (0, 0)) (bk_ BK181)) : gb193 ≠ gb181)); replace BK181 := bkb_ BK181 hb; clear hb hbox hg; have hnb58 := NB193_181.out; have hnc58 := NB181_193.out; have hcz59 := blk_cell BK193.out; have hfz59 := blk_frozen BK193.out; have hcz60 := blk_cell BK181.out; have hfz60 := blk_frozen BK181.out))
            go_roundg k2
            case measure => have := HJ16.out; have := HK2.out; omega
            case rel => exact ⟨(x5_2), (wrap64 (x6_2 + 1)), (by first | rfl | (simp; done) | (simp [*]; done)), H', ⟨by have := HJ16.out; have := HK2.out; omega⟩, ⟨by (with_reducible repeat (first | apply Kd.R_alloc | apply Kd.R_drewN | apply Kd.R_drew)); exact Kd.R_mono (Kd.R_far (p := ⟨gb193, 2, none⟩) (Kd.R_far (p := ⟨gb193, 1, none⟩) (Kd.R_far (p := ⟨gb193, 0, none⟩) (Kd.R_mono HO_5.out (fun k_ hk => (⟨hk, hk.2⟩ : _ ∧ k_ ≠ gb193))) (fun _ hk => hk.2) (.int .i64 ((rd_T29 l0 x6_2).f0.f0))) (fun _ hk => hk.2) (.int .i64 ((rd_T29 l0 x6_2).f0.f1))) (fun _ hk => hk.2) (.int .i64 ((rd_T29 l0 x6_2).f1))) (fun _ hk => trivial)⟩, ⟨bk_ BK181⟩, ⟨bl_⟩⟩
          ·rw [if_neg c28] at H
           exact absurd H (by simp)
         ·rw [if_neg c27] at H
          have c27b0 : decide (x6_2 < (l0.length : Int)) = false := decide_eq_false c27
          clear c27
          obtain rfl := Option.some.inj H
          go_wp2
          go_ret
          exact ⟨_, eq_, by (with_reducible repeat (first | apply Kd.R_alloc | apply Kd.R_drewN | apply Kd.R_drew)); exact HO_5.out, bl_⟩
      ·replace c26 := Bool.eq_false_iff.mpr c26
       subst c26
       replace H := ite_f_ H
       by_cases c61 : a1_0 = 3
       ·rw [if_pos c61] at H
        have c61b0 : (a1_0 == 3) = true := beq_iff_eq.mpr c61
        have c61b1 : (a1_0 != 3) = false := bne_eq_false_iff_eq.mpr c61
        clear c61
        have H' := Aside0.mk H
        clear H
        go_wp2
        go_loopg [5, 8] kj16 (fun kq v5 v8 w' => ∃ (x5_2 : List (S29)) (x8_2 : Int), v8 = .int .i64 x8_2 ∧ Aside0 (spec_Follows.l1 kq l0 x5_2 x8_2 a1_0 a1_1 a1_2 a1_3 a1_4 a1_5 a1_6 a1_7 a1_8 a1_9 = some r) ∧ Aside0 (kq ≤ kj16) ∧ Aside0 (Kd.R k29 29 w' w.heap.size (fun _ => True) v5 x5_2) ∧ Aside0 (w'.heap[gb181]? = some (.cells #[.int .i64 a1_0, .int .i64 a1_1, .int .i64 a1_2, .int .i64 a1_3, .int .i64 a1_4, .int .i64 a1_5, .int .i64 a1_6, .int .i64 a1_7, .int .i64 a1_8, .int .i64 a1_9] 46 (0, 0))) ∧ Aside0 (Below w.heap.size w w'))
        case atStart => exact ⟨(y185), (0), (by first | rfl | (simp; done) | (simp [*]; done)), H', ⟨Nat.le_refl _⟩, ⟨by (with_reducible repeat (first | apply Kd.R_alloc | apply Kd.R_drewN | apply Kd.R_drew)); exact HO_5.out⟩, ⟨bk_ BK181⟩, ⟨bl_⟩⟩
        case round =>
         clear H'
         try clear c1
         try clear p1
         try clear q1
         try clear hx1
         try clear c2
         try clear p2
         try clear c3
         try clear c4
         try clear c5
         try clear c6
         try clear c6b0
         try clear c6b1
         try clear p6
         try clear c11
         try clear c12
         try clear c14
         try clear p19
         try clear q19
         try clear hx19
         try clear c25
         try clear c25b0
         try clear c25b1
         try clear c26
         try clear c27
         try clear c27b0
         try clear c28
         try clear c28b0
         try clear c29
         try clear c29b0
         try clear c29b1
         try clear c29b2
         try clear c30
         try clear c30b0
         try clear c30b1
         try clear c33
         try clear c41
         try clear c44
         try clear c53
         try clear c58
         try clear c61
         try clear c61b0
         try clear c61b1
         try clear hcz12
         try clear hcz14
         try clear hcz22
         try clear hcz24
         try clear hcz34
         try clear hcz36
         try clear hcz37
         try clear hcz45
         try clear hcz46
         try clear hcz48
         try clear hcz49
         try clear hcz54
         try clear hcz55
         try clear hcz59
         try clear hcz60
         try clear hfz12
         try clear hfz14
         try clear hfz22
         try clear hfz24
         try clear hfz34
         try clear hfz36
         try clear hfz37
         try clear hfz45
         try clear hfz46
         try clear hfz48
         try clear hfz49
         try clear hfz54
         try clear hfz55
         try clear hfz59
         try clear hfz60
         try clear hx192_0
         try clear hx192_1
         try clear hx192_2
         try clear p192
         try clear p2
         try clear q192
         obtain ⟨x5_2, x8_2, rfl, HA, HK2, HO_5, BK181, HB⟩ := hrel
         cases gk with
         | zero => exact absurd HA.out (by simp [spec_Follows.l1])
         | succ k2 =>
          have H := HA.out
          clear HA
          simp only [spec_Follows.l1] at H
          by_cases c62 : x8_2 < (l0.length : Int)
          ·rw [if_pos c62] at H
           have c62b0 : decide (x8_2 < (l0.length : Int)) = true := decide_eq_true c62
           clear c62
           by_cases c63 : 0 ≤ x8_2
           ·rw [if_pos c63] at H
            have c63b0 : decide (0 ≤ x8_2) = true := decide_eq_true c63
            clear c63
            by_cases c64 : (!(((rd_T29 l0 x8_2).f0.f0) == a1_4) || (!(((rd_T29 l0 x8_2).f0.f1) == a1_5))) = true
            ·rw [if_pos c64] at H
             have c64b0 : (!(((rd_T29 l0 x8_2).f0.f0) == a1_4) || (!(((rd_T29 l0 x8_2).f0.f1) == a1_5))) = true := c64
             clear c64
             have H' := Aside0.mk H
             clear H
             try go_wp2
             replace HO_5 := Aside0.mk (Kd.R_drew HO_5.out)
             replace BK181 := Aside0.mk (blk_drew BK181.out)
             replace HB := Aside0.mk (below_drew1 HB.out)
             have p201 : 0 ≤ (x8_2 : Int) := of_decide_eq_true (by first | (with_reducible assumption) | assumption)
             have q201 : x8_2 < (l0.length : Int) := of_decide_eq_true (by first | (with_reducible assumption) | assumption)
             obtain ⟨ad201, e201, hx201_0, hx201_1, hx201_2⟩ := at_T29 HR0.out x8_2 p201 q201
             have hw201_2 := hx201_2
             have hw201_1 := hx201_1
             have hw201_0 := hx201_0
             cases e201
             replace hx201_0 := cb_ HB hx201_0
             replace hx201_1 := cb_ HB hx201_1
             replace hx201_2 := cb_ HB hx201_2
             replace p201 := eq_true p201
             replace q201 := eq_true q201
             refine start_ (n := 8) (S := fun w' => w'.cell? ⟨gb181, 0, none⟩ = some (.int .i64 a1_0) ∧ w'.cell? ⟨gb181, 1, none⟩ = some (.int .i64 a1_1) ∧ w'.cell? ⟨gb181, 2, none⟩ = some (.int .i64 a1_2) ∧ w'.cell? ⟨gb181, 3, none⟩ = some (.int .i64 a1_3) ∧ w'.cell? ⟨gb181, 4, none⟩ = some (.int .i64 a1_4) ∧ w'.cell? ⟨gb181, 5, none⟩ = some (.int .i64 a1_5) ∧ w'.cell? ⟨gb181, 6, none⟩ = some (.int .i64 a1_6) ∧ w'.cell? ⟨gb181, 7, none⟩ = some (.int .i64 a1_7) ∧ w'.cell? ⟨gb181, 8, none⟩ = some (.int .i64 a1_8) ∧ w'.cell? ⟨gb181, 9, none⟩ = some (.int .i64 a1_9) ∧ w'.cell? (ad201.add ((x8_2).toNat * 3)) = some (.int .i64 ((rd_T29 l0 x8_2).f0.f0)) ∧ w'.cell? ⟨(ad201.add ((x8_2).toNat * 3)).block, (ad201.add ((x8_2).toNat * 3)).off + 1, none⟩ = some (.int .i64 ((rd_T29 l0 x8_2).f0.f1)) ∧ w'.cell? ⟨(ad201.add ((x8_2).toNat * 3)).block, (ad201.add ((x8_2).toNat * 3)).off + 2, none⟩ = some (.int .i64 ((rd_T29 l0 x8_2).f1))) (ds := []) #[false, false, false, false, false, false, false, false] (by kernel_rfl) rfl rfl ⟨(blk_cell BK181.out 0).trans rfl, (blk_cell BK181.out 1).trans rfl, (blk_cell BK181.out 2).trans rfl, (blk_cell BK181.out 3).trans rfl, (blk_cell BK181.out 4).trans rfl, (blk_cell BK181.out 5).trans rfl, (blk_cell BK181.out 6).trans rfl, (blk_cell BK181.out 7).trans rfl, (blk_cell BK181.out 8).trans rfl, (blk_cell BK181.out 9).trans rfl, ((HB.out.cell (World.block_lt_of_cell? w _ hw201_0)).trans hw201_0), ((HB.out.cell (World.block_lt_of_cell? w _ hw201_1)).trans hw201_1), ((HB.out.cell (World.block_lt_of_cell? w _ hw201_2)).trans hw201_2)⟩ (fun hHeld => ?_); refine with_tabW spec_Follows.tab19 spec_Follows.bits19 (fun HT_ HW_ => ?_)
             generalize wr.drew = w65 at HO_5 BK181 HB hx201_0 hx201_1 hx201_2 hHeld ⊢
             refine pureZ_ (i := 0) (some 76) #[true, false, false, false, false, false, false, false] (any_of HT_.out (by kernel_rfl)) ?_
             refine pureZ_ (i := 1) (some 77) #[true, true, false, false, false, false, false, false] (any_of HT_.out (by kernel_rfl)) ?_
             refine pureZ_ (i := 2) (some 78) #[true, true, true, false, false, false, false, false] (any_of HT_.out (by kernel_rfl)) ?_
             refine pureZ_ (i := 3) (some 79) #[true, true, true, true, false, false, false, false] (any_of HT_.out (by kernel_rfl)) ?_
             refine pureZ_ (i := 5) (some 81) #[true, true, true, true, false, true, false, false] (any_of HT_.out (by kernel_rfl)) ?_
             refine takeZ_ (i := 4) (some 80) #[true, true, true, true, true, true, false, false] (take_ofW HT_.out HW_.out (by kernel_rfl)) hHeld ?_
             refine takeZ_ (i := 6) (some 82) #[true, true, true, true, true, true, true, false] (take_ofW HT_.out HW_.out (by kernel_rfl)) hHeld ?_
             refine pureZ_ (i := 7) (some 83) #[true, true, true, true, true, true, true, true] (any_of HT_.out (by kernel_rfl)) ?_
             refine done_ (done_of HT_.out (by kernel_rfl)) ?_
             try go_wp2
             go_roundg k2
             case measure => have := HJ16.out; have := HK2.out; omega
             case rel => exact ⟨(x5_2), (wrap64 (x8_2 + 1)), (by first | rfl | (simp; done) | (simp [*]; done)), H', ⟨by have := HJ16.out; have := HK2.out; omega⟩, ⟨by (with_reducible repeat (first | apply Kd.R_alloc | apply Kd.R_drewN | apply Kd.R_drew)); exact HO_5.out⟩, ⟨bk_ BK181⟩, ⟨bl_⟩⟩
            ·rw [if_neg c64] at H
             have c64b0 : (!(((rd_T29 l0 x8_2).f0.f0) == a1_4) || (!(((rd_T29 l0 x8_2).f0.f1) == a1_5))) = false := by simpa using c64
             clear c64
             have H' := Aside0.mk H
             clear H
             try go_wp2
             replace HO_5 := Aside0.mk (Kd.R_drew HO_5.out)
             replace BK181 := Aside0.mk (blk_drew BK181.out)
             replace HB := Aside0.mk (below_drew1 HB.out)
             have p201 : 0 ≤ (x8_2 : Int) := of_decide_eq_true (by first | (with_reducible assumption) | assumption)
             have q201 : x8_2 < (l0.length : Int) := of_decide_eq_true (by first | (with_reducible assumption) | assumption)
             obtain ⟨ad201, e201, hx201_0, hx201_1, hx201_2⟩ := at_T29 HR0.out x8_2 p201 q201
             have hw201_2 := hx201_2
             have hw201_1 := hx201_1
             have hw201_0 := hx201_0
             cases e201
             replace hx201_0 := cb_ HB hx201_0
             replace hx201_1 := cb_ HB hx201_1
             replace hx201_2 := cb_ HB hx201_2
             replace p201 := eq_true p201
             replace q201 := eq_true q201
             refine start_ (n := 8) (S := fun w' => w'.cell? ⟨gb181, 0, none⟩ = some (.int .i64 a1_0) ∧ w'.cell? ⟨gb181, 1, none⟩ = some (.int .i64 a1_1) ∧ w'.cell? ⟨gb181, 2, none⟩ = some (.int .i64 a1_2) ∧ w'.cell? ⟨gb181, 3, none⟩ = some (.int .i64 a1_3) ∧ w'.cell? ⟨gb181, 4, none⟩ = some (.int .i64 a1_4) ∧ w'.cell? ⟨gb181, 5, none⟩ = some (.int .i64 a1_5) ∧ w'.cell? ⟨gb181, 6, none⟩ = some (.int .i64 a1_6) ∧ w'.cell? ⟨gb181, 7, none⟩ = some (.int .i64 a1_7) ∧ w'.cell? ⟨gb181, 8, none⟩ = some (.int .i64 a1_8) ∧ w'.cell? ⟨gb181, 9, none⟩ = some (.int .i64 a1_9) ∧ w'.cell? (ad201.add ((x8_2).toNat * 3)) = some (.int .i64 ((rd_T29 l0 x8_2).f0.f0)) ∧ w'.cell? ⟨(ad201.add ((x8_2).toNat * 3)).block, (ad201.add ((x8_2).toNat * 3)).off + 1, none⟩ = some (.int .i64 ((rd_T29 l0 x8_2).f0.f1)) ∧ w'.cell? ⟨(ad201.add ((x8_2).toNat * 3)).block, (ad201.add ((x8_2).toNat * 3)).off + 2, none⟩ = some (.int .i64 ((rd_T29 l0 x8_2).f1))) (ds := []) #[false, false, false, false, false, false, false, false] (by kernel_rfl) rfl rfl ⟨(blk_cell BK181.out 0).trans rfl, (blk_cell BK181.out 1).trans rfl, (blk_cell BK181.out 2).trans rfl, (blk_cell BK181.out 3).trans rfl, (blk_cell BK181.out 4).trans rfl, (blk_cell BK181.out 5).trans rfl, (blk_cell BK181.out 6).trans rfl, (blk_cell BK181.out 7).trans rfl, (blk_cell BK181.out 8).trans rfl, (blk_cell BK181.out 9).trans rfl, ((HB.out.cell (World.block_lt_of_cell? w _ hw201_0)).trans hw201_0), ((HB.out.cell (World.block_lt_of_cell? w _ hw201_1)).trans hw201_1), ((HB.out.cell (World.block_lt_of_cell? w _ hw201_2)).trans hw201_2)⟩ (fun hHeld => ?_); refine with_tabW spec_Follows.tab19 spec_Follows.bits19 (fun HT_ HW_ => ?_)
             generalize wr.drew = w66 at HO_5 BK181 HB hx201_0 hx201_1 hx201_2 hHeld ⊢
             refine pureZ_ (i := 0) (some 76) #[true, false, false, false, false, false, false, false] (any_of HT_.out (by kernel_rfl)) ?_
             refine pureZ_ (i := 1) (some 77) #[true, true, false, false, false, false, false, false] (any_of HT_.out (by kernel_rfl)) ?_
             refine pureZ_ (i := 2) (some 78) #[true, true, true, false, false, false, false, false] (any_of HT_.out (by kernel_rfl)) ?_
             refine pureZ_ (i := 3) (some 79) #[true, true, true, true, false, false, false, false] (any_of HT_.out (by kernel_rfl)) ?_
             refine pureZ_ (i := 5) (some 81) #[true, true, true, true, false, true, false, false] (any_of HT_.out (by kernel_rfl)) ?_
             refine takeZ_ (i := 4) (some 80) #[true, true, true, true, true, true, false, false] (take_ofW HT_.out HW_.out (by kernel_rfl)) hHeld ?_
             refine takeZ_ (i := 6) (some 82) #[true, true, true, true, true, true, true, false] (take_ofW HT_.out HW_.out (by kernel_rfl)) hHeld ?_
             refine pureZ_ (i := 7) (some 83) #[true, true, true, true, true, true, true, true] (any_of HT_.out (by kernel_rfl)) ?_
             refine done_ (done_of HT_.out (by kernel_rfl)) ?_
             try go_wp2
             replace HO_5 := Aside0.mk (Kd.R_drew HO_5.out)
             replace BK181 := Aside0.mk (blk_drew BK181.out)
             replace HB := Aside0.mk (below_drew1 HB.out)
             have p202 : 0 ≤ (x8_2 : Int) := of_decide_eq_true (by first | (with_reducible assumption) | assumption)
             have q202 : x8_2 < (l0.length : Int) := of_decide_eq_true (by first | (with_reducible assumption) | assumption)
             obtain ⟨ad202, e202, hx202_0, hx202_1, hx202_2⟩ := at_T29 HR0.out x8_2 p202 q202
             have hw202_2 := hx202_2
             have hw202_1 := hx202_1
             have hw202_0 := hx202_0
             obtain rfl : ad201 = ad202 := (by injection e202)
             replace hx202_0 := cb_ HB hx202_0
             replace hx202_1 := cb_ HB hx202_1
             replace hx202_2 := cb_ HB hx202_2
             replace p202 := eq_true p202
             replace q202 := eq_true q202
             refine start_ (n := 11) (S := fun w' => w'.cell? ⟨gb181, 0, none⟩ = some (.int .i64 a1_0) ∧ w'.cell? ⟨gb181, 1, none⟩ = some (.int .i64 a1_1) ∧ w'.cell? ⟨gb181, 2, none⟩ = some (.int .i64 a1_2) ∧ w'.cell? ⟨gb181, 3, none⟩ = some (.int .i64 a1_3) ∧ w'.cell? ⟨gb181, 4, none⟩ = some (.int .i64 a1_4) ∧ w'.cell? ⟨gb181, 5, none⟩ = some (.int .i64 a1_5) ∧ w'.cell? ⟨gb181, 6, none⟩ = some (.int .i64 a1_6) ∧ w'.cell? ⟨gb181, 7, none⟩ = some (.int .i64 a1_7) ∧ w'.cell? ⟨gb181, 8, none⟩ = some (.int .i64 a1_8) ∧ w'.cell? ⟨gb181, 9, none⟩ = some (.int .i64 a1_9) ∧ w'.cell? (ad201.add ((x8_2).toNat * 3)) = some (.int .i64 ((rd_T29 l0 x8_2).f0.f0)) ∧ w'.cell? ⟨(ad201.add ((x8_2).toNat * 3)).block, (ad201.add ((x8_2).toNat * 3)).off + 1, none⟩ = some (.int .i64 ((rd_T29 l0 x8_2).f0.f1)) ∧ w'.cell? ⟨(ad201.add ((x8_2).toNat * 3)).block, (ad201.add ((x8_2).toNat * 3)).off + 2, none⟩ = some (.int .i64 ((rd_T29 l0 x8_2).f1))) (ds := []) #[false, false, false, false, false, false, false, false, false, false, false] (by kernel_rfl) rfl rfl ⟨(blk_cell BK181.out 0).trans rfl, (blk_cell BK181.out 1).trans rfl, (blk_cell BK181.out 2).trans rfl, (blk_cell BK181.out 3).trans rfl, (blk_cell BK181.out 4).trans rfl, (blk_cell BK181.out 5).trans rfl, (blk_cell BK181.out 6).trans rfl, (blk_cell BK181.out 7).trans rfl, (blk_cell BK181.out 8).trans rfl, (blk_cell BK181.out 9).trans rfl, ((HB.out.cell (World.block_lt_of_cell? w _ hw202_0)).trans hw202_0), ((HB.out.cell (World.block_lt_of_cell? w _ hw202_1)).trans hw202_1), ((HB.out.cell (World.block_lt_of_cell? w _ hw202_2)).trans hw202_2)⟩ (fun hHeld => ?_); refine with_tabW spec_Follows.tab20 spec_Follows.bits20 (fun HT_ HW_ => ?_)
             generalize w66.drew = w67 at HO_5 BK181 HB hx202_0 hx202_1 hx202_2 hHeld ⊢
             refine pureZ_ (i := 0) (some 84) #[true, false, false, false, false, false, false, false, false, false, false] (any_of HT_.out (by kernel_rfl)) ?_
             refine pureZ_ (i := 1) (some 85) #[true, true, false, false, false, false, false, false, false, false, false] (any_of HT_.out (by kernel_rfl)) ?_
             refine pureZ_ (i := 2) (some 86) #[true, true, true, false, false, false, false, false, false, false, false] (any_of HT_.out (by kernel_rfl)) ?_
             refine pureZ_ (i := 3) (some 87) #[true, true, true, true, false, false, false, false, false, false, false] (any_of HT_.out (by kernel_rfl)) ?_
             refine pureZ_ (i := 5) (some 89) #[true, true, true, true, false, true, false, false, false, false, false] (any_of HT_.out (by kernel_rfl)) ?_
             refine pureZ_ (i := 6) (some 90) #[true, true, true, true, false, true, true, false, false, false, false] (any_of HT_.out (by kernel_rfl)) ?_
             refine takeZ_ (i := 4) (some 88) #[true, true, true, true, true, true, true, false, false, false, false] (take_ofW HT_.out HW_.out (by kernel_rfl)) hHeld ?_
             refine takeZ_ (i := 7) (some 91) #[true, true, true, true, true, true, true, true, false, false, false] (take_ofW HT_.out HW_.out (by kernel_rfl)) hHeld ?_
             refine pureZ_ (i := 8) (some 92) #[true, true, true, true, true, true, true, true, true, false, false] (any_of HT_.out (by kernel_rfl)) ?_
             refine one_ (i := 9) (N := some 9) #[true, true, true, true, true, true, true, true, true, true, false] rfl rfl (one_of HT_.out (by kernel_rfl)) (by decide) (fun K hK => ?_)
             refine box_step ?hg (N := 9) ?hd (cs := #[.int .i64 0, .int .i64 0]) (t := 27) ?hr ?_; (case hd => rfl); (case hg => rfl); (case hr => first | (go_simp; done) | (go_simp; rfl))
             intro gb203 hg w68 hbox hb
             replace HO_5 := Aside0.mk (Kd.R_below (by (with_reducible repeat (first | apply Kd.R_alloc | apply Kd.R_drewN | apply Kd.R_drew)); exact HO_5.out) hb)
             have BK203 := Aside0.mk (hbox)
             have GW203 := gs_ hg
             have GE203 := gs_ hg
             replace HB := hbs_ hb
             have NB181_203 := Aside0.mk ((by rw [hg]; exact Nat.ne_of_lt (blk_lt (g := gb181) (o := .cells #[.int .i64 a1_0, .int .i64 a1_1, .int .i64 a1_2, .int .i64 a1_3, .int .i64 a1_4, .int .i64 a1_5, .int .i64 a1_6, .int .i64 a1_7, .int .i64 a1_8, .int .i64 a1_9] 46 (0, 0)) (bk_ BK181)) : gb181 ≠ gb203))
             have NB203_181 := Aside0.mk ((by rw [hg]; exact Nat.ne_of_gt (blk_lt (g := gb181) (o := .cells #[.int .i64 a1_0, .int .i64 a1_1, .int .i64 a1_2, .int .i64 a1_3, .int .i64 a1_4, .int .i64 a1_5, .int .i64 a1_6, .int .i64 a1_7, .int .i64 a1_8, .int .i64 a1_9] 46 (0, 0)) (bk_ BK181)) : gb203 ≠ gb181))
             replace BK181 := bkb_ BK181 hb
             clear hb hbox hg
             refine hK.out _ _ ⟨(blk_cell BK181.out 0).trans rfl, (blk_cell BK181.out 1).trans rfl, (blk_cell BK181.out 2).trans rfl, (blk_cell BK181.out 3).trans rfl, (blk_cell BK181.out 4).trans rfl, (blk_cell BK181.out 5).trans rfl, (blk_cell BK181.out 6).trans rfl, (blk_cell BK181.out 7).trans rfl, (blk_cell BK181.out 8).trans rfl, (blk_cell BK181.out 9).trans rfl, ((HB.out.cell (World.block_lt_of_cell? w _ hw202_0)).trans hw202_0), ((HB.out.cell (World.block_lt_of_cell? w _ hw202_1)).trans hw202_1), ((HB.out.cell (World.block_lt_of_cell? w _ hw202_2)).trans hw202_2)⟩ (fun hHeld => ?_)
             clear hK K
             refine norm_ (a' := ?_) ?_ ?_
             rotate_left
             ·show Act.put _ (some 9) _ = _
              simp only [Act.put, List.setIfInBounds_toArray, List.set_cons_zero, List.set_cons_succ, i64_w, i32_w]
              rfl
             refine one_ (i := 10) (N := none) #[true, true, true, true, true, true, true, true, true, true, true] rfl rfl (one_of HT_.out (by kernel_rfl)) (by decide) (fun K hK => ?_)
             have hs69 : w68.cell? ⟨gb203, 0, none⟩ = some (.int .i64 0) := (blk_cell BK203.out 0).trans rfl
             have hfs69 := blk_frozen BK203.out 0
             have hns69_0 := NB181_203.out
             have hms69_0 := NB203_181.out
             have hs70 : w68.cell? ⟨gb203, 1, none⟩ = some (.int .i64 0) := (blk_cell BK203.out 1).trans rfl
             have hfs70 := blk_frozen BK203.out 1
             have hns70_0 := NB181_203.out
             have hms70_0 := NB203_181.out
             refine skip_ (w1 := ?_) (by rfl) rfl ?_ ?_
             rotate_left
             ·go_simp
              rfl
             refine hK.out _ _ ⟨((cell_far (p := ⟨gb203, _, none⟩) NB181_203.out _).trans (((cell_far (p := ⟨gb203, _, none⟩) NB181_203.out _).trans (hHeld.1)))), ((cell_far (p := ⟨gb203, _, none⟩) NB181_203.out _).trans (((cell_far (p := ⟨gb203, _, none⟩) NB181_203.out _).trans (hHeld.2.1)))), ((cell_far (p := ⟨gb203, _, none⟩) NB181_203.out _).trans (((cell_far (p := ⟨gb203, _, none⟩) NB181_203.out _).trans (hHeld.2.2.1)))), ((cell_far (p := ⟨gb203, _, none⟩) NB181_203.out _).trans (((cell_far (p := ⟨gb203, _, none⟩) NB181_203.out _).trans (hHeld.2.2.2.1)))), ((cell_far (p := ⟨gb203, _, none⟩) NB181_203.out _).trans (((cell_far (p := ⟨gb203, _, none⟩) NB181_203.out _).trans (hHeld.2.2.2.2.1)))), ((cell_far (p := ⟨gb203, _, none⟩) NB181_203.out _).trans (((cell_far (p := ⟨gb203, _, none⟩) NB181_203.out _).trans (hHeld.2.2.2.2.2.1)))), ((cell_far (p := ⟨gb203, _, none⟩) NB181_203.out _).trans (((cell_far (p := ⟨gb203, _, none⟩) NB181_203.out _).trans (hHeld.2.2.2.2.2.2.1)))), ((cell_far (p := ⟨gb203, _, none⟩) NB181_203.out _).trans (((cell_far (p := ⟨gb203, _, none⟩) NB181_203.out _).trans (hHeld.2.2.2.2.2.2.2.1)))), ((cell_far (p := ⟨gb203, _, none⟩) NB181_203.out _).trans (((cell_far (p := ⟨gb203, _, none⟩) NB181_203.out _).trans (hHeld.2.2.2.2.2.2.2.2.1)))), ((cell_far (p := ⟨gb203, _, none⟩) NB181_203.out _).trans (((cell_far (p := ⟨gb203, _, none⟩) NB181_203.out _).trans (hHeld.2.2.2.2.2.2.2.2.2.1)))), ((cell_far (p := ⟨gb203, _, none⟩) (by first | exact Nat.ne_of_lt (Nat.lt_of_lt_of_le (by have := World.block_lt_of_cell? _ _ hw202_0; first | rwa [add_block] at this | exact this) GW203.out) | (rw [add_block]; exact Nat.ne_of_lt (Nat.lt_of_lt_of_le (by have := World.block_lt_of_cell? _ _ hw202_0; first | rwa [add_block] at this | exact this) GW203.out)) | (show (Addr.add _ _).block ≠ _; rw [add_block]; exact Nat.ne_of_lt (Nat.lt_of_lt_of_le (by have := World.block_lt_of_cell? _ _ hw202_0; first | rwa [add_block] at this | exact this) GW203.out)) | (dsimp only; exact Nat.ne_of_lt (Nat.lt_of_lt_of_le (by have := World.block_lt_of_cell? _ _ hw202_0; first | rwa [add_block] at this | exact this) GW203.out))) _).trans (((cell_far (p := ⟨gb203, _, none⟩) (by first | exact Nat.ne_of_lt (Nat.lt_of_lt_of_le (by have := World.block_lt_of_cell? _ _ hw202_0; first | rwa [add_block] at this | exact this) GW203.out) | (rw [add_block]; exact Nat.ne_of_lt (Nat.lt_of_lt_of_le (by have := World.block_lt_of_cell? _ _ hw202_0; first | rwa [add_block] at this | exact this) GW203.out)) | (show (Addr.add _ _).block ≠ _; rw [add_block]; exact Nat.ne_of_lt (Nat.lt_of_lt_of_le (by have := World.block_lt_of_cell? _ _ hw202_0; first | rwa [add_block] at this | exact this) GW203.out)) | (dsimp only; exact Nat.ne_of_lt (Nat.lt_of_lt_of_le (by have := World.block_lt_of_cell? _ _ hw202_0; first | rwa [add_block] at this | exact this) GW203.out))) _).trans (hHeld.2.2.2.2.2.2.2.2.2.2.1)))), ((cell_far (p := ⟨gb203, _, none⟩) (by first | exact Nat.ne_of_lt (Nat.lt_of_lt_of_le (by have := World.block_lt_of_cell? _ _ hw202_1; first | rwa [add_block] at this | exact this) GW203.out) | (rw [add_block]; exact Nat.ne_of_lt (Nat.lt_of_lt_of_le (by have := World.block_lt_of_cell? _ _ hw202_1; first | rwa [add_block] at this | exact this) GW203.out)) | (show (Addr.add _ _).block ≠ _; rw [add_block]; exact Nat.ne_of_lt (Nat.lt_of_lt_of_le (by have := World.block_lt_of_cell? _ _ hw202_1; first | rwa [add_block] at this | exact this) GW203.out)) | (dsimp only; exact Nat.ne_of_lt (Nat.lt_of_lt_of_le (by have := World.block_lt_of_cell? _ _ hw202_1; first | rwa [add_block] at this | exact this) GW203.out))) _).trans (((cell_far (p := ⟨gb203, _, none⟩) (by first | exact Nat.ne_of_lt (Nat.lt_of_lt_of_le (by have := World.block_lt_of_cell? _ _ hw202_1; first | rwa [add_block] at this | exact this) GW203.out) | (rw [add_block]; exact Nat.ne_of_lt (Nat.lt_of_lt_of_le (by have := World.block_lt_of_cell? _ _ hw202_1; first | rwa [add_block] at this | exact this) GW203.out)) | (show (Addr.add _ _).block ≠ _; rw [add_block]; exact Nat.ne_of_lt (Nat.lt_of_lt_of_le (by have := World.block_lt_of_cell? _ _ hw202_1; first | rwa [add_block] at this | exact this) GW203.out)) | (dsimp only; exact Nat.ne_of_lt (Nat.lt_of_lt_of_le (by have := World.block_lt_of_cell? _ _ hw202_1; first | rwa [add_block] at this | exact this) GW203.out))) _).trans (hHeld.2.2.2.2.2.2.2.2.2.2.2.1)))), ((cell_far (p := ⟨gb203, _, none⟩) (by first | exact Nat.ne_of_lt (Nat.lt_of_lt_of_le (by have := World.block_lt_of_cell? _ _ hw202_2; first | rwa [add_block] at this | exact this) GW203.out) | (rw [add_block]; exact Nat.ne_of_lt (Nat.lt_of_lt_of_le (by have := World.block_lt_of_cell? _ _ hw202_2; first | rwa [add_block] at this | exact this) GW203.out)) | (show (Addr.add _ _).block ≠ _; rw [add_block]; exact Nat.ne_of_lt (Nat.lt_of_lt_of_le (by have := World.block_lt_of_cell? _ _ hw202_2; first | rwa [add_block] at this | exact this) GW203.out)) | (dsimp only; exact Nat.ne_of_lt (Nat.lt_of_lt_of_le (by have := World.block_lt_of_cell? _ _ hw202_2; first | rwa [add_block] at this | exact this) GW203.out))) _).trans (((cell_far (p := ⟨gb203, _, none⟩) (by first | exact Nat.ne_of_lt (Nat.lt_of_lt_of_le (by have := World.block_lt_of_cell? _ _ hw202_2; first | rwa [add_block] at this | exact this) GW203.out) | (rw [add_block]; exact Nat.ne_of_lt (Nat.lt_of_lt_of_le (by have := World.block_lt_of_cell? _ _ hw202_2; first | rwa [add_block] at this | exact this) GW203.out)) | (show (Addr.add _ _).block ≠ _; rw [add_block]; exact Nat.ne_of_lt (Nat.lt_of_lt_of_le (by have := World.block_lt_of_cell? _ _ hw202_2; first | rwa [add_block] at this | exact this) GW203.out)) | (dsimp only; exact Nat.ne_of_lt (Nat.lt_of_lt_of_le (by have := World.block_lt_of_cell? _ _ hw202_2; first | rwa [add_block] at this | exact this) GW203.out))) _).trans (hHeld.2.2.2.2.2.2.2.2.2.2.2.2))))⟩ (fun hHeld => ?_)
             clear hK K
             refine done_ (done_of HT_.out (by kernel_rfl)) ?_
             try go_wp2
             go_loopg [5, 10] k2 (fun kq v5 v10 w' => ∃ (x5_3 : List (S29)) (x10_3 : Int), v10 = .int .i64 x10_3 ∧ Aside0 (spec_Follows.l2 kq l0 x5_3 x8_2 x10_3 a1_0 a1_1 a1_2 a1_3 a1_4 a1_5 a1_6 a1_7 a1_8 a1_9 ((rd_T29 l0 x8_2).f1) a1_7 = some r) ∧ Aside0 (kq ≤ k2) ∧ Aside0 (Kd.R k29 29 w' w.heap.size (fun _ => True) v5 x5_3) ∧ Aside0 (w'.heap[gb181]? = some (.cells #[.int .i64 a1_0, .int .i64 a1_1, .int .i64 a1_2, .int .i64 a1_3, .int .i64 a1_4, .int .i64 a1_5, .int .i64 a1_6, .int .i64 a1_7, .int .i64 a1_8, .int .i64 a1_9] 46 (0, 0))) ∧ Aside0 (w'.heap[gb203]? = some (.cells #[.int .i64 ((rd_T29 l0 x8_2).f1), .int .i64 a1_7] 27 (0, 0))) ∧ Aside0 (Below w.heap.size w w'))
             case atStart => exact ⟨(x5_2), (0), (by first | rfl | (simp; done) | (simp [*]; done)), H', ⟨Nat.le_refl _⟩, ⟨by (with_reducible repeat (first | apply Kd.R_alloc | apply Kd.R_drewN | apply Kd.R_drew)); exact Kd.R_mono (Kd.R_far (p := ⟨gb203, 1, none⟩) (Kd.R_far (p := ⟨gb203, 0, none⟩) (Kd.R_types HO_5.out BK203.out (by decide)) (fun _ hk => hk.2) (.int .i64 ((rd_T29 l0 x8_2).f1))) (fun _ hk => hk.2) (.int .i64 a1_7)) (fun _ hk => trivial)⟩, ⟨bk_ BK181⟩, ⟨bk_ BK203⟩, ⟨bl_⟩⟩
             case round =>
              clear H'
              try clear p1
              try clear q1
              try clear hx1
              try clear c2
              try clear p2
              try clear q2
              try clear hx2
              try clear c3
              try clear c4
              try clear c5
              try clear c6
              try clear p6
              try clear p19
              try clear q19
              try clear hx19
              try clear p20
              try clear q20
              try clear hx20
              try clear c27
              try clear c27b0
              try clear c28
              try clear c28b0
              try clear c29
              try clear c29b0
              try clear c29b1
              try clear c29b2
              try clear c30
              try clear c30b0
              try clear c30b1
              try clear c33
              try clear c41
              try clear c44
              try clear c53
              try clear c58
              try clear c61
              try clear c61b0
              try clear c61b1
              try clear c62
              try clear c62b0
              try clear c63
              try clear c63b0
              try clear c64
              try clear c64b0
              try clear p64
              try clear hcz12
              try clear hcz14
              try clear hcz22
              try clear hcz24
              try clear hcz34
              try clear hcz36
              try clear hcz37
              try clear hcz45
              try clear hcz46
              try clear hcz48
              try clear hcz49
              try clear hcz54
              try clear hcz55
              try clear hcz59
              try clear hcz60
              try clear hfz12
              try clear hfz14
              try clear hfz22
              try clear hfz24
              try clear hfz34
              try clear hfz36
              try clear hfz37
              try clear hfz45
              try clear hfz46
              try clear hfz48
              try clear hfz49
              try clear hfz54
              try clear hfz55
              try clear hfz59
              try clear hfz60
              try clear hx192_0
              try clear hx192_1
              try clear hx192_2
              try clear hx201_0
              try clear hx201_1
              try clear hx201_2
              try clear hx202_0
              try clear hx202_1
              try clear hx202_2
              try clear p192
              try clear p2
              try clear p201
              try clear p202
              try clear q192
              try clear q201
              try clear q202
              obtain ⟨x5_3, x10_3, rfl, HA, HK3, HO_5, BK181, BK203, HB⟩ := hrel
              cases gk with
              | zero => exact absurd HA.out (by simp [spec_Follows.l2])
              | succ k3 =>
               have H := HA.out
               clear HA
               simp only [spec_Follows.l2] at H
               by_cases c71 : x10_3 < (l0.length : Int)
               ·rw [if_pos c71] at H
                have c71b0 : decide (x10_3 < (l0.length : Int)) = true := decide_eq_true c71
                clear c71
                by_cases c72 : 0 ≤ x10_3
                ·rw [if_pos c72] at H
                 have c72b0 : decide (0 ≤ x10_3) = true := decide_eq_true c72
                 clear c72
                 by_cases c73 : (((rd_T29 l0 x10_3).f0.f0) == ((rd_T29 l0 x8_2).f1) && (((rd_T29 l0 x10_3).f0.f1) == a1_7)) = true
                 ·rw [if_pos c73] at H
                  have c73b0 : (((rd_T29 l0 x10_3).f0.f0) == ((rd_T29 l0 x8_2).f1) && (((rd_T29 l0 x10_3).f0.f1) == a1_7)) = true := c73
                  (try (have c73b1 : decide (((rd_T29 l0 x10_3).f0.f0) = ((rd_T29 l0 x8_2).f1) && (((rd_T29 l0 x10_3).f0.f1) == a1_7)) = true := by simpa using c73))
                  (try (have c73b2 : (((rd_T29 l0 x10_3).f0.f0) == ((rd_T29 l0 x8_2).f1) && (((rd_T29 l0 x10_3).f0.f1) == a1_7)) = true := by simpa using c73))
                  clear c73
                  obtain ⟨t206, A74, H⟩ := bindE_ H
                  have H' := Aside0.mk H
                  clear H
                  try go_wp2
                  replace HO_5 := Aside0.mk (Kd.R_drew HO_5.out)
                  replace BK181 := Aside0.mk (blk_drew BK181.out)
                  replace BK203 := Aside0.mk (blk_drew BK203.out)
                  replace HB := Aside0.mk (below_drew1 HB.out)
                  have p204 : 0 ≤ (x10_3 : Int) := of_decide_eq_true (by first | (with_reducible assumption) | assumption)
                  have q204 : x10_3 < (l0.length : Int) := of_decide_eq_true (by first | (with_reducible assumption) | assumption)
                  obtain ⟨ad204, e204, hx204_0, hx204_1, hx204_2⟩ := at_T29 HR0.out x10_3 p204 q204
                  have hw204_2 := hx204_2
                  have hw204_1 := hx204_1
                  have hw204_0 := hx204_0
                  obtain rfl : ad201 = ad204 := (by injection e204)
                  replace hx204_0 := cb_ HB hx204_0
                  replace hx204_1 := cb_ HB hx204_1
                  replace hx204_2 := cb_ HB hx204_2
                  replace p204 := eq_true p204
                  replace q204 := eq_true q204
                  refine start_ (n := 7) (S := fun w' => w'.cell? ⟨gb203, 0, none⟩ = some (.int .i64 ((rd_T29 l0 x8_2).f1)) ∧ w'.cell? ⟨gb203, 1, none⟩ = some (.int .i64 a1_7) ∧ w'.cell? (ad201.add ((x10_3).toNat * 3)) = some (.int .i64 ((rd_T29 l0 x10_3).f0.f0)) ∧ w'.cell? ⟨(ad201.add ((x10_3).toNat * 3)).block, (ad201.add ((x10_3).toNat * 3)).off + 1, none⟩ = some (.int .i64 ((rd_T29 l0 x10_3).f0.f1)) ∧ w'.cell? ⟨(ad201.add ((x10_3).toNat * 3)).block, (ad201.add ((x10_3).toNat * 3)).off + 2, none⟩ = some (.int .i64 ((rd_T29 l0 x10_3).f1))) (ds := []) #[false, false, false, false, false, false, false] (by kernel_rfl) rfl rfl ⟨(blk_cell BK203.out 0).trans rfl, (blk_cell BK203.out 1).trans rfl, ((HB.out.cell (World.block_lt_of_cell? w _ hw204_0)).trans hw204_0), ((HB.out.cell (World.block_lt_of_cell? w _ hw204_1)).trans hw204_1), ((HB.out.cell (World.block_lt_of_cell? w _ hw204_2)).trans hw204_2)⟩ (fun hHeld => ?_)
                  generalize wr.drew = w75 at HO_5 BK181 BK203 HB hx204_0 hx204_1 hx204_2 hHeld ⊢
                  refine pure_ (i := 0) (N := some 99) (v := ?_) (a' := ?_) #[true, false, false, false, false, false, false] rfl rfl (by kernel_rfl) (fun _ _ _ h => h) (Or.inl ⟨by rfl, ?_⟩) ?_ ?_
                  rotate_left
                  ·intro w'
                   go_simp
                   with_reducible rfl
                  rotate_left
                  ·simp only [Act.put, List.setIfInBounds_toArray, List.set_cons_zero, List.set_cons_succ, i64_w, i32_w]
                   rfl
                  refine pure_ (i := 1) (N := some 100) (v := ?_) (a' := ?_) #[true, true, false, false, false, false, false] rfl rfl (by kernel_rfl) (fun _ _ _ h => h) (Or.inl ⟨by rfl, ?_⟩) ?_ ?_
                  rotate_left
                  ·intro w'
                   go_simp
                   with_reducible rfl
                  rotate_left
                  ·simp only [Act.put, List.setIfInBounds_toArray, List.set_cons_zero, List.set_cons_succ, i64_w, i32_w]
                   rfl
                  refine pure_ (i := 2) (N := some 101) (v := ?_) (a' := ?_) #[true, true, true, false, false, false, false] rfl rfl (by kernel_rfl) (fun _ _ _ h => h) (Or.inl ⟨by rfl, ?_⟩) ?_ ?_
                  rotate_left
                  ·intro w'
                   go_simp
                   with_reducible rfl
                  rotate_left
                  ·simp only [Act.put, List.setIfInBounds_toArray, List.set_cons_zero, List.set_cons_succ, i64_w, i32_w]
                   rfl
                  refine pure_ (i := 3) (N := some 102) (v := ?_) (a' := ?_) #[true, true, true, true, false, false, false] rfl rfl (by kernel_rfl) (fun _ _ _ h => h) (Or.inl ⟨by rfl, ?_⟩) ?_ ?_
                  rotate_left
                  ·intro w'
                   go_simp
                   with_reducible rfl
                  rotate_left
                  ·simp only [Act.put, List.setIfInBounds_toArray, List.set_cons_zero, List.set_cons_succ, i64_w, i32_w]
                   rfl
                  refine take_ (i := 4) (N := some 103) (v := ?_) (a' := ?_) #[true, true, true, true, true, false, false] rfl rfl (by kernel_rfl) (fun _ _ _ h => h) (Or.inl ⟨by rfl, ?_⟩) hHeld ?_ ?_
                  rotate_left
                  ·rintro w' ⟨s0, s1, s2, s3, s4⟩
                   go_simp
                   with_reducible rfl
                  rotate_left
                  ·simp only [Act.put, List.setIfInBounds_toArray, List.set_cons_zero, List.set_cons_succ, i64_w, i32_w]
                   rfl
                  refine take_ (i := 5) (N := some 104) (v := ?_) (a' := ?_) #[true, true, true, true, true, true, false] rfl rfl (by kernel_rfl) (fun _ _ _ h => h) (Or.inl ⟨by rfl, ?_⟩) hHeld ?_ ?_
                  rotate_left
                  ·rintro w' ⟨s0, s1, s2, s3, s4⟩
                   go_simp
                   with_reducible rfl
                  rotate_left
                  ·simp only [Act.put, List.setIfInBounds_toArray, List.set_cons_zero, List.set_cons_succ, i64_w, i32_w]
                   rfl
                  refine pure_ (i := 6) (N := some 105) (v := ?_) (a' := ?_) #[true, true, true, true, true, true, true] rfl rfl (by kernel_rfl) (fun _ _ _ h => h) (Or.inl ⟨by rfl, ?_⟩) ?_ ?_
                  rotate_left
                  ·intro w'
                   go_simp
                   with_reducible rfl
                  rotate_left
                  ·simp only [Act.put, List.setIfInBounds_toArray, List.set_cons_zero, List.set_cons_succ, i64_w, i32_w]
                   rfl
                  refine done_ (by kernel_rfl) ?_
                  try go_wp2
                  replace HO_5 := Aside0.mk (Kd.R_drew HO_5.out)
                  replace BK181 := Aside0.mk (blk_drew BK181.out)
                  replace BK203 := Aside0.mk (blk_drew BK203.out)
                  replace HB := Aside0.mk (below_drew1 HB.out)
                  have p205 : 0 ≤ (x10_3 : Int) := of_decide_eq_true (by first | (with_reducible assumption) | assumption)
                  have q205 : x10_3 < (l0.length : Int) := of_decide_eq_true (by first | (with_reducible assumption) | assumption)
                  obtain ⟨ad205, e205, hx205_0, hx205_1, hx205_2⟩ := at_T29 HR0.out x10_3 p205 q205
                  have hw205_2 := hx205_2
                  have hw205_1 := hx205_1
                  have hw205_0 := hx205_0
                  obtain rfl : ad201 = ad205 := (by injection e205)
                  replace hx205_0 := cb_ HB hx205_0
                  replace hx205_1 := cb_ HB hx205_1
                  replace hx205_2 := cb_ HB hx205_2
                  replace p205 := eq_true p205
                  replace q205 := eq_true q205
                  obtain ⟨Ao77, co77, eo77⟩ := Kd.R_slice HO_5.out
                  (first | subst eo77 | (injection eo77 with f1_ f2_ f3_; have f4_ := f1_.symm; have f5_ := f3_.symm; clear f1_ f2_ f3_; subst f4_; subst f5_))
                  refine start_ (n := 11) (S := fun w' => w'.cell? ⟨gb181, 0, none⟩ = some (.int .i64 a1_0) ∧ w'.cell? ⟨gb181, 1, none⟩ = some (.int .i64 a1_1) ∧ w'.cell? ⟨gb181, 2, none⟩ = some (.int .i64 a1_2) ∧ w'.cell? ⟨gb181, 3, none⟩ = some (.int .i64 a1_3) ∧ w'.cell? ⟨gb181, 4, none⟩ = some (.int .i64 a1_4) ∧ w'.cell? ⟨gb181, 5, none⟩ = some (.int .i64 a1_5) ∧ w'.cell? ⟨gb181, 6, none⟩ = some (.int .i64 a1_6) ∧ w'.cell? ⟨gb181, 7, none⟩ = some (.int .i64 a1_7) ∧ w'.cell? ⟨gb181, 8, none⟩ = some (.int .i64 a1_8) ∧ w'.cell? ⟨gb181, 9, none⟩ = some (.int .i64 a1_9) ∧ w'.cell? (ad201.add ((x10_3).toNat * 3)) = some (.int .i64 ((rd_T29 l0 x10_3).f0.f0)) ∧ w'.cell? ⟨(ad201.add ((x10_3).toNat * 3)).block, (ad201.add ((x10_3).toNat * 3)).off + 1, none⟩ = some (.int .i64 ((rd_T29 l0 x10_3).f0.f1)) ∧ w'.cell? ⟨(ad201.add ((x10_3).toNat * 3)).block, (ad201.add ((x10_3).toNat * 3)).off + 2, none⟩ = some (.int .i64 ((rd_T29 l0 x10_3).f1))) (ds := []) #[false, false, false, false, false, false, false, false, false, false, false] (by kernel_rfl) rfl rfl ⟨(blk_cell BK181.out 0).trans rfl, (blk_cell BK181.out 1).trans rfl, (blk_cell BK181.out 2).trans rfl, (blk_cell BK181.out 3).trans rfl, (blk_cell BK181.out 4).trans rfl, (blk_cell BK181.out 5).trans rfl, (blk_cell BK181.out 6).trans rfl, (blk_cell BK181.out 7).trans rfl, (blk_cell BK181.out 8).trans rfl, (blk_cell BK181.out 9).trans rfl, ((HB.out.cell (World.block_lt_of_cell? w _ hw205_0)).trans hw205_0), ((HB.out.cell (World.block_lt_of_cell? w _ hw205_1)).trans hw205_1), ((HB.out.cell (World.block_lt_of_cell? w _ hw205_2)).trans hw205_2)⟩ (fun hHeld => ?_); refine with_tabW spec_Follows.tab25 spec_Follows.bits25 (fun HT_ HW_ => ?_)
                  generalize w75.drew = w76 at HO_5 BK181 BK203 HB hx205_0 hx205_1 hx205_2 hHeld ⊢
                  refine pureZ_ (i := 0) (some 106) #[true, false, false, false, false, false, false, false, false, false, false] (any_of HT_.out (by kernel_rfl)) ?_
                  refine pureZ_ (i := 1) (some 107) #[true, true, false, false, false, false, false, false, false, false, false] (any_of HT_.out (by kernel_rfl)) ?_
                  refine pureZ_ (i := 3) (some 109) #[true, true, false, true, false, false, false, false, false, false, false] (any_of HT_.out (by kernel_rfl)) ?_
                  refine pureZ_ (i := 4) (some 110) #[true, true, false, true, true, false, false, false, false, false, false] (any_of HT_.out (by kernel_rfl)) ?_
                  refine pureZ_ (i := 5) (some 111) #[true, true, false, true, true, true, false, false, false, false, false] (any_of HT_.out (by kernel_rfl)) ?_
                  refine pureZ_ (i := 6) (some 112) #[true, true, false, true, true, true, true, false, false, false, false] (any_of HT_.out (by kernel_rfl)) ?_
                  refine takeZ_ (i := 2) (some 108) #[true, true, true, true, true, true, true, false, false, false, false] (take_ofW HT_.out HW_.out (by kernel_rfl)) hHeld ?_
                  refine takeZ_ (i := 7) (some 113) #[true, true, true, true, true, true, true, true, false, false, false] (take_ofW HT_.out HW_.out (by kernel_rfl)) hHeld ?_
                  refine pureZ_ (i := 8) (some 114) #[true, true, true, true, true, true, true, true, true, false, false] (any_of HT_.out (by kernel_rfl)) ?_
                  refine one_ (i := 9) (N := some 115) #[true, true, true, true, true, true, true, true, true, true, false] rfl rfl (one_of HT_.out (by kernel_rfl)) (by decide) (fun K hK => ?_)
                  refine goes_ Try.func144 (by kernel_rfl) rfl #[.slice Ao77 x5_3.length co77, .agg #[.int .i64 a1_1, .int .i64 a1_2, .int .i64 ((rd_T29 l0 x10_3).f1)]] (by rfl) rfl rfl (by (try simp only [List.map_toArray, List.map_cons, List.map_nil]); first | done | rfl | (simp only [List.length_drop, List.length_take]; rfl)) ?_
                  with_reducible refine (spec_l06Put.calls k3 (fun k_ => some k_ = (.slice Ao77 x5_3.length co77 : Value).ownBlock) (.slice Ao77 x5_3.length co77) x5_3 a1_1 a1_2 ((rd_T29 l0 x10_3).f1) t206 w _ ?side1 ?side2 A74.out).mono ?_
                  (case side1 => repeat (first | (with_reducible first | exact HB.out | apply below_alloc | apply pw_below_drewN | apply below_drew1 | refine below_set ?_ GE181.out | refine below_set ?_ GE203.out) | exact HB.out))
                  (case side2 => exact Kd.R_tight rfl HO_5.out)
                  rintro e w78 ⟨v207, rfl, ho0, hb, hkp⟩
                  refine ⟨_, rfl, ?_⟩
                  replace BK181 := Aside0.mk (blk_kept (bk_ BK181) hkp (fun hs_ => (fun e_ => (Kd.R_ne HO_5.out BK181.out (by decide)) e_) hs_))
                  replace BK203 := Aside0.mk (blk_kept (bk_ BK203) hkp (fun hs_ => (fun e_ => (Kd.R_ne HO_5.out BK203.out (by decide)) e_) hs_))
                  have HO208 := Aside0.mk (Kd.R_mono (ok' := fun k_ => True) ho0 (fun k_ hk_ => trivial))
                  replace HB := Aside0.mk (hb)
                  clear HO_5
                  (try clear hb)
                  (try clear hkp)
                  (try clear ho0)
                  refine hK.out _ _ ⟨(blk_cell BK181.out 0).trans rfl, (blk_cell BK181.out 1).trans rfl, (blk_cell BK181.out 2).trans rfl, (blk_cell BK181.out 3).trans rfl, (blk_cell BK181.out 4).trans rfl, (blk_cell BK181.out 5).trans rfl, (blk_cell BK181.out 6).trans rfl, (blk_cell BK181.out 7).trans rfl, (blk_cell BK181.out 8).trans rfl, (blk_cell BK181.out 9).trans rfl, ((HB.out.cell (World.block_lt_of_cell? w _ hw205_0)).trans hw205_0), ((HB.out.cell (World.block_lt_of_cell? w _ hw205_1)).trans hw205_1), ((HB.out.cell (World.block_lt_of_cell? w _ hw205_2)).trans hw205_2)⟩ (fun hHeld => ?_)
                  clear hK K
                  refine norm_ (a' := ?_) ?_ ?_
                  rotate_left
                  ·show Act.put _ (some 115) _ = _
                   simp only [Act.put, List.setIfInBounds_toArray, List.set_cons_zero, List.set_cons_succ, i64_w, i32_w]
                   rfl
                  refine pureZ_ (i := 10) (some 5) #[true, true, true, true, true, true, true, true, true, true, true] (any_of HT_.out (by kernel_rfl)) ?_
                  refine done_ (done_of HT_.out (by kernel_rfl)) ?_
                  try go_wp2
                  go_roundg k3
                  case measure => have := HJ16.out; have := HK2.out; have := HK3.out; omega
                  case rel => exact ⟨(t206), (wrap64 (x10_3 + 1)), (by first | rfl | (simp; done) | (simp [*]; done)), H', ⟨by have := HJ16.out; have := HK2.out; have := HK3.out; omega⟩, ⟨by (with_reducible repeat (first | apply Kd.R_alloc | apply Kd.R_drewN | apply Kd.R_drew)); exact HO208.out⟩, ⟨bk_ BK181⟩, ⟨bk_ BK203⟩, ⟨bl_⟩⟩
                 ·rw [if_neg c73] at H
                  have c73b0 : (((rd_T29 l0 x10_3).f0.f0) == ((rd_T29 l0 x8_2).f1) && (((rd_T29 l0 x10_3).f0.f1) == a1_7)) = false := by simpa using c73
                  (try (have c73b1 : decide (((rd_T29 l0 x10_3).f0.f0) = ((rd_T29 l0 x8_2).f1) && (((rd_T29 l0 x10_3).f0.f1) == a1_7)) = false := by simpa using c73))
                  (try (have c73b2 : (((rd_T29 l0 x10_3).f0.f0) == ((rd_T29 l0 x8_2).f1) && (((rd_T29 l0 x10_3).f0.f1) == a1_7)) = false := by simpa using c73))
                  (try (have c73b3 : ¬ (((rd_T29 l0 x10_3).f0.f0) = ((rd_T29 l0 x8_2).f1) && (((rd_T29 l0 x10_3).f0.f1) == a1_7)) := by simpa using c73))
                  clear c73
                  have H' := Aside0.mk H
                  clear H
                  try go_wp2
                  replace HO_5 := Aside0.mk (Kd.R_drew HO_5.out)
                  replace BK181 := Aside0.mk (blk_drew BK181.out)
                  replace BK203 := Aside0.mk (blk_drew BK203.out)
                  replace HB := Aside0.mk (below_drew1 HB.out)
                  have p204 : 0 ≤ (x10_3 : Int) := of_decide_eq_true (by first | (with_reducible assumption) | assumption)
                  have q204 : x10_3 < (l0.length : Int) := of_decide_eq_true (by first | (with_reducible assumption) | assumption)
                  obtain ⟨ad204, e204, hx204_0, hx204_1, hx204_2⟩ := at_T29 HR0.out x10_3 p204 q204
                  have hw204_2 := hx204_2
                  have hw204_1 := hx204_1
                  have hw204_0 := hx204_0
                  obtain rfl : ad201 = ad204 := (by injection e204)
                  replace hx204_0 := cb_ HB hx204_0
                  replace hx204_1 := cb_ HB hx204_1
                  replace hx204_2 := cb_ HB hx204_2
                  replace p204 := eq_true p204
                  replace q204 := eq_true q204
                  refine start_ (n := 7) (S := fun w' => w'.cell? ⟨gb203, 0, none⟩ = some (.int .i64 ((rd_T29 l0 x8_2).f1)) ∧ w'.cell? ⟨gb203, 1, none⟩ = some (.int .i64 a1_7) ∧ w'.cell? (ad201.add ((x10_3).toNat * 3)) = some (.int .i64 ((rd_T29 l0 x10_3).f0.f0)) ∧ w'.cell? ⟨(ad201.add ((x10_3).toNat * 3)).block, (ad201.add ((x10_3).toNat * 3)).off + 1, none⟩ = some (.int .i64 ((rd_T29 l0 x10_3).f0.f1)) ∧ w'.cell? ⟨(ad201.add ((x10_3).toNat * 3)).block, (ad201.add ((x10_3).toNat * 3)).off + 2, none⟩ = some (.int .i64 ((rd_T29 l0 x10_3).f1))) (ds := []) #[false, false, false, false, false, false, false] (by kernel_rfl) rfl rfl ⟨(blk_cell BK203.out 0).trans rfl, (blk_cell BK203.out 1).trans rfl, ((HB.out.cell (World.block_lt_of_cell? w _ hw204_0)).trans hw204_0), ((HB.out.cell (World.block_lt_of_cell? w _ hw204_1)).trans hw204_1), ((HB.out.cell (World.block_lt_of_cell? w _ hw204_2)).trans hw204_2)⟩ (fun hHeld => ?_)
                  generalize wr.drew = w79 at HO_5 BK181 BK203 HB hx204_0 hx204_1 hx204_2 hHeld ⊢
                  refine pure_ (i := 0) (N := some 99) (v := ?_) (a' := ?_) #[true, false, false, false, false, false, false] rfl rfl (by kernel_rfl) (fun _ _ _ h => h) (Or.inl ⟨by rfl, ?_⟩) ?_ ?_
                  rotate_left
                  ·intro w'
                   go_simp
                   with_reducible rfl
                  rotate_left
                  ·simp only [Act.put, List.setIfInBounds_toArray, List.set_cons_zero, List.set_cons_succ, i64_w, i32_w]
                   rfl
                  refine pure_ (i := 1) (N := some 100) (v := ?_) (a' := ?_) #[true, true, false, false, false, false, false] rfl rfl (by kernel_rfl) (fun _ _ _ h => h) (Or.inl ⟨by rfl, ?_⟩) ?_ ?_
                  rotate_left
                  ·intro w'
                   go_simp
                   with_reducible rfl
                  rotate_left
                  ·simp only [Act.put, List.setIfInBounds_toArray, List.set_cons_zero, List.set_cons_succ, i64_w, i32_w]
                   rfl
                  refine pure_ (i := 2) (N := some 101) (v := ?_) (a' := ?_) #[true, true, true, false, false, false, false] rfl rfl (by kernel_rfl) (fun _ _ _ h => h) (Or.inl ⟨by rfl, ?_⟩) ?_ ?_
                  rotate_left
                  ·intro w'
                   go_simp
                   with_reducible rfl
                  rotate_left
                  ·simp only [Act.put, List.setIfInBounds_toArray, List.set_cons_zero, List.set_cons_succ, i64_w, i32_w]
                   rfl
                  refine pure_ (i := 3) (N := some 102) (v := ?_) (a' := ?_) #[true, true, true, true, false, false, false] rfl rfl (by kernel_rfl) (fun _ _ _ h => h) (Or.inl ⟨by rfl, ?_⟩) ?_ ?_
                  rotate_left
                  ·intro w'
                   go_simp
                   with_reducible rfl
                  rotate_left
                  ·simp only [Act.put, List.setIfInBounds_toArray, List.set_cons_zero, List.set_cons_succ, i64_w, i32_w]
                   rfl
                  refine take_ (i := 4) (N := some 103) (v := ?_) (a' := ?_) #[true, true, true, true, true, false, false] rfl rfl (by kernel_rfl) (fun _ _ _ h => h) (Or.inl ⟨by rfl, ?_⟩) hHeld ?_ ?_
                  rotate_left
                  ·rintro w' ⟨s0, s1, s2, s3, s4⟩
                   go_simp
                   with_reducible rfl
                  rotate_left
                  ·simp only [Act.put, List.setIfInBounds_toArray, List.set_cons_zero, List.set_cons_succ, i64_w, i32_w]
                   rfl
                  refine take_ (i := 5) (N := some 104) (v := ?_) (a' := ?_) #[true, true, true, true, true, true, false] rfl rfl (by kernel_rfl) (fun _ _ _ h => h) (Or.inl ⟨by rfl, ?_⟩) hHeld ?_ ?_
                  rotate_left
                  ·rintro w' ⟨s0, s1, s2, s3, s4⟩
                   go_simp
                   with_reducible rfl
                  rotate_left
                  ·simp only [Act.put, List.setIfInBounds_toArray, List.set_cons_zero, List.set_cons_succ, i64_w, i32_w]
                   rfl
                  refine pure_ (i := 6) (N := some 105) (v := ?_) (a' := ?_) #[true, true, true, true, true, true, true] rfl rfl (by kernel_rfl) (fun _ _ _ h => h) (Or.inl ⟨by rfl, ?_⟩) ?_ ?_
                  rotate_left
                  ·intro w'
                   go_simp
                   with_reducible rfl
                  rotate_left
                  ·simp only [Act.put, List.setIfInBounds_toArray, List.set_cons_zero, List.set_cons_succ, i64_w, i32_w]
                   rfl
                  refine done_ (by kernel_rfl) ?_
                  try go_wp2
                  go_roundg k3
                  case measure => have := HJ16.out; have := HK2.out; have := HK3.out; omega
                  case rel => exact ⟨(x5_3), (wrap64 (x10_3 + 1)), (by first | rfl | (simp; done) | (simp [*]; done)), H', ⟨by have := HJ16.out; have := HK2.out; have := HK3.out; omega⟩, ⟨by (with_reducible repeat (first | apply Kd.R_alloc | apply Kd.R_drewN | apply Kd.R_drew)); exact HO_5.out⟩, ⟨bk_ BK181⟩, ⟨bk_ BK203⟩, ⟨bl_⟩⟩
                ·rw [if_neg c72] at H
                 exact absurd H (by simp)
               ·rw [if_neg c71] at H
                have c71b0 : decide (x10_3 < (l0.length : Int)) = false := decide_eq_false c71
                clear c71
                have H' := Aside0.mk H
                clear H
                go_wp2
                go_roundg k3
                case measure => have := HJ16.out; have := HK2.out; have := HK3.out; omega
                case rel => exact ⟨(x5_3), (wrap64 (x8_2 + 1)), (by first | rfl | (simp; done) | (simp [*]; done)), H', ⟨by have := HJ16.out; have := HK2.out; have := HK3.out; omega⟩, ⟨by (with_reducible repeat (first | apply Kd.R_alloc | apply Kd.R_drewN | apply Kd.R_drew)); exact HO_5.out⟩, ⟨bk_ BK181⟩, ⟨bl_⟩⟩
           ·rw [if_neg c63] at H
            exact absurd H (by simp)
          ·rw [if_neg c62] at H
           have c62b0 : decide (x8_2 < (l0.length : Int)) = false := decide_eq_false c62
           clear c62
           obtain rfl := Option.some.inj H
           go_wp2
           go_ret
           exact ⟨_, eq_, by (with_reducible repeat (first | apply Kd.R_alloc | apply Kd.R_drewN | apply Kd.R_drew)); exact HO_5.out, bl_⟩
       ·rw [if_neg c61] at H
        have c61b0 : (a1_0 == 3) = false := beq_eq_false_iff_ne.mpr c61
        have c61b1 : (a1_0 != 3) = true := bne_iff_ne.mpr c61
        obtain rfl := Option.some.inj H
        go_wp2
        go_ret
        exact ⟨_, eq_, by (with_reducible repeat (first | apply Kd.R_alloc | apply Kd.R_drewN | apply Kd.R_drew)); exact HO_5.out, bl_⟩
  ·replace c5 := Bool.eq_false_iff.mpr c5
   subst c5
   replace H := ite_f_ H
   obtain rfl := Option.some.inj H
   go_enter Try.func120, Try.ntmps120
   go_wp2_with (first | ((with_reducible refine gate_dst (N := 3) rfl ?_); refine box_event ?hg (N := 3) ?hd (cs := #[.int .i64 a1_0, .int .i64 a1_1, .int .i64 a1_2, .int .i64 a1_3, .int .i64 a1_4, .int .i64 a1_5, .int .i64 a1_6, .int .i64 a1_7, .int .i64 a1_8, .int .i64 a1_9]) (t := 46) ?hr ?_; (case hd => rfl); (case hg => rfl); (case hr => first | (go_simp; done) | (go_simp; rfl)); intro gb181 hg w80 hbox hb; have BK181 := Aside0.mk (hbox); have GW181 := gs_ hg; have GE181 := gs_ hg; replace HB := hbs_ hb; clear hb hbox hg) | ((with_reducible refine gate_dst (N := 11) rfl ?_); refine Kd.R_lit k29 _ 29 ?hg (N := 11) ?hd (xs := ([] : List (S29))) (inner := []) (ok := fun _ => True) (okp := fun _ => True) ?hr ?hp (fun _ hk => hk) trivial (Below.refl _ _) (Nat.le_refl _) (by simp) ?_; (case hd => rfl); (case hg => rfl); (case hr => first | (go_simp; done) | (go_simp; rfl)); (case hp => exact (Reps.none _ _)); intro v183 w81 ho82 hb hg_ hnew_; clear hg_ hnew_; (first | rw [← Ny182.out] at ho82 | (simp only [Int.reduceToNat] at ho82; rw [← Ny182.out] at ho82)); have HO184 := Aside0.mk (Kd.R_lower ho82 bls_); replace BK181 := bkb_ BK181 hb; replace HB := hbs_ hb; clear hb ho82) | ((with_reducible refine gate_builtin (b := .append) (xs := #[.tmp 11, .tmp 12]) rfl ?_); at_builtin; refine Kd.R_append_rows k29 (w0 := w) w.heap.size rfl (.tmp 11) (.tmp 12) 79 29 (.agg #[(.int .i64 0), (.int .i64 0), (.int .i64 0)]) 24 rfl Try.underlying79 info29 rfl (by decide) (by omega) v183 y182 l0 _ _ _ (fun _ => True) (fun _ => False) rfl rfl ?aO ?aR (fun _ _ h => h) (fun _ h => h.elim) ?aF ?aB ?aS ?aL ?_; (case aR => repeat (first | exact (Kd.C_below HR0.out HB.out) | (with_reducible refine Kd.C_alloc ?_ _) | (with_reducible refine Kd.C_drewN ?_ _) | (with_reducible refine Kd.C_drew ?_))); (case aB => exact bl_); (case aF => exact (fun _ _ => trivial)); (case aO => exact (by (with_reducible repeat (first | apply Kd.R_alloc | apply Kd.R_drewN | apply Kd.R_drew)); exact HO184.out)); (case aS => exact bls_); (case aL => have := LMc3.out; omega); intro v186 w83 ho hb hg hat; rw [← Ny185.out] at ho; replace BK181 := Aside0.mk (blk_grown (g := gb181) (o := .cells #[.int .i64 a1_0, .int .i64 a1_1, .int .i64 a1_2, .int .i64 a1_3, .int .i64 a1_4, .int .i64 a1_5, .int .i64 a1_6, .int .i64 a1_7, .int .i64 a1_8, .int .i64 a1_9] 46 (0, 0)) (bk_ BK181) hg (Kd.R_ne HO184.out BK181.out (by decide))); replace HB := Aside0.mk (hb); have HO187 := Aside0.mk (ho); clear HO184; clear ho hb hg hat; have hcz84 := blk_cell BK181.out; have hfz84 := blk_frozen BK181.out) | ((with_reducible refine gate_callee (f := 115) rfl ?_); refine goesC_ (some 15) Try.func115 #[.agg #[.int .i64 a1_0, .int .i64 a1_1, .int .i64 a1_2, .int .i64 a1_3, .int .i64 a1_4, .int .i64 a1_5, .int .i64 a1_6, .int .i64 a1_7, .int .i64 a1_8, .int .i64 a1_9]] ?_; (with_reducible refine (spec_CredOk.calls k a1_0 a1_1 a1_2 a1_3 a1_4 a1_5 a1_6 a1_7 a1_8 a1_9 false _ A4.out).mono ?_); rintro e w85 ⟨rfl, hb⟩; refine ⟨_, rfl, ?_⟩; replace HO187 := Aside0.mk (Kd.R_below (by (with_reducible repeat (first | apply Kd.R_alloc | apply Kd.R_drewN | apply Kd.R_drew)); exact HO187.out) hb); replace BK181 := bkb_ BK181 hb; replace HB := hbs_ hb; clear hb))
   go_ret
   exact ⟨_, eq_, by (with_reducible repeat (first | apply Kd.R_alloc | apply Kd.R_drewN | apply Kd.R_drew)); exact HO187.out, bl_⟩
 ·rw [if_neg c3] at H
  exact absurd H (by simp)
end Go.Proofs.Ytppdmcimddhbaaa.PH
