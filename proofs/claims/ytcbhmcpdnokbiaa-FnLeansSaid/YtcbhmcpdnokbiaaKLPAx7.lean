import Derived.Test.YtcbhmcpdnokbiaaKLPAx6
-- printed by wip/tools
namespace Go.Proofs.Ytcbhmcpdnokbiaa.PA
open Go.RowKit Go.Proofs.YtcbhmcpdnokbiaaW.PrintWords Go.Proofs.YtcbhmcpdnokbiaaW.PrintLast Go.Proofs.YtcbhmcpdnokbiaaW.PrintMore
attribute [local go_sem] max2_int min2_int max_two min_two max_three min_three max_four min_four
set_option linter.unusedVariables false
set_option linter.unusedSimpArgs false
attribute [local go_sem high] eqA27
mutual
def spec_Follows.j0 : Nat → List (S29) → List (S29) → Int → Bool → Int → Int → Int → Int → Int → Int → Int → Int → Int → Int → Option ((List (S29)))
 | 0, _, _, _, _, _, _, _, _, _, _, _, _, _, _ => none
 | k + 1, x0, x5, x19, x29, x226000, x226001, x226002, x226003, x226004, x226005, x226006, x226007, x226008, x226009 => if x29 = true then (spec_Follows.l0 k x0 x5 0 x226000 x226001 x226002 x226003 x226004 x226005 x226006 x226007 x226008 x226009) else (if x19 = 3 then (spec_Follows.l1 k x0 x5 0 x226000 x226001 x226002 x226003 x226004 x226005 x226006 x226007 x226008 x226009) else (some x5))
def spec_Follows.l0 : Nat → List (S29) → List (S29) → Int → Int → Int → Int → Int → Int → Int → Int → Int → Int → Int → Option ((List (S29)))
 | 0, _, _, _, _, _, _, _, _, _, _, _, _, _ => none
 | k + 1, x0, x5, x6, x226000, x226001, x226002, x226003, x226004, x226005, x226006, x226007, x226008, x226009 => if x6 < (x0.length : Int) then (if 0 ≤ x6 then (if (((rd_T29 x0 x6).f0.f0) == x226004 && (((rd_T29 x0 x6).f0.f1) == x226005)) = true then (if x226000 = 2 then ((spec_l06Put.f k x5 x226001 x226002 ((rd_T29 x0 x6).f1)).bind fun t238 => (spec_Follows.l0 k x0 t238 (wrap64 (x6 + 1)) x226000 x226001 x226002 x226003 x226004 x226005 x226006 x226007 x226008 x226009)) else ((spec_l06Has.f k x0 x226006 x226007 ((rd_T29 x0 x6).f1)).bind fun t241 => (if t241 = true then ((spec_l06Put.f k x5 x226001 x226002 ((rd_T29 x0 x6).f1)).bind fun t242 => (spec_Follows.l0 k x0 t242 (wrap64 (x6 + 1)) x226000 x226001 x226002 x226003 x226004 x226005 x226006 x226007 x226008 x226009)) else (spec_Follows.l0 k x0 x5 (wrap64 (x6 + 1)) x226000 x226001 x226002 x226003 x226004 x226005 x226006 x226007 x226008 x226009)))) else (spec_Follows.l0 k x0 x5 (wrap64 (x6 + 1)) x226000 x226001 x226002 x226003 x226004 x226005 x226006 x226007 x226008 x226009)) else (none)) else (some x5)
def spec_Follows.l1 : Nat → List (S29) → List (S29) → Int → Int → Int → Int → Int → Int → Int → Int → Int → Int → Int → Option ((List (S29)))
 | 0, _, _, _, _, _, _, _, _, _, _, _, _, _ => none
 | k + 1, x0, x5, x8, x226000, x226001, x226002, x226003, x226004, x226005, x226006, x226007, x226008, x226009 => if x8 < (x0.length : Int) then (if 0 ≤ x8 then (if (!(((rd_T29 x0 x8).f0.f0) == x226004) || (!(((rd_T29 x0 x8).f0.f1) == x226005))) = true then (spec_Follows.l1 k x0 x5 (wrap64 (x8 + 1)) x226000 x226001 x226002 x226003 x226004 x226005 x226006 x226007 x226008 x226009) else (spec_Follows.l2 k x0 x5 x8 0 x226000 x226001 x226002 x226003 x226004 x226005 x226006 x226007 x226008 x226009 ((rd_T29 x0 x8).f1) x226007)) else (none)) else (some x5)
def spec_Follows.l2 : Nat → List (S29) → List (S29) → Int → Int → Int → Int → Int → Int → Int → Int → Int → Int → Int → Int → Int → Int → Option ((List (S29)))
 | 0, _, _, _, _, _, _, _, _, _, _, _, _, _, _, _, _ => none
 | k + 1, x0, x5, x8, x10, x226000, x226001, x226002, x226003, x226004, x226005, x226006, x226007, x226008, x226009, x248000, x248001 => if x10 < (x0.length : Int) then (if 0 ≤ x10 then (if (((rd_T29 x0 x10).f0.f0) == x248000 && (((rd_T29 x0 x10).f0.f1) == x248001)) = true then ((spec_l06Put.f k x5 x226001 x226002 ((rd_T29 x0 x10).f1)).bind fun t250 => (spec_Follows.l2 k x0 t250 x8 (wrap64 (x10 + 1)) x226000 x226001 x226002 x226003 x226004 x226005 x226006 x226007 x226008 x226009 x248000 x248001)) else (spec_Follows.l2 k x0 x5 x8 (wrap64 (x10 + 1)) x226000 x226001 x226002 x226003 x226004 x226005 x226006 x226007 x226008 x226009 x248000 x248001)) else (none)) else (spec_Follows.l1 k x0 x5 (wrap64 (x8 + 1)) x226000 x226001 x226002 x226003 x226004 x226005 x226006 x226007 x226008 x226009)
end
def spec_Follows.f (k : Nat) (l0 : List (S29)) (a1_0 : Int) (a1_1 : Int) (a1_2 : Int) (a1_3 : Int) (a1_4 : Int) (a1_5 : Int) (a1_6 : Int) (a1_7 : Int) (a1_8 : Int) (a1_9 : Int) : Option ((List (S29))) := (some (([] : List (S29)) : List (S29))).bind fun y226 => (if y226.length + l0.length < 5864062014805 then ((some (y226 ++ l0 : List (S29))).bind fun y229 => ((spec_CredOk.f k a1_0 a1_1 a1_2 a1_3 a1_4 a1_5 a1_6 a1_7 a1_8 a1_9).bind fun t232 => (if t232 = true then (if a1_0 = 1 then ((spec_l06Put.f k y229 a1_1 a1_2 a1_3).bind fun t233 => (some t233)) else (if a1_0 = 2 then (spec_Follows.j0 k l0 y229 a1_0 (a1_0 == 2) a1_0 a1_1 a1_2 a1_3 a1_4 a1_5 a1_6 a1_7 a1_8 a1_9) else (spec_Follows.j0 k l0 y229 a1_0 (a1_0 == 4) a1_0 a1_1 a1_2 a1_3 a1_4 a1_5 a1_6 a1_7 a1_8 a1_9))) else (some y229)))) else (none))
def spec_Follows.T19 : Bool × List (List Nat × List Nat) := (true, [([], []), ([], []), ([0, 1], [0, 1]), ([2], [2]), ([3], [3]), ([], []), ([5], [5]), ([4, 6], [4, 6])])
def spec_Follows.B19 : List Nat := [0, 0, 3, 7, 15, 0, 32, 127]
theorem spec_Follows.tab19 : rtab .any (opsOf Try.f35 19) = spec_Follows.T19 := by kernel_rfl
theorem spec_Follows.bits19 : waitsOk spec_Follows.T19.2 spec_Follows.B19 = true := by kernel_rfl
def spec_Follows.T20 : Bool × List (List Nat × List Nat) := (true, [([], []), ([], []), ([0, 1], [0, 1]), ([2], [2]), ([3], [3]), ([], []), ([5], [5]), ([6], [6]), ([4, 7], [4, 7]), ([], []), ([9, 8, 0, 1, 2, 3, 4, 5, 6, 7, 8, 9], [8, 9])])
def spec_Follows.B20 : List Nat := [0, 0, 3, 7, 15, 0, 32, 96, 255, 0, 1023]
theorem spec_Follows.tab20 : rtab .any (opsOf Try.f35 20) = spec_Follows.T20 := by kernel_rfl
theorem spec_Follows.bits20 : waitsOk spec_Follows.T20.2 spec_Follows.B20 = true := by kernel_rfl
def spec_Follows.T25 : Bool × List (List Nat × List Nat) := (true, [([], []), ([], []), ([1], [1]), ([], []), ([], []), ([3, 4], [3, 4]), ([5], [5]), ([6], [6]), ([2, 7], [2, 7]), ([0, 8], [0, 8]), ([9, 9, 0, 1, 2, 3, 4, 5, 6, 7, 8, 9], [0, 9])])
def spec_Follows.B25 : List Nat := [0, 0, 2, 0, 0, 24, 56, 120, 254, 511, 1023]
theorem spec_Follows.tab25 : rtab .any (opsOf Try.f35 25) = spec_Follows.T25 := by kernel_rfl
theorem spec_Follows.bits25 : waitsOk spec_Follows.T25.2 spec_Follows.B25 = true := by kernel_rfl
set_option maxHeartbeats 8000000 in
set_option maxRecDepth 100000 in
theorem spec_Follows.calls (k : Nat) (A0 : Option Addr) (c0 : Nat) (l0 : List (S29)) (a1_0 : Int) (a1_1 : Int) (a1_2 : Int) (a1_3 : Int) (a1_4 : Int) (a1_5 : Int) (a1_6 : Int) (a1_7 : Int) (a1_8 : Int) (a1_9 : Int) (r : List (S29)) (w : World) (hr0 : Kd.C k29 w A0 l0.length l0) (hc0 : l0.length ≤ c0) (h : spec_Follows.f k l0 a1_0 a1_1 a1_2 a1_3 a1_4 a1_5 a1_6 a1_7 a1_8 a1_9 = some r) :
  Calls Try.prog 35 #[.slice A0 l0.length c0, .agg #[.int .i64 a1_0, .int .i64 a1_1, .int .i64 a1_2, .int .i64 a1_3, .int .i64 a1_4, .int .i64 a1_5, .int .i64 a1_6, .int .i64 a1_7, .int .i64 a1_8, .int .i64 a1_9]] w fun e w' => ∃ v0_ : Value, e = .returned (v0_) ∧ Kd.R k29 29 w' w.heap.size (fun _ => True) v0_ r ∧ Below w.heap.size w w' := by
 have hu46 := Try.underlying46
 have hu27 := Try.underlying27
 have hu29 := Try.underlying29
 have HR0 := aa_ hr0
 have HC0 := aa_ hc0
 clear hr0 hc0
 have HB := aa_ (Below.refl w.heap.size w)
 have H : ((some (([] : List (S29)) : List (S29))).bind fun y226 => (if y226.length + l0.length < 5864062014805 then ((some (y226 ++ l0 : List (S29))).bind fun y229 => ((spec_CredOk.f k a1_0 a1_1 a1_2 a1_3 a1_4 a1_5 a1_6 a1_7 a1_8 a1_9).bind fun t232 => (if t232 = true then (if a1_0 = 1 then ((spec_l06Put.f k y229 a1_1 a1_2 a1_3).bind fun t233 => (some t233)) else (if a1_0 = 2 then (spec_Follows.j0 k l0 y229 a1_0 (a1_0 == 2) a1_0 a1_1 a1_2 a1_3 a1_4 a1_5 a1_6 a1_7 a1_8 a1_9) else (spec_Follows.j0 k l0 y229 a1_0 (a1_0 == 4) a1_0 a1_1 a1_2 a1_3 a1_4 a1_5 a1_6 a1_7 a1_8 a1_9))) else (some y229)))) else (none))) = some r := h
 clear h
 obtain ⟨y226, hy226⟩ : ∃ y_ : List (S29), y_ = (([] : List (S29))) := ⟨_, rfl⟩
 replace H : (if y226.length + l0.length < 5864062014805 then ((some (y226 ++ l0 : List (S29))).bind fun y229 => ((spec_CredOk.f k a1_0 a1_1 a1_2 a1_3 a1_4 a1_5 a1_6 a1_7 a1_8 a1_9).bind fun t232 => (if t232 = true then (if a1_0 = 1 then ((spec_l06Put.f k y229 a1_1 a1_2 a1_3).bind fun t233 => (some t233)) else (if a1_0 = 2 then (spec_Follows.j0 k l0 y229 a1_0 (a1_0 == 2) a1_0 a1_1 a1_2 a1_3 a1_4 a1_5 a1_6 a1_7 a1_8 a1_9) else (spec_Follows.j0 k l0 y229 a1_0 (a1_0 == 4) a1_0 a1_1 a1_2 a1_3 a1_4 a1_5 a1_6 a1_7 a1_8 a1_9))) else (some y229)))) else (none)) = some r := rh_ hy226 H
 have Ny226 := aa_ hy226
 clear hy226
 obtain ⟨c3, H⟩ := ifn_ H
 have LMc3 := aa_ c3
 clear c3
 obtain ⟨y229, hy229⟩ : ∃ y_ : List (S29), y_ = (y226 ++ l0) := ⟨_, rfl⟩
 replace H : ((spec_CredOk.f k a1_0 a1_1 a1_2 a1_3 a1_4 a1_5 a1_6 a1_7 a1_8 a1_9).bind fun t232 => (if t232 = true then (if a1_0 = 1 then ((spec_l06Put.f k y229 a1_1 a1_2 a1_3).bind fun t233 => (some t233)) else (if a1_0 = 2 then (spec_Follows.j0 k l0 y229 a1_0 (a1_0 == 2) a1_0 a1_1 a1_2 a1_3 a1_4 a1_5 a1_6 a1_7 a1_8 a1_9) else (spec_Follows.j0 k l0 y229 a1_0 (a1_0 == 4) a1_0 a1_1 a1_2 a1_3 a1_4 a1_5 a1_6 a1_7 a1_8 a1_9))) else (some y229))) = some r := rh_ hy229 H
 have Ny229 := aa_ hy229
 clear hy229
 obtain ⟨t232, A4, H⟩ := bindE_ H
 have HC5 := aa_ H
 clear H
 go_enter Try.func35, Try.ntmps35
 go_upto_if 16 with (first | ((with_reducible refine gD_ 3 rfl ?_); refine bx_ (N := 3) (cs := #[.int .i64 a1_0, .int .i64 a1_1, .int .i64 a1_2, .int .i64 a1_3, .int .i64 a1_4, .int .i64 a1_5, .int .i64 a1_6, .int .i64 a1_7, .int .i64 a1_8, .int .i64 a1_9]) (t := 46) ?_; intro gb225 hg w6 hbox hb; have BK225 := aa_ (hbox); have GW225 := gs_ hg; have GE225 := gs_ hg; replace HB := hbs_ hb; clear hb hbox hg) | ((with_reducible refine gD_ 11 rfl ?_); refine Kd.R_lit k29 _ 29 ?hg (N := 11) ?hd (xs := ([] : List (S29))) (inner := []) (ok := fun _ => True) (okp := fun _ => True) ?hr ?hp (fun _ hk => hk) trivial (Below.refl _ _) (Nat.le_refl _) (by simp) ?_; (case hd => rfl); (case hg => rfl); (case hr => first | (go_simp; done) | (go_simp; rfl)); (case hp => exact (Reps.none _ _)); intro v227 w7 ho8 hb hg_ hnew_; clear hg_ hnew_; (first | rw [← Ny226.out] at ho8 | (simp only [Int.reduceToNat] at ho8; rw [← Ny226.out] at ho8)); have HO228 := aa_ (Kd.R_lower ho8 bls_); replace BK225 := bkb_ BK225 hb; replace HB := hbs_ hb; clear hb ho8) | ((with_reducible refine gate_builtin (b := .append) (xs := #[.tmp 11, .tmp 12]) rfl ?_); at_builtin; refine Kd.R_append_rows k29 (w0 := w) w.heap.size rfl (.tmp 11) (.tmp 12) 53 29 (.agg #[(.int .i64 0), (.int .i64 0), (.int .i64 0)]) 24 rfl Try.underlying53 info29 rfl (by decide) (by omega) v227 y226 l0 _ _ _ (fun _ => True) (fun _ => False) rfl rfl ?aO ?aR (fun _ _ h => h) (fun _ h => h.elim) ?aF ?aB ?aS ?aL ?_; (case aR => repeat (first | exact (Kd.C_below HR0.out HB.out) | (with_reducible refine Kd.C_alloc ?_ _) | (with_reducible refine Kd.C_drewN ?_ _) | (with_reducible refine Kd.C_drew ?_))); (case aB => exact bl_); (case aF => exact (fun _ _ => trivial)); (case aO => exact (rr_ HO228)); (case aS => exact bls_); (case aL => have := LMc3.out; omega); intro v230 w9 ho hb hg hat; rw [← Ny229.out] at ho; replace BK225 := aa_ (blk_grown (g := gb225) (o := .cells #[.int .i64 a1_0, .int .i64 a1_1, .int .i64 a1_2, .int .i64 a1_3, .int .i64 a1_4, .int .i64 a1_5, .int .i64 a1_6, .int .i64 a1_7, .int .i64 a1_8, .int .i64 a1_9] 46 (0, 0)) (bk_ BK225) hg (Kd.R_ne HO228.out BK225.out (by decide))); replace HB := aa_ (hb); have HO231 := aa_ (ho); clear HO228; clear ho hb hg hat; obtain ⟨hcz10, hfz10⟩ := bcf_ BK225) | ((with_reducible refine gC_ 45 rfl ?_); refine goesC_ (some 15) Try.func45 #[.agg #[.int .i64 a1_0, .int .i64 a1_1, .int .i64 a1_2, .int .i64 a1_3, .int .i64 a1_4, .int .i64 a1_5, .int .i64 a1_6, .int .i64 a1_7, .int .i64 a1_8, .int .i64 a1_9]] ?_; (with_reducible refine (spec_CredOk.calls k a1_0 a1_1 a1_2 a1_3 a1_4 a1_5 a1_6 a1_7 a1_8 a1_9 t232 _ A4.out).mono ?_); rintro e w11 ⟨rfl, hb⟩; refine ⟨_, rfl, ?_⟩; replace HO231 := hob_ HO231 hb; replace BK225 := bkb_ BK225 hb; replace HB := hbs_ hb; clear hb))
 (try simp only [Act.put, List.setIfInBounds_toArray, List.set_cons_zero, List.set_cons_succ])
 have H := HC5.out
 clear HC5
 by_cases c12 : t232 = true
 ·subst c12
  replace H := ite_t_ H
  by_cases c13 : a1_0 = 1
  ·rw [if_pos c13] at H
   have c13b0 : (a1_0 == 1) = true := beq_iff_eq.mpr c13
   have c13b1 : (a1_0 != 1) = false := bne_eq_false_iff_eq.mpr c13
   clear c13
   (first | rw [c13b0] | (simp only [i64_w, i32_w]; rw [c13b0]) | skip)
   obtain ⟨t233, A14, H⟩ := bindE_ H
   obtain rfl := Option.some.inj H
   have hcz15 := blk_cell BK225.out
   have hfz15 := blk_frozen BK225.out
   obtain ⟨Ao16, co16, eo16⟩ := Kd.R_slice HO231.out
   subst eo16
   go_wp2_with (first | ((with_reducible refine gC_ 46 rfl ?_); refine goesC_ (some 28) Try.func46 #[.slice Ao16 y229.length co16, .agg #[.int .i64 a1_1, .int .i64 a1_2, .int .i64 a1_3]] ?_; (with_reducible refine (spec_l06Put.calls k (fun k_ => some k_ = (.slice Ao16 y229.length co16 : Value).ownBlock) (.slice Ao16 y229.length co16) y229 a1_1 a1_2 a1_3 t233 w _ ?side1 ?side2 A14.out).mono ?_); (case side1 => repeat (first | (with_reducible first | exact HB.out | apply below_alloc | apply pw_below_drewN | apply below_drew1 | refine below_set ?_ GE225.out) | exact HB.out)); (case side2 => exact Kd.R_tight rfl HO231.out); rintro e w17 ⟨v234, rfl, ho0, hb, hkp⟩; refine ⟨_, rfl, ?_⟩; replace BK225 := aa_ (blk_kept (bk_ BK225) hkp (fun hs_ => (fun e_ => (Kd.R_ne HO231.out BK225.out (by decide)) e_) hs_)); have HO235 := aa_ (Kd.R_mono (ok' := fun k_ => True) ho0 (fun k_ hk_ => trivial)); replace HB := aa_ (hb); clear HO231; (try clear hb hkp ho0)))
   go_ret
   exact ⟨_, eq_, by (with_reducible repeat (first | apply Kd.R_alloc | apply Kd.R_drewN | apply Kd.R_drew)); exact HO235.out, bl_⟩
  ·rw [if_neg c13] at H
   have c13b0 : (a1_0 == 1) = false := beq_eq_false_iff_ne.mpr c13
   have c13b1 : (a1_0 != 1) = true := bne_iff_ne.mpr c13
   (first | rw [c13b0] | (simp only [i64_w, i32_w]; rw [c13b0]) | skip)
   have HC18 := aa_ H
   clear H
   have hcz19 := blk_cell BK225.out
   have hfz19 := blk_frozen BK225.out
   go_upto_if 29 with (fail)
   go_cut [29] (fun v29 wc => ∃ (kq : Nat) (x29_17 : Bool), v29 = .bool x29_17 ∧ Aside0 (spec_Follows.j0 kq l0 y229 a1_0 x29_17 a1_0 a1_1 a1_2 a1_3 a1_4 a1_5 a1_6 a1_7 a1_8 a1_9 = some r) ∧ Aside0 (kq ≤ k) ∧ Aside0 (Kd.R k29 29 wc w.heap.size (fun _ => True) v230 y229) ∧ Aside0 (wc.heap[gb225]? = some (.cells #[.int .i64 a1_0, .int .i64 a1_1, .int .i64 a1_2, .int .i64 a1_3, .int .i64 a1_4, .int .i64 a1_5, .int .i64 a1_6, .int .i64 a1_7, .int .i64 a1_8, .int .i64 a1_9] 46 (0, 0))) ∧ Aside0 (Below w.heap.size w wc))
   case first =>
    have H := HC18.out
    clear HC18
    by_cases c20 : a1_0 = 2
    ·rw [if_pos c20] at H
     have c20b0 : (a1_0 == 2) = true := beq_iff_eq.mpr c20
     have c20b1 : (a1_0 != 2) = false := bne_eq_false_iff_eq.mpr c20
     clear c20
     (first | rw [c20b0] | (simp only [i64_w, i32_w]; rw [c20b0]) | skip)
     have H' := aa_ H
     clear H
     go_wp2
     go_meet
     case rel => exact ⟨_, ((a1_0 == 2)), rf_, H', ⟨by first | omega | exact Nat.le_refl _⟩, ⟨rr_ HO231⟩, ⟨bk_ BK225⟩, ⟨bl_⟩⟩
    ·rw [if_neg c20] at H
     have c20b0 : (a1_0 == 2) = false := beq_eq_false_iff_ne.mpr c20
     have c20b1 : (a1_0 != 2) = true := bne_iff_ne.mpr c20
     (first | rw [c20b0] | (simp only [i64_w, i32_w]; rw [c20b0]) | skip)
     have H' := aa_ H
     clear H
     go_wp2
     go_meet
     case rel => exact ⟨_, ((a1_0 == 4)), rf_, H', ⟨by first | omega | exact Nat.le_refl _⟩, ⟨rr_ HO231⟩, ⟨bk_ BK225⟩, ⟨bl_⟩⟩
   case rest =>
    clear HC18
    try clear c1
    try clear c2
    try clear p2
    try clear c3
    try clear c4
    try clear c12
    try clear c13
    try clear c13b0
    try clear c13b1
    try clear c20
    try clear c20b0
    try clear c20b1
    try clear hcz10
    try clear hcz15
    try clear hcz19
    try clear hfz10
    try clear hfz15
    try clear hfz19
    obtain ⟨kq, x29_17, rfl, HA, HJ17, HO_5, BK225, HB⟩ := hcut
    cases kq with
    | zero => exact absurd HA.out (by simp [spec_Follows.j0])
    | succ kj17 =>
     have H := HA.out
     clear HA
     simp only [spec_Follows.j0] at H
     by_cases c21 : x29_17 = true
     ·subst c21
      replace H := ite_t_ H
      have H' := aa_ H
      clear H
      go_wp2
      go_loopg [5, 6] kj17 (fun kq v5 v6 w' => ∃ (x5_2 : List (S29)) (x6_2 : Int), v6 = .int .i64 x6_2 ∧ Aside0 (spec_Follows.l0 kq l0 x5_2 x6_2 a1_0 a1_1 a1_2 a1_3 a1_4 a1_5 a1_6 a1_7 a1_8 a1_9 = some r) ∧ Aside0 (kq ≤ kj17) ∧ Aside0 (Kd.R k29 29 w' w.heap.size (fun _ => True) v5 x5_2) ∧ Aside0 (w'.heap[gb225]? = some (.cells #[.int .i64 a1_0, .int .i64 a1_1, .int .i64 a1_2, .int .i64 a1_3, .int .i64 a1_4, .int .i64 a1_5, .int .i64 a1_6, .int .i64 a1_7, .int .i64 a1_8, .int .i64 a1_9] 46 (0, 0))) ∧ Aside0 (Below w.heap.size w w'))
      case atStart => exact ⟨(y229), (0), rf_, H', ⟨Nat.le_refl _⟩, ⟨rr_ HO_5⟩, ⟨bk_ BK225⟩, ⟨bl_⟩⟩
      case round =>
       clear H'
       try clear c1
       try clear c2
       try clear p2
       try clear c3
       try clear c4
       try clear c12
       try clear c13
       try clear c13b0
       try clear c13b1
       try clear c20
       try clear c20b0
       try clear c20b1
       try clear c21
       try clear hcz10
       try clear hcz15
       try clear hcz19
       try clear hfz10
       try clear hfz15
       try clear hfz19
       try clear p2
       obtain ⟨x5_2, x6_2, rfl, HA, HK2, HO_5, BK225, HB⟩ := hrel
       cases gk with
       | zero => exact absurd HA.out (by simp [spec_Follows.l0])
       | succ k2 =>
        have H := HA.out
        clear HA
        simp only [spec_Follows.l0] at H
        by_cases c22 : x6_2 < (l0.length : Int)
        ·rw [if_pos c22] at H
         have c22b0 : decide (x6_2 < (l0.length : Int)) = true := decide_eq_true c22
         clear c22
         obtain ⟨c23b0, H⟩ := ifd_ H
         by_cases c24 : (((rd_T29 l0 x6_2).f0.f0) == a1_4 && (((rd_T29 l0 x6_2).f0.f1) == a1_5)) = true
         ·rw [if_pos c24] at H
          have c24b0 : (((rd_T29 l0 x6_2).f0.f0) == a1_4 && (((rd_T29 l0 x6_2).f0.f1) == a1_5)) = true := c24
          (try (have c24b1 : decide (((rd_T29 l0 x6_2).f0.f0) = a1_4 && (((rd_T29 l0 x6_2).f0.f1) == a1_5)) = true := by simpa using c24))
          (try (have c24b2 : (((rd_T29 l0 x6_2).f0.f0) == a1_4 && (((rd_T29 l0 x6_2).f0.f1) == a1_5)) = true := by simpa using c24))
          clear c24
          by_cases c25 : a1_0 = 2
          ·rw [if_pos c25] at H
           have c25b0 : (a1_0 == 2) = true := beq_iff_eq.mpr c25
           have c25b1 : (a1_0 != 2) = false := bne_eq_false_iff_eq.mpr c25
           clear c25
           obtain ⟨t238, A26, H⟩ := bindE_ H
           have H' := aa_ H
           clear H
           have p236 : 0 ≤ (x6_2 : Int) := od_
           have q236 : x6_2 < (l0.length : Int) := od_
           obtain ⟨ad236, e236, hx236_0, hx236_1, hx236_2⟩ := at_T29 (Kd.C_below HR0.out HB.out) x6_2 p236 q236
           cases e236
           replace p236 := eq_true p236
           replace q236 := eq_true q236
           go_wp2_with (first | ((with_reducible refine gD_ 7 rfl ?_); refine bx_ (N := 7) (cs := #[.int .i64 0, .int .i64 0, .int .i64 0]) (t := 29) ?_; intro gb237 hg w27 hbox hb; replace HO_5 := aa_ (Kd.R_below (Kd.R_elderB (rr_ HO_5) gb237 (Nat.le_of_eq hg.symm)) hb); have BK237 := aa_ (hbox); have GW237 := gs_ hg; have GE237 := gs_ hg; replace HB := hbs_ hb; have NB225_237 := nl_ hg BK225; have NB237_225 := nr_ hg BK225; replace BK225 := bkb_ BK225 hb; clear hb hbox hg; have hnb28 := NB237_225.out; have hnc28 := NB225_237.out; obtain ⟨hcz29, hfz29⟩ := bcf_ BK237) | ((with_reducible refine gate_store (t := 29) (p := 7) rfl ?_); refine store_event (t := 29) (p := 7) (v := ?vo_w30) (w1 := (((w27.setCell ⟨gb237, 0, none⟩ (.int .i64 ((rd_T29 l0 x6_2).f0.f0))).setCell ⟨gb237, 1, none⟩ (.int .i64 ((rd_T29 l0 x6_2).f0.f1))).setCell ⟨gb237, 2, none⟩ (.int .i64 ((rd_T29 l0 x6_2).f1)))) ?hg ?ho ?hn ?hr ?_; (case ho => rfl); (case hg => rfl); (case hn => rfl); (case hr => first | (go_simp; done) | (go_simp; rfl)); intro w30 hw; have n0_ : Aside0 (Kd.R k29 29 w30 w.heap.size (fun k_ => k_ ≠ gb237) u5 x5_2) := ⟨(by rw [hw]; exact (by (with_reducible repeat (first | apply Kd.R_alloc | apply Kd.R_drewN | apply Kd.R_drew)); exact Kd.R_mono (fr3_ (Kd.R_mono HO_5.out (fun k_ hk => (⟨hk, hk.2⟩ : _ ∧ k_ ≠ gb237))) (fun _ hk => hk.2)) (fun _ hk => hk.1.2)))⟩; have n1_ : Aside0 (w30.heap[gb225]? = some (.cells #[.int .i64 a1_0, .int .i64 a1_1, .int .i64 a1_2, .int .i64 a1_3, .int .i64 a1_4, .int .i64 a1_5, .int .i64 a1_6, .int .i64 a1_7, .int .i64 a1_8, .int .i64 a1_9] 46 (0, 0))) := ⟨(by rw [hw]; exact (bk_ BK225))⟩; have n2_ : Aside0 (w30.heap[gb237]? = some (.cells #[.int .i64 ((rd_T29 l0 x6_2).f0.f0), .int .i64 ((rd_T29 l0 x6_2).f0.f1), .int .i64 ((rd_T29 l0 x6_2).f1)] 29 (0, 0))) := ⟨(by rw [hw]; exact (bk_ BK237))⟩; have n3_ : Aside0 (Below w.heap.size w w30) := ⟨(by rw [hw]; exact bl_)⟩; clear hw; clear HO_5; clear BK225; clear BK237; clear HB; have HO_5 := n0_; have BK225 := n1_; have BK237 := n2_; have HB := n3_; clear n0_ n1_ n2_ n3_; obtain ⟨hcz31, hfz31⟩ := bcf_ BK237; obtain ⟨hcz32, hfz32⟩ := bcf_ BK225; obtain ⟨Ao33, co33, eo33⟩ := Kd.R_slice HO_5.out; subst eo33) | ((with_reducible refine gC_ 46 rfl ?_); refine goesC_ (some 67) Try.func46 #[.slice Ao33 x5_2.length co33, .agg #[.int .i64 a1_1, .int .i64 a1_2, .int .i64 ((rd_T29 l0 x6_2).f1)]] ?_; (with_reducible refine (spec_l06Put.calls k2 (fun k_ => some k_ = (.slice Ao33 x5_2.length co33 : Value).ownBlock) (.slice Ao33 x5_2.length co33) x5_2 a1_1 a1_2 ((rd_T29 l0 x6_2).f1) t238 w _ ?side1 ?side2 A26.out).mono ?_); (case side1 => repeat (first | (with_reducible first | exact HB.out | apply below_alloc | apply pw_below_drewN | apply below_drew1 | refine below_set ?_ GE225.out | refine below_set ?_ GE237.out) | exact HB.out)); (case side2 => exact Kd.R_tight rfl HO_5.out); rintro e w34 ⟨v239, rfl, ho0, hb, hkp⟩; refine ⟨_, rfl, ?_⟩; replace BK225 := aa_ (blk_kept (bk_ BK225) hkp (fun hs_ => (fun e_ => (Kd.R_ne HO_5.out BK225.out (by decide)) e_) hs_)); have HO240 := aa_ (Kd.R_mono (ok' := fun k_ => k_ ≠ gb237) ho0 (fun k_ hk_ => Or.elim hk_ (fun hs_ => fun e_ => (Kd.R_away HO_5.out (fun _ hk => hk)) (by rw [← e_]; exact hs_)) (fun hn_ => (Kd.freshB (g := gb237) (o := .cells #[.int .i64 ((rd_T29 l0 x6_2).f0.f0), .int .i64 ((rd_T29 l0 x6_2).f0.f1), .int .i64 ((rd_T29 l0 x6_2).f1)] 29 (0, 0)) (bk_ BK237) k_ hn_)))); replace BK237 := aa_ (blk_kept (bk_ BK237) hkp (fun hs_ => (fun e_ => (Kd.R_away HO_5.out (fun _ hk => hk)) e_) hs_)); replace HB := aa_ (hb); clear HO_5; (try clear hb hkp ho0)))
           go_roundg k2
           case measure => have := HJ17.out; have := HK2.out; omega
           case rel => exact ⟨(t238), (wrap64 (x6_2 + 1)), rf_, H', ⟨by have := HJ17.out; have := HK2.out; omega⟩, ⟨by (with_reducible repeat (first | apply Kd.R_alloc | apply Kd.R_drewN | apply Kd.R_drew)); exact Kd.R_mono HO240.out (fun _ hk => trivial)⟩, ⟨bk_ BK225⟩, ⟨bl_⟩⟩
          ·rw [if_neg c25] at H
           have c25b0 : (a1_0 == 2) = false := beq_eq_false_iff_ne.mpr c25
           have c25b1 : (a1_0 != 2) = true := bne_iff_ne.mpr c25
           obtain ⟨t241, A35, H⟩ := bindE_ H
           have HC36 := aa_ H
           clear H
           have p236 : 0 ≤ (x6_2 : Int) := od_
           have q236 : x6_2 < (l0.length : Int) := od_
           obtain ⟨ad236, e236, hx236_0, hx236_1, hx236_2⟩ := at_T29 (Kd.C_below HR0.out HB.out) x6_2 p236 q236
           cases e236
           replace p236 := eq_true p236
           replace q236 := eq_true q236
           go_upto_if 60 with (first | ((with_reducible refine gD_ 7 rfl ?_); refine bx_ (N := 7) (cs := #[.int .i64 0, .int .i64 0, .int .i64 0]) (t := 29) ?_; intro gb237 hg w37 hbox hb; replace HO_5 := aa_ (Kd.R_below (Kd.R_elderB (rr_ HO_5) gb237 (Nat.le_of_eq hg.symm)) hb); have BK237 := aa_ (hbox); have GW237 := gs_ hg; have GE237 := gs_ hg; replace HB := hbs_ hb; have NB225_237 := nl_ hg BK225; have NB237_225 := nr_ hg BK225; replace BK225 := bkb_ BK225 hb; clear hb hbox hg; have hnb38 := NB237_225.out; have hnc38 := NB225_237.out; obtain ⟨hcz39, hfz39⟩ := bcf_ BK237; obtain ⟨hcz40, hfz40⟩ := bcf_ BK225) | (go_at_call 26; (with_reducible refine (spec_l06Has.calls k2 _ _ l0 a1_6 a1_7 ((rd_T29 l0 x6_2).f1) t241 _ ?side1 ?side2 A35.out).mono ?_); (case side1 => exact Kd.C_below HR0.out bl_); (case side2 => exact HC0.out); rintro e w41 ⟨rfl, hb⟩; replace HO_5 := aa_ (Kd.R_below (by (with_reducible repeat (first | apply Kd.R_alloc | apply Kd.R_drewN | apply Kd.R_drew)); exact (Kd.R_mono (fr3_ (Kd.R_mono HO_5.out (fun k_ hk => (⟨hk, hk.2⟩ : _ ∧ k_ ≠ gb237))) (fun _ hk => hk.2)) (fun _ h_ => h_.1))) hb); replace BK225 := aa_ (blk_below (g := gb225) (o := .cells #[.int .i64 a1_0, .int .i64 a1_1, .int .i64 a1_2, .int .i64 a1_3, .int .i64 a1_4, .int .i64 a1_5, .int .i64 a1_6, .int .i64 a1_7, .int .i64 a1_8, .int .i64 a1_9] 46 (0, 0)) (bk_ BK225) hb); replace BK237 := aa_ (blk_below (g := gb237) (o := .cells #[.int .i64 ((rd_T29 l0 x6_2).f0.f0), .int .i64 ((rd_T29 l0 x6_2).f0.f1), .int .i64 ((rd_T29 l0 x6_2).f1)] 29 (0, 0)) (bk_ BK237) hb); replace HB := hbs_ hb; clear hb))
           (try simp only [Act.put, List.setIfInBounds_toArray, List.set_cons_zero, List.set_cons_succ])
           have H := HC36.out
           clear HC36
           by_cases c42 : t241 = true
           ·subst c42
            replace H := ite_t_ H
            obtain ⟨t242, A43, H⟩ := bindE_ H
            have H' := aa_ H
            clear H
            have hnb44 := NB225_237.out
            have hnc44 := NB237_225.out
            have hcz45 := blk_cell BK225.out
            have hfz45 := blk_frozen BK225.out
            have hcz46 := blk_cell BK237.out
            have hfz46 := blk_frozen BK237.out
            obtain ⟨Ao47, co47, eo47⟩ := Kd.R_slice HO_5.out
            subst eo47
            go_wp2_with (first | ((with_reducible refine gC_ 46 rfl ?_); refine goesC_ (some 67) Try.func46 #[.slice Ao47 x5_2.length co47, .agg #[.int .i64 a1_1, .int .i64 a1_2, .int .i64 ((rd_T29 l0 x6_2).f1)]] ?_; (with_reducible refine (spec_l06Put.calls k2 (fun k_ => some k_ = (.slice Ao47 x5_2.length co47 : Value).ownBlock) (.slice Ao47 x5_2.length co47) x5_2 a1_1 a1_2 ((rd_T29 l0 x6_2).f1) t242 w _ ?side1 ?side2 A43.out).mono ?_); (case side1 => repeat (first | (with_reducible first | exact HB.out | apply below_alloc | apply pw_below_drewN | apply below_drew1 | refine below_set ?_ GE225.out | refine below_set ?_ GE237.out) | exact HB.out)); (case side2 => exact Kd.R_tight rfl HO_5.out); rintro e w48 ⟨v243, rfl, ho0, hb, hkp⟩; refine ⟨_, rfl, ?_⟩; replace BK225 := aa_ (blk_kept (bk_ BK225) hkp (fun hs_ => (fun e_ => (Kd.R_ne HO_5.out BK225.out (by decide)) e_) hs_)); have HO244 := aa_ (Kd.R_mono (ok' := fun k_ => k_ ≠ gb237) ho0 (fun k_ hk_ => Or.elim hk_ (fun hs_ => fun e_ => (Kd.R_away HO_5.out (fun _ hk => hk.2)) (by rw [← e_]; exact hs_)) (fun hn_ => (Kd.freshB (g := gb237) (o := .cells #[.int .i64 ((rd_T29 l0 x6_2).f0.f0), .int .i64 ((rd_T29 l0 x6_2).f0.f1), .int .i64 ((rd_T29 l0 x6_2).f1)] 29 (0, 0)) (bk_ BK237) k_ hn_)))); replace BK237 := aa_ (blk_kept (bk_ BK237) hkp (fun hs_ => (fun e_ => (Kd.R_away HO_5.out (fun _ hk => hk.2)) e_) hs_)); replace HB := aa_ (hb); clear HO_5; (try clear hb hkp ho0)))
            go_roundg k2
            case measure => have := HJ17.out; have := HK2.out; omega
            case rel => exact ⟨(t242), (wrap64 (x6_2 + 1)), rf_, H', ⟨by have := HJ17.out; have := HK2.out; omega⟩, ⟨by (with_reducible repeat (first | apply Kd.R_alloc | apply Kd.R_drewN | apply Kd.R_drew)); exact Kd.R_mono HO244.out (fun _ hk => trivial)⟩, ⟨bk_ BK225⟩, ⟨bl_⟩⟩
           ·replace c42 := Bool.eq_false_iff.mpr c42
            subst c42
            replace H := ite_f_ H
            have H' := aa_ H
            clear H
            go_wp2
            go_roundg k2
            case measure => have := HJ17.out; have := HK2.out; omega
            case rel => exact ⟨(x5_2), (wrap64 (x6_2 + 1)), rf_, H', ⟨by have := HJ17.out; have := HK2.out; omega⟩, ⟨by (with_reducible repeat (first | apply Kd.R_alloc | apply Kd.R_drewN | apply Kd.R_drew)); exact Kd.R_mono HO_5.out (fun _ hk => trivial)⟩, ⟨bk_ BK225⟩, ⟨bl_⟩⟩
         ·rw [if_neg c24] at H
          have c24b0 : (((rd_T29 l0 x6_2).f0.f0) == a1_4 && (((rd_T29 l0 x6_2).f0.f1) == a1_5)) = false := by simpa using c24
          (try (have c24b1 : decide (((rd_T29 l0 x6_2).f0.f0) = a1_4 && (((rd_T29 l0 x6_2).f0.f1) == a1_5)) = false := by simpa using c24))
          (try (have c24b2 : (((rd_T29 l0 x6_2).f0.f0) == a1_4 && (((rd_T29 l0 x6_2).f0.f1) == a1_5)) = false := by simpa using c24))
          (try (have c24b3 : ¬ (((rd_T29 l0 x6_2).f0.f0) = a1_4 && (((rd_T29 l0 x6_2).f0.f1) == a1_5)) := by simpa using c24))
          clear c24
          have H' := aa_ H
          clear H
          have p236 : 0 ≤ (x6_2 : Int) := od_
          have q236 : x6_2 < (l0.length : Int) := od_
          obtain ⟨ad236, e236, hx236_0, hx236_1, hx236_2⟩ := at_T29 (Kd.C_below HR0.out HB.out) x6_2 p236 q236
          cases e236
          replace p236 := eq_true p236
          replace q236 := eq_true q236
          go_wp2_with (first | ((with_reducible refine gD_ 7 rfl ?_); refine bx_ (N := 7) (cs := #[.int .i64 0, .int .i64 0, .int .i64 0]) (t := 29) ?_; intro gb237 hg w49 hbox hb; replace HO_5 := aa_ (Kd.R_below (Kd.R_elderB (rr_ HO_5) gb237 (Nat.le_of_eq hg.symm)) hb); have BK237 := aa_ (hbox); have GW237 := gs_ hg; have GE237 := gs_ hg; replace HB := hbs_ hb; have NB225_237 := nl_ hg BK225; have NB237_225 := nr_ hg BK225; replace BK225 := bkb_ BK225 hb; clear hb hbox hg; have hnb50 := NB237_225.out; have hnc50 := NB225_237.out; obtain ⟨hcz51, hfz51⟩ := bcf_ BK237; obtain ⟨hcz52, hfz52⟩ := bcf_ BK225))
          go_roundg k2
          case measure => have := HJ17.out; have := HK2.out; omega
          case rel => exact ⟨(x5_2), (wrap64 (x6_2 + 1)), rf_, H', ⟨by have := HJ17.out; have := HK2.out; omega⟩, ⟨by (with_reducible repeat (first | apply Kd.R_alloc | apply Kd.R_drewN | apply Kd.R_drew)); exact Kd.R_mono (fr3_ (Kd.R_mono HO_5.out (fun k_ hk => (⟨hk, hk.2⟩ : _ ∧ k_ ≠ gb237))) (fun _ hk => hk.2)) (fun _ hk => trivial)⟩, ⟨bk_ BK225⟩, ⟨bl_⟩⟩
        ·rw [if_neg c22] at H
         have c22b0 : decide (x6_2 < (l0.length : Int)) = false := decide_eq_false c22
         clear c22
         obtain rfl := Option.some.inj H
         go_wp2
         go_ret
         exact ⟨_, eq_, by (with_reducible repeat (first | apply Kd.R_alloc | apply Kd.R_drewN | apply Kd.R_drew)); exact HO_5.out, bl_⟩
     ·replace c21 := Bool.eq_false_iff.mpr c21
      subst c21
      replace H := ite_f_ H
      by_cases c53 : a1_0 = 3
      ·rw [if_pos c53] at H
       have c53b0 : (a1_0 == 3) = true := beq_iff_eq.mpr c53
       have c53b1 : (a1_0 != 3) = false := bne_eq_false_iff_eq.mpr c53
       clear c53
       have H' := aa_ H
       clear H
       go_wp2
       go_loopg [5, 8] kj17 (fun kq v5 v8 w' => ∃ (x5_2 : List (S29)) (x8_2 : Int), v8 = .int .i64 x8_2 ∧ Aside0 (spec_Follows.l1 kq l0 x5_2 x8_2 a1_0 a1_1 a1_2 a1_3 a1_4 a1_5 a1_6 a1_7 a1_8 a1_9 = some r) ∧ Aside0 (kq ≤ kj17) ∧ Aside0 (Kd.R k29 29 w' w.heap.size (fun _ => True) v5 x5_2) ∧ Aside0 (w'.heap[gb225]? = some (.cells #[.int .i64 a1_0, .int .i64 a1_1, .int .i64 a1_2, .int .i64 a1_3, .int .i64 a1_4, .int .i64 a1_5, .int .i64 a1_6, .int .i64 a1_7, .int .i64 a1_8, .int .i64 a1_9] 46 (0, 0))) ∧ Aside0 (Below w.heap.size w w'))
       case atStart => exact ⟨(y229), (0), rf_, H', ⟨Nat.le_refl _⟩, ⟨rr_ HO_5⟩, ⟨bk_ BK225⟩, ⟨bl_⟩⟩
       case round =>
        clear H'
        try clear c1
        try clear c2
        try clear p2
        try clear q2
        try clear hx2
        try clear c3
        try clear c4
        try clear c5
        try clear p6
        try clear c12
        try clear c13
        try clear c13b0
        try clear c13b1
        try clear c20
        try clear c20b0
        try clear c20b1
        try clear c21
        try clear c22
        try clear c22b0
        try clear c23
        try clear c23b0
        try clear p23
        try clear q23
        try clear hx23
        try clear c24
        try clear c24b0
        try clear c24b1
        try clear c24b2
        try clear c25
        try clear c25b0
        try clear c25b1
        try clear c28
        try clear c35
        try clear c38
        try clear c42
        try clear c44
        try clear c45
        try clear c46
        try clear c50
        try clear c53
        try clear c53b0
        try clear c53b1
        try clear hcz10
        try clear hcz15
        try clear hcz19
        try clear hcz29
        try clear hcz31
        try clear hcz32
        try clear hcz39
        try clear hcz40
        try clear hcz45
        try clear hcz46
        try clear hcz51
        try clear hcz52
        try clear hfz10
        try clear hfz15
        try clear hfz19
        try clear hfz29
        try clear hfz31
        try clear hfz32
        try clear hfz39
        try clear hfz40
        try clear hfz45
        try clear hfz46
        try clear hfz51
        try clear hfz52
        try clear hx236_0
        try clear hx236_1
        try clear hx236_2
        try clear p2
        try clear p236
        try clear q236
        obtain ⟨x5_2, x8_2, rfl, HA, HK2, HO_5, BK225, HB⟩ := hrel
        cases gk with
        | zero => exact absurd HA.out (by simp [spec_Follows.l1])
        | succ k2 =>
         have H := HA.out
         clear HA
         simp only [spec_Follows.l1] at H
         by_cases c54 : x8_2 < (l0.length : Int)
         ·rw [if_pos c54] at H
          have c54b0 : decide (x8_2 < (l0.length : Int)) = true := decide_eq_true c54
          clear c54
          obtain ⟨c55b0, H⟩ := ifd_ H
          have HC56 := aa_ H
          clear H
          try go_wp2
          replace HO_5 := aa_ (Kd.R_drew HO_5.out)
          replace BK225 := aa_ (blk_drew BK225.out)
          replace HB := aa_ (below_drew1 HB.out)
          have p245 : 0 ≤ (x8_2 : Int) := od_
          have q245 : x8_2 < (l0.length : Int) := od_
          obtain ⟨ad245, e245, hx245_0, hx245_1, hx245_2⟩ := at_T29 HR0.out x8_2 p245 q245
          have hw245_2 := hx245_2
          have hw245_1 := hx245_1
          have hw245_0 := hx245_0
          cases e245
          replace hx245_0 := cb_ HB hx245_0
          replace hx245_1 := cb_ HB hx245_1
          replace hx245_2 := cb_ HB hx245_2
          replace p245 := eq_true p245
          replace q245 := eq_true q245
          refine start_ (n := 8) (S := fun w' => w'.cell? ⟨gb225, 0, none⟩ = some (.int .i64 a1_0) ∧ w'.cell? ⟨gb225, 1, none⟩ = some (.int .i64 a1_1) ∧ w'.cell? ⟨gb225, 2, none⟩ = some (.int .i64 a1_2) ∧ w'.cell? ⟨gb225, 3, none⟩ = some (.int .i64 a1_3) ∧ w'.cell? ⟨gb225, 4, none⟩ = some (.int .i64 a1_4) ∧ w'.cell? ⟨gb225, 5, none⟩ = some (.int .i64 a1_5) ∧ w'.cell? ⟨gb225, 6, none⟩ = some (.int .i64 a1_6) ∧ w'.cell? ⟨gb225, 7, none⟩ = some (.int .i64 a1_7) ∧ w'.cell? ⟨gb225, 8, none⟩ = some (.int .i64 a1_8) ∧ w'.cell? ⟨gb225, 9, none⟩ = some (.int .i64 a1_9) ∧ w'.cell? (ad245.add ((x8_2).toNat * 3)) = some (.int .i64 ((rd_T29 l0 x8_2).f0.f0)) ∧ w'.cell? ⟨(ad245.add ((x8_2).toNat * 3)).block, (ad245.add ((x8_2).toNat * 3)).off + 1, none⟩ = some (.int .i64 ((rd_T29 l0 x8_2).f0.f1)) ∧ w'.cell? ⟨(ad245.add ((x8_2).toNat * 3)).block, (ad245.add ((x8_2).toNat * 3)).off + 2, none⟩ = some (.int .i64 ((rd_T29 l0 x8_2).f1))) (ds := []) #[false, false, false, false, false, false, false, false] (by kernel_rfl) rfl rfl ⟨(blk_cell BK225.out 0).trans rfl, (blk_cell BK225.out 1).trans rfl, (blk_cell BK225.out 2).trans rfl, (blk_cell BK225.out 3).trans rfl, (blk_cell BK225.out 4).trans rfl, (blk_cell BK225.out 5).trans rfl, (blk_cell BK225.out 6).trans rfl, (blk_cell BK225.out 7).trans rfl, (blk_cell BK225.out 8).trans rfl, (blk_cell BK225.out 9).trans rfl, (cb_ HB hw245_0 :), (cb_ HB hw245_1 :), (cb_ HB hw245_2 :)⟩ (fun hHeld => ?_); refine with_tabW spec_Follows.tab19 spec_Follows.bits19 (fun HT_ HW_ => ?_)
          generalize wr.drew = w57 at HO_5 BK225 HB hx245_0 hx245_1 hx245_2 hHeld ⊢
          refine pureZ_ (i := 0) (some 76) #[true, false, false, false, false, false, false, false] (ao_ HT_) ?_
          refine pureZ_ (i := 1) (some 77) #[true, true, false, false, false, false, false, false] (ao_ HT_) ?_
          refine pureZ_ (i := 2) (some 78) #[true, true, true, false, false, false, false, false] (ao_ HT_) ?_
          refine pureZ_ (i := 3) (some 79) #[true, true, true, true, false, false, false, false] (ao_ HT_) ?_
          refine pureZ_ (i := 5) (some 81) #[true, true, true, true, false, true, false, false] (ao_ HT_) ?_
          refine takeZ_ (i := 4) (some 80) #[true, true, true, true, true, true, false, false] (take_ofW HT_.out HW_.out (by kernel_rfl)) hHeld ?_
          refine takeZ_ (i := 6) (some 82) #[true, true, true, true, true, true, true, false] (take_ofW HT_.out HW_.out (by kernel_rfl)) hHeld ?_
          refine pureZ_ (i := 7) (some 83) #[true, true, true, true, true, true, true, true] (ao_ HT_) ?_
          refine done_ (done_of HT_.out (by kernel_rfl)) ?_
          go_upto_if 83 with (fail)
          have H := HC56.out
          clear HC56
          by_cases c58 : (!(((rd_T29 l0 x8_2).f0.f0) == a1_4) || (!(((rd_T29 l0 x8_2).f0.f1) == a1_5))) = true
          ·rw [if_pos c58] at H
           have c58b0 : (!(((rd_T29 l0 x8_2).f0.f0) == a1_4) || (!(((rd_T29 l0 x8_2).f0.f1) == a1_5))) = true := c58
           clear c58
           (first | rw [c58b0] | (simp only [i64_w, i32_w]; rw [c58b0]) | skip)
           have H' := aa_ H
           clear H
           go_wp2
           go_roundg k2
           case measure => have := HJ17.out; have := HK2.out; omega
           case rel => exact ⟨(x5_2), (wrap64 (x8_2 + 1)), rf_, H', ⟨by have := HJ17.out; have := HK2.out; omega⟩, ⟨rr_ HO_5⟩, ⟨bk_ BK225⟩, ⟨bl_⟩⟩
          ·rw [if_neg c58] at H
           have c58b0 : (!(((rd_T29 l0 x8_2).f0.f0) == a1_4) || (!(((rd_T29 l0 x8_2).f0.f1) == a1_5))) = false := by simpa using c58
           clear c58
           (first | rw [c58b0] | (simp only [i64_w, i32_w]; rw [c58b0]) | skip)
           have H' := aa_ H
           clear H
           try go_wp2
           replace HO_5 := aa_ (Kd.R_drew HO_5.out)
           replace BK225 := aa_ (blk_drew BK225.out)
           replace HB := aa_ (below_drew1 HB.out)
           have p246 : 0 ≤ (x8_2 : Int) := od_
           have q246 : x8_2 < (l0.length : Int) := od_
           obtain ⟨ad246, e246, hx246_0, hx246_1, hx246_2⟩ := at_T29 HR0.out x8_2 p246 q246
           have hw246_2 := hx246_2
           have hw246_1 := hx246_1
           have hw246_0 := hx246_0
           obtain rfl : ad245 = ad246 := (by injection e246)
           replace hx246_0 := cb_ HB hx246_0
           replace hx246_1 := cb_ HB hx246_1
           replace hx246_2 := cb_ HB hx246_2
           replace p246 := eq_true p246
           replace q246 := eq_true q246
           refine start_ (n := 11) (S := fun w' => w'.cell? ⟨gb225, 0, none⟩ = some (.int .i64 a1_0) ∧ w'.cell? ⟨gb225, 1, none⟩ = some (.int .i64 a1_1) ∧ w'.cell? ⟨gb225, 2, none⟩ = some (.int .i64 a1_2) ∧ w'.cell? ⟨gb225, 3, none⟩ = some (.int .i64 a1_3) ∧ w'.cell? ⟨gb225, 4, none⟩ = some (.int .i64 a1_4) ∧ w'.cell? ⟨gb225, 5, none⟩ = some (.int .i64 a1_5) ∧ w'.cell? ⟨gb225, 6, none⟩ = some (.int .i64 a1_6) ∧ w'.cell? ⟨gb225, 7, none⟩ = some (.int .i64 a1_7) ∧ w'.cell? ⟨gb225, 8, none⟩ = some (.int .i64 a1_8) ∧ w'.cell? ⟨gb225, 9, none⟩ = some (.int .i64 a1_9) ∧ w'.cell? (ad245.add ((x8_2).toNat * 3)) = some (.int .i64 ((rd_T29 l0 x8_2).f0.f0)) ∧ w'.cell? ⟨(ad245.add ((x8_2).toNat * 3)).block, (ad245.add ((x8_2).toNat * 3)).off + 1, none⟩ = some (.int .i64 ((rd_T29 l0 x8_2).f0.f1)) ∧ w'.cell? ⟨(ad245.add ((x8_2).toNat * 3)).block, (ad245.add ((x8_2).toNat * 3)).off + 2, none⟩ = some (.int .i64 ((rd_T29 l0 x8_2).f1))) (ds := []) #[false, false, false, false, false, false, false, false, false, false, false] (by kernel_rfl) rfl rfl ⟨(blk_cell BK225.out 0).trans rfl, (blk_cell BK225.out 1).trans rfl, (blk_cell BK225.out 2).trans rfl, (blk_cell BK225.out 3).trans rfl, (blk_cell BK225.out 4).trans rfl, (blk_cell BK225.out 5).trans rfl, (blk_cell BK225.out 6).trans rfl, (blk_cell BK225.out 7).trans rfl, (blk_cell BK225.out 8).trans rfl, (blk_cell BK225.out 9).trans rfl, (cb_ HB hw246_0 :), (cb_ HB hw246_1 :), (cb_ HB hw246_2 :)⟩ (fun hHeld => ?_); refine with_tabW spec_Follows.tab20 spec_Follows.bits20 (fun HT_ HW_ => ?_)
           generalize w57.drew = w59 at HO_5 BK225 HB hx246_0 hx246_1 hx246_2 hHeld ⊢
           refine pureZ_ (i := 0) (some 84) #[true, false, false, false, false, false, false, false, false, false, false] (ao_ HT_) ?_
           refine pureZ_ (i := 1) (some 85) #[true, true, false, false, false, false, false, false, false, false, false] (ao_ HT_) ?_
           refine pureZ_ (i := 2) (some 86) #[true, true, true, false, false, false, false, false, false, false, false] (ao_ HT_) ?_
           refine pureZ_ (i := 3) (some 87) #[true, true, true, true, false, false, false, false, false, false, false] (ao_ HT_) ?_
           refine pureZ_ (i := 5) (some 89) #[true, true, true, true, false, true, false, false, false, false, false] (ao_ HT_) ?_
           refine pureZ_ (i := 6) (some 90) #[true, true, true, true, false, true, true, false, false, false, false] (ao_ HT_) ?_
           refine takeZ_ (i := 4) (some 88) #[true, true, true, true, true, true, true, false, false, false, false] (take_ofW HT_.out HW_.out (by kernel_rfl)) hHeld ?_
           refine takeZ_ (i := 7) (some 91) #[true, true, true, true, true, true, true, true, false, false, false] (take_ofW HT_.out HW_.out (by kernel_rfl)) hHeld ?_
           refine pureZ_ (i := 8) (some 92) #[true, true, true, true, true, true, true, true, true, false, false] (ao_ HT_) ?_
           refine one_ (i := 9) (N := some 9) #[true, true, true, true, true, true, true, true, true, true, false] rfl rfl (one_of HT_.out (by kernel_rfl)) (by decide) (fun K hK => ?_)
           refine box_step ?hg (N := 9) ?hd (cs := #[.int .i64 0, .int .i64 0]) (t := 27) ?hr ?_; (case hd => rfl); (case hg => rfl); (case hr => first | (go_simp; done) | (go_simp; rfl))
           intro gb247 hg w60 hbox hb
           replace HO_5 := hob_ HO_5 hb
           have BK247 := aa_ (hbox)
           have GW247 := gs_ hg
           have GE247 := gs_ hg
           replace HB := hbs_ hb
           have NB225_247 := nl_ hg BK225
           have NB247_225 := nr_ hg BK225
           replace BK225 := bkb_ BK225 hb
           clear hb hbox hg
           refine hK.out _ _ ⟨(blk_cell BK225.out 0).trans rfl, (blk_cell BK225.out 1).trans rfl, (blk_cell BK225.out 2).trans rfl, (blk_cell BK225.out 3).trans rfl, (blk_cell BK225.out 4).trans rfl, (blk_cell BK225.out 5).trans rfl, (blk_cell BK225.out 6).trans rfl, (blk_cell BK225.out 7).trans rfl, (blk_cell BK225.out 8).trans rfl, (blk_cell BK225.out 9).trans rfl, (cb_ HB hw246_0 :), (cb_ HB hw246_1 :), (cb_ HB hw246_2 :)⟩ (fun hHeld => ?_)
           clear hK K
           refine norm_ (a' := ?_) ?_ ?_
           rotate_left
           ·show Act.put _ (some 9) _ = _
            simp only [Act.put, List.setIfInBounds_toArray, List.set_cons_zero, List.set_cons_succ, i64_w, i32_w]
            rfl
           refine one_ (i := 10) (N := none) #[true, true, true, true, true, true, true, true, true, true, true] rfl rfl (one_of HT_.out (by kernel_rfl)) (by decide) (fun K hK => ?_)
           have hs61 : w60.cell? ⟨gb247, 0, none⟩ = some (.int .i64 0) := (blk_cell BK247.out 0).trans rfl
           have hfs61 := blk_frozen BK247.out 0
           have hns61_0 := NB225_247.out
           have hms61_0 := NB247_225.out
           have hs62 : w60.cell? ⟨gb247, 1, none⟩ = some (.int .i64 0) := (blk_cell BK247.out 1).trans rfl
           have hfs62 := blk_frozen BK247.out 1
           have hns62_0 := NB225_247.out
           have hms62_0 := NB247_225.out
           refine skip_ (w1 := ?_) (by rfl) rfl ?_ ?_
           rotate_left
           ·go_simp
            rfl
           refine hK.out _ _ ⟨((cell_far (p := ⟨gb247, _, none⟩) NB225_247.out _).trans (((cell_far (p := ⟨gb247, _, none⟩) NB225_247.out _).trans (hHeld.1)))), ((cell_far (p := ⟨gb247, _, none⟩) NB225_247.out _).trans (((cell_far (p := ⟨gb247, _, none⟩) NB225_247.out _).trans (hHeld.2.1)))), ((cell_far (p := ⟨gb247, _, none⟩) NB225_247.out _).trans (((cell_far (p := ⟨gb247, _, none⟩) NB225_247.out _).trans (hHeld.2.2.1)))), ((cell_far (p := ⟨gb247, _, none⟩) NB225_247.out _).trans (((cell_far (p := ⟨gb247, _, none⟩) NB225_247.out _).trans (hHeld.2.2.2.1)))), ((cell_far (p := ⟨gb247, _, none⟩) NB225_247.out _).trans (((cell_far (p := ⟨gb247, _, none⟩) NB225_247.out _).trans (hHeld.2.2.2.2.1)))), ((cell_far (p := ⟨gb247, _, none⟩) NB225_247.out _).trans (((cell_far (p := ⟨gb247, _, none⟩) NB225_247.out _).trans (hHeld.2.2.2.2.2.1)))), ((cell_far (p := ⟨gb247, _, none⟩) NB225_247.out _).trans (((cell_far (p := ⟨gb247, _, none⟩) NB225_247.out _).trans (hHeld.2.2.2.2.2.2.1)))), ((cell_far (p := ⟨gb247, _, none⟩) NB225_247.out _).trans (((cell_far (p := ⟨gb247, _, none⟩) NB225_247.out _).trans (hHeld.2.2.2.2.2.2.2.1)))), ((cell_far (p := ⟨gb247, _, none⟩) NB225_247.out _).trans (((cell_far (p := ⟨gb247, _, none⟩) NB225_247.out _).trans (hHeld.2.2.2.2.2.2.2.2.1)))), ((cell_far (p := ⟨gb247, _, none⟩) NB225_247.out _).trans (((cell_far (p := ⟨gb247, _, none⟩) NB225_247.out _).trans (hHeld.2.2.2.2.2.2.2.2.2.1)))), ((cell_far (p := ⟨gb247, _, none⟩) (fb_ hw246_0 GW247.out) _).trans (((cell_far (p := ⟨gb247, _, none⟩) (fb_ hw246_0 GW247.out) _).trans (hHeld.2.2.2.2.2.2.2.2.2.2.1)))), ((cell_far (p := ⟨gb247, _, none⟩) (fb_ hw246_1 GW247.out) _).trans (((cell_far (p := ⟨gb247, _, none⟩) (fb_ hw246_1 GW247.out) _).trans (hHeld.2.2.2.2.2.2.2.2.2.2.2.1)))), ((cell_far (p := ⟨gb247, _, none⟩) (fb_ hw246_2 GW247.out) _).trans (((cell_far (p := ⟨gb247, _, none⟩) (fb_ hw246_2 GW247.out) _).trans (hHeld.2.2.2.2.2.2.2.2.2.2.2.2))))⟩ (fun hHeld => ?_)
           clear hK K
           refine done_ (done_of HT_.out (by kernel_rfl)) ?_
           try go_wp2
           go_loopg [5, 10] k2 (fun kq v5 v10 w' => ∃ (x5_3 : List (S29)) (x10_3 : Int), v10 = .int .i64 x10_3 ∧ Aside0 (spec_Follows.l2 kq l0 x5_3 x8_2 x10_3 a1_0 a1_1 a1_2 a1_3 a1_4 a1_5 a1_6 a1_7 a1_8 a1_9 ((rd_T29 l0 x8_2).f1) a1_7 = some r) ∧ Aside0 (kq ≤ k2) ∧ Aside0 (Kd.R k29 29 w' w.heap.size (fun _ => True) v5 x5_3) ∧ Aside0 (w'.heap[gb225]? = some (.cells #[.int .i64 a1_0, .int .i64 a1_1, .int .i64 a1_2, .int .i64 a1_3, .int .i64 a1_4, .int .i64 a1_5, .int .i64 a1_6, .int .i64 a1_7, .int .i64 a1_8, .int .i64 a1_9] 46 (0, 0))) ∧ Aside0 (w'.heap[gb247]? = some (.cells #[.int .i64 ((rd_T29 l0 x8_2).f1), .int .i64 a1_7] 27 (0, 0))) ∧ Aside0 (Below w.heap.size w w'))
           case atStart => exact ⟨(x5_2), (0), rf_, H', ⟨Nat.le_refl _⟩, ⟨by (with_reducible repeat (first | apply Kd.R_alloc | apply Kd.R_drewN | apply Kd.R_drew)); exact Kd.R_mono (fr2_ (Kd.R_types HO_5.out BK247.out (by decide)) (fun _ hk => hk.2)) (fun _ hk => trivial)⟩, ⟨bk_ BK225⟩, ⟨bk_ BK247⟩, ⟨bl_⟩⟩
           case round =>
            clear H'
            try clear c1
            try clear c2
            try clear p2
            try clear q2
            try clear hx2
            try clear c3
            try clear c4
            try clear c5
            try clear p6
            try clear c12
            try clear c13
            try clear c13b0
            try clear c13b1
            try clear c20
            try clear c20b0
            try clear c20b1
            try clear c21
            try clear c22
            try clear c22b0
            try clear c23
            try clear c23b0
            try clear p23
            try clear q23
            try clear hx23
            try clear c24
            try clear c24b0
            try clear c24b1
            try clear c24b2
            try clear p24
            try clear q24
            try clear hx24
            try clear c25
            try clear c25b0
            try clear c25b1
            try clear c28
            try clear c35
            try clear c38
            try clear c42
            try clear c44
            try clear c45
            try clear c46
            try clear c50
            try clear c53
            try clear c53b0
            try clear c53b1
            try clear c54
            try clear c54b0
            try clear c55
            try clear c55b0
            try clear c58
            try clear c58b0
            try clear hcz10
            try clear hcz15
            try clear hcz19
            try clear hcz29
            try clear hcz31
            try clear hcz32
            try clear hcz39
            try clear hcz40
            try clear hcz45
            try clear hcz46
            try clear hcz51
            try clear hcz52
            try clear hfz10
            try clear hfz15
            try clear hfz19
            try clear hfz29
            try clear hfz31
            try clear hfz32
            try clear hfz39
            try clear hfz40
            try clear hfz45
            try clear hfz46
            try clear hfz51
            try clear hfz52
            try clear hx236_0
            try clear hx236_1
            try clear hx236_2
            try clear hx245_0
            try clear hx245_1
            try clear hx245_2
            try clear hx246_0
            try clear hx246_1
            try clear hx246_2
            try clear p2
            try clear p23
            try clear p236
            try clear p245
            try clear p246
            try clear p6
            try clear q2
            try clear q23
            try clear q236
            try clear q245
            try clear q246
            obtain ⟨x5_3, x10_3, rfl, HA, HK3, HO_5, BK225, BK247, HB⟩ := hrel
            cases gk with
            | zero => exact absurd HA.out (by simp [spec_Follows.l2])
            | succ k3 =>
             have H := HA.out
             clear HA
             simp only [spec_Follows.l2] at H
             by_cases c63 : x10_3 < (l0.length : Int)
             ·rw [if_pos c63] at H
              have c63b0 : decide (x10_3 < (l0.length : Int)) = true := decide_eq_true c63
              clear c63
              obtain ⟨c64b0, H⟩ := ifd_ H
              have HC65 := aa_ H
              clear H
              try go_wp2
              replace HO_5 := aa_ (Kd.R_drew HO_5.out)
              replace BK225 := aa_ (blk_drew BK225.out)
              replace BK247 := aa_ (blk_drew BK247.out)
              replace HB := aa_ (below_drew1 HB.out)
              have p248 : 0 ≤ (x10_3 : Int) := od_
              have q248 : x10_3 < (l0.length : Int) := od_
              obtain ⟨ad248, e248, hx248_0, hx248_1, hx248_2⟩ := at_T29 HR0.out x10_3 p248 q248
              have hw248_2 := hx248_2
              have hw248_1 := hx248_1
              have hw248_0 := hx248_0
              obtain rfl : ad245 = ad248 := (by injection e248)
              replace hx248_0 := cb_ HB hx248_0
              replace hx248_1 := cb_ HB hx248_1
              replace hx248_2 := cb_ HB hx248_2
              replace p248 := eq_true p248
              replace q248 := eq_true q248
              refine start_ (n := 7) (S := fun w' => w'.cell? ⟨gb247, 0, none⟩ = some (.int .i64 ((rd_T29 l0 x8_2).f1)) ∧ w'.cell? ⟨gb247, 1, none⟩ = some (.int .i64 a1_7) ∧ w'.cell? (ad245.add ((x10_3).toNat * 3)) = some (.int .i64 ((rd_T29 l0 x10_3).f0.f0)) ∧ w'.cell? ⟨(ad245.add ((x10_3).toNat * 3)).block, (ad245.add ((x10_3).toNat * 3)).off + 1, none⟩ = some (.int .i64 ((rd_T29 l0 x10_3).f0.f1)) ∧ w'.cell? ⟨(ad245.add ((x10_3).toNat * 3)).block, (ad245.add ((x10_3).toNat * 3)).off + 2, none⟩ = some (.int .i64 ((rd_T29 l0 x10_3).f1))) (ds := []) #[false, false, false, false, false, false, false] (by kernel_rfl) rfl rfl ⟨(blk_cell BK247.out 0).trans rfl, (blk_cell BK247.out 1).trans rfl, (cb_ HB hw248_0 :), (cb_ HB hw248_1 :), (cb_ HB hw248_2 :)⟩ (fun hHeld => ?_)
              generalize wr.drew = w66 at HO_5 BK225 BK247 HB hx248_0 hx248_1 hx248_2 hHeld ⊢
              refine pure_ (i := 0) (N := some 99) (v := ?_) (a' := ?_) #[true, false, false, false, false, false, false] rfl rfl (by kernel_rfl) (fun _ _ _ h => h) (Or.inl ⟨by rfl, ?_⟩) ?_ ?_
              rotate_left
              ·intro w'
               go_simp
               with_reducible rfl
              rotate_left
              ·simp only [Act.put, List.setIfInBounds_toArray, List.set_cons_zero, List.set_cons_succ, i64_w, i32_w]
               rfl
              refine pure_ (i := 1) (N := some 100) (v := ?_) (a' := ?_) #[true, true, false, false, false, false, false] rfl rfl (by kernel_rfl) (fun _ _ _ h => h) (Or.inl ⟨by rfl, ?_⟩) ?_ ?_
              rotate_left
              ·intro w'
               go_simp
               with_reducible rfl
              rotate_left
              ·simp only [Act.put, List.setIfInBounds_toArray, List.set_cons_zero, List.set_cons_succ, i64_w, i32_w]
               rfl
              refine pure_ (i := 2) (N := some 101) (v := ?_) (a' := ?_) #[true, true, true, false, false, false, false] rfl rfl (by kernel_rfl) (fun _ _ _ h => h) (Or.inl ⟨by rfl, ?_⟩) ?_ ?_
              rotate_left
              ·intro w'
               go_simp
               with_reducible rfl
              rotate_left
              ·simp only [Act.put, List.setIfInBounds_toArray, List.set_cons_zero, List.set_cons_succ, i64_w, i32_w]
               rfl
              refine pure_ (i := 3) (N := some 102) (v := ?_) (a' := ?_) #[true, true, true, true, false, false, false] rfl rfl (by kernel_rfl) (fun _ _ _ h => h) (Or.inl ⟨by rfl, ?_⟩) ?_ ?_
              rotate_left
              ·intro w'
               go_simp
               with_reducible rfl
              rotate_left
              ·simp only [Act.put, List.setIfInBounds_toArray, List.set_cons_zero, List.set_cons_succ, i64_w, i32_w]
               rfl
              refine take_ (i := 4) (N := some 103) (v := ?_) (a' := ?_) #[true, true, true, true, true, false, false] rfl rfl (by kernel_rfl) (fun _ _ _ h => h) (Or.inl ⟨by rfl, ?_⟩) hHeld ?_ ?_
              rotate_left
              ·rintro w' ⟨s0, s1, s2, s3, s4⟩
               go_simp
               with_reducible rfl
              rotate_left
              ·simp only [Act.put, List.setIfInBounds_toArray, List.set_cons_zero, List.set_cons_succ, i64_w, i32_w]
               rfl
              refine take_ (i := 5) (N := some 104) (v := ?_) (a' := ?_) #[true, true, true, true, true, true, false] rfl rfl (by kernel_rfl) (fun _ _ _ h => h) (Or.inl ⟨by rfl, ?_⟩) hHeld ?_ ?_
              rotate_left
              ·rintro w' ⟨s0, s1, s2, s3, s4⟩
               go_simp
               with_reducible rfl
              rotate_left
              ·simp only [Act.put, List.setIfInBounds_toArray, List.set_cons_zero, List.set_cons_succ, i64_w, i32_w]
               rfl
              refine pure_ (i := 6) (N := some 105) (v := ?_) (a' := ?_) #[true, true, true, true, true, true, true] rfl rfl (by kernel_rfl) (fun _ _ _ h => h) (Or.inl ⟨by rfl, ?_⟩) ?_ ?_
              rotate_left
              ·intro w'
               go_simp
               with_reducible rfl
              rotate_left
              ·simp only [Act.put, List.setIfInBounds_toArray, List.set_cons_zero, List.set_cons_succ, i64_w, i32_w]
               rfl
              refine done_ (by kernel_rfl) ?_
              go_upto_if 105 with (fail)
              have H := HC65.out
              clear HC65
              by_cases c67 : (((rd_T29 l0 x10_3).f0.f0) == ((rd_T29 l0 x8_2).f1) && (((rd_T29 l0 x10_3).f0.f1) == a1_7)) = true
              ·rw [if_pos c67] at H
               have c67b0 : (((rd_T29 l0 x10_3).f0.f0) == ((rd_T29 l0 x8_2).f1) && (((rd_T29 l0 x10_3).f0.f1) == a1_7)) = true := c67
               (try (have c67b1 : decide (((rd_T29 l0 x10_3).f0.f0) = ((rd_T29 l0 x8_2).f1) && (((rd_T29 l0 x10_3).f0.f1) == a1_7)) = true := by simpa using c67))
               (try (have c67b2 : (((rd_T29 l0 x10_3).f0.f0) == ((rd_T29 l0 x8_2).f1) && (((rd_T29 l0 x10_3).f0.f1) == a1_7)) = true := by simpa using c67))
               clear c67
               (first | rw [c67b0] | (simp only [i64_w, i32_w]; rw [c67b0]) | skip)
               obtain ⟨t250, A68, H⟩ := bindE_ H
               have H' := aa_ H
               clear H
               try go_wp2
               replace HO_5 := aa_ (Kd.R_drew HO_5.out)
               replace BK225 := aa_ (blk_drew BK225.out)
               replace BK247 := aa_ (blk_drew BK247.out)
               replace HB := aa_ (below_drew1 HB.out)
               have p249 : 0 ≤ (x10_3 : Int) := od_
               have q249 : x10_3 < (l0.length : Int) := od_
               obtain ⟨ad249, e249, hx249_0, hx249_1, hx249_2⟩ := at_T29 HR0.out x10_3 p249 q249
               have hw249_2 := hx249_2
               have hw249_1 := hx249_1
               have hw249_0 := hx249_0
               obtain rfl : ad245 = ad249 := (by injection e249)
               replace hx249_0 := cb_ HB hx249_0
               replace hx249_1 := cb_ HB hx249_1
               replace hx249_2 := cb_ HB hx249_2
               replace p249 := eq_true p249
               replace q249 := eq_true q249
               obtain ⟨Ao70, co70, eo70⟩ := Kd.R_slice HO_5.out
               (first | subst eo70 | (injection eo70 with f1_ f2_ f3_; have f4_ := f1_.symm; have f5_ := f3_.symm; clear f1_ f2_ f3_; subst f4_; subst f5_))
               refine start_ (n := 11) (S := fun w' => w'.cell? ⟨gb225, 0, none⟩ = some (.int .i64 a1_0) ∧ w'.cell? ⟨gb225, 1, none⟩ = some (.int .i64 a1_1) ∧ w'.cell? ⟨gb225, 2, none⟩ = some (.int .i64 a1_2) ∧ w'.cell? ⟨gb225, 3, none⟩ = some (.int .i64 a1_3) ∧ w'.cell? ⟨gb225, 4, none⟩ = some (.int .i64 a1_4) ∧ w'.cell? ⟨gb225, 5, none⟩ = some (.int .i64 a1_5) ∧ w'.cell? ⟨gb225, 6, none⟩ = some (.int .i64 a1_6) ∧ w'.cell? ⟨gb225, 7, none⟩ = some (.int .i64 a1_7) ∧ w'.cell? ⟨gb225, 8, none⟩ = some (.int .i64 a1_8) ∧ w'.cell? ⟨gb225, 9, none⟩ = some (.int .i64 a1_9) ∧ w'.cell? (ad245.add ((x10_3).toNat * 3)) = some (.int .i64 ((rd_T29 l0 x10_3).f0.f0)) ∧ w'.cell? ⟨(ad245.add ((x10_3).toNat * 3)).block, (ad245.add ((x10_3).toNat * 3)).off + 1, none⟩ = some (.int .i64 ((rd_T29 l0 x10_3).f0.f1)) ∧ w'.cell? ⟨(ad245.add ((x10_3).toNat * 3)).block, (ad245.add ((x10_3).toNat * 3)).off + 2, none⟩ = some (.int .i64 ((rd_T29 l0 x10_3).f1))) (ds := []) #[false, false, false, false, false, false, false, false, false, false, false] (by kernel_rfl) rfl rfl ⟨(blk_cell BK225.out 0).trans rfl, (blk_cell BK225.out 1).trans rfl, (blk_cell BK225.out 2).trans rfl, (blk_cell BK225.out 3).trans rfl, (blk_cell BK225.out 4).trans rfl, (blk_cell BK225.out 5).trans rfl, (blk_cell BK225.out 6).trans rfl, (blk_cell BK225.out 7).trans rfl, (blk_cell BK225.out 8).trans rfl, (blk_cell BK225.out 9).trans rfl, (cb_ HB hw249_0 :), (cb_ HB hw249_1 :), (cb_ HB hw249_2 :)⟩ (fun hHeld => ?_); refine with_tabW spec_Follows.tab25 spec_Follows.bits25 (fun HT_ HW_ => ?_)
               generalize w66.drew = w69 at HO_5 BK225 BK247 HB hx249_0 hx249_1 hx249_2 hHeld ⊢
               refine pureZ_ (i := 0) (some 106) #[true, false, false, false, false, false, false, false, false, false, false] (ao_ HT_) ?_
               refine pureZ_ (i := 1) (some 107) #[true, true, false, false, false, false, false, false, false, false, false] (ao_ HT_) ?_
               refine pureZ_ (i := 3) (some 109) #[true, true, false, true, false, false, false, false, false, false, false] (ao_ HT_) ?_
               refine pureZ_ (i := 4) (some 110) #[true, true, false, true, true, false, false, false, false, false, false] (ao_ HT_) ?_
               refine pureZ_ (i := 5) (some 111) #[true, true, false, true, true, true, false, false, false, false, false] (ao_ HT_) ?_
               refine pureZ_ (i := 6) (some 112) #[true, true, false, true, true, true, true, false, false, false, false] (ao_ HT_) ?_
               refine takeZ_ (i := 2) (some 108) #[true, true, true, true, true, true, true, false, false, false, false] (take_ofW HT_.out HW_.out (by kernel_rfl)) hHeld ?_
               refine takeZ_ (i := 7) (some 113) #[true, true, true, true, true, true, true, true, false, false, false] (take_ofW HT_.out HW_.out (by kernel_rfl)) hHeld ?_
               refine pureZ_ (i := 8) (some 114) #[true, true, true, true, true, true, true, true, true, false, false] (ao_ HT_) ?_
               refine one_ (i := 9) (N := some 115) #[true, true, true, true, true, true, true, true, true, true, false] rfl rfl (one_of HT_.out (by kernel_rfl)) (by decide) (fun K hK => ?_)
               refine goes_ Try.func46 (by kernel_rfl) rfl #[.slice Ao70 x5_3.length co70, .agg #[.int .i64 a1_1, .int .i64 a1_2, .int .i64 ((rd_T29 l0 x10_3).f1)]] (by rfl) rfl rfl (by (try simp only [List.map_toArray, List.map_cons, List.map_nil]); first | done | rfl | (simp only [List.length_drop, List.length_take]; rfl)) ?_
               with_reducible refine (spec_l06Put.calls k3 (fun k_ => some k_ = (.slice Ao70 x5_3.length co70 : Value).ownBlock) (.slice Ao70 x5_3.length co70) x5_3 a1_1 a1_2 ((rd_T29 l0 x10_3).f1) t250 w _ ?side1 ?side2 A68.out).mono ?_
               (case side1 => repeat (first | (with_reducible first | exact HB.out | apply below_alloc | apply pw_below_drewN | apply below_drew1 | refine below_set ?_ GE225.out | refine below_set ?_ GE247.out) | exact HB.out))
               (case side2 => exact Kd.R_tight rfl HO_5.out)
               rintro e w71 ⟨v251, rfl, ho0, hb, hkp⟩
               refine ⟨_, rfl, ?_⟩
               replace BK225 := aa_ (blk_kept (bk_ BK225) hkp (fun hs_ => (fun e_ => (Kd.R_ne HO_5.out BK225.out (by decide)) e_) hs_))
               replace BK247 := aa_ (blk_kept (bk_ BK247) hkp (fun hs_ => (fun e_ => (Kd.R_ne HO_5.out BK247.out (by decide)) e_) hs_))
               have HO252 := aa_ (Kd.R_mono (ok' := fun k_ => True) ho0 (fun k_ hk_ => trivial))
               replace HB := aa_ (hb)
               clear HO_5
               (try clear hb)
               (try clear hkp)
               (try clear ho0)
               refine hK.out _ _ ⟨(blk_cell BK225.out 0).trans rfl, (blk_cell BK225.out 1).trans rfl, (blk_cell BK225.out 2).trans rfl, (blk_cell BK225.out 3).trans rfl, (blk_cell BK225.out 4).trans rfl, (blk_cell BK225.out 5).trans rfl, (blk_cell BK225.out 6).trans rfl, (blk_cell BK225.out 7).trans rfl, (blk_cell BK225.out 8).trans rfl, (blk_cell BK225.out 9).trans rfl, (cb_ HB hw249_0 :), (cb_ HB hw249_1 :), (cb_ HB hw249_2 :)⟩ (fun hHeld => ?_)
               clear hK K
               refine norm_ (a' := ?_) ?_ ?_
               rotate_left
               ·show Act.put _ (some 115) _ = _
                simp only [Act.put, List.setIfInBounds_toArray, List.set_cons_zero, List.set_cons_succ, i64_w, i32_w]
                rfl
               refine pureZ_ (i := 10) (some 5) #[true, true, true, true, true, true, true, true, true, true, true] (ao_ HT_) ?_
               refine done_ (done_of HT_.out (by kernel_rfl)) ?_
               try go_wp2
               go_roundg k3
               case measure => have := HJ17.out; have := HK2.out; have := HK3.out; omega
               case rel => exact ⟨(t250), (wrap64 (x10_3 + 1)), rf_, H', ⟨by have := HJ17.out; have := HK2.out; have := HK3.out; omega⟩, ⟨rr_ HO252⟩, ⟨bk_ BK225⟩, ⟨bk_ BK247⟩, ⟨bl_⟩⟩
              ·rw [if_neg c67] at H
               have c67b0 : (((rd_T29 l0 x10_3).f0.f0) == ((rd_T29 l0 x8_2).f1) && (((rd_T29 l0 x10_3).f0.f1) == a1_7)) = false := by simpa using c67
               (try (have c67b1 : decide (((rd_T29 l0 x10_3).f0.f0) = ((rd_T29 l0 x8_2).f1) && (((rd_T29 l0 x10_3).f0.f1) == a1_7)) = false := by simpa using c67))
               (try (have c67b2 : (((rd_T29 l0 x10_3).f0.f0) == ((rd_T29 l0 x8_2).f1) && (((rd_T29 l0 x10_3).f0.f1) == a1_7)) = false := by simpa using c67))
               (try (have c67b3 : ¬ (((rd_T29 l0 x10_3).f0.f0) = ((rd_T29 l0 x8_2).f1) && (((rd_T29 l0 x10_3).f0.f1) == a1_7)) := by simpa using c67))
               clear c67
               (first | rw [c67b0] | (simp only [i64_w, i32_w]; rw [c67b0]) | skip)
               have H' := aa_ H
               clear H
               go_wp2
               go_roundg k3
               case measure => have := HJ17.out; have := HK2.out; have := HK3.out; omega
               case rel => exact ⟨(x5_3), (wrap64 (x10_3 + 1)), rf_, H', ⟨by have := HJ17.out; have := HK2.out; have := HK3.out; omega⟩, ⟨rr_ HO_5⟩, ⟨bk_ BK225⟩, ⟨bk_ BK247⟩, ⟨bl_⟩⟩
             ·rw [if_neg c63] at H
              have c63b0 : decide (x10_3 < (l0.length : Int)) = false := decide_eq_false c63
              clear c63
              have H' := aa_ H
              clear H
              go_wp2
              go_roundg k3
              case measure => have := HJ17.out; have := HK2.out; have := HK3.out; omega
              case rel => exact ⟨(x5_3), (wrap64 (x8_2 + 1)), rf_, H', ⟨by have := HJ17.out; have := HK2.out; have := HK3.out; omega⟩, ⟨rr_ HO_5⟩, ⟨bk_ BK225⟩, ⟨bl_⟩⟩
         ·rw [if_neg c54] at H
          have c54b0 : decide (x8_2 < (l0.length : Int)) = false := decide_eq_false c54
          clear c54
          obtain rfl := Option.some.inj H
          go_wp2
          go_ret
          exact ⟨_, eq_, by (with_reducible repeat (first | apply Kd.R_alloc | apply Kd.R_drewN | apply Kd.R_drew)); exact HO_5.out, bl_⟩
      ·rw [if_neg c53] at H
       have c53b0 : (a1_0 == 3) = false := beq_eq_false_iff_ne.mpr c53
       have c53b1 : (a1_0 != 3) = true := bne_iff_ne.mpr c53
       obtain rfl := Option.some.inj H
       go_wp2
       go_ret
       exact ⟨_, eq_, by (with_reducible repeat (first | apply Kd.R_alloc | apply Kd.R_drewN | apply Kd.R_drew)); exact HO_5.out, bl_⟩
 ·replace c12 := Bool.eq_false_iff.mpr c12
  subst c12
  replace H := ite_f_ H
  obtain rfl := Option.some.inj H
  go_wp2
  go_ret
  exact ⟨_, eq_, by (with_reducible repeat (first | apply Kd.R_alloc | apply Kd.R_drewN | apply Kd.R_drew)); exact HO231.out, bl_⟩
end Go.Proofs.Ytcbhmcpdnokbiaa.PA
