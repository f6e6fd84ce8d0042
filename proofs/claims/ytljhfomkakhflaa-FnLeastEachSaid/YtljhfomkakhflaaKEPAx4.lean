import Derived.Test.YtljhfomkakhflaaKEPAx3
-- printed by wip/tools
namespace Go.Proofs.Ytljhfomkakhflaa.PA
open Go.RowKit Go.Proofs.YtljhfomkakhflaaW.PrintWords Go.Proofs.YtljhfomkakhflaaW.PrintLast Go.Proofs.YtljhfomkakhflaaW.PrintMore
attribute [local go_sem] max2_int min2_int max_two min_two max_three min_three max_four min_four
set_option linter.unusedVariables false
set_option linter.unusedSimpArgs false
attribute [local go_sem high] eqA26
mutual
def spec_Follows.j0 : Nat → List (S28) → List (S28) → Int → Bool → Int → Int → Int → Int → Int → Int → Int → Int → Int → Int → Option ((List (S28)))
 | 0, _, _, _, _, _, _, _, _, _, _, _, _, _, _ => none
 | k + 1, x0, x5, x19, x29, x123000, x123001, x123002, x123003, x123004, x123005, x123006, x123007, x123008, x123009 => if x29 = true then (spec_Follows.l0 k x0 x5 0 x123000 x123001 x123002 x123003 x123004 x123005 x123006 x123007 x123008 x123009) else (if x19 = 3 then (spec_Follows.l1 k x0 x5 0 x123000 x123001 x123002 x123003 x123004 x123005 x123006 x123007 x123008 x123009) else (some x5))
def spec_Follows.l0 : Nat → List (S28) → List (S28) → Int → Int → Int → Int → Int → Int → Int → Int → Int → Int → Int → Option ((List (S28)))
 | 0, _, _, _, _, _, _, _, _, _, _, _, _, _ => none
 | k + 1, x0, x5, x6, x123000, x123001, x123002, x123003, x123004, x123005, x123006, x123007, x123008, x123009 => if x6 < (x0.length : Int) then (if 0 ≤ x6 then (if (((rd_T28 x0 x6).f0.f0) == x123004 && (((rd_T28 x0 x6).f0.f1) == x123005)) = true then (if x123000 = 2 then ((spec_l06Put.f k x5 x123001 x123002 ((rd_T28 x0 x6).f1)).bind fun t135 => (spec_Follows.l0 k x0 t135 (wrap64 (x6 + 1)) x123000 x123001 x123002 x123003 x123004 x123005 x123006 x123007 x123008 x123009)) else ((spec_l06Has.f k x0 x123006 x123007 ((rd_T28 x0 x6).f1)).bind fun t138 => (if t138 = true then ((spec_l06Put.f k x5 x123001 x123002 ((rd_T28 x0 x6).f1)).bind fun t139 => (spec_Follows.l0 k x0 t139 (wrap64 (x6 + 1)) x123000 x123001 x123002 x123003 x123004 x123005 x123006 x123007 x123008 x123009)) else (spec_Follows.l0 k x0 x5 (wrap64 (x6 + 1)) x123000 x123001 x123002 x123003 x123004 x123005 x123006 x123007 x123008 x123009)))) else (spec_Follows.l0 k x0 x5 (wrap64 (x6 + 1)) x123000 x123001 x123002 x123003 x123004 x123005 x123006 x123007 x123008 x123009)) else (none)) else (some x5)
def spec_Follows.l1 : Nat → List (S28) → List (S28) → Int → Int → Int → Int → Int → Int → Int → Int → Int → Int → Int → Option ((List (S28)))
 | 0, _, _, _, _, _, _, _, _, _, _, _, _, _ => none
 | k + 1, x0, x5, x8, x123000, x123001, x123002, x123003, x123004, x123005, x123006, x123007, x123008, x123009 => if x8 < (x0.length : Int) then (if 0 ≤ x8 then (if (!(((rd_T28 x0 x8).f0.f0) == x123004) || (!(((rd_T28 x0 x8).f0.f1) == x123005))) = true then (spec_Follows.l1 k x0 x5 (wrap64 (x8 + 1)) x123000 x123001 x123002 x123003 x123004 x123005 x123006 x123007 x123008 x123009) else (spec_Follows.l2 k x0 x5 x8 0 x123000 x123001 x123002 x123003 x123004 x123005 x123006 x123007 x123008 x123009 ((rd_T28 x0 x8).f1) x123007)) else (none)) else (some x5)
def spec_Follows.l2 : Nat → List (S28) → List (S28) → Int → Int → Int → Int → Int → Int → Int → Int → Int → Int → Int → Int → Int → Int → Option ((List (S28)))
 | 0, _, _, _, _, _, _, _, _, _, _, _, _, _, _, _, _ => none
 | k + 1, x0, x5, x8, x10, x123000, x123001, x123002, x123003, x123004, x123005, x123006, x123007, x123008, x123009, x145000, x145001 => if x10 < (x0.length : Int) then (if 0 ≤ x10 then (if (((rd_T28 x0 x10).f0.f0) == x145000 && (((rd_T28 x0 x10).f0.f1) == x145001)) = true then ((spec_l06Put.f k x5 x123001 x123002 ((rd_T28 x0 x10).f1)).bind fun t147 => (spec_Follows.l2 k x0 t147 x8 (wrap64 (x10 + 1)) x123000 x123001 x123002 x123003 x123004 x123005 x123006 x123007 x123008 x123009 x145000 x145001)) else (spec_Follows.l2 k x0 x5 x8 (wrap64 (x10 + 1)) x123000 x123001 x123002 x123003 x123004 x123005 x123006 x123007 x123008 x123009 x145000 x145001)) else (none)) else (spec_Follows.l1 k x0 x5 (wrap64 (x8 + 1)) x123000 x123001 x123002 x123003 x123004 x123005 x123006 x123007 x123008 x123009)
end
def spec_Follows.f (k : Nat) (l0 : List (S28)) (a1_0 : Int) (a1_1 : Int) (a1_2 : Int) (a1_3 : Int) (a1_4 : Int) (a1_5 : Int) (a1_6 : Int) (a1_7 : Int) (a1_8 : Int) (a1_9 : Int) : Option ((List (S28))) := (some (([] : List (S28)) : List (S28))).bind fun y123 => (if y123.length + l0.length < 5864062014805 then ((some (y123 ++ l0 : List (S28))).bind fun y126 => ((spec_CredOk.f k a1_0 a1_1 a1_2 a1_3 a1_4 a1_5 a1_6 a1_7 a1_8 a1_9).bind fun t129 => (if t129 = true then (if a1_0 = 1 then ((spec_l06Put.f k y126 a1_1 a1_2 a1_3).bind fun t130 => (some t130)) else (if a1_0 = 2 then (spec_Follows.j0 k l0 y126 a1_0 (a1_0 == 2) a1_0 a1_1 a1_2 a1_3 a1_4 a1_5 a1_6 a1_7 a1_8 a1_9) else (spec_Follows.j0 k l0 y126 a1_0 (a1_0 == 4) a1_0 a1_1 a1_2 a1_3 a1_4 a1_5 a1_6 a1_7 a1_8 a1_9))) else (some y126)))) else (none))
def spec_Follows.T19 : Bool × List (List Nat × List Nat) := (true, [([], []), ([], []), ([0, 1], [0, 1]), ([2], [2]), ([3], [3]), ([], []), ([5], [5]), ([4, 6], [4, 6])])
def spec_Follows.B19 : List Nat := [0, 0, 3, 7, 15, 0, 32, 127]
theorem spec_Follows.tab19 : rtab .any (opsOf Try.f35 19) = spec_Follows.T19 := by kernel_rfl
theorem spec_Follows.bits19 : waitsOk spec_Follows.T19.2 spec_Follows.B19 = true := by kernel_rfl
def spec_Follows.T20 : Bool × List (List Nat × List Nat) := (true, [([], []), ([], []), ([0, 1], [0, 1]), ([2], [2]), ([3], [3]), ([], []), ([5], [5]), ([6], [6]), ([4, 7], [4, 7]), ([], []), ([9, 8, 0, 1, 2, 3, 4, 5, 6, 7, 8, 9], [8, 9])])
def spec_Follows.B20 : List Nat := [0, 0, 3, 7, 15, 0, 32, 96, 255, 0, 1023]
theorem spec_Follows.tab20 : rtab .any (opsOf Try.f35 20) = spec_Follows.T20 := by kernel_rfl
theorem spec_Follows.bits20 : waitsOk spec_Follows.T20.2 spec_Follows.B20 = true := by kernel_rfl
def spec_Follows.T25 : Bool × List (List Nat × List Nat) := (true, [([], []), ([], []), ([1], [1]), ([], []), ([], []), ([3, 4], [3, 4]), ([5], [5]), ([6], [6]), ([2, 7], [2, 7]), ([0, 8], [0, 8]), ([9, 9, 0, 1, 2, 3, 4, 5, 6, 7, 8, 9], [0, 9])])
def spec_Follows.B25 : List Nat := [0, 0, 2, 0, 0, 24, 56, 120, 254, 511, 1023]
theorem spec_Follows.tab25 : rtab .any (opsOf Try.f35 25) = spec_Follows.T25 := by kernel_rfl
theorem spec_Follows.bits25 : waitsOk spec_Follows.T25.2 spec_Follows.B25 = true := by kernel_rfl
set_option maxHeartbeats 8000000 in
set_option maxRecDepth 100000 in
theorem spec_Follows.calls (k : Nat) (A0 : Option Addr) (c0 : Nat) (l0 : List (S28)) (a1_0 : Int) (a1_1 : Int) (a1_2 : Int) (a1_3 : Int) (a1_4 : Int) (a1_5 : Int) (a1_6 : Int) (a1_7 : Int) (a1_8 : Int) (a1_9 : Int) (r : List (S28)) (w : World) (hr0 : Kd.C k28 w A0 l0.length l0) (hc0 : l0.length ≤ c0) (h : spec_Follows.f k l0 a1_0 a1_1 a1_2 a1_3 a1_4 a1_5 a1_6 a1_7 a1_8 a1_9 = some r) :
  Calls Try.prog 35 #[.slice A0 l0.length c0, .agg #[.int .i64 a1_0, .int .i64 a1_1, .int .i64 a1_2, .int .i64 a1_3, .int .i64 a1_4, .int .i64 a1_5, .int .i64 a1_6, .int .i64 a1_7, .int .i64 a1_8, .int .i64 a1_9]] w fun e w' => ∃ v0_ : Value, e = .returned (v0_) ∧ Kd.R k28 28 w' w.heap.size (fun _ => True) v0_ r ∧ Below w.heap.size w w' := by
 have hu35 := Try.underlying35
 have hu26 := Try.underlying26
 have hu28 := Try.underlying28
 have HR0 := aa_ hr0
 have HC0 := aa_ hc0
 clear hr0 hc0
 have HB := aa_ (Below.refl w.heap.size w)
 have H : ((some (([] : List (S28)) : List (S28))).bind fun y123 => (if y123.length + l0.length < 5864062014805 then ((some (y123 ++ l0 : List (S28))).bind fun y126 => ((spec_CredOk.f k a1_0 a1_1 a1_2 a1_3 a1_4 a1_5 a1_6 a1_7 a1_8 a1_9).bind fun t129 => (if t129 = true then (if a1_0 = 1 then ((spec_l06Put.f k y126 a1_1 a1_2 a1_3).bind fun t130 => (some t130)) else (if a1_0 = 2 then (spec_Follows.j0 k l0 y126 a1_0 (a1_0 == 2) a1_0 a1_1 a1_2 a1_3 a1_4 a1_5 a1_6 a1_7 a1_8 a1_9) else (spec_Follows.j0 k l0 y126 a1_0 (a1_0 == 4) a1_0 a1_1 a1_2 a1_3 a1_4 a1_5 a1_6 a1_7 a1_8 a1_9))) else (some y126)))) else (none))) = some r := h
 clear h
 obtain ⟨y123, hy123⟩ : ∃ y_ : List (S28), y_ = (([] : List (S28))) := ⟨_, rfl⟩
 replace H : (if y123.length + l0.length < 5864062014805 then ((some (y123 ++ l0 : List (S28))).bind fun y126 => ((spec_CredOk.f k a1_0 a1_1 a1_2 a1_3 a1_4 a1_5 a1_6 a1_7 a1_8 a1_9).bind fun t129 => (if t129 = true then (if a1_0 = 1 then ((spec_l06Put.f k y126 a1_1 a1_2 a1_3).bind fun t130 => (some t130)) else (if a1_0 = 2 then (spec_Follows.j0 k l0 y126 a1_0 (a1_0 == 2) a1_0 a1_1 a1_2 a1_3 a1_4 a1_5 a1_6 a1_7 a1_8 a1_9) else (spec_Follows.j0 k l0 y126 a1_0 (a1_0 == 4) a1_0 a1_1 a1_2 a1_3 a1_4 a1_5 a1_6 a1_7 a1_8 a1_9))) else (some y126)))) else (none)) = some r := rh_ hy123 H
 have Ny123 := aa_ hy123
 clear hy123
 obtain ⟨c3, H⟩ := ifn_ H
 have LMc3 := aa_ c3
 clear c3
 obtain ⟨y126, hy126⟩ : ∃ y_ : List (S28), y_ = (y123 ++ l0) := ⟨_, rfl⟩
 replace H : ((spec_CredOk.f k a1_0 a1_1 a1_2 a1_3 a1_4 a1_5 a1_6 a1_7 a1_8 a1_9).bind fun t129 => (if t129 = true then (if a1_0 = 1 then ((spec_l06Put.f k y126 a1_1 a1_2 a1_3).bind fun t130 => (some t130)) else (if a1_0 = 2 then (spec_Follows.j0 k l0 y126 a1_0 (a1_0 == 2) a1_0 a1_1 a1_2 a1_3 a1_4 a1_5 a1_6 a1_7 a1_8 a1_9) else (spec_Follows.j0 k l0 y126 a1_0 (a1_0 == 4) a1_0 a1_1 a1_2 a1_3 a1_4 a1_5 a1_6 a1_7 a1_8 a1_9))) else (some y126))) = some r := rh_ hy126 H
 have Ny126 := aa_ hy126
 clear hy126
 obtain ⟨t129, A4, H⟩ := bindE_ H
 have HC5 := aa_ H
 clear H
 go_enter Try.func35, Try.ntmps35
 go_upto_if 16 with (first | ((with_reducible refine gD_ 3 rfl ?_); refine bx_ (N := 3) (cs := #[.int .i64 a1_0, .int .i64 a1_1, .int .i64 a1_2, .int .i64 a1_3, .int .i64 a1_4, .int .i64 a1_5, .int .i64 a1_6, .int .i64 a1_7, .int .i64 a1_8, .int .i64 a1_9]) (t := 35) ?_; intro gb122 hg w6 hbox hb; have BK122 := aa_ (hbox); have GW122 := gs_ hg; have GE122 := gs_ hg; replace HB := hbs_ hb; clear hb hbox hg) | ((with_reducible refine gD_ 11 rfl ?_); refine Kd.R_lit k28 _ 28 ?hg (N := 11) ?hd (xs := ([] : List (S28))) (inner := []) (ok := fun _ => True) (okp := fun _ => True) ?hr ?hp (fun _ hk => hk) trivial (Below.refl _ _) (Nat.le_refl _) (by simp) ?_; (case hd => rfl); (case hg => rfl); (case hr => first | (go_simp; done) | (go_simp; rfl)); (case hp => exact (Reps.none _ _)); intro v124 w7 ho8 hb hg_ hnew_; clear hg_ hnew_; (first | rw [← Ny123.out] at ho8 | (simp only [Int.reduceToNat] at ho8; rw [← Ny123.out] at ho8)); have HO125 := aa_ (Kd.R_lower ho8 bls_); replace BK122 := bkb_ BK122 hb; replace HB := hbs_ hb; clear hb ho8) | ((with_reducible refine gate_builtin (b := .append) (xs := #[.tmp 11, .tmp 12]) rfl ?_); at_builtin; refine Kd.R_append_rows k28 (w0 := w) w.heap.size rfl (.tmp 11) (.tmp 12) 44 28 (.agg #[(.int .i64 0), (.int .i64 0), (.int .i64 0)]) 24 rfl Try.underlying44 info28 rfl (by decide) (by omega) v124 y123 l0 _ _ _ (fun _ => True) (fun _ => False) rfl rfl ?aO ?aR (fun _ _ h => h) (fun _ h => h.elim) ?aF ?aB ?aS ?aL ?_; (case aR => repeat (first | exact (Kd.C_below HR0.out HB.out) | (with_reducible refine Kd.C_alloc ?_ _) | (with_reducible refine Kd.C_drewN ?_ _) | (with_reducible refine Kd.C_drew ?_))); (case aB => exact bl_); (case aF => exact (fun _ _ => trivial)); (case aO => exact (rr_ HO125)); (case aS => exact bls_); (case aL => have := LMc3.out; omega); intro v127 w9 ho hb hg hat; rw [← Ny126.out] at ho; replace BK122 := aa_ (blk_grown (g := gb122) (o := .cells #[.int .i64 a1_0, .int .i64 a1_1, .int .i64 a1_2, .int .i64 a1_3, .int .i64 a1_4, .int .i64 a1_5, .int .i64 a1_6, .int .i64 a1_7, .int .i64 a1_8, .int .i64 a1_9] 35 (0, 0)) (bk_ BK122) hg (Kd.R_ne HO125.out BK122.out (by decide))); replace HB := aa_ (hb); have HO128 := aa_ (ho); clear HO125; clear ho hb hg hat; obtain ⟨hcz10, hfz10⟩ := bcf_ BK122) | ((with_reducible refine gC_ 47 rfl ?_); refine goesC_ (some 15) Try.func47 #[.agg #[.int .i64 a1_0, .int .i64 a1_1, .int .i64 a1_2, .int .i64 a1_3, .int .i64 a1_4, .int .i64 a1_5, .int .i64 a1_6, .int .i64 a1_7, .int .i64 a1_8, .int .i64 a1_9]] ?_; (with_reducible refine (spec_CredOk.calls k a1_0 a1_1 a1_2 a1_3 a1_4 a1_5 a1_6 a1_7 a1_8 a1_9 t129 _ A4.out).mono ?_); rintro e w11 ⟨rfl, hb⟩; refine ⟨_, rfl, ?_⟩; replace HO128 := hob_ HO128 hb; replace BK122 := bkb_ BK122 hb; replace HB := hbs_ hb; clear hb))
 (try simp only [Act.put, sb_, sz_, ss_])
 have H := HC5.out
 clear HC5
 by_cases c12 : t129 = true
 ·subst c12
  replace H := ite_t_ H
  by_cases c13 : a1_0 = 1
  ·rw [if_pos c13] at H
   have c13b0 : (a1_0 == 1) = true := beq_iff_eq.mpr c13
   have c13b1 : (a1_0 != 1) = false := bne_eq_false_iff_eq.mpr c13
   clear c13
   (first | rw [c13b0] | (simp only [i64_w, i32_w]; rw [c13b0]) | skip)
   obtain ⟨t130, A14, H⟩ := bindE_ H
   obtain rfl := Option.some.inj H
   have hcz15 := blk_cell BK122.out
   have hfz15 := blk_frozen BK122.out
   obtain ⟨Ao16, co16, eo16⟩ := Kd.R_slice HO128.out
   subst eo16
   go_wp2_with (first | ((with_reducible refine gC_ 50 rfl ?_); refine goesC_ (some 28) Try.func50 #[.slice Ao16 y126.length co16, .agg #[.int .i64 a1_1, .int .i64 a1_2, .int .i64 a1_3]] ?_; (with_reducible refine (spec_l06Put.calls k (fun k_ => some k_ = (.slice Ao16 y126.length co16 : Value).ownBlock) (.slice Ao16 y126.length co16) y126 a1_1 a1_2 a1_3 t130 w _ ?side1 ?side2 A14.out).mono ?_); (case side1 => repeat (first | (with_reducible first | exact HB.out | apply below_alloc | apply pw_below_drewN | apply below_drew1 | refine below_set ?_ GE122.out) | exact HB.out)); (case side2 => exact Kd.R_tight rfl HO128.out); rintro e w17 ⟨v131, rfl, ho0, hb, hkp⟩; refine ⟨_, rfl, ?_⟩; replace BK122 := aa_ (blk_kept (bk_ BK122) hkp (fun hs_ => (fun e_ => (Kd.R_ne HO128.out BK122.out (by decide)) e_) hs_)); have HO132 := aa_ (Kd.R_mono (ok' := fun k_ => True) ho0 (fun k_ hk_ => trivial)); replace HB := aa_ (hb); clear HO128; (try clear hb hkp ho0)))
   go_ret
   exact ⟨_, eq_, by (with_reducible repeat (first | apply Kd.R_alloc | apply Kd.R_drewN | apply Kd.R_drew)); exact HO132.out, bl_⟩
  ·rw [if_neg c13] at H
   have c13b0 : (a1_0 == 1) = false := beq_eq_false_iff_ne.mpr c13
   have c13b1 : (a1_0 != 1) = true := bne_iff_ne.mpr c13
   (first | rw [c13b0] | (simp only [i64_w, i32_w]; rw [c13b0]) | skip)
   have HC18 := aa_ H
   clear H
   have hcz19 := blk_cell BK122.out
   have hfz19 := blk_frozen BK122.out
   go_upto_if 29 with (fail)
   go_cut [29] (fun v29 wc => ∃ (kq : Nat) (x29_17 : Bool), v29 = .bool x29_17 ∧ Aside0 (spec_Follows.j0 kq l0 y126 a1_0 x29_17 a1_0 a1_1 a1_2 a1_3 a1_4 a1_5 a1_6 a1_7 a1_8 a1_9 = some r) ∧ Aside0 (kq ≤ k) ∧ Aside0 (Kd.R k28 28 wc w.heap.size (fun _ => True) v127 y126) ∧ Aside0 (wc.heap[gb122]? = some (.cells #[.int .i64 a1_0, .int .i64 a1_1, .int .i64 a1_2, .int .i64 a1_3, .int .i64 a1_4, .int .i64 a1_5, .int .i64 a1_6, .int .i64 a1_7, .int .i64 a1_8, .int .i64 a1_9] 35 (0, 0))) ∧ Aside0 (Below w.heap.size w wc))
   case first =>
    have H := HC18.out
    clear HC18
    by_cases c20 : a1_0 = 2
    ·rw [if_pos c20] at H
     have c20b0 : (a1_0 == 2) = true := beq_iff_eq.mpr c20
     have c20b1 : (a1_0 != 2) = false := bne_eq_false_iff_eq.mpr c20
     clear c20
     (first | rw [c20b0] | (simp only [i64_w, i32_w]; rw [c20b0]) | skip)
     have H' := aa_ H
     clear H
     go_wp2
     go_meet
     case rel => exact ⟨_, ((a1_0 == 2)), rf_, H', ⟨by first | omega | exact Nat.le_refl _⟩, ⟨rr_ HO128⟩, ⟨bk_ BK122⟩, ⟨bl_⟩⟩
    ·rw [if_neg c20] at H
     have c20b0 : (a1_0 == 2) = false := beq_eq_false_iff_ne.mpr c20
     have c20b1 : (a1_0 != 2) = true := bne_iff_ne.mpr c20
     (first | rw [c20b0] | (simp only [i64_w, i32_w]; rw [c20b0]) | skip)
     have H' := aa_ H
     clear H
     go_wp2
     go_meet
     case rel => exact ⟨_, ((a1_0 == 4)), rf_, H', ⟨by first | omega | exact Nat.le_refl _⟩, ⟨rr_ HO128⟩, ⟨bk_ BK122⟩, ⟨bl_⟩⟩
   case rest =>
    clear HC18
    try clear p2
    try clear c13b0
    try clear c13b1
    try clear c20b0
    try clear c20b1
    try clear hcz10
    try clear hcz15
    try clear hcz19
    try clear hfz10
    try clear hfz15
    try clear hfz19
    obtain ⟨kq, x29_17, rfl, HA, HJ17, HO_5, BK122, HB⟩ := hcut
    cases kq with
    | zero => exact absurd HA.out (by simp [spec_Follows.j0])
    | succ kj17 =>
     have H := HA.out
     clear HA
     simp only [spec_Follows.j0] at H
     by_cases c21 : x29_17 = true
     ·subst c21
      replace H := ite_t_ H
      have H' := aa_ H
      clear H
      go_wp2
      go_loopg [5, 6] kj17 (fun kq v5 v6 w' => ∃ (x5_2 : List (S28)) (x6_2 : Int), v6 = .int .i64 x6_2 ∧ Aside0 (spec_Follows.l0 kq l0 x5_2 x6_2 a1_0 a1_1 a1_2 a1_3 a1_4 a1_5 a1_6 a1_7 a1_8 a1_9 = some r) ∧ Aside0 (kq ≤ kj17) ∧ Aside0 (Kd.R k28 28 w' w.heap.size (fun _ => True) v5 x5_2) ∧ Aside0 (w'.heap[gb122]? = some (.cells #[.int .i64 a1_0, .int .i64 a1_1, .int .i64 a1_2, .int .i64 a1_3, .int .i64 a1_4, .int .i64 a1_5, .int .i64 a1_6, .int .i64 a1_7, .int .i64 a1_8, .int .i64 a1_9] 35 (0, 0))) ∧ Aside0 (Below w.heap.size w w'))
      case atStart => exact ⟨(y126), (0), rf_, H', ⟨Nat.le_refl _⟩, ⟨rr_ HO_5⟩, ⟨bk_ BK122⟩, ⟨bl_⟩⟩
      case round =>
       clear H'
       try clear p2
       try clear c13b0
       try clear c13b1
       try clear c20b0
       try clear c20b1
       try clear hcz10
       try clear hcz15
       try clear hcz19
       try clear hfz10
       try clear hfz15
       try clear hfz19
       try clear p2
       obtain ⟨x5_2, x6_2, rfl, HA, HK2, HO_5, BK122, HB⟩ := hrel
       cases gk with
       | zero => exact absurd HA.out (by simp [spec_Follows.l0])
       | succ k2 =>
        have H := HA.out
        clear HA
        simp only [spec_Follows.l0] at H
        by_cases c22 : x6_2 < (l0.length : Int)
        ·rw [if_pos c22] at H
         have c22b0 : decide (x6_2 < (l0.length : Int)) = true := decide_eq_true c22
         clear c22
         obtain ⟨c23b0, H⟩ := ifd_ H
         by_cases c24 : (((rd_T28 l0 x6_2).f0.f0) == a1_4 && (((rd_T28 l0 x6_2).f0.f1) == a1_5)) = true
         ·rw [if_pos c24] at H
          have c24b0 : (((rd_T28 l0 x6_2).f0.f0) == a1_4 && (((rd_T28 l0 x6_2).f0.f1) == a1_5)) = true := c24
          (try (have c24b1 : decide (((rd_T28 l0 x6_2).f0.f0) = a1_4 && (((rd_T28 l0 x6_2).f0.f1) == a1_5)) = true := by simpa using c24))
          (try (have c24b2 : (((rd_T28 l0 x6_2).f0.f0) == a1_4 && (((rd_T28 l0 x6_2).f0.f1) == a1_5)) = true := by simpa using c24))
          clear c24
          by_cases c25 : a1_0 = 2
          ·rw [if_pos c25] at H
           have c25b0 : (a1_0 == 2) = true := beq_iff_eq.mpr c25
           have c25b1 : (a1_0 != 2) = false := bne_eq_false_iff_eq.mpr c25
           clear c25
           obtain ⟨t135, A26, H⟩ := bindE_ H
           have H' := aa_ H
           clear H
           have p133 : 0 ≤ (x6_2 : Int) := od_
           have q133 : x6_2 < (l0.length : Int) := od_
           obtain ⟨ad133, e133, hx133_0, hx133_1, hx133_2⟩ := at_T28 (Kd.C_below HR0.out HB.out) x6_2 p133 q133
           cases e133
           replace p133 := eq_true p133
           replace q133 := eq_true q133
           go_wp2_with (first | ((with_reducible refine gD_ 7 rfl ?_); refine bx_ (N := 7) (cs := #[.int .i64 0, .int .i64 0, .int .i64 0]) (t := 28) ?_; intro gb134 hg w27 hbox hb; replace HO_5 := aa_ (Kd.R_below (Kd.R_elderB (rr_ HO_5) gb134 (Nat.le_of_eq hg.symm)) hb); have BK134 := aa_ (hbox); have GW134 := gs_ hg; have GE134 := gs_ hg; replace HB := hbs_ hb; have NB122_134 := nl_ hg BK122; have NB134_122 := nr_ hg BK122; replace BK122 := bkb_ BK122 hb; clear hb hbox hg; have hnb28 := NB134_122.out; have hnc28 := NB122_134.out; obtain ⟨hcz29, hfz29⟩ := bcf_ BK134) | ((with_reducible refine gate_store (t := 28) (p := 7) rfl ?_); refine store_event (t := 28) (p := 7) (v := ?vo_w30) (w1 := (((w27.setCell ⟨gb134, 0, none⟩ (.int .i64 ((rd_T28 l0 x6_2).f0.f0))).setCell ⟨gb134, 1, none⟩ (.int .i64 ((rd_T28 l0 x6_2).f0.f1))).setCell ⟨gb134, 2, none⟩ (.int .i64 ((rd_T28 l0 x6_2).f1)))) ?hg ?ho ?hn ?hr ?_; (case ho => rfl); (case hg => rfl); (case hn => rfl); (case hr => first | (go_simp; done) | (go_simp; rfl)); intro w30 hw; have n0_ : Aside0 (Kd.R k28 28 w30 w.heap.size (fun k_ => k_ ≠ gb134) u5 x5_2) := ⟨(by rw [hw]; exact (by (with_reducible repeat (first | apply Kd.R_alloc | apply Kd.R_drewN | apply Kd.R_drew)); exact Kd.R_mono (fr3_ (Kd.R_mono HO_5.out (fun k_ hk => (⟨hk, hk.2⟩ : _ ∧ k_ ≠ gb134))) (fun _ hk => hk.2)) (fun _ hk => hk.1.2)))⟩; have n1_ : Aside0 (w30.heap[gb122]? = some (.cells #[.int .i64 a1_0, .int .i64 a1_1, .int .i64 a1_2, .int .i64 a1_3, .int .i64 a1_4, .int .i64 a1_5, .int .i64 a1_6, .int .i64 a1_7, .int .i64 a1_8, .int .i64 a1_9] 35 (0, 0))) := ⟨(by rw [hw]; exact (bk_ BK122))⟩; have n2_ : Aside0 (w30.heap[gb134]? = some (.cells #[.int .i64 ((rd_T28 l0 x6_2).f0.f0), .int .i64 ((rd_T28 l0 x6_2).f0.f1), .int .i64 ((rd_T28 l0 x6_2).f1)] 28 (0, 0))) := ⟨(by rw [hw]; exact (bk_ BK134))⟩; have n3_ : Aside0 (Below w.heap.size w w30) := ⟨(by rw [hw]; exact bl_)⟩; clear hw; clear HO_5; clear BK122; clear BK134; clear HB; have HO_5 := n0_; have BK122 := n1_; have BK134 := n2_; have HB := n3_; clear n0_ n1_ n2_ n3_; obtain ⟨hcz31, hfz31⟩ := bcf_ BK134; obtain ⟨hcz32, hfz32⟩ := bcf_ BK122; obtain ⟨Ao33, co33, eo33⟩ := Kd.R_slice HO_5.out; subst eo33) | ((with_reducible refine gC_ 50 rfl ?_); refine goesC_ (some 67) Try.func50 #[.slice Ao33 x5_2.length co33, .agg #[.int .i64 a1_1, .int .i64 a1_2, .int .i64 ((rd_T28 l0 x6_2).f1)]] ?_; (with_reducible refine (spec_l06Put.calls k2 (fun k_ => some k_ = (.slice Ao33 x5_2.length co33 : Value).ownBlock) (.slice Ao33 x5_2.length co33) x5_2 a1_1 a1_2 ((rd_T28 l0 x6_2).f1) t135 w _ ?side1 ?side2 A26.out).mono ?_); (case side1 => repeat (first | (with_reducible first | exact HB.out | apply below_alloc | apply pw_below_drewN | apply below_drew1 | refine below_set ?_ GE122.out | refine below_set ?_ GE134.out) | exact HB.out)); (case side2 => exact Kd.R_tight rfl HO_5.out); rintro e w34 ⟨v136, rfl, ho0, hb, hkp⟩; refine ⟨_, rfl, ?_⟩; replace BK122 := aa_ (blk_kept (bk_ BK122) hkp (fun hs_ => (fun e_ => (Kd.R_ne HO_5.out BK122.out (by decide)) e_) hs_)); have HO137 := aa_ (Kd.R_mono (ok' := fun k_ => k_ ≠ gb134) ho0 (fun k_ hk_ => Or.elim hk_ (fun hs_ => fun e_ => (Kd.R_away HO_5.out (fun _ hk => hk)) (by rw [← e_]; exact hs_)) (fun hn_ => (Kd.freshB (g := gb134) (o := .cells #[.int .i64 ((rd_T28 l0 x6_2).f0.f0), .int .i64 ((rd_T28 l0 x6_2).f0.f1), .int .i64 ((rd_T28 l0 x6_2).f1)] 28 (0, 0)) (bk_ BK134) k_ hn_)))); replace BK134 := aa_ (blk_kept (bk_ BK134) hkp (fun hs_ => (fun e_ => (Kd.R_away HO_5.out (fun _ hk => hk)) e_) hs_)); replace HB := aa_ (hb); clear HO_5; (try clear hb hkp ho0)))
           go_roundg k2
           case measure => have := HJ17.out; have := HK2.out; omega
           case rel => exact ⟨(t135), (wrap64 (x6_2 + 1)), rf_, H', ⟨by have := HJ17.out; have := HK2.out; omega⟩, ⟨by (with_reducible repeat (first | apply Kd.R_alloc | apply Kd.R_drewN | apply Kd.R_drew)); exact Kd.R_mono HO137.out (fun _ hk => trivial)⟩, ⟨bk_ BK122⟩, ⟨bl_⟩⟩
          ·rw [if_neg c25] at H
           have c25b0 : (a1_0 == 2) = false := beq_eq_false_iff_ne.mpr c25
           have c25b1 : (a1_0 != 2) = true := bne_iff_ne.mpr c25
           obtain ⟨t138, A35, H⟩ := bindE_ H
           have HC36 := aa_ H
           clear H
           have p133 : 0 ≤ (x6_2 : Int) := od_
           have q133 : x6_2 < (l0.length : Int) := od_
           obtain ⟨ad133, e133, hx133_0, hx133_1, hx133_2⟩ := at_T28 (Kd.C_below HR0.out HB.out) x6_2 p133 q133
           cases e133
           replace p133 := eq_true p133
           replace q133 := eq_true q133
           go_upto_if 60 with (first | ((with_reducible refine gD_ 7 rfl ?_); refine bx_ (N := 7) (cs := #[.int .i64 0, .int .i64 0, .int .i64 0]) (t := 28) ?_; intro gb134 hg w37 hbox hb; replace HO_5 := aa_ (Kd.R_below (Kd.R_elderB (rr_ HO_5) gb134 (Nat.le_of_eq hg.symm)) hb); have BK134 := aa_ (hbox); have GW134 := gs_ hg; have GE134 := gs_ hg; replace HB := hbs_ hb; have NB122_134 := nl_ hg BK122; have NB134_122 := nr_ hg BK122; replace BK122 := bkb_ BK122 hb; clear hb hbox hg; have hnb38 := NB134_122.out; have hnc38 := NB122_134.out; obtain ⟨hcz39, hfz39⟩ := bcf_ BK134; obtain ⟨hcz40, hfz40⟩ := bcf_ BK122) | (go_at_call 51; (with_reducible refine (spec_l06Has.calls k2 _ _ l0 a1_6 a1_7 ((rd_T28 l0 x6_2).f1) t138 _ ?side1 ?side2 A35.out).mono ?_); (case side1 => exact Kd.C_below HR0.out bl_); (case side2 => exact HC0.out); rintro e w41 ⟨rfl, hb⟩; replace HO_5 := aa_ (Kd.R_below (by (with_reducible repeat (first | apply Kd.R_alloc | apply Kd.R_drewN | apply Kd.R_drew)); exact (Kd.R_mono (fr3_ (Kd.R_mono HO_5.out (fun k_ hk => (⟨hk, hk.2⟩ : _ ∧ k_ ≠ gb134))) (fun _ hk => hk.2)) (fun _ h_ => h_.1))) hb); replace BK122 := aa_ (blk_below (g := gb122) (o := .cells #[.int .i64 a1_0, .int .i64 a1_1, .int .i64 a1_2, .int .i64 a1_3, .int .i64 a1_4, .int .i64 a1_5, .int .i64 a1_6, .int .i64 a1_7, .int .i64 a1_8, .int .i64 a1_9] 35 (0, 0)) (bk_ BK122) hb); replace BK134 := aa_ (blk_below (g := gb134) (o := .cells #[.int .i64 ((rd_T28 l0 x6_2).f0.f0), .int .i64 ((rd_T28 l0 x6_2).f0.f1), .int .i64 ((rd_T28 l0 x6_2).f1)] 28 (0, 0)) (bk_ BK134) hb); replace HB := hbs_ hb; clear hb))
           (try simp only [Act.put, sb_, sz_, ss_])
           have H := HC36.out
           clear HC36
           by_cases c42 : t138 = true
           ·subst c42
            replace H := ite_t_ H
            obtain ⟨t139, A43, H⟩ := bindE_ H
            have H' := aa_ H
            clear H
            have hnb44 := NB122_134.out
            have hnc44 := NB134_122.out
            have hcz45 := blk_cell BK122.out
            have hfz45 := blk_frozen BK122.out
            have hcz46 := blk_cell BK134.out
            have hfz46 := blk_frozen BK134.out
            obtain ⟨Ao47, co47, eo47⟩ := Kd.R_slice HO_5.out
            subst eo47
            go_wp2_with (first | ((with_reducible refine gC_ 50 rfl ?_); refine goesC_ (some 67) Try.func50 #[.slice Ao47 x5_2.length co47, .agg #[.int .i64 a1_1, .int .i64 a1_2, .int .i64 ((rd_T28 l0 x6_2).f1)]] ?_; (with_reducible refine (spec_l06Put.calls k2 (fun k_ => some k_ = (.slice Ao47 x5_2.length co47 : Value).ownBlock) (.slice Ao47 x5_2.length co47) x5_2 a1_1 a1_2 ((rd_T28 l0 x6_2).f1) t139 w _ ?side1 ?side2 A43.out).mono ?_); (case side1 => repeat (first | (with_reducible first | exact HB.out | apply below_alloc | apply pw_below_drewN | apply below_drew1 | refine below_set ?_ GE122.out | refine below_set ?_ GE134.out) | exact HB.out)); (case side2 => exact Kd.R_tight rfl HO_5.out); rintro e w48 ⟨v140, rfl, ho0, hb, hkp⟩; refine ⟨_, rfl, ?_⟩; replace BK122 := aa_ (blk_kept (bk_ BK122) hkp (fun hs_ => (fun e_ => (Kd.R_ne HO_5.out BK122.out (by decide)) e_) hs_)); have HO141 := aa_ (Kd.R_mono (ok' := fun k_ => k_ ≠ gb134) ho0 (fun k_ hk_ => Or.elim hk_ (fun hs_ => fun e_ => (Kd.R_away HO_5.out (fun _ hk => hk.2)) (by rw [← e_]; exact hs_)) (fun hn_ => (Kd.freshB (g := gb134) (o := .cells #[.int .i64 ((rd_T28 l0 x6_2).f0.f0), .int .i64 ((rd_T28 l0 x6_2).f0.f1), .int .i64 ((rd_T28 l0 x6_2).f1)] 28 (0, 0)) (bk_ BK134) k_ hn_)))); replace BK134 := aa_ (blk_kept (bk_ BK134) hkp (fun hs_ => (fun e_ => (Kd.R_away HO_5.out (fun _ hk => hk.2)) e_) hs_)); replace HB := aa_ (hb); clear HO_5; (try clear hb hkp ho0)))
            go_roundg k2
            case measure => have := HJ17.out; have := HK2.out; omega
            case rel => exact ⟨(t139), (wrap64 (x6_2 + 1)), rf_, H', ⟨by have := HJ17.out; have := HK2.out; omega⟩, ⟨by (with_reducible repeat (first | apply Kd.R_alloc | apply Kd.R_drewN | apply Kd.R_drew)); exact Kd.R_mono HO141.out (fun _ hk => trivial)⟩, ⟨bk_ BK122⟩, ⟨bl_⟩⟩
           ·replace c42 := Bool.eq_false_iff.mpr c42
            subst c42
            replace H := ite_f_ H
            have H' := aa_ H
            clear H
            go_wp2
            go_roundg k2
            case measure => have := HJ17.out; have := HK2.out; omega
            case rel => exact ⟨(x5_2), (wrap64 (x6_2 + 1)), rf_, H', ⟨by have := HJ17.out; have := HK2.out; omega⟩, ⟨by (with_reducible repeat (first | apply Kd.R_alloc | apply Kd.R_drewN | apply Kd.R_drew)); exact Kd.R_mono HO_5.out (fun _ hk => trivial)⟩, ⟨bk_ BK122⟩, ⟨bl_⟩⟩
         ·rw [if_neg c24] at H
          have c24b0 : (((rd_T28 l0 x6_2).f0.f0) == a1_4 && (((rd_T28 l0 x6_2).f0.f1) == a1_5)) = false := by simpa using c24
          (try (have c24b1 : decide (((rd_T28 l0 x6_2).f0.f0) = a1_4 && (((rd_T28 l0 x6_2).f0.f1) == a1_5)) = false := by simpa using c24))
          (try (have c24b2 : (((rd_T28 l0 x6_2).f0.f0) == a1_4 && (((rd_T28 l0 x6_2).f0.f1) == a1_5)) = false := by simpa using c24))
          (try (have c24b3 : ¬ (((rd_T28 l0 x6_2).f0.f0) = a1_4 && (((rd_T28 l0 x6_2).f0.f1) == a1_5)) := by simpa using c24))
          clear c24
          have H' := aa_ H
          clear H
          have p133 : 0 ≤ (x6_2 : Int) := od_
          have q133 : x6_2 < (l0.length : Int) := od_
          obtain ⟨ad133, e133, hx133_0, hx133_1, hx133_2⟩ := at_T28 (Kd.C_below HR0.out HB.out) x6_2 p133 q133
          cases e133
          replace p133 := eq_true p133
          replace q133 := eq_true q133
          go_wp2_with (first | ((with_reducible refine gD_ 7 rfl ?_); refine bx_ (N := 7) (cs := #[.int .i64 0, .int .i64 0, .int .i64 0]) (t := 28) ?_; intro gb134 hg w49 hbox hb; replace HO_5 := aa_ (Kd.R_below (Kd.R_elderB (rr_ HO_5) gb134 (Nat.le_of_eq hg.symm)) hb); have BK134 := aa_ (hbox); have GW134 := gs_ hg; have GE134 := gs_ hg; replace HB := hbs_ hb; have NB122_134 := nl_ hg BK122; have NB134_122 := nr_ hg BK122; replace BK122 := bkb_ BK122 hb; clear hb hbox hg; have hnb50 := NB134_122.out; have hnc50 := NB122_134.out; obtain ⟨hcz51, hfz51⟩ := bcf_ BK134; obtain ⟨hcz52, hfz52⟩ := bcf_ BK122))
          go_roundg k2
          case measure => have := HJ17.out; have := HK2.out; omega
          case rel => exact ⟨(x5_2), (wrap64 (x6_2 + 1)), rf_, H', ⟨by have := HJ17.out; have := HK2.out; omega⟩, ⟨by (with_reducible repeat (first | apply Kd.R_alloc | apply Kd.R_drewN | apply Kd.R_drew)); exact Kd.R_mono (fr3_ (Kd.R_mono HO_5.out (fun k_ hk => (⟨hk, hk.2⟩ : _ ∧ k_ ≠ gb134))) (fun _ hk => hk.2)) (fun _ hk => trivial)⟩, ⟨bk_ BK122⟩, ⟨bl_⟩⟩
        ·rw [if_neg c22] at H
         have c22b0 : decide (x6_2 < (l0.length : Int)) = false := decide_eq_false c22
         clear c22
         obtain rfl := Option.some.inj H
         go_wp2
         go_ret
         exact ⟨_, eq_, by (with_reducible repeat (first | apply Kd.R_alloc | apply Kd.R_drewN | apply Kd.R_drew)); exact HO_5.out, bl_⟩
     ·replace c21 := Bool.eq_false_iff.mpr c21
      subst c21
      replace H := ite_f_ H
      by_cases c53 : a1_0 = 3
      ·rw [if_pos c53] at H
       have c53b0 : (a1_0 == 3) = true := beq_iff_eq.mpr c53
       have c53b1 : (a1_0 != 3) = false := bne_eq_false_iff_eq.mpr c53
       clear c53
       have H' := aa_ H
       clear H
       go_wp2
       go_loopg [5, 8] kj17 (fun kq v5 v8 w' => ∃ (x5_2 : List (S28)) (x8_2 : Int), v8 = .int .i64 x8_2 ∧ Aside0 (spec_Follows.l1 kq l0 x5_2 x8_2 a1_0 a1_1 a1_2 a1_3 a1_4 a1_5 a1_6 a1_7 a1_8 a1_9 = some r) ∧ Aside0 (kq ≤ kj17) ∧ Aside0 (Kd.R k28 28 w' w.heap.size (fun _ => True) v5 x5_2) ∧ Aside0 (w'.heap[gb122]? = some (.cells #[.int .i64 a1_0, .int .i64 a1_1, .int .i64 a1_2, .int .i64 a1_3, .int .i64 a1_4, .int .i64 a1_5, .int .i64 a1_6, .int .i64 a1_7, .int .i64 a1_8, .int .i64 a1_9] 35 (0, 0))) ∧ Aside0 (Below w.heap.size w w'))
       case atStart => exact ⟨(y126), (0), rf_, H', ⟨Nat.le_refl _⟩, ⟨rr_ HO_5⟩, ⟨bk_ BK122⟩, ⟨bl_⟩⟩
       case round =>
        clear H'
        try clear p1
        try clear q1
        try clear hx1
        try clear p2
        try clear p6
        try clear c13b0
        try clear c13b1
        try clear p13
        try clear q13
        try clear hx13
        try clear c20b0
        try clear c20b1
        try clear c22b0
        try clear c23b0
        try clear c24b0
        try clear c24b1
        try clear c24b2
        try clear c25b0
        try clear c25b1
        try clear c53b0
        try clear c53b1
        try clear hcz10
        try clear hcz15
        try clear hcz19
        try clear hcz29
        try clear hcz31
        try clear hcz32
        try clear hcz39
        try clear hcz40
        try clear hcz45
        try clear hcz46
        try clear hcz51
        try clear hcz52
        try clear hfz10
        try clear hfz15
        try clear hfz19
        try clear hfz29
        try clear hfz31
        try clear hfz32
        try clear hfz39
        try clear hfz40
        try clear hfz45
        try clear hfz46
        try clear hfz51
        try clear hfz52
        try clear hx133_0
        try clear hx133_1
        try clear hx133_2
        try clear p133
        try clear p2
        try clear q133
        obtain ⟨x5_2, x8_2, rfl, HA, HK2, HO_5, BK122, HB⟩ := hrel
        cases gk with
        | zero => exact absurd HA.out (by simp [spec_Follows.l1])
        | succ k2 =>
         have H := HA.out
         clear HA
         simp only [spec_Follows.l1] at H
         by_cases c54 : x8_2 < (l0.length : Int)
         ·rw [if_pos c54] at H
          have c54b0 : decide (x8_2 < (l0.length : Int)) = true := decide_eq_true c54
          clear c54
          obtain ⟨c55b0, H⟩ := ifd_ H
          have HC56 := aa_ H
          clear H
          try go_wp2
          replace HO_5 := aa_ (Kd.R_drew HO_5.out)
          replace BK122 := aa_ (blk_drew BK122.out)
          replace HB := aa_ (below_drew1 HB.out)
          have p142 : 0 ≤ (x8_2 : Int) := od_
          have q142 : x8_2 < (l0.length : Int) := od_
          obtain ⟨ad142, e142, hx142_0, hx142_1, hx142_2⟩ := at_T28 HR0.out x8_2 p142 q142
          have hw142_2 := hx142_2
          have hw142_1 := hx142_1
          have hw142_0 := hx142_0
          cases e142
          replace hx142_0 := cb_ HB hx142_0
          replace hx142_1 := cb_ HB hx142_1
          replace hx142_2 := cb_ HB hx142_2
          replace p142 := eq_true p142
          replace q142 := eq_true q142
          refine start_ (n := 8) (S := fun w' => w'.cell? ⟨gb122, 0, none⟩ = some (.int .i64 a1_0) ∧ w'.cell? ⟨gb122, 1, none⟩ = some (.int .i64 a1_1) ∧ w'.cell? ⟨gb122, 2, none⟩ = some (.int .i64 a1_2) ∧ w'.cell? ⟨gb122, 3, none⟩ = some (.int .i64 a1_3) ∧ w'.cell? ⟨gb122, 4, none⟩ = some (.int .i64 a1_4) ∧ w'.cell? ⟨gb122, 5, none⟩ = some (.int .i64 a1_5) ∧ w'.cell? ⟨gb122, 6, none⟩ = some (.int .i64 a1_6) ∧ w'.cell? ⟨gb122, 7, none⟩ = some (.int .i64 a1_7) ∧ w'.cell? ⟨gb122, 8, none⟩ = some (.int .i64 a1_8) ∧ w'.cell? ⟨gb122, 9, none⟩ = some (.int .i64 a1_9) ∧ w'.cell? (ad142.add ((x8_2).toNat * 3)) = some (.int .i64 ((rd_T28 l0 x8_2).f0.f0)) ∧ w'.cell? ⟨(ad142.add ((x8_2).toNat * 3)).block, (ad142.add ((x8_2).toNat * 3)).off + 1, none⟩ = some (.int .i64 ((rd_T28 l0 x8_2).f0.f1)) ∧ w'.cell? ⟨(ad142.add ((x8_2).toNat * 3)).block, (ad142.add ((x8_2).toNat * 3)).off + 2, none⟩ = some (.int .i64 ((rd_T28 l0 x8_2).f1))) (ds := []) (ba_ 8 0) (by kernel_rfl) rfl rfl ⟨(blk_cell BK122.out 0).trans rfl, (blk_cell BK122.out 1).trans rfl, (blk_cell BK122.out 2).trans rfl, (blk_cell BK122.out 3).trans rfl, (blk_cell BK122.out 4).trans rfl, (blk_cell BK122.out 5).trans rfl, (blk_cell BK122.out 6).trans rfl, (blk_cell BK122.out 7).trans rfl, (blk_cell BK122.out 8).trans rfl, (blk_cell BK122.out 9).trans rfl, (cb_ HB hw142_0 :), (cb_ HB hw142_1 :), (cb_ HB hw142_2 :)⟩ (fun hHeld => ?_); refine with_tabW spec_Follows.tab19 spec_Follows.bits19 (fun HT_ HW_ => ?_)
          generalize wr.drew = w57 at HO_5 BK122 HB hx142_0 hx142_1 hx142_2 hHeld ⊢
          refine pz_ 0 76 (ba_ 8 1) (ao_ HT_) ?_
          refine pz_ 1 77 (ba_ 8 3) (ao_ HT_) ?_
          refine pz_ 2 78 (ba_ 8 7) (ao_ HT_) ?_
          refine pz_ 3 79 (ba_ 8 15) (ao_ HT_) ?_
          refine pz_ 5 81 (ba_ 8 47) (ao_ HT_) ?_
          refine tz_ 4 80 (ba_ 8 63) (take_ofW HT_.out HW_.out (by kernel_rfl)) hHeld ?_
          refine tz_ 6 82 (ba_ 8 127) (take_ofW HT_.out HW_.out (by kernel_rfl)) hHeld ?_
          refine pz_ 7 83 (ba_ 8 255) (ao_ HT_) ?_
          refine done_ (done_of HT_.out (by kernel_rfl)) ?_
          go_upto_if 83 with (fail)
          have H := HC56.out
          clear HC56
          by_cases c58 : (!(((rd_T28 l0 x8_2).f0.f0) == a1_4) || (!(((rd_T28 l0 x8_2).f0.f1) == a1_5))) = true
          ·rw [if_pos c58] at H
           have c58b0 : (!(((rd_T28 l0 x8_2).f0.f0) == a1_4) || (!(((rd_T28 l0 x8_2).f0.f1) == a1_5))) = true := c58
           clear c58
           (first | rw [c58b0] | (simp only [i64_w, i32_w]; rw [c58b0]) | skip)
           have H' := aa_ H
           clear H
           go_wp2
           go_roundg k2
           case measure => have := HJ17.out; have := HK2.out; omega
           case rel => exact ⟨(x5_2), (wrap64 (x8_2 + 1)), rf_, H', ⟨by have := HJ17.out; have := HK2.out; omega⟩, ⟨rr_ HO_5⟩, ⟨bk_ BK122⟩, ⟨bl_⟩⟩
          ·rw [if_neg c58] at H
           have c58b0 : (!(((rd_T28 l0 x8_2).f0.f0) == a1_4) || (!(((rd_T28 l0 x8_2).f0.f1) == a1_5))) = false := by simpa using c58
           clear c58
           (first | rw [c58b0] | (simp only [i64_w, i32_w]; rw [c58b0]) | skip)
           have H' := aa_ H
           clear H
           try go_wp2
           replace HO_5 := aa_ (Kd.R_drew HO_5.out)
           replace BK122 := aa_ (blk_drew BK122.out)
           replace HB := aa_ (below_drew1 HB.out)
           have p143 : 0 ≤ (x8_2 : Int) := od_
           have q143 : x8_2 < (l0.length : Int) := od_
           obtain ⟨ad143, e143, hx143_0, hx143_1, hx143_2⟩ := at_T28 HR0.out x8_2 p143 q143
           have hw143_2 := hx143_2
           have hw143_1 := hx143_1
           have hw143_0 := hx143_0
           obtain rfl : ad142 = ad143 := (by injection e143)
           replace hx143_0 := cb_ HB hx143_0
           replace hx143_1 := cb_ HB hx143_1
           replace hx143_2 := cb_ HB hx143_2
           replace p143 := eq_true p143
           replace q143 := eq_true q143
           refine start_ (n := 11) (S := fun w' => w'.cell? ⟨gb122, 0, none⟩ = some (.int .i64 a1_0) ∧ w'.cell? ⟨gb122, 1, none⟩ = some (.int .i64 a1_1) ∧ w'.cell? ⟨gb122, 2, none⟩ = some (.int .i64 a1_2) ∧ w'.cell? ⟨gb122, 3, none⟩ = some (.int .i64 a1_3) ∧ w'.cell? ⟨gb122, 4, none⟩ = some (.int .i64 a1_4) ∧ w'.cell? ⟨gb122, 5, none⟩ = some (.int .i64 a1_5) ∧ w'.cell? ⟨gb122, 6, none⟩ = some (.int .i64 a1_6) ∧ w'.cell? ⟨gb122, 7, none⟩ = some (.int .i64 a1_7) ∧ w'.cell? ⟨gb122, 8, none⟩ = some (.int .i64 a1_8) ∧ w'.cell? ⟨gb122, 9, none⟩ = some (.int .i64 a1_9) ∧ w'.cell? (ad142.add ((x8_2).toNat * 3)) = some (.int .i64 ((rd_T28 l0 x8_2).f0.f0)) ∧ w'.cell? ⟨(ad142.add ((x8_2).toNat * 3)).block, (ad142.add ((x8_2).toNat * 3)).off + 1, none⟩ = some (.int .i64 ((rd_T28 l0 x8_2).f0.f1)) ∧ w'.cell? ⟨(ad142.add ((x8_2).toNat * 3)).block, (ad142.add ((x8_2).toNat * 3)).off + 2, none⟩ = some (.int .i64 ((rd_T28 l0 x8_2).f1))) (ds := []) (ba_ 11 0) (by kernel_rfl) rfl rfl ⟨(blk_cell BK122.out 0).trans rfl, (blk_cell BK122.out 1).trans rfl, (blk_cell BK122.out 2).trans rfl, (blk_cell BK122.out 3).trans rfl, (blk_cell BK122.out 4).trans rfl, (blk_cell BK122.out 5).trans rfl, (blk_cell BK122.out 6).trans rfl, (blk_cell BK122.out 7).trans rfl, (blk_cell BK122.out 8).trans rfl, (blk_cell BK122.out 9).trans rfl, (cb_ HB hw143_0 :), (cb_ HB hw143_1 :), (cb_ HB hw143_2 :)⟩ (fun hHeld => ?_); refine with_tabW spec_Follows.tab20 spec_Follows.bits20 (fun HT_ HW_ => ?_)
           generalize w57.drew = w59 at HO_5 BK122 HB hx143_0 hx143_1 hx143_2 hHeld ⊢
           refine pz_ 0 84 (ba_ 11 1) (ao_ HT_) ?_
           refine pz_ 1 85 (ba_ 11 3) (ao_ HT_) ?_
           refine pz_ 2 86 (ba_ 11 7) (ao_ HT_) ?_
           refine pz_ 3 87 (ba_ 11 15) (ao_ HT_) ?_
           refine pz_ 5 89 (ba_ 11 47) (ao_ HT_) ?_
           refine pz_ 6 90 (ba_ 11 111) (ao_ HT_) ?_
           refine tz_ 4 88 (ba_ 11 127) (take_ofW HT_.out HW_.out (by kernel_rfl)) hHeld ?_
           refine tz_ 7 91 (ba_ 11 255) (take_ofW HT_.out HW_.out (by kernel_rfl)) hHeld ?_
           refine pz_ 8 92 (ba_ 11 511) (ao_ HT_) ?_
           refine one_ (i := 9) (N := some 9) (ba_ 11 1023) rfl rfl (one_of HT_.out (by kernel_rfl)) (by decide) (fun K hK => ?_)
           refine box_step ?hg (N := 9) ?hd (cs := #[.int .i64 0, .int .i64 0]) (t := 26) ?hr ?_; (case hd => rfl); (case hg => rfl); (case hr => first | (go_simp; done) | (go_simp; rfl))
           intro gb144 hg w60 hbox hb
           replace HO_5 := hob_ HO_5 hb
           have BK144 := aa_ (hbox)
           have GW144 := gs_ hg
           have GE144 := gs_ hg
           replace HB := hbs_ hb
           have NB122_144 := nl_ hg BK122
           have NB144_122 := nr_ hg BK122
           replace BK122 := bkb_ BK122 hb
           clear hb hbox hg
           refine hK.out _ _ ⟨(blk_cell BK122.out 0).trans rfl, (blk_cell BK122.out 1).trans rfl, (blk_cell BK122.out 2).trans rfl, (blk_cell BK122.out 3).trans rfl, (blk_cell BK122.out 4).trans rfl, (blk_cell BK122.out 5).trans rfl, (blk_cell BK122.out 6).trans rfl, (blk_cell BK122.out 7).trans rfl, (blk_cell BK122.out 8).trans rfl, (blk_cell BK122.out 9).trans rfl, (cb_ HB hw143_0 :), (cb_ HB hw143_1 :), (cb_ HB hw143_2 :)⟩ (fun hHeld => ?_)
           clear hK K
           refine norm_ (a' := ?_) ?_ ?_
           rotate_left
           ·show Act.put _ (some 9) _ = _
            simp only [Act.put, sb_, sz_, ss_, i64_w, i32_w]
            rfl
           refine one_ (i := 10) (N := none) (ba_ 11 2047) rfl rfl (one_of HT_.out (by kernel_rfl)) (by decide) (fun K hK => ?_)
           have hs61 : w60.cell? ⟨gb144, 0, none⟩ = some (.int .i64 0) := (blk_cell BK144.out 0).trans rfl
           have hfs61 := blk_frozen BK144.out 0
           have hns61_0 := NB122_144.out
           have hms61_0 := NB144_122.out
           have hs62 : w60.cell? ⟨gb144, 1, none⟩ = some (.int .i64 0) := (blk_cell BK144.out 1).trans rfl
           have hfs62 := blk_frozen BK144.out 1
           have hns62_0 := NB122_144.out
           have hms62_0 := NB144_122.out
           refine skip_ (w1 := ?_) (by rfl) rfl ?_ ?_
           rotate_left
           ·go_simp
            rfl
           refine hK.out _ _ ⟨((cell_far (p := ⟨gb144, _, none⟩) NB122_144.out _).trans (((cell_far (p := ⟨gb144, _, none⟩) NB122_144.out _).trans (hHeld.1)))), ((cell_far (p := ⟨gb144, _, none⟩) NB122_144.out _).trans (((cell_far (p := ⟨gb144, _, none⟩) NB122_144.out _).trans (hHeld.2.1)))), ((cell_far (p := ⟨gb144, _, none⟩) NB122_144.out _).trans (((cell_far (p := ⟨gb144, _, none⟩) NB122_144.out _).trans (hHeld.2.2.1)))), ((cell_far (p := ⟨gb144, _, none⟩) NB122_144.out _).trans (((cell_far (p := ⟨gb144, _, none⟩) NB122_144.out _).trans (hHeld.2.2.2.1)))), ((cell_far (p := ⟨gb144, _, none⟩) NB122_144.out _).trans (((cell_far (p := ⟨gb144, _, none⟩) NB122_144.out _).trans (hHeld.2.2.2.2.1)))), ((cell_far (p := ⟨gb144, _, none⟩) NB122_144.out _).trans (((cell_far (p := ⟨gb144, _, none⟩) NB122_144.out _).trans (hHeld.2.2.2.2.2.1)))), ((cell_far (p := ⟨gb144, _, none⟩) NB122_144.out _).trans (((cell_far (p := ⟨gb144, _, none⟩) NB122_144.out _).trans (hHeld.2.2.2.2.2.2.1)))), ((cell_far (p := ⟨gb144, _, none⟩) NB122_144.out _).trans (((cell_far (p := ⟨gb144, _, none⟩) NB122_144.out _).trans (hHeld.2.2.2.2.2.2.2.1)))), ((cell_far (p := ⟨gb144, _, none⟩) NB122_144.out _).trans (((cell_far (p := ⟨gb144, _, none⟩) NB122_144.out _).trans (hHeld.2.2.2.2.2.2.2.2.1)))), ((cell_far (p := ⟨gb144, _, none⟩) NB122_144.out _).trans (((cell_far (p := ⟨gb144, _, none⟩) NB122_144.out _).trans (hHeld.2.2.2.2.2.2.2.2.2.1)))), ((cell_far (p := ⟨gb144, _, none⟩) (fb_ hw143_0 GW144.out) _).trans (((cell_far (p := ⟨gb144, _, none⟩) (fb_ hw143_0 GW144.out) _).trans (hHeld.2.2.2.2.2.2.2.2.2.2.1)))), ((cell_far (p := ⟨gb144, _, none⟩) (fb_ hw143_1 GW144.out) _).trans (((cell_far (p := ⟨gb144, _, none⟩) (fb_ hw143_1 GW144.out) _).trans (hHeld.2.2.2.2.2.2.2.2.2.2.2.1)))), ((cell_far (p := ⟨gb144, _, none⟩) (fb_ hw143_2 GW144.out) _).trans (((cell_far (p := ⟨gb144, _, none⟩) (fb_ hw143_2 GW144.out) _).trans (hHeld.2.2.2.2.2.2.2.2.2.2.2.2))))⟩ (fun hHeld => ?_)
           clear hK K
           refine done_ (done_of HT_.out (by kernel_rfl)) ?_
           try go_wp2
           go_loopg [5, 10] k2 (fun kq v5 v10 w' => ∃ (x5_3 : List (S28)) (x10_3 : Int), v10 = .int .i64 x10_3 ∧ Aside0 (spec_Follows.l2 kq l0 x5_3 x8_2 x10_3 a1_0 a1_1 a1_2 a1_3 a1_4 a1_5 a1_6 a1_7 a1_8 a1_9 ((rd_T28 l0 x8_2).f1) a1_7 = some r) ∧ Aside0 (kq ≤ k2) ∧ Aside0 (Kd.R k28 28 w' w.heap.size (fun _ => True) v5 x5_3) ∧ Aside0 (w'.heap[gb122]? = some (.cells #[.int .i64 a1_0, .int .i64 a1_1, .int .i64 a1_2, .int .i64 a1_3, .int .i64 a1_4, .int .i64 a1_5, .int .i64 a1_6, .int .i64 a1_7, .int .i64 a1_8, .int .i64 a1_9] 35 (0, 0))) ∧ Aside0 (w'.heap[gb144]? = some (.cells #[.int .i64 ((rd_T28 l0 x8_2).f1), .int .i64 a1_7] 26 (0, 0))) ∧ Aside0 (Below w.heap.size w w'))
           case atStart => exact ⟨(x5_2), (0), rf_, H', ⟨Nat.le_refl _⟩, ⟨by (with_reducible repeat (first | apply Kd.R_alloc | apply Kd.R_drewN | apply Kd.R_drew)); exact Kd.R_mono (fr2_ (Kd.R_types HO_5.out BK144.out (by decide)) (fun _ hk => hk.2)) (fun _ hk => trivial)⟩, ⟨bk_ BK122⟩, ⟨bk_ BK144⟩, ⟨bl_⟩⟩
           case round =>
            clear H'
            try clear p1
            try clear q1
            try clear hx1
            try clear p2
            try clear p6
            try clear c13b0
            try clear c13b1
            try clear p13
            try clear q13
            try clear hx13
            try clear p14
            try clear q14
            try clear hx14
            try clear c20b0
            try clear c20b1
            try clear c22b0
            try clear c23b0
            try clear c24b0
            try clear c24b1
            try clear c24b2
            try clear c25b0
            try clear c25b1
            try clear c53b0
            try clear c53b1
            try clear c54b0
            try clear c55b0
            try clear c58b0
            try clear hcz10
            try clear hcz15
            try clear hcz19
            try clear hcz29
            try clear hcz31
            try clear hcz32
            try clear hcz39
            try clear hcz40
            try clear hcz45
            try clear hcz46
            try clear hcz51
            try clear hcz52
            try clear hfz10
            try clear hfz15
            try clear hfz19
            try clear hfz29
            try clear hfz31
            try clear hfz32
            try clear hfz39
            try clear hfz40
            try clear hfz45
            try clear hfz46
            try clear hfz51
            try clear hfz52
            try clear hx133_0
            try clear hx133_1
            try clear hx133_2
            try clear hx142_0
            try clear hx142_1
            try clear hx142_2
            try clear hx143_0
            try clear hx143_1
            try clear hx143_2
            try clear p1
            try clear p13
            try clear p133
            try clear p142
            try clear p143
            try clear p2
            try clear p6
            try clear q1
            try clear q13
            try clear q133
            try clear q142
            try clear q143
            obtain ⟨x5_3, x10_3, rfl, HA, HK3, HO_5, BK122, BK144, HB⟩ := hrel
            cases gk with
            | zero => exact absurd HA.out (by simp [spec_Follows.l2])
            | succ k3 =>
             have H := HA.out
             clear HA
             simp only [spec_Follows.l2] at H
             by_cases c63 : x10_3 < (l0.length : Int)
             ·rw [if_pos c63] at H
              have c63b0 : decide (x10_3 < (l0.length : Int)) = true := decide_eq_true c63
              clear c63
              obtain ⟨c64b0, H⟩ := ifd_ H
              have HC65 := aa_ H
              clear H
              try go_wp2
              replace HO_5 := aa_ (Kd.R_drew HO_5.out)
              replace BK122 := aa_ (blk_drew BK122.out)
              replace BK144 := aa_ (blk_drew BK144.out)
              replace HB := aa_ (below_drew1 HB.out)
              have p145 : 0 ≤ (x10_3 : Int) := od_
              have q145 : x10_3 < (l0.length : Int) := od_
              obtain ⟨ad145, e145, hx145_0, hx145_1, hx145_2⟩ := at_T28 HR0.out x10_3 p145 q145
              have hw145_2 := hx145_2
              have hw145_1 := hx145_1
              have hw145_0 := hx145_0
              obtain rfl : ad142 = ad145 := (by injection e145)
              replace hx145_0 := cb_ HB hx145_0
              replace hx145_1 := cb_ HB hx145_1
              replace hx145_2 := cb_ HB hx145_2
              replace p145 := eq_true p145
              replace q145 := eq_true q145
              refine start_ (n := 7) (S := fun w' => w'.cell? ⟨gb144, 0, none⟩ = some (.int .i64 ((rd_T28 l0 x8_2).f1)) ∧ w'.cell? ⟨gb144, 1, none⟩ = some (.int .i64 a1_7) ∧ w'.cell? (ad142.add ((x10_3).toNat * 3)) = some (.int .i64 ((rd_T28 l0 x10_3).f0.f0)) ∧ w'.cell? ⟨(ad142.add ((x10_3).toNat * 3)).block, (ad142.add ((x10_3).toNat * 3)).off + 1, none⟩ = some (.int .i64 ((rd_T28 l0 x10_3).f0.f1)) ∧ w'.cell? ⟨(ad142.add ((x10_3).toNat * 3)).block, (ad142.add ((x10_3).toNat * 3)).off + 2, none⟩ = some (.int .i64 ((rd_T28 l0 x10_3).f1))) (ds := []) (ba_ 7 0) (by kernel_rfl) rfl rfl ⟨(blk_cell BK144.out 0).trans rfl, (blk_cell BK144.out 1).trans rfl, (cb_ HB hw145_0 :), (cb_ HB hw145_1 :), (cb_ HB hw145_2 :)⟩ (fun hHeld => ?_)
              generalize wr.drew = w66 at HO_5 BK122 BK144 HB hx145_0 hx145_1 hx145_2 hHeld ⊢
              refine pure_ (i := 0) (N := some 99) (v := ?_) (a' := ?_) (ba_ 7 1) rfl rfl (by kernel_rfl) (fun _ _ _ h => h) (Or.inl ⟨by rfl, ?_⟩) ?_ ?_
              rotate_left
              ·intro w'
               go_simp
               with_reducible rfl
              rotate_left
              ·simp only [Act.put, sb_, sz_, ss_, i64_w, i32_w]
               rfl
              refine pure_ (i := 1) (N := some 100) (v := ?_) (a' := ?_) (ba_ 7 3) rfl rfl (by kernel_rfl) (fun _ _ _ h => h) (Or.inl ⟨by rfl, ?_⟩) ?_ ?_
              rotate_left
              ·intro w'
               go_simp
               with_reducible rfl
              rotate_left
              ·simp only [Act.put, sb_, sz_, ss_, i64_w, i32_w]
               rfl
              refine pure_ (i := 2) (N := some 101) (v := ?_) (a' := ?_) (ba_ 7 7) rfl rfl (by kernel_rfl) (fun _ _ _ h => h) (Or.inl ⟨by rfl, ?_⟩) ?_ ?_
              rotate_left
              ·intro w'
               go_simp
               with_reducible rfl
              rotate_left
              ·simp only [Act.put, sb_, sz_, ss_, i64_w, i32_w]
               rfl
              refine pure_ (i := 3) (N := some 102) (v := ?_) (a' := ?_) (ba_ 7 15) rfl rfl (by kernel_rfl) (fun _ _ _ h => h) (Or.inl ⟨by rfl, ?_⟩) ?_ ?_
              rotate_left
              ·intro w'
               go_simp
               with_reducible rfl
              rotate_left
              ·simp only [Act.put, sb_, sz_, ss_, i64_w, i32_w]
               rfl
              refine take_ (i := 4) (N := some 103) (v := ?_) (a' := ?_) (ba_ 7 31) rfl rfl (by kernel_rfl) (fun _ _ _ h => h) (Or.inl ⟨by rfl, ?_⟩) hHeld ?_ ?_
              rotate_left
              ·rintro w' ⟨s0, s1, s2, s3, s4⟩
               go_simp
               with_reducible rfl
              rotate_left
              ·simp only [Act.put, sb_, sz_, ss_, i64_w, i32_w]
               rfl
              refine take_ (i := 5) (N := some 104) (v := ?_) (a' := ?_) (ba_ 7 63) rfl rfl (by kernel_rfl) (fun _ _ _ h => h) (Or.inl ⟨by rfl, ?_⟩) hHeld ?_ ?_
              rotate_left
              ·rintro w' ⟨s0, s1, s2, s3, s4⟩
               go_simp
               with_reducible rfl
              rotate_left
              ·simp only [Act.put, sb_, sz_, ss_, i64_w, i32_w]
               rfl
              refine pure_ (i := 6) (N := some 105) (v := ?_) (a' := ?_) (ba_ 7 127) rfl rfl (by kernel_rfl) (fun _ _ _ h => h) (Or.inl ⟨by rfl, ?_⟩) ?_ ?_
              rotate_left
              ·intro w'
               go_simp
               with_reducible rfl
              rotate_left
              ·simp only [Act.put, sb_, sz_, ss_, i64_w, i32_w]
               rfl
              refine done_ (by kernel_rfl) ?_
              go_upto_if 105 with (fail)
              have H := HC65.out
              clear HC65
              by_cases c67 : (((rd_T28 l0 x10_3).f0.f0) == ((rd_T28 l0 x8_2).f1) && (((rd_T28 l0 x10_3).f0.f1) == a1_7)) = true
              ·rw [if_pos c67] at H
               have c67b0 : (((rd_T28 l0 x10_3).f0.f0) == ((rd_T28 l0 x8_2).f1) && (((rd_T28 l0 x10_3).f0.f1) == a1_7)) = true := c67
               (try (have c67b1 : decide (((rd_T28 l0 x10_3).f0.f0) = ((rd_T28 l0 x8_2).f1) && (((rd_T28 l0 x10_3).f0.f1) == a1_7)) = true := by simpa using c67))
               (try (have c67b2 : (((rd_T28 l0 x10_3).f0.f0) == ((rd_T28 l0 x8_2).f1) && (((rd_T28 l0 x10_3).f0.f1) == a1_7)) = true := by simpa using c67))
               clear c67
               (first | rw [c67b0] | (simp only [i64_w, i32_w]; rw [c67b0]) | skip)
               obtain ⟨t147, A68, H⟩ := bindE_ H
               have H' := aa_ H
               clear H
               try go_wp2
               replace HO_5 := aa_ (Kd.R_drew HO_5.out)
               replace BK122 := aa_ (blk_drew BK122.out)
               replace BK144 := aa_ (blk_drew BK144.out)
               replace HB := aa_ (below_drew1 HB.out)
               have p146 : 0 ≤ (x10_3 : Int) := od_
               have q146 : x10_3 < (l0.length : Int) := od_
               obtain ⟨ad146, e146, hx146_0, hx146_1, hx146_2⟩ := at_T28 HR0.out x10_3 p146 q146
               have hw146_2 := hx146_2
               have hw146_1 := hx146_1
               have hw146_0 := hx146_0
               obtain rfl : ad142 = ad146 := (by injection e146)
               replace hx146_0 := cb_ HB hx146_0
               replace hx146_1 := cb_ HB hx146_1
               replace hx146_2 := cb_ HB hx146_2
               replace p146 := eq_true p146
               replace q146 := eq_true q146
               obtain ⟨Ao70, co70, eo70⟩ := Kd.R_slice HO_5.out
               (first | subst eo70 | (injection eo70 with f1_ f2_ f3_; have f4_ := f1_.symm; have f5_ := f3_.symm; clear f1_ f2_ f3_; subst f4_; subst f5_))
               refine start_ (n := 11) (S := fun w' => w'.cell? ⟨gb122, 0, none⟩ = some (.int .i64 a1_0) ∧ w'.cell? ⟨gb122, 1, none⟩ = some (.int .i64 a1_1) ∧ w'.cell? ⟨gb122, 2, none⟩ = some (.int .i64 a1_2) ∧ w'.cell? ⟨gb122, 3, none⟩ = some (.int .i64 a1_3) ∧ w'.cell? ⟨gb122, 4, none⟩ = some (.int .i64 a1_4) ∧ w'.cell? ⟨gb122, 5, none⟩ = some (.int .i64 a1_5) ∧ w'.cell? ⟨gb122, 6, none⟩ = some (.int .i64 a1_6) ∧ w'.cell? ⟨gb122, 7, none⟩ = some (.int .i64 a1_7) ∧ w'.cell? ⟨gb122, 8, none⟩ = some (.int .i64 a1_8) ∧ w'.cell? ⟨gb122, 9, none⟩ = some (.int .i64 a1_9) ∧ w'.cell? (ad142.add ((x10_3).toNat * 3)) = some (.int .i64 ((rd_T28 l0 x10_3).f0.f0)) ∧ w'.cell? ⟨(ad142.add ((x10_3).toNat * 3)).block, (ad142.add ((x10_3).toNat * 3)).off + 1, none⟩ = some (.int .i64 ((rd_T28 l0 x10_3).f0.f1)) ∧ w'.cell? ⟨(ad142.add ((x10_3).toNat * 3)).block, (ad142.add ((x10_3).toNat * 3)).off + 2, none⟩ = some (.int .i64 ((rd_T28 l0 x10_3).f1))) (ds := []) (ba_ 11 0) (by kernel_rfl) rfl rfl ⟨(blk_cell BK122.out 0).trans rfl, (blk_cell BK122.out 1).trans rfl, (blk_cell BK122.out 2).trans rfl, (blk_cell BK122.out 3).trans rfl, (blk_cell BK122.out 4).trans rfl, (blk_cell BK122.out 5).trans rfl, (blk_cell BK122.out 6).trans rfl, (blk_cell BK122.out 7).trans rfl, (blk_cell BK122.out 8).trans rfl, (blk_cell BK122.out 9).trans rfl, (cb_ HB hw146_0 :), (cb_ HB hw146_1 :), (cb_ HB hw146_2 :)⟩ (fun hHeld => ?_); refine with_tabW spec_Follows.tab25 spec_Follows.bits25 (fun HT_ HW_ => ?_)
               generalize w66.drew = w69 at HO_5 BK122 BK144 HB hx146_0 hx146_1 hx146_2 hHeld ⊢
               refine pz_ 0 106 (ba_ 11 1) (ao_ HT_) ?_
               refine pz_ 1 107 (ba_ 11 3) (ao_ HT_) ?_
               refine pz_ 3 109 (ba_ 11 11) (ao_ HT_) ?_
               refine pz_ 4 110 (ba_ 11 27) (ao_ HT_) ?_
               refine pz_ 5 111 (ba_ 11 59) (ao_ HT_) ?_
               refine pz_ 6 112 (ba_ 11 123) (ao_ HT_) ?_
               refine tz_ 2 108 (ba_ 11 127) (take_ofW HT_.out HW_.out (by kernel_rfl)) hHeld ?_
               refine tz_ 7 113 (ba_ 11 255) (take_ofW HT_.out HW_.out (by kernel_rfl)) hHeld ?_
               refine pz_ 8 114 (ba_ 11 511) (ao_ HT_) ?_
               refine one_ (i := 9) (N := some 115) (ba_ 11 1023) rfl rfl (one_of HT_.out (by kernel_rfl)) (by decide) (fun K hK => ?_)
               refine goes_ Try.func50 (by kernel_rfl) rfl #[.slice Ao70 x5_3.length co70, .agg #[.int .i64 a1_1, .int .i64 a1_2, .int .i64 ((rd_T28 l0 x10_3).f1)]] (by rfl) rfl rfl (by (try simp only [List.map_toArray, List.map_cons, List.map_nil]); first | done | rfl | (simp only [List.length_drop, List.length_take]; rfl)) ?_
               with_reducible refine (spec_l06Put.calls k3 (fun k_ => some k_ = (.slice Ao70 x5_3.length co70 : Value).ownBlock) (.slice Ao70 x5_3.length co70) x5_3 a1_1 a1_2 ((rd_T28 l0 x10_3).f1) t147 w _ ?side1 ?side2 A68.out).mono ?_
               (case side1 => repeat (first | (with_reducible first | exact HB.out | apply below_alloc | apply pw_below_drewN | apply below_drew1 | refine below_set ?_ GE122.out | refine below_set ?_ GE144.out) | exact HB.out))
               (case side2 => exact Kd.R_tight rfl HO_5.out)
               rintro e w71 ⟨v148, rfl, ho0, hb, hkp⟩
               refine ⟨_, rfl, ?_⟩
               replace BK122 := aa_ (blk_kept (bk_ BK122) hkp (fun hs_ => (fun e_ => (Kd.R_ne HO_5.out BK122.out (by decide)) e_) hs_))
               replace BK144 := aa_ (blk_kept (bk_ BK144) hkp (fun hs_ => (fun e_ => (Kd.R_ne HO_5.out BK144.out (by decide)) e_) hs_))
               have HO149 := aa_ (Kd.R_mono (ok' := fun k_ => True) ho0 (fun k_ hk_ => trivial))
               replace HB := aa_ (hb)
               clear HO_5
               (try clear hb)
               (try clear hkp)
               (try clear ho0)
               refine hK.out _ _ ⟨(blk_cell BK122.out 0).trans rfl, (blk_cell BK122.out 1).trans rfl, (blk_cell BK122.out 2).trans rfl, (blk_cell BK122.out 3).trans rfl, (blk_cell BK122.out 4).trans rfl, (blk_cell BK122.out 5).trans rfl, (blk_cell BK122.out 6).trans rfl, (blk_cell BK122.out 7).trans rfl, (blk_cell BK122.out 8).trans rfl, (blk_cell BK122.out 9).trans rfl, (cb_ HB hw146_0 :), (cb_ HB hw146_1 :), (cb_ HB hw146_2 :)⟩ (fun hHeld => ?_)
               clear hK K
               refine norm_ (a' := ?_) ?_ ?_
               rotate_left
               ·show Act.put _ (some 115) _ = _
                simp only [Act.put, sb_, sz_, ss_, i64_w, i32_w]
                rfl
               refine pz_ 10 5 (ba_ 11 2047) (ao_ HT_) ?_
               refine done_ (done_of HT_.out (by kernel_rfl)) ?_
               try go_wp2
               go_roundg k3
               case measure => have := HJ17.out; have := HK2.out; have := HK3.out; omega
               case rel => exact ⟨(t147), (wrap64 (x10_3 + 1)), rf_, H', ⟨by have := HJ17.out; have := HK2.out; have := HK3.out; omega⟩, ⟨rr_ HO149⟩, ⟨bk_ BK122⟩, ⟨bk_ BK144⟩, ⟨bl_⟩⟩
              ·rw [if_neg c67] at H
               have c67b0 : (((rd_T28 l0 x10_3).f0.f0) == ((rd_T28 l0 x8_2).f1) && (((rd_T28 l0 x10_3).f0.f1) == a1_7)) = false := by simpa using c67
               (try (have c67b1 : decide (((rd_T28 l0 x10_3).f0.f0) = ((rd_T28 l0 x8_2).f1) && (((rd_T28 l0 x10_3).f0.f1) == a1_7)) = false := by simpa using c67))
               (try (have c67b2 : (((rd_T28 l0 x10_3).f0.f0) == ((rd_T28 l0 x8_2).f1) && (((rd_T28 l0 x10_3).f0.f1) == a1_7)) = false := by simpa using c67))
               (try (have c67b3 : ¬ (((rd_T28 l0 x10_3).f0.f0) = ((rd_T28 l0 x8_2).f1) && (((rd_T28 l0 x10_3).f0.f1) == a1_7)) := by simpa using c67))
               clear c67
               (first | rw [c67b0] | (simp only [i64_w, i32_w]; rw [c67b0]) | skip)
               have H' := aa_ H
               clear H
               go_wp2
               go_roundg k3
               case measure => have := HJ17.out; have := HK2.out; have := HK3.out; omega
               case rel => exact ⟨(x5_3), (wrap64 (x10_3 + 1)), rf_, H', ⟨by have := HJ17.out; have := HK2.out; have := HK3.out; omega⟩, ⟨rr_ HO_5⟩, ⟨bk_ BK122⟩, ⟨bk_ BK144⟩, ⟨bl_⟩⟩
             ·rw [if_neg c63] at H
              have c63b0 : decide (x10_3 < (l0.length : Int)) = false := decide_eq_false c63
              clear c63
              have H' := aa_ H
              clear H
              go_wp2
              go_roundg k3
              case measure => have := HJ17.out; have := HK2.out; have := HK3.out; omega
              case rel => exact ⟨(x5_3), (wrap64 (x8_2 + 1)), rf_, H', ⟨by have := HJ17.out; have := HK2.out; have := HK3.out; omega⟩, ⟨rr_ HO_5⟩, ⟨bk_ BK122⟩, ⟨bl_⟩⟩
         ·rw [if_neg c54] at H
          have c54b0 : decide (x8_2 < (l0.length : Int)) = false := decide_eq_false c54
          clear c54
          obtain rfl := Option.some.inj H
          go_wp2
          go_ret
          exact ⟨_, eq_, by (with_reducible repeat (first | apply Kd.R_alloc | apply Kd.R_drewN | apply Kd.R_drew)); exact HO_5.out, bl_⟩
      ·rw [if_neg c53] at H
       have c53b0 : (a1_0 == 3) = false := beq_eq_false_iff_ne.mpr c53
       have c53b1 : (a1_0 != 3) = true := bne_iff_ne.mpr c53
       obtain rfl := Option.some.inj H
       go_wp2
       go_ret
       exact ⟨_, eq_, by (with_reducible repeat (first | apply Kd.R_alloc | apply Kd.R_drewN | apply Kd.R_drew)); exact HO_5.out, bl_⟩
 ·replace c12 := Bool.eq_false_iff.mpr c12
  subst c12
  replace H := ite_f_ H
  obtain rfl := Option.some.inj H
  go_wp2
  go_ret
  exact ⟨_, eq_, by (with_reducible repeat (first | apply Kd.R_alloc | apply Kd.R_drewN | apply Kd.R_drew)); exact HO128.out, bl_⟩
end Go.Proofs.Ytljhfomkakhflaa.PA
