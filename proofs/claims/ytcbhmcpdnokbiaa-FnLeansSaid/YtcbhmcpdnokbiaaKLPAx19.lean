import Derived.Test.YtcbhmcpdnokbiaaKLPAx13
import Derived.Test.YtcbhmcpdnokbiaaKLPAx17
import Derived.Test.YtcbhmcpdnokbiaaKLPAx18
-- printed by wip/tools
namespace Go.Proofs.Ytcbhmcpdnokbiaa.PA
open Go.RowKit Go.Proofs.YtcbhmcpdnokbiaaW.PrintWords Go.Proofs.YtcbhmcpdnokbiaaW.PrintLast Go.Proofs.YtcbhmcpdnokbiaaW.PrintMore
attribute [local go_sem] max2_int min2_int max_two min_two max_three min_three max_four min_four
set_option linter.unusedVariables false
set_option linter.unusedSimpArgs false
attribute [local go_sem high] eqA46
mutual
def laws_FnLeans.j0 : Nat → List (S46) → List (S46) → Bool → Bool → Int → Int → Int → Int → Int → Option (Bool)
 | 0, _, _, _, _, _, _, _, _, _ => none
 | k + 1, x3, x4, x6, x58, x638000, x638001, x638002, x644000, x644001 => if x58 = true then (some false) else ((impl_ReachRoles.f k x3 x644000 x644001).bind fun t654 => ((impl_LeansOn.f k x3 x644000 x644001).bind fun t657 => (laws_FnLeans.l0 k x4 x6 t654 t657 0 x638000 x638001 x638002 x644000 x644001)))
def laws_FnLeans.l0 : Nat → List (S46) → Bool → List (S27) → List (S27) → Int → Int → Int → Int → Int → Int → Option (Bool)
 | 0, _, _, _, _, _, _, _, _, _, _ => none
 | k + 1, x4, x6, x10, x11, x12, x638000, x638001, x638002, x644000, x644001 => if x12 < (x11.length : Int) then (if 0 ≤ x12 then ((laws_hasRole.f k x10 ((rd_T27 x11 x12).f0) ((rd_T27 x11 x12).f1)).bind fun t661 => (if t661 = true then (laws_FnLeans.l0 k x4 x6 x10 x11 (wrap64 (x12 + 1)) x638000 x638001 x638002 x644000 x644001) else (some false))) else (none)) else (if x6 = true then ((spec_ProofOf.f k x4 x638000 x638001 x638002).bind fun bt665 => ((spec_CredsIn.f k bt665.1).bind fun t669 => ((impl_Critical.f k x4 x638000 x638001 x638002).bind fun t672 => (laws_FnLeans.l1 k x4 bt665.2 t669 t672 0 x638000 x638001 x638002)))) else ((impl_Critical.f k x4 x644000 x644001 0).bind fun t662 => (some ((t662.length : Int) == 0))))
def laws_FnLeans.l1 : Nat → List (S46) → Bool → List (S46) → List Int → Int → Int → Int → Int → Option (Bool)
 | 0, _, _, _, _, _, _, _, _ => none
 | k + 1, x4, x14, x15, x16, x17, x638000, x638001, x638002 => if x17 < (x16.length : Int) then (laws_FnLeans.l2 k x4 x14 x15 x16 x17 false 0 x638000 x638001 x638002) else (if x14 = true then ((impl_Without.f x4 0).bind fun t675 => (some ((t675.length : Int) == (wrap64 ((x4.length : Int) - 1))))) else (some false))
def laws_FnLeans.l2 : Nat → List (S46) → Bool → List (S46) → List Int → Int → Bool → Int → Int → Int → Int → Option (Bool)
 | 0, _, _, _, _, _, _, _, _, _, _ => none
 | k + 1, x4, x14, x15, x16, x17, x18, x19, x638000, x638001, x638002 => if x19 < (x15.length : Int) then (if x18 = true then (laws_FnLeans.l2 k x4 x14 x15 x16 x17 true (wrap64 (x19 + 1)) x638000 x638001 x638002) else (if 0 ≤ x19 then (if 0 ≤ x17 then (if x17 < (x16.length : Int) then (if 0 ≤ (rd x16 x17) then (if (rd x16 x17) < (x4.length : Int) then (laws_FnLeans.l2 k x4 x14 x15 x16 x17 (((rd_T46 x15 x19).f0) == ((rd_T46 x4 (rd x16 x17)).f0) && ((((rd_T46 x15 x19).f1.f0) == ((rd_T46 x4 (rd x16 x17)).f1.f0) && (((rd_T46 x15 x19).f1.f1) == ((rd_T46 x4 (rd x16 x17)).f1.f1))) && (((rd_T46 x15 x19).f2) == ((rd_T46 x4 (rd x16 x17)).f2) && ((((rd_T46 x15 x19).f3.f0) == ((rd_T46 x4 (rd x16 x17)).f3.f0) && (((rd_T46 x15 x19).f3.f1) == ((rd_T46 x4 (rd x16 x17)).f3.f1))) && ((((rd_T46 x15 x19).f4.f0) == ((rd_T46 x4 (rd x16 x17)).f4.f0) && (((rd_T46 x15 x19).f4.f1) == ((rd_T46 x4 (rd x16 x17)).f4.f1))) && (((rd_T46 x15 x19).f5) == ((rd_T46 x4 (rd x16 x17)).f5) && (((rd_T46 x15 x19).f6) == ((rd_T46 x4 (rd x16 x17)).f6)))))))) (wrap64 (x19 + 1)) x638000 x638001 x638002) else (none)) else (none)) else (none)) else (none)) else (none))) else (if x18 = true then (if 0 ≤ x17 then (if x17 < (x16.length : Int) then ((impl_Without.f x4 (rd x16 x17)).bind fun t682 => ((spec_IsMember.f k t682 x638000 x638001 x638002).bind fun t685 => (if t685 = true then (some false) else (laws_FnLeans.l1 k x4 x14 x15 x16 (wrap64 (x17 + 1)) x638000 x638001 x638002)))) else (none)) else (none)) else (some false))
end
def laws_FnLeans.f (k : Nat) (l0 : List Int) : Option (Bool) := (laws_big.f l0).bind fun t626 => (if t626 = true then (some true) else ((spec_DrawWords.f k l0).bind fun t627 => ((spec_DrawFactOf.f k l0).bind fun bt630 => ((spec_DrawPlaces.f k l0).bind fun t638 => (if 0 < (t638.length : Int) then (if 1 < (t638.length : Int) then ((impl_NeededFor.f k t627 (Int.tmod (rd t638 0) 3) (Int.tmod (rd t638 1) 2)).bind fun t644 => ((spec_MembersOf.f k t644 (Int.tmod (rd t638 0) 3) (Int.tmod (rd t638 1) 2)).bind fun t647 => ((spec_MembersOf.f k t627 (Int.tmod (rd t638 0) 3) (Int.tmod (rd t638 1) 2)).bind fun t650 => ((laws_sameInts.f k t647 t650).bind fun t653 => (if t653 = true then (laws_FnLeans.j0 k t627 bt630.1 bt630.2.2.2.2 (decide ((t644.length : Int) > (t627.length : Int))) bt630.2.1 bt630.2.2.1 bt630.2.2.2.1 (Int.tmod (rd t638 0) 3) (Int.tmod (rd t638 1) 2)) else (laws_FnLeans.j0 k t627 bt630.1 bt630.2.2.2.2 true bt630.2.1 bt630.2.2.1 bt630.2.2.2.1 (Int.tmod (rd t638 0) 3) (Int.tmod (rd t638 1) 2))))))) else (none)) else (none))))))
def laws_FnLeans.T6 : Bool × List (List Nat × List Nat) := (true, [([], []), ([0], [0]), ([1], [1]), ([2], [2]), ([], []), ([4], [4]), ([5], [5]), ([6], [6]), ([3, 7], [3, 7]), ([], []), ([9, 8, 0, 1, 2, 3, 4, 5, 6, 7, 8, 9], [8, 9])])
def laws_FnLeans.B6 : List Nat := [0, 1, 3, 7, 0, 16, 48, 112, 255, 0, 1023]
theorem laws_FnLeans.tab6 : rtab .any (opsOf Try.f3 6) = laws_FnLeans.T6 := by kernel_rfl
theorem laws_FnLeans.bits6 : waitsOk laws_FnLeans.T6.2 laws_FnLeans.B6 = true := by kernel_rfl
def laws_FnLeans.T8 : Bool × List (List Nat × List Nat) := (true, [([], []), ([], []), ([0, 1], [0, 1]), ([], []), ([], []), ([3, 4, 2], [3, 4]), ([2, 5, 5], [2, 5]), ([6], [6]), ([7, 6], [7]), ([8], [8]), ([9, 8], [8, 9]), ([8], [8]), ([11, 8], [8, 11]), ([10, 12, 8], [8, 10, 12]), ([8, 13], [8, 13])])
def laws_FnLeans.B8 : List Nat := [0, 0, 3, 0, 0, 31, 63, 127, 255, 511, 1023, 511, 2559, 8191, 16383]
theorem laws_FnLeans.tab8 : rtab .any (opsOf Try.f3 8) = laws_FnLeans.T8 := by kernel_rfl
theorem laws_FnLeans.bits8 : waitsOk laws_FnLeans.T8.2 laws_FnLeans.B8 = true := by kernel_rfl
def laws_FnLeans.T29 : Bool × List (List Nat × List Nat) := (true, [([], []), ([0], [0]), ([1], [1]), ([1], [1]), ([2, 3, 1], [1, 2, 3]), ([4, 1], [1, 4]), ([1], [1]), ([1], [1]), ([1], [1]), ([7, 8, 1], [1, 7, 8]), ([9, 1], [1, 9]), ([6, 10, 1], [1, 6, 10]), ([11, 1], [1, 11]), ([5, 12, 1], [1, 5, 12]), ([1, 13], [1, 13]), ([14, 1, 0, 1, 2, 3, 4, 5, 6, 7, 8, 9, 10, 11, 12, 13, 14], [0, 14])])
def laws_FnLeans.B29 : List Nat := [0, 1, 3, 3, 15, 31, 3, 3, 3, 387, 899, 1987, 4035, 8191, 16383, 32767]
theorem laws_FnLeans.tab29 : rtab .any (opsOf Try.f3 29) = laws_FnLeans.T29 := by kernel_rfl
theorem laws_FnLeans.bits29 : waitsOk laws_FnLeans.T29.2 laws_FnLeans.B29 = true := by kernel_rfl
def laws_FnLeans.T30 : Bool × List (List Nat × List Nat) := (true, [([], []), ([0], [0]), ([1], [1]), ([2], [2]), ([2], [2]), ([2], [2]), ([4, 5, 2], [2, 4, 5]), ([6, 2], [2, 6]), ([3, 7, 2, 2], [2, 3, 7]), ([2], [2]), ([9, 2], [2, 9]), ([2], [2]), ([11, 2], [2, 11]), ([8, 10, 12, 8, 2], [2, 8, 10, 12]), ([2, 13], [2, 13])])
def laws_FnLeans.B30 : List Nat := [0, 1, 3, 7, 7, 7, 55, 119, 255, 7, 519, 7, 2055, 8191, 16383]
theorem laws_FnLeans.tab30 : rtab .any (opsOf Try.f3 30) = laws_FnLeans.T30 := by kernel_rfl
theorem laws_FnLeans.bits30 : waitsOk laws_FnLeans.T30.2 laws_FnLeans.B30 = true := by kernel_rfl
set_option maxHeartbeats 8000000 in
set_option maxRecDepth 100000 in
theorem laws_FnLeans.calls (k : Nat) (A0 : Option Addr) (c0 : Nat) (l0 : List Int) (r : Bool) (w : World) (hr0 : Kd.C (Kd.int .u8) w A0 l0.length l0) (hc0 : l0.length ≤ c0) (hr_ : r = true) (h : laws_FnLeans.f k l0 = some r) :
  Calls Try.prog 3 #[.slice A0 l0.length c0] w fun e w' => e = .returned (.bool r) ∧ Below w.heap.size w w' := by
 have hu29 := Try.underlying29
 have hu27 := Try.underlying27
 have hu46 := Try.underlying46
 have HR0 := aa_ hr0
 have HC0 := aa_ hc0
 clear hr0 hc0
 have HB := aa_ (Below.refl w.heap.size w)
 have H : ((laws_big.f l0).bind fun t626 => (if t626 = true then (some true) else ((spec_DrawWords.f k l0).bind fun t627 => ((spec_DrawFactOf.f k l0).bind fun bt630 => ((spec_DrawPlaces.f k l0).bind fun t638 => (if 0 < (t638.length : Int) then (if 1 < (t638.length : Int) then ((impl_NeededFor.f k t627 (Int.tmod (rd t638 0) 3) (Int.tmod (rd t638 1) 2)).bind fun t644 => ((spec_MembersOf.f k t644 (Int.tmod (rd t638 0) 3) (Int.tmod (rd t638 1) 2)).bind fun t647 => ((spec_MembersOf.f k t627 (Int.tmod (rd t638 0) 3) (Int.tmod (rd t638 1) 2)).bind fun t650 => ((laws_sameInts.f k t647 t650).bind fun t653 => (if t653 = true then (laws_FnLeans.j0 k t627 bt630.1 bt630.2.2.2.2 (decide ((t644.length : Int) > (t627.length : Int))) bt630.2.1 bt630.2.2.1 bt630.2.2.2.1 (Int.tmod (rd t638 0) 3) (Int.tmod (rd t638 1) 2)) else (laws_FnLeans.j0 k t627 bt630.1 bt630.2.2.2.2 true bt630.2.1 bt630.2.2.1 bt630.2.2.2.1 (Int.tmod (rd t638 0) 3) (Int.tmod (rd t638 1) 2))))))) else (none)) else (none))))))) = some r := h
 clear h
 obtain ⟨t626, A2, H⟩ := bindE_ H
 have HC3 := aa_ H
 clear H
 go_enter Try.func3, Try.ntmps3
 go_upto_if 21 with (first | ((with_reducible refine gC_ 4 rfl ?_); refine goesC_ (some 21) Try.func4 #[.slice A0 l0.length c0] ?_; (with_reducible refine (laws_big.calls _ _ l0 t626 _ ?side1 ?side2 A2.out).mono ?_); (case side1 => exact cc_ HR0); (case side2 => exact HC0.out); rintro e w' ⟨rfl, ⟨nd, rfl⟩⟩; refine ⟨_, rfl, ?_⟩))
 (try simp only [Act.put, List.setIfInBounds_toArray, List.set_cons_zero, List.set_cons_succ])
 have H := HC3.out
 clear HC3
 by_cases c4 : t626 = true
 ·subst c4
  replace H := ite_t_ H
  obtain rfl := Option.some.inj H
  go_wp2
  go_ret
  exact ⟨eq_, bl_⟩
 ·replace c4 := Bool.eq_false_iff.mpr c4
  subst c4
  replace H := ite_f_ H
  obtain ⟨t627, A5, H⟩ := bindE_ H
  obtain ⟨⟨t630, t633, t634, t635, t636⟩, A6, H⟩ := bindE_ H
  (try dsimp only at H)
  obtain ⟨t638, A7, H⟩ := bindE_ H
  obtain ⟨c8, H⟩ := ifn_ H
  have c8b0 : decide (0 < (t638.length : Int)) = true := decide_eq_true c8
  have c8b1 : decide (0 < t638.length) = true := decide_eq_true (by omega)
  clear c8
  (first | rw [c8b0] | (simp only [i64_w, i32_w]; rw [c8b0]) | (have cz_ := c8b0; simp only [Int.ofNat_lt, Int.ofNat_le, gt_iff_lt, ge_iff_le] at cz_; rw [cz_]; clear cz_) | skip)
  obtain ⟨c9, H⟩ := ifn_ H
  have c9b0 : decide (1 < (t638.length : Int)) = true := decide_eq_true c9
  have c9b1 : decide (1 < t638.length) = true := decide_eq_true (by omega)
  clear c9
  obtain ⟨t644, A10, H⟩ := bindE_ H
  have HC11 := aa_ H
  clear H
  try go_wp2_with (first | ((with_reducible refine gC_ 5 rfl ?_); refine goesC_ (some 23) Try.func5 #[.slice A0 l0.length c0] ?_; (with_reducible refine (spec_DrawWords.calls k _ _ l0 t627 _ ?side1 ?side2 A5.out).mono ?_); (case side1 => repeat (first | exact (Kd.C_below HR0.out HB.out) | (with_reducible refine Kd.C_alloc ?_ _) | (with_reducible refine Kd.C_drewN ?_ _) | (with_reducible refine Kd.C_drew ?_))); (case side2 => exact HC0.out); rintro e w12 ⟨v628, rfl, ho0, hb⟩; refine ⟨_, rfl, ?_⟩; have HO629 := aa_ (Kd.R_lower ho0 bls_); replace HB := hbs_ hb; (try clear hb ho0)) | ((with_reducible refine gC_ 6 rfl ?_); refine goesC_ (some 26) Try.func6 #[.slice A0 l0.length c0] ?_; (with_reducible refine (spec_DrawFactOf.calls k _ _ l0 t630 t633 t634 t635 t636 _ ?side1 ?side2 A6.out).mono ?_); (case side1 => repeat (first | exact (Kd.C_below HR0.out HB.out) | (with_reducible refine Kd.C_alloc ?_ _) | (with_reducible refine Kd.C_drewN ?_ _) | (with_reducible refine Kd.C_drew ?_))); (case side2 => exact HC0.out); rintro e w13 ⟨v631, rfl, ho0, hb⟩; refine ⟨_, rfl, ?_⟩; have HO632 := aa_ (Kd.R_lower (Kd.R_new' ho0 (Kd.R_lt (rr_ HO629))) bls_); replace HO629 := aa_ (Kd.R_elder' (rr_ HO629) (Kd.R_base ho0) hb); replace HB := hbs_ hb; (try clear hb ho0)) | ((with_reducible refine gD_ 5 rfl ?_); (try (refine gate_guard (by rfl) ?_; dsimp only)); refine bx_ (N := 5) (cs := #[.int .i64 0, .int .i64 0, .int .i64 0]) (t := 29) ?_; intro gb637 hg w14 hbox hb; replace HO629 := hob_ HO629 hb; replace HO632 := hob_ HO632 hb; have BK637 := aa_ (hbox); have GW637 := gs_ hg; have GE637 := gs_ hg; replace HB := hbs_ hb; clear hb hbox hg; obtain ⟨hcz15, hfz15⟩ := bcf_ BK637) | ((with_reducible refine gC_ 7 rfl ?_); refine goesC_ (some 31) Try.func7 #[.slice A0 l0.length c0] ?_; (with_reducible refine (spec_DrawPlaces.calls k _ _ l0 t638 _ ?side1 ?side2 A7.out).mono ?_); (case side1 => exact Kd.C_below HR0.out bl_); (case side2 => exact HC0.out); rintro e w16 ⟨v639, rfl, ho0, hb⟩; refine ⟨_, rfl, ?_⟩; replace HO629 := aa_ (Kd.R_below (by (with_reducible repeat (first | apply Kd.R_alloc | apply Kd.R_drewN | apply Kd.R_drew)); exact (Kd.R_mono (fr3_ (Kd.R_types HO629.out BK637.out (by decide)) (fun _ hk => hk.2)) (fun _ h_ => h_.1))) hb); replace HO632 := aa_ (Kd.R_below (by (with_reducible repeat (first | apply Kd.R_alloc | apply Kd.R_drewN | apply Kd.R_drew)); exact (Kd.R_mono (fr3_ (Kd.R_types HO632.out BK637.out (by decide)) (fun _ hk => hk.2)) (fun _ h_ => h_.1))) hb); have HO640 := aa_ (Kd.R_lower ho0 bls_); replace BK637 := aa_ (blk_below (g := gb637) (o := .cells #[.int .i64 t633, .int .i64 t634, .int .i64 t635] 29 (0, 0)) (bk_ BK637) hb); replace HB := hbs_ hb; (try clear hb ho0)))
  replace HO629 := aa_ (Kd.R_drew HO629.out)
  replace HO632 := aa_ (Kd.R_drew HO632.out)
  replace HO640 := aa_ (Kd.R_drew HO640.out)
  replace BK637 := aa_ (blk_drew BK637.out)
  replace HB := aa_ (below_drew1 HB.out)
  obtain ⟨Ao18, co18, eo18⟩ := Kd.R_slice HO640.out
  (first | subst eo18 | (injection eo18 with f1_ f2_ f3_; have f4_ := f1_.symm; have f5_ := f3_.symm; clear f1_ f2_ f3_; subst f4_; subst f5_))
  have p641 : 0 ≤ (0 : Int) := (by omega)
  have q641 : 0 < (t638.length : Int) := od_
  obtain ⟨ad641, e641, hx641_0⟩ := Kd.at_int (Kd.R_reads' HO640.out).2.2 0 p641 q641
  cases e641
  have qi641 : (0 < t638.length) = True := eq_true (by omega)
  (try rw [show ((0 : Int)).toNat = 0 from rfl] at hx641_0)
  (try rw [Addr.add_zero'] at hx641_0)
  replace p641 := eq_true p641
  replace q641 := eq_true q641
  have p642 : 0 ≤ (1 : Int) := (by omega)
  have q642 : 1 < (t638.length : Int) := od_
  obtain ⟨ad642, e642, hx642_0⟩ := Kd.at_int (Kd.R_reads' HO640.out).2.2 1 p642 q642
  obtain rfl : ad641 = ad642 := (by injection e642)
  (try simp only [show (1 : Int).toNat = 1 from rfl, Nat.reduceMul, Nat.reduceEqDiff, Go.Addr.add, ↓reduceIte] at hx642_0)
  have qi642 : (1 < t638.length) = True := eq_true (by omega)
  (try rw [show ((1 : Int)).toNat = 1 from rfl] at hx642_0)
  replace p642 := eq_true p642
  replace q642 := eq_true q642
  refine start_ (n := 11) (S := fun w' => w'.cell? ad641 = some (.int .i64 (rd t638 0)) ∧ w'.cell? ⟨ad641.block, ad641.off + 1, none⟩ = some (.int .i64 (rd t638 1))) (ds := []) #[false, false, false, false, false, false, false, false, false, false, false] (by kernel_rfl) rfl rfl ⟨hx641_0, hx642_0⟩ (fun hHeld => ?_); refine with_tabW laws_FnLeans.tab6 laws_FnLeans.bits6 (fun HT_ HW_ => ?_)
  generalize w16.drew = w17 at HO629 HO632 HO640 BK637 HB hx641_0 hx642_0 hHeld ⊢
  refine pureZ_ (i := 0) (some 32) #[true, false, false, false, false, false, false, false, false, false, false] (ao_ HT_) ?_
  refine pureZ_ (i := 1) (some 33) #[true, true, false, false, false, false, false, false, false, false, false] (ao_ HT_) ?_
  refine pureZ_ (i := 4) (some 36) #[true, true, false, false, true, false, false, false, false, false, false] (ao_ HT_) ?_
  refine pureZ_ (i := 5) (some 37) #[true, true, false, false, true, true, false, false, false, false, false] (ao_ HT_) ?_
  refine takeZ_ (i := 2) (some 34) #[true, true, true, false, true, true, false, false, false, false, false] (take_ofW HT_.out HW_.out (by kernel_rfl)) hHeld ?_
  refine pureZ_ (i := 3) (some 35) #[true, true, true, true, true, true, false, false, false, false, false] (ao_ HT_) ?_
  refine takeZ_ (i := 6) (some 38) #[true, true, true, true, true, true, true, false, false, false, false] (take_ofW HT_.out HW_.out (by kernel_rfl)) hHeld ?_
  refine pureZ_ (i := 7) (some 39) #[true, true, true, true, true, true, true, true, false, false, false] (ao_ HT_) ?_
  refine pureZ_ (i := 8) (some 40) #[true, true, true, true, true, true, true, true, true, false, false] (ao_ HT_) ?_
  refine one_ (i := 9) (N := some 8) #[true, true, true, true, true, true, true, true, true, true, false] rfl rfl (one_of HT_.out (by kernel_rfl)) (by decide) (fun K hK => ?_)
  refine box_step ?hg (N := 8) ?hd (cs := #[.int .i64 0, .int .i64 0]) (t := 27) ?hr ?_; (case hd => rfl); (case hg => rfl); (case hr => first | (go_simp; done) | (go_simp; rfl))
  intro gb643 hg w19 hbox hb
  have HS0_ := (hb.cell (World.block_lt_of_cell? _ _ (hHeld.1))).trans (hHeld.1)
  have HS1_ := (hb.cell (World.block_lt_of_cell? _ _ (hHeld.2))).trans (hHeld.2)
  replace HO629 := hob_ HO629 hb
  replace HO632 := hob_ HO632 hb
  replace HO640 := hob_ HO640 hb
  have BK643 := aa_ (hbox)
  have GW643 := gs_ hg
  have GE643 := gs_ hg
  replace HB := hbs_ hb
  have NB637_643 := nl_ hg BK637
  have NB643_637 := nr_ hg BK637
  replace BK637 := bkb_ BK637 hb
  clear hb hbox hg
  refine hK.out _ _ ⟨HS0_, HS1_⟩ (fun hHeld => ?_)
  clear hK K
  refine norm_ (a' := ?_) ?_ ?_
  rotate_left
  ·show Act.put _ (some 8) _ = _
   simp only [Act.put, List.setIfInBounds_toArray, List.set_cons_zero, List.set_cons_succ, i64_w, i32_w]
   rfl
  refine one_ (i := 10) (N := none) #[true, true, true, true, true, true, true, true, true, true, true] rfl rfl (one_of HT_.out (by kernel_rfl)) (by decide) (fun K hK => ?_)
  have hs20 : w19.cell? ⟨gb643, 0, none⟩ = some (.int .i64 0) := (blk_cell BK643.out 0).trans rfl
  have hfs20 := blk_frozen BK643.out 0
  have hns20_0 := NB637_643.out
  have hms20_0 := NB643_637.out
  have hs21 : w19.cell? ⟨gb643, 1, none⟩ = some (.int .i64 0) := (blk_cell BK643.out 1).trans rfl
  have hfs21 := blk_frozen BK643.out 1
  have hns21_0 := NB637_643.out
  have hms21_0 := NB643_637.out
  refine skip_ (w1 := ?_) (by rfl) rfl ?_ ?_
  rotate_left
  ·go_simp
   rfl
  refine hK.out _ _ ⟨((cf_ (Kd.own_blk (Kd.R_ne HO640.out BK643.out (by decide)))).trans (((cf_ (Kd.own_blk (Kd.R_ne HO640.out BK643.out (by decide)))).trans (hHeld.1)))), ((cf_ (Kd.own_blk (Kd.R_ne HO640.out BK643.out (by decide)))).trans (((cf_ (Kd.own_blk (Kd.R_ne HO640.out BK643.out (by decide)))).trans (hHeld.2))))⟩ (fun hHeld => ?_)
  clear hK K
  refine done_ (done_of HT_.out (by kernel_rfl)) ?_
  have hnb22 := NB643_637.out
  have hnc22 := NB637_643.out
  have hcz23 := blk_cell BK643.out
  have hfz23 := blk_frozen BK643.out
  obtain ⟨Ao24, co24, eo24⟩ := Kd.R_slice HO629.out
  subst eo24
  go_upto_region 8 with (first | ((with_reducible refine gC_ 8 rfl ?_); refine goesC_ (some 43) Try.func8 #[.slice Ao24 t627.length co24, .agg #[.int .i64 (Int.tmod (rd t638 0) 3), .int .i64 (Int.tmod (rd t638 1) 2)]] ?_; (with_reducible refine (impl_NeededFor.calls k _ _ t627 (Int.tmod (rd t638 0) 3) (Int.tmod (rd t638 1) 2) t644 _ ?side1 ?side2 A10.out).mono ?_); (case side1 => refine (Kd.R_reads' (e := 46) (base := w.heap.size) (ok := fun k_ => (True ∧ some k_ ≠ (v631 : Value).ownBlock)) (n := t627.length) (c := co24) ?_).2.2; exact (by (with_reducible repeat (first | apply Kd.R_alloc | apply Kd.R_drewN | apply Kd.R_drew)); exact (Kd.R_mono (fr2_ (Kd.R_types HO629.out BK643.out (by decide)) (fun _ hk => hk.2)) (fun _ h_ => h_.1)))); (case side2 => exact (Kd.R_reads' HO629.out).2.1); rintro e w25 ⟨v645, rfl, ho0, hb⟩; refine ⟨_, rfl, ?_⟩; replace HO640 := aa_ (Kd.R_below (by (with_reducible repeat (first | apply Kd.R_alloc | apply Kd.R_drewN | apply Kd.R_drew)); exact (Kd.R_mono (fr2_ (Kd.R_types HO640.out BK643.out (by decide)) (fun _ hk => hk.2)) (fun _ h_ => h_.1))) hb); have HO646 := aa_ (Kd.R_lower (Kd.R_new' (Kd.R_new' ho0 (Kd.R_lt (by (with_reducible repeat (first | apply Kd.R_alloc | apply Kd.R_drewN | apply Kd.R_drew)); exact (Kd.R_mono (fr2_ (Kd.R_types HO629.out BK643.out (by decide)) (fun _ hk => hk.2)) (fun _ h_ => h_.1))))) (Kd.R_lt (by (with_reducible repeat (first | apply Kd.R_alloc | apply Kd.R_drewN | apply Kd.R_drew)); exact (Kd.R_mono (fr2_ (Kd.R_types HO632.out BK643.out (by decide)) (fun _ hk => hk.2)) (fun _ h_ => h_.1))))) bls_); replace HO629 := aa_ (Kd.R_elder' (by (with_reducible repeat (first | apply Kd.R_alloc | apply Kd.R_drewN | apply Kd.R_drew)); exact (Kd.R_mono (fr2_ (Kd.R_types HO629.out BK643.out (by decide)) (fun _ hk => hk.2)) (fun _ h_ => h_.1))) (Kd.R_base ho0) hb); replace HO632 := aa_ (Kd.R_elder' (by (with_reducible repeat (first | apply Kd.R_alloc | apply Kd.R_drewN | apply Kd.R_drew)); exact (Kd.R_mono (fr2_ (Kd.R_types HO632.out BK643.out (by decide)) (fun _ hk => hk.2)) (fun _ h_ => h_.1))) (Kd.R_base ho0) hb); replace BK637 := aa_ (blk_below (g := gb637) (o := .cells #[.int .i64 t633, .int .i64 t634, .int .i64 t635] 29 (0, 0)) (bk_ BK637) hb); replace BK643 := aa_ (blk_below (g := gb643) (o := .cells #[.int .i64 (Int.tmod (rd t638 0) 3), .int .i64 (Int.tmod (rd t638 1) 2)] 27 (0, 0)) (bk_ BK643) hb); replace HB := hbs_ hb; (try clear hb ho0)))
  (try simp only [Act.put, List.setIfInBounds_toArray, List.set_cons_zero, List.set_cons_succ])
  go_cut [58] (fun v58 wc => ∃ (kq : Nat) (x58_10 : Bool), v58 = .bool x58_10 ∧ Aside0 (laws_FnLeans.j0 kq t627 t630 t636 x58_10 t633 t634 t635 (Int.tmod (rd t638 0) 3) (Int.tmod (rd t638 1) 2) = some r) ∧ Aside0 (kq ≤ k) ∧ Aside0 (Kd.R k46 46 wc w.heap.size (fun k_ => some k_ ≠ (v631 : Value).ownBlock) (.slice Ao24 t627.length co24) t627) ∧ Aside0 (Kd.R k46 46 wc w.heap.size (fun k_ => some k_ ≠ ((.slice Ao24 t627.length co24) : Value).ownBlock) v631 t630) ∧ Aside0 (wc.heap[gb637]? = some (.cells #[.int .i64 t633, .int .i64 t634, .int .i64 t635] 29 (0, 0))) ∧ Aside0 (wc.heap[gb643]? = some (.cells #[.int .i64 (Int.tmod (rd t638 0) 3), .int .i64 (Int.tmod (rd t638 1) 2)] 27 (0, 0))) ∧ Aside0 (Below w.heap.size w wc))
  case first =>
   have H := HC11.out
   clear HC11
   obtain ⟨t647, A26, H⟩ := bindE_ H
   obtain ⟨t650, A27, H⟩ := bindE_ H
   obtain ⟨t653, A28, H⟩ := bindE_ H
   by_cases c29 : t653 = true
   ·subst c29
    replace H := ite_t_ H
    have H' := aa_ H
    clear H
    try go_wp2
    replace HO629 := aa_ (Kd.R_drew HO629.out)
    replace HO632 := aa_ (Kd.R_drew HO632.out)
    replace HO640 := aa_ (Kd.R_drew HO640.out)
    replace HO646 := aa_ (Kd.R_drew HO646.out)
    replace BK637 := aa_ (blk_drew BK637.out)
    replace BK643 := aa_ (blk_drew BK643.out)
    replace HB := aa_ (below_drew1 HB.out)
    obtain ⟨Ao31, co31, eo31⟩ := Kd.R_slice HO646.out
    (first | subst eo31 | (injection eo31 with f1_ f2_ f3_; have f4_ := f1_.symm; have f5_ := f3_.symm; clear f1_ f2_ f3_; subst f4_; subst f5_))
    refine start_ (n := 15) (S := fun w' => w'.cell? ⟨gb643, 0, none⟩ = some (.int .i64 (Int.tmod (rd t638 0) 3)) ∧ w'.cell? ⟨gb643, 1, none⟩ = some (.int .i64 (Int.tmod (rd t638 1) 2))) (ds := []) #[false, false, false, false, false, false, false, false, false, false, false, false, false, false, false] (by kernel_rfl) rfl rfl ⟨(blk_cell BK643.out 0).trans rfl, (blk_cell BK643.out 1).trans rfl⟩ (fun hHeld => ?_); refine with_tabW laws_FnLeans.tab8 laws_FnLeans.bits8 (fun HT_ HW_ => ?_)
    generalize w25.drew = w30 at HO629 HO632 HO640 HO646 BK637 BK643 HB hHeld ⊢
    refine pureZ_ (i := 0) (some 44) #[true, false, false, false, false, false, false, false, false, false, false, false, false, false, false] (ao_ HT_) ?_
    refine pureZ_ (i := 3) (some 47) #[true, false, false, true, false, false, false, false, false, false, false, false, false, false, false] (ao_ HT_) ?_
    refine takeZ_ (i := 1) (some 45) #[true, true, false, true, false, false, false, false, false, false, false, false, false, false, false] (take_ofW HT_.out HW_.out (by kernel_rfl)) hHeld ?_
    refine takeZ_ (i := 4) (some 48) #[true, true, false, true, true, false, false, false, false, false, false, false, false, false, false] (take_ofW HT_.out HW_.out (by kernel_rfl)) hHeld ?_
    refine one_ (i := 2) (N := some 46) #[true, true, true, true, true, false, false, false, false, false, false, false, false, false, false] rfl rfl (one_of HT_.out (by kernel_rfl)) (by decide) (fun K hK => ?_)
    refine goes_ Try.func10 (by kernel_rfl) rfl #[.slice Ao31 t644.length co31, .agg #[.int .i64 (Int.tmod (rd t638 0) 3), .int .i64 (Int.tmod (rd t638 1) 2)]] (by rfl) rfl rfl (by (try simp only [List.map_toArray, List.map_cons, List.map_nil]); first | done | rfl | (simp only [List.length_drop, List.length_take]; rfl)) ?_
    with_reducible refine (spec_MembersOf.calls k _ _ t644 (Int.tmod (rd t638 0) 3) (Int.tmod (rd t638 1) 2) t647 _ ?side1 ?side2 A26.out).mono ?_
    (case side1 => repeat (first | exact (Kd.R_reads' HO646.out).2.2 | (with_reducible refine Kd.C_alloc ?_ _) | (with_reducible refine Kd.C_drewN ?_ _) | (with_reducible refine Kd.C_drew ?_)))
    (case side2 => exact (Kd.R_reads' HO646.out).2.1)
    rintro e w32 ⟨v648, rfl, ho0, hb⟩
    refine ⟨_, rfl, ?_⟩
    replace HO629 := hob_ HO629 hb
    replace HO632 := hob_ HO632 hb
    replace HO646 := hob_ HO646 hb
    have HO649 := aa_ (Kd.R_lower (Kd.R_new' ho0 (Kd.R_lt (rr_ HO640))) bls_)
    replace HO640 := aa_ (Kd.R_elder' (rr_ HO640) (Kd.R_base ho0) hb)
    replace BK637 := bkb_ BK637 hb
    replace BK643 := bkb_ BK643 hb
    replace HB := hbs_ hb
    (try clear hb)
    (try clear hb2)
    (try clear hk)
    (try clear hi)
    (try clear ho0)
    refine hK.out _ _ ⟨(blk_cell BK643.out 0).trans rfl, (blk_cell BK643.out 1).trans rfl⟩ (fun hHeld => ?_)
    clear hK K
    refine norm_ (a' := ?_) ?_ ?_
    rotate_left
    ·show Act.put _ (some 46) _ = _
     simp only [Act.put, List.setIfInBounds_toArray, List.set_cons_zero, List.set_cons_succ, i64_w, i32_w]
     rfl
    refine one_ (i := 5) (N := some 49) #[true, true, true, true, true, true, false, false, false, false, false, false, false, false, false] rfl rfl (one_of HT_.out (by kernel_rfl)) (by decide) (fun K hK => ?_)
    refine goes_ Try.func10 (by kernel_rfl) rfl #[.slice Ao24 t627.length co24, .agg #[.int .i64 (Int.tmod (rd t638 0) 3), .int .i64 (Int.tmod (rd t638 1) 2)]] (by rfl) rfl rfl (by (try simp only [List.map_toArray, List.map_cons, List.map_nil]); first | done | rfl | (simp only [List.length_drop, List.length_take]; rfl)) ?_
    with_reducible refine (spec_MembersOf.calls k _ _ t627 (Int.tmod (rd t638 0) 3) (Int.tmod (rd t638 1) 2) t650 _ ?side1 ?side2 A27.out).mono ?_
    (case side1 => repeat (first | exact (Kd.R_reads' HO629.out).2.2 | (with_reducible refine Kd.C_alloc ?_ _) | (with_reducible refine Kd.C_drewN ?_ _) | (with_reducible refine Kd.C_drew ?_)))
    (case side2 => exact (Kd.R_reads' HO629.out).2.1)
    rintro e w33 ⟨v651, rfl, ho0, hb⟩
    refine ⟨_, rfl, ?_⟩
    replace HO629 := hob_ HO629 hb
    replace HO632 := hob_ HO632 hb
    replace HO646 := hob_ HO646 hb
    have HO652 := aa_ (Kd.R_lower (Kd.R_new' (Kd.R_new' ho0 (Kd.R_lt (rr_ HO640))) (Kd.R_lt (rr_ HO649))) bls_)
    replace HO640 := aa_ (Kd.R_elder' (rr_ HO640) (Kd.R_base ho0) hb)
    replace HO649 := aa_ (Kd.R_elder' (rr_ HO649) (Kd.R_base ho0) hb)
    replace BK637 := bkb_ BK637 hb
    replace BK643 := bkb_ BK643 hb
    replace HB := hbs_ hb
    (try clear hb)
    (try clear hb2)
    (try clear hk)
    (try clear hi)
    (try clear ho0)
    obtain ⟨Ao34, co34, eo34⟩ := Kd.R_slice HO649.out
    (first | subst eo34 | (injection eo34 with f1_ f2_ f3_; have f4_ := f1_.symm; have f5_ := f3_.symm; clear f1_ f2_ f3_; subst f4_; subst f5_))
    obtain ⟨Ao35, co35, eo35⟩ := Kd.R_slice HO652.out
    (first | subst eo35 | (injection eo35 with f1_ f2_ f3_; have f4_ := f1_.symm; have f5_ := f3_.symm; clear f1_ f2_ f3_; subst f4_; subst f5_))
    refine hK.out _ _ ⟨(blk_cell BK643.out 0).trans rfl, (blk_cell BK643.out 1).trans rfl⟩ (fun hHeld => ?_)
    clear hK K
    refine norm_ (a' := ?_) ?_ ?_
    rotate_left
    ·show Act.put _ (some 49) _ = _
     simp only [Act.put, List.setIfInBounds_toArray, List.set_cons_zero, List.set_cons_succ, i64_w, i32_w]
     rfl
    refine one_ (i := 6) (N := some 50) #[true, true, true, true, true, true, true, false, false, false, false, false, false, false, false] rfl rfl (one_of HT_.out (by kernel_rfl)) (by decide) (fun K hK => ?_)
    refine goes_ Try.func9 (by kernel_rfl) rfl #[.slice Ao34 t647.length co34, .slice Ao35 t650.length co35] (by rfl) rfl rfl (by (try simp only [List.map_toArray, List.map_cons, List.map_nil]); first | done | rfl | (simp only [List.length_drop, List.length_take]; rfl)) ?_
    with_reducible refine (laws_sameInts.calls k _ _ t647 _ _ t650 true _ ?side1 ?side2 ?side3 ?side4 A28.out).mono ?_
    (case side1 => repeat (first | exact (Kd.R_reads' HO649.out).2.2 | (with_reducible refine Kd.C_alloc ?_ _) | (with_reducible refine Kd.C_drewN ?_ _) | (with_reducible refine Kd.C_drew ?_)))
    (case side2 => exact (Kd.R_reads' HO649.out).2.1)
    (case side3 => repeat (first | exact (Kd.R_reads' HO652.out).2.2 | (with_reducible refine Kd.C_alloc ?_ _) | (with_reducible refine Kd.C_drewN ?_ _) | (with_reducible refine Kd.C_drew ?_)))
    (case side4 => exact (Kd.R_reads' HO652.out).2.1)
    rintro e w' ⟨rfl, ⟨nd, rfl⟩⟩
    refine ⟨_, rfl, ?_⟩
    refine hK.out _ _ ⟨(blk_cell BK643.out 0).trans rfl, (blk_cell BK643.out 1).trans rfl⟩ (fun hHeld => ?_)
    clear hK K
    refine norm_ (a' := ?_) ?_ ?_
    rotate_left
    ·show Act.put _ (some 50) _ = _
     simp only [Act.put, List.setIfInBounds_toArray, List.set_cons_zero, List.set_cons_succ, i64_w, i32_w]
     rfl
    refine pureZ_ (i := 7) (some 51) #[true, true, true, true, true, true, true, true, false, false, false, false, false, false, false] (ao_ HT_) ?_
    refine pureZ_ (i := 8) (some 52) #[true, true, true, true, true, true, true, true, true, false, false, false, false, false, false] (ao_ HT_) ?_
    refine pureZ_ (i := 9) (some 53) #[true, true, true, true, true, true, true, true, true, true, false, false, false, false, false] (ao_ HT_) ?_
    refine pureZ_ (i := 10) (some 54) #[true, true, true, true, true, true, true, true, true, true, true, false, false, false, false] (ao_ HT_) ?_
    refine pureZ_ (i := 11) (some 55) #[true, true, true, true, true, true, true, true, true, true, true, true, false, false, false] (ao_ HT_) ?_
    refine pureZ_ (i := 12) (some 56) #[true, true, true, true, true, true, true, true, true, true, true, true, true, false, false] (ao_ HT_) ?_
    refine pureZ_ (i := 13) (some 57) #[true, true, true, true, true, true, true, true, true, true, true, true, true, true, false] (ao_ HT_) ?_
    refine pureZ_ (i := 14) (some 58) #[true, true, true, true, true, true, true, true, true, true, true, true, true, true, true] (ao_ HT_) ?_
    refine done_ (done_of HT_.out (by kernel_rfl)) ?_
    try go_wp2
    go_meet
    case rel => exact ⟨_, (decide ((t644.length : Int) > (t627.length : Int))), rf_, H', ⟨by first | omega | exact Nat.le_refl _⟩, ⟨by (with_reducible repeat (first | apply Kd.R_alloc | apply Kd.R_drewN | apply Kd.R_drew)); exact Kd.R_mono HO629.out (fun _ hk => hk.1.2)⟩, ⟨by (with_reducible repeat (first | apply Kd.R_alloc | apply Kd.R_drewN | apply Kd.R_drew)); exact Kd.R_mono HO632.out (fun _ hk => hk.1.2)⟩, ⟨bk_ BK637⟩, ⟨bk_ BK643⟩, ⟨bl_⟩⟩
   ·replace c29 := Bool.eq_false_iff.mpr c29
    subst c29
    replace H := ite_f_ H
    have H' := aa_ H
    clear H
    try go_wp2
    replace HO629 := aa_ (Kd.R_drew HO629.out)
    replace HO632 := aa_ (Kd.R_drew HO632.out)
    replace HO640 := aa_ (Kd.R_drew HO640.out)
    replace HO646 := aa_ (Kd.R_drew HO646.out)
    replace BK637 := aa_ (blk_drew BK637.out)
    replace BK643 := aa_ (blk_drew BK643.out)
    replace HB := aa_ (below_drew1 HB.out)
    obtain ⟨Ao37, co37, eo37⟩ := Kd.R_slice HO646.out
    (first | subst eo37 | (injection eo37 with f1_ f2_ f3_; have f4_ := f1_.symm; have f5_ := f3_.symm; clear f1_ f2_ f3_; subst f4_; subst f5_))
    refine start_ (n := 15) (S := fun w' => w'.cell? ⟨gb643, 0, none⟩ = some (.int .i64 (Int.tmod (rd t638 0) 3)) ∧ w'.cell? ⟨gb643, 1, none⟩ = some (.int .i64 (Int.tmod (rd t638 1) 2))) (ds := []) #[false, false, false, false, false, false, false, false, false, false, false, false, false, false, false] (by kernel_rfl) rfl rfl ⟨(blk_cell BK643.out 0).trans rfl, (blk_cell BK643.out 1).trans rfl⟩ (fun hHeld => ?_); refine with_tabW laws_FnLeans.tab8 laws_FnLeans.bits8 (fun HT_ HW_ => ?_)
    generalize w25.drew = w36 at HO629 HO632 HO640 HO646 BK637 BK643 HB hHeld ⊢
    refine pureZ_ (i := 0) (some 44) #[true, false, false, false, false, false, false, false, false, false, false, false, false, false, false] (ao_ HT_) ?_
    refine pureZ_ (i := 3) (some 47) #[true, false, false, true, false, false, false, false, false, false, false, false, false, false, false] (ao_ HT_) ?_
    refine takeZ_ (i := 1) (some 45) #[true, true, false, true, false, false, false, false, false, false, false, false, false, false, false] (take_ofW HT_.out HW_.out (by kernel_rfl)) hHeld ?_
    refine takeZ_ (i := 4) (some 48) #[true, true, false, true, true, false, false, false, false, false, false, false, false, false, false] (take_ofW HT_.out HW_.out (by kernel_rfl)) hHeld ?_
    refine one_ (i := 2) (N := some 46) #[true, true, true, true, true, false, false, false, false, false, false, false, false, false, false] rfl rfl (one_of HT_.out (by kernel_rfl)) (by decide) (fun K hK => ?_)
    refine goes_ Try.func10 (by kernel_rfl) rfl #[.slice Ao37 t644.length co37, .agg #[.int .i64 (Int.tmod (rd t638 0) 3), .int .i64 (Int.tmod (rd t638 1) 2)]] (by rfl) rfl rfl (by (try simp only [List.map_toArray, List.map_cons, List.map_nil]); first | done | rfl | (simp only [List.length_drop, List.length_take]; rfl)) ?_
    with_reducible refine (spec_MembersOf.calls k _ _ t644 (Int.tmod (rd t638 0) 3) (Int.tmod (rd t638 1) 2) t647 _ ?side1 ?side2 A26.out).mono ?_
    (case side1 => repeat (first | exact (Kd.R_reads' HO646.out).2.2 | (with_reducible refine Kd.C_alloc ?_ _) | (with_reducible refine Kd.C_drewN ?_ _) | (with_reducible refine Kd.C_drew ?_)))
    (case side2 => exact (Kd.R_reads' HO646.out).2.1)
    rintro e w38 ⟨v648, rfl, ho0, hb⟩
    refine ⟨_, rfl, ?_⟩
    replace HO629 := hob_ HO629 hb
    replace HO632 := hob_ HO632 hb
    replace HO646 := hob_ HO646 hb
    have HO649 := aa_ (Kd.R_lower (Kd.R_new' ho0 (Kd.R_lt (rr_ HO640))) bls_)
    replace HO640 := aa_ (Kd.R_elder' (rr_ HO640) (Kd.R_base ho0) hb)
    replace BK637 := bkb_ BK637 hb
    replace BK643 := bkb_ BK643 hb
    replace HB := hbs_ hb
    (try clear hb)
    (try clear hb2)
    (try clear hk)
    (try clear hi)
    (try clear ho0)
    refine hK.out _ _ ⟨(blk_cell BK643.out 0).trans rfl, (blk_cell BK643.out 1).trans rfl⟩ (fun hHeld => ?_)
    clear hK K
    refine norm_ (a' := ?_) ?_ ?_
    rotate_left
    ·show Act.put _ (some 46) _ = _
     simp only [Act.put, List.setIfInBounds_toArray, List.set_cons_zero, List.set_cons_succ, i64_w, i32_w]
     rfl
    refine one_ (i := 5) (N := some 49) #[true, true, true, true, true, true, false, false, false, false, false, false, false, false, false] rfl rfl (one_of HT_.out (by kernel_rfl)) (by decide) (fun K hK => ?_)
    refine goes_ Try.func10 (by kernel_rfl) rfl #[.slice Ao24 t627.length co24, .agg #[.int .i64 (Int.tmod (rd t638 0) 3), .int .i64 (Int.tmod (rd t638 1) 2)]] (by rfl) rfl rfl (by (try simp only [List.map_toArray, List.map_cons, List.map_nil]); first | done | rfl | (simp only [List.length_drop, List.length_take]; rfl)) ?_
    with_reducible refine (spec_MembersOf.calls k _ _ t627 (Int.tmod (rd t638 0) 3) (Int.tmod (rd t638 1) 2) t650 _ ?side1 ?side2 A27.out).mono ?_
    (case side1 => repeat (first | exact (Kd.R_reads' HO629.out).2.2 | (with_reducible refine Kd.C_alloc ?_ _) | (with_reducible refine Kd.C_drewN ?_ _) | (with_reducible refine Kd.C_drew ?_)))
    (case side2 => exact (Kd.R_reads' HO629.out).2.1)
    rintro e w39 ⟨v651, rfl, ho0, hb⟩
    refine ⟨_, rfl, ?_⟩
    replace HO629 := hob_ HO629 hb
    replace HO632 := hob_ HO632 hb
    replace HO646 := hob_ HO646 hb
    have HO652 := aa_ (Kd.R_lower (Kd.R_new' (Kd.R_new' ho0 (Kd.R_lt (rr_ HO640))) (Kd.R_lt (rr_ HO649))) bls_)
    replace HO640 := aa_ (Kd.R_elder' (rr_ HO640) (Kd.R_base ho0) hb)
    replace HO649 := aa_ (Kd.R_elder' (rr_ HO649) (Kd.R_base ho0) hb)
    replace BK637 := bkb_ BK637 hb
    replace BK643 := bkb_ BK643 hb
    replace HB := hbs_ hb
    (try clear hb)
    (try clear hb2)
    (try clear hk)
    (try clear hi)
    (try clear ho0)
    obtain ⟨Ao40, co40, eo40⟩ := Kd.R_slice HO649.out
    (first | subst eo40 | (injection eo40 with f1_ f2_ f3_; have f4_ := f1_.symm; have f5_ := f3_.symm; clear f1_ f2_ f3_; subst f4_; subst f5_))
    obtain ⟨Ao41, co41, eo41⟩ := Kd.R_slice HO652.out
    (first | subst eo41 | (injection eo41 with f1_ f2_ f3_; have f4_ := f1_.symm; have f5_ := f3_.symm; clear f1_ f2_ f3_; subst f4_; subst f5_))
    refine hK.out _ _ ⟨(blk_cell BK643.out 0).trans rfl, (blk_cell BK643.out 1).trans rfl⟩ (fun hHeld => ?_)
    clear hK K
    refine norm_ (a' := ?_) ?_ ?_
    rotate_left
    ·show Act.put _ (some 49) _ = _
     simp only [Act.put, List.setIfInBounds_toArray, List.set_cons_zero, List.set_cons_succ, i64_w, i32_w]
     rfl
    refine one_ (i := 6) (N := some 50) #[true, true, true, true, true, true, true, false, false, false, false, false, false, false, false] rfl rfl (one_of HT_.out (by kernel_rfl)) (by decide) (fun K hK => ?_)
    refine goes_ Try.func9 (by kernel_rfl) rfl #[.slice Ao40 t647.length co40, .slice Ao41 t650.length co41] (by rfl) rfl rfl (by (try simp only [List.map_toArray, List.map_cons, List.map_nil]); first | done | rfl | (simp only [List.length_drop, List.length_take]; rfl)) ?_
    with_reducible refine (laws_sameInts.calls k _ _ t647 _ _ t650 false _ ?side1 ?side2 ?side3 ?side4 A28.out).mono ?_
    (case side1 => repeat (first | exact (Kd.R_reads' HO649.out).2.2 | (with_reducible refine Kd.C_alloc ?_ _) | (with_reducible refine Kd.C_drewN ?_ _) | (with_reducible refine Kd.C_drew ?_)))
    (case side2 => exact (Kd.R_reads' HO649.out).2.1)
    (case side3 => repeat (first | exact (Kd.R_reads' HO652.out).2.2 | (with_reducible refine Kd.C_alloc ?_ _) | (with_reducible refine Kd.C_drewN ?_ _) | (with_reducible refine Kd.C_drew ?_)))
    (case side4 => exact (Kd.R_reads' HO652.out).2.1)
    rintro e w' ⟨rfl, ⟨nd, rfl⟩⟩
    refine ⟨_, rfl, ?_⟩
    refine hK.out _ _ ⟨(blk_cell BK643.out 0).trans rfl, (blk_cell BK643.out 1).trans rfl⟩ (fun hHeld => ?_)
    clear hK K
    refine norm_ (a' := ?_) ?_ ?_
    rotate_left
    ·show Act.put _ (some 50) _ = _
     simp only [Act.put, List.setIfInBounds_toArray, List.set_cons_zero, List.set_cons_succ, i64_w, i32_w]
     rfl
    refine pureZ_ (i := 7) (some 51) #[true, true, true, true, true, true, true, true, false, false, false, false, false, false, false] (ao_ HT_) ?_
    refine pureZ_ (i := 8) (some 52) #[true, true, true, true, true, true, true, true, true, false, false, false, false, false, false] (ao_ HT_) ?_
    refine pure_ (i := 9) (N := some 53) (v := undef) (a' := ?_) #[true, true, true, true, true, true, true, true, true, true, false, false, false, false, false] rfl rfl (ao_ HT_) (fun _ _ _ h => h) (Or.inr ⟨by rfl, rfl⟩) ?_ ?_
    rotate_left
    ·simp only [Act.put, List.setIfInBounds_toArray, List.set_cons_zero, List.set_cons_succ, i64_w, i32_w]
     rfl
    refine pure_ (i := 10) (N := some 54) (v := undef) (a' := ?_) #[true, true, true, true, true, true, true, true, true, true, true, false, false, false, false] rfl rfl (ao_ HT_) (fun _ _ _ h => h) (Or.inr ⟨by rfl, rfl⟩) ?_ ?_
    rotate_left
    ·simp only [Act.put, List.setIfInBounds_toArray, List.set_cons_zero, List.set_cons_succ, i64_w, i32_w]
     rfl
    refine pure_ (i := 11) (N := some 55) (v := undef) (a' := ?_) #[true, true, true, true, true, true, true, true, true, true, true, true, false, false, false] rfl rfl (ao_ HT_) (fun _ _ _ h => h) (Or.inr ⟨by rfl, rfl⟩) ?_ ?_
    rotate_left
    ·simp only [Act.put, List.setIfInBounds_toArray, List.set_cons_zero, List.set_cons_succ, i64_w, i32_w]
     rfl
    refine pure_ (i := 12) (N := some 56) (v := undef) (a' := ?_) #[true, true, true, true, true, true, true, true, true, true, true, true, true, false, false] rfl rfl (ao_ HT_) (fun _ _ _ h => h) (Or.inr ⟨by rfl, rfl⟩) ?_ ?_
    rotate_left
    ·simp only [Act.put, List.setIfInBounds_toArray, List.set_cons_zero, List.set_cons_succ, i64_w, i32_w]
     rfl
    refine pure_ (i := 13) (N := some 57) (v := undef) (a' := ?_) #[true, true, true, true, true, true, true, true, true, true, true, true, true, true, false] rfl rfl (ao_ HT_) (fun _ _ _ h => h) (Or.inr ⟨by rfl, rfl⟩) ?_ ?_
    rotate_left
    ·simp only [Act.put, List.setIfInBounds_toArray, List.set_cons_zero, List.set_cons_succ, i64_w, i32_w]
     rfl
    refine pureZ_ (i := 14) (some 58) #[true, true, true, true, true, true, true, true, true, true, true, true, true, true, true] (ao_ HT_) ?_
    refine done_ (done_of HT_.out (by kernel_rfl)) ?_
    try go_wp2
    go_meet
    case rel => exact ⟨_, (true), rf_, H', ⟨by first | omega | exact Nat.le_refl _⟩, ⟨by (with_reducible repeat (first | apply Kd.R_alloc | apply Kd.R_drewN | apply Kd.R_drew)); exact Kd.R_mono HO629.out (fun _ hk => hk.1.2)⟩, ⟨by (with_reducible repeat (first | apply Kd.R_alloc | apply Kd.R_drewN | apply Kd.R_drew)); exact Kd.R_mono HO632.out (fun _ hk => hk.1.2)⟩, ⟨bk_ BK637⟩, ⟨bk_ BK643⟩, ⟨bl_⟩⟩
  case rest =>
   clear HC11
   try clear c1
   try clear c2
   try clear p2
   try clear c8
   try clear c9
   try clear c10
   try clear c22
   try clear c29
   try clear hcz23
   try clear hfz23
   obtain ⟨kq, x58_10, rfl, HA, HJ10, HO_3, HO_4, BK637, BK643, HB⟩ := hcut
   cases kq with
   | zero => exact absurd HA.out (by simp [laws_FnLeans.j0])
   | succ kj10 =>
    have H := HA.out
    clear HA
    simp only [laws_FnLeans.j0] at H
    by_cases c42 : x58_10 = true
    ·subst c42
     replace H := ite_t_ H
     exact absurd (Option.some.inj (H.trans (congrArg some hr_))) (by decide)
    ·replace c42 := Bool.eq_false_iff.mpr c42
     subst c42
     replace H := ite_f_ H
     obtain ⟨t654, A43, H⟩ := bindE_ H
     obtain ⟨t657, A44, H⟩ := bindE_ H
     have H' := aa_ H
     clear H
     have hnb45 := NB643_637.out
     have hnc45 := NB637_643.out
     have hcz46 := blk_cell BK643.out
     have hfz46 := blk_frozen BK643.out
     go_wp2_with (first | ((with_reducible refine gC_ 11 rfl ?_); refine goesC_ (some 61) Try.func11 #[.slice Ao24 t627.length co24, .agg #[.int .i64 (Int.tmod (rd t638 0) 3), .int .i64 (Int.tmod (rd t638 1) 2)]] ?_; (with_reducible refine (impl_ReachRoles.calls kj10 _ _ t627 (Int.tmod (rd t638 0) 3) (Int.tmod (rd t638 1) 2) t654 _ ?side1 ?side2 A43.out).mono ?_); (case side1 => repeat (first | exact (Kd.R_reads' HO_3.out).2.2 | (with_reducible refine Kd.C_alloc ?_ _) | (with_reducible refine Kd.C_drewN ?_ _) | (with_reducible refine Kd.C_drew ?_))); (case side2 => exact (Kd.R_reads' HO_3.out).2.1); rintro e w47 ⟨v655, rfl, ho0, hb⟩; refine ⟨_, rfl, ?_⟩; replace HO_3 := hob_ HO_3 hb; replace HO_4 := hob_ HO_4 hb; have HO656 := aa_ (Kd.R_lower (Kd.R_newB ho0 (g := gb643) (o := .cells #[.int .i64 (Int.tmod (rd t638 0) 3), .int .i64 (Int.tmod (rd t638 1) 2)] 27 (0, 0)) (bk_ BK643)) bls_); replace BK637 := bkb_ BK637 hb; replace BK643 := bkb_ BK643 hb; replace HB := hbs_ hb; (try clear hb ho0); obtain ⟨hcz48, hfz48⟩ := bcf_ BK643) | ((with_reducible refine gC_ 12 rfl ?_); refine goesC_ (some 64) Try.func12 #[.slice Ao24 t627.length co24, .agg #[.int .i64 (Int.tmod (rd t638 0) 3), .int .i64 (Int.tmod (rd t638 1) 2)]] ?_; (with_reducible refine (impl_LeansOn.calls kj10 _ _ t627 (Int.tmod (rd t638 0) 3) (Int.tmod (rd t638 1) 2) t657 _ ?side1 ?side2 A44.out).mono ?_); (case side1 => repeat (first | exact (Kd.R_reads' HO_3.out).2.2 | (with_reducible refine Kd.C_alloc ?_ _) | (with_reducible refine Kd.C_drewN ?_ _) | (with_reducible refine Kd.C_drew ?_))); (case side2 => exact (Kd.R_reads' HO_3.out).2.1); rintro e w49 ⟨v658, rfl, ho0, hb⟩; refine ⟨_, rfl, ?_⟩; replace HO_3 := hob_ HO_3 hb; replace HO_4 := hob_ HO_4 hb; have HO659 := aa_ (Kd.R_lower (Kd.R_newB (Kd.R_new' ho0 (Kd.R_lt (rr_ HO656))) (g := gb643) (o := .cells #[.int .i64 (Int.tmod (rd t638 0) 3), .int .i64 (Int.tmod (rd t638 1) 2)] 27 (0, 0)) (bk_ BK643)) bls_); replace HO656 := aa_ (Kd.R_elder' (rr_ HO656) (Kd.R_base ho0) hb); replace BK637 := bkb_ BK637 hb; replace BK643 := bkb_ BK643 hb; replace HB := hbs_ hb; (try clear hb ho0)))
     go_loopg [12] kj10 (fun kq v12 w' => ∃ (x12_2 : Int), v12 = .int .i64 x12_2 ∧ Aside0 (laws_FnLeans.l0 kq t630 t636 t654 t657 x12_2 t633 t634 t635 (Int.tmod (rd t638 0) 3) (Int.tmod (rd t638 1) 2) = some r) ∧ Aside0 (kq ≤ kj10) ∧ Aside0 (Kd.R k46 46 w' w.heap.size (fun _ => True) v631 t630) ∧ Aside0 (Kd.R k27 27 w' w.heap.size (fun k_ => some k_ ≠ (v658 : Value).ownBlock ∧ k_ ≠ gb643) v655 t654) ∧ Aside0 (Kd.R k27 27 w' w.heap.size (fun k_ => some k_ ≠ (v655 : Value).ownBlock ∧ k_ ≠ gb643) v658 t657) ∧ Aside0 (w'.heap[gb637]? = some (.cells #[.int .i64 t633, .int .i64 t634, .int .i64 t635] 29 (0, 0))) ∧ Aside0 (w'.heap[gb643]? = some (.cells #[.int .i64 (Int.tmod (rd t638 0) 3), .int .i64 (Int.tmod (rd t638 1) 2)] 27 (0, 0))) ∧ Aside0 (Below w.heap.size w w'))
     case atStart => exact ⟨(0), rf_, H', ⟨Nat.le_refl _⟩, ⟨by (with_reducible repeat (first | apply Kd.R_alloc | apply Kd.R_drewN | apply Kd.R_drew)); exact Kd.R_mono HO_4.out (fun _ hk => trivial)⟩, ⟨by (with_reducible repeat (first | apply Kd.R_alloc | apply Kd.R_drewN | apply Kd.R_drew)); exact Kd.R_mono HO656.out (fun _ hk => ⟨hk.2, hk.1.2⟩)⟩, ⟨by (with_reducible repeat (first | apply Kd.R_alloc | apply Kd.R_drewN | apply Kd.R_drew)); exact Kd.R_mono HO659.out (fun _ hk => ⟨hk.1.2, hk.2⟩)⟩, ⟨bk_ BK637⟩, ⟨bk_ BK643⟩, ⟨bl_⟩⟩
     case round =>
      clear H'
      try clear c1
      try clear c2
      try clear p2
      try clear c4
      try clear c8
      try clear c9
      try clear c10
      try clear c11
      try clear c12
      try clear c22
      try clear c29
      try clear c42
      try clear c45
      try clear hcz23
      try clear hcz46
      try clear hcz48
      try clear hfz23
      try clear hfz46
      try clear hfz48
      try clear p2
      obtain ⟨x12_2, rfl, HA, HK2, HO_4, HO_10, HO_11, BK637, BK643, HB⟩ := hrel
      cases gk with
      | zero => exact absurd HA.out (by simp [laws_FnLeans.l0])
      | succ k2 =>
       have H := HA.out
       clear HA
       simp only [laws_FnLeans.l0] at H
       by_cases c50 : x12_2 < (t657.length : Int)
       ·rw [if_pos c50] at H
        have c50b0 : decide (x12_2 < (t657.length : Int)) = true := decide_eq_true c50
        clear c50
        obtain ⟨c51b0, H⟩ := ifd_ H
        obtain ⟨t661, A52, H⟩ := bindE_ H
        have HC53 := aa_ H
        clear H
        obtain ⟨Ao54, co54, eo54⟩ := Kd.R_slice HO_11.out
        subst eo54
        have p660 : 0 ≤ (x12_2 : Int) := od_
        have q660 : x12_2 < (t657.length : Int) := od_
        obtain ⟨ad660, e660, hx660_0, hx660_1⟩ := at_T27 (Kd.R_reads' HO_11.out).2.2 x12_2 p660 q660
        cases e660
        replace p660 := eq_true p660
        replace q660 := eq_true q660
        obtain ⟨Ao55, co55, eo55⟩ := Kd.R_slice HO_10.out
        subst eo55
        go_upto_if 77 with (first | ((with_reducible refine gC_ 13 rfl ?_); refine goesC_ (some 76) Try.func13 #[.slice Ao55 t654.length co55, .agg #[.int .i64 ((rd_T27 t657 x12_2).f0), .int .i64 ((rd_T27 t657 x12_2).f1)]] ?_; (with_reducible refine (laws_hasRole.calls k2 _ _ t654 ((rd_T27 t657 x12_2).f0) ((rd_T27 t657 x12_2).f1) t661 _ ?side1 ?side2 A52.out).mono ?_); (case side1 => repeat (first | exact (Kd.R_reads' HO_10.out).2.2 | (with_reducible refine Kd.C_alloc ?_ _) | (with_reducible refine Kd.C_drewN ?_ _) | (with_reducible refine Kd.C_drew ?_))); (case side2 => exact (Kd.R_reads' HO_10.out).2.1); rintro e w56 ⟨rfl, hb⟩; refine ⟨_, rfl, ?_⟩; replace HO_4 := hob_ HO_4 hb; replace HO_10 := hob_ HO_10 hb; replace HO_11 := hob_ HO_11 hb; replace BK637 := bkb_ BK637 hb; replace BK643 := bkb_ BK643 hb; replace HB := hbs_ hb; clear hb))
        (try simp only [Act.put, List.setIfInBounds_toArray, List.set_cons_zero, List.set_cons_succ])
        have H := HC53.out
        clear HC53
        by_cases c57 : t661 = true
        ·subst c57
         replace H := ite_t_ H
         have H' := aa_ H
         clear H
         go_wp2
         go_roundg k2
         case measure => have := HJ10.out; have := HK2.out; omega
         case rel => exact ⟨(wrap64 (x12_2 + 1)), rf_, H', ⟨by have := HJ10.out; have := HK2.out; omega⟩, ⟨rr_ HO_4⟩, ⟨rr_ HO_10⟩, ⟨rr_ HO_11⟩, ⟨bk_ BK637⟩, ⟨bk_ BK643⟩, ⟨bl_⟩⟩
        ·replace c57 := Bool.eq_false_iff.mpr c57
         subst c57
         replace H := ite_f_ H
         exact absurd (Option.some.inj (H.trans (congrArg some hr_))) (by decide)
       ·rw [if_neg c50] at H
        have c50b0 : decide (x12_2 < (t657.length : Int)) = false := decide_eq_false c50
        clear c50
        by_cases c58 : t636 = true
        ·subst c58
         replace H := ite_t_ H
         obtain ⟨⟨t665, t668⟩, A59, H⟩ := bindE_ H
         (try dsimp only at H)
         obtain ⟨t669, A60, H⟩ := bindE_ H
         obtain ⟨t672, A61, H⟩ := bindE_ H
         have H' := aa_ H
         clear H
         obtain ⟨Ao62, co62, eo62⟩ := Kd.R_slice HO_11.out
         subst eo62
         have hnb63 := NB637_643.out
         have hnc63 := NB643_637.out
         have hcz64 := blk_cell BK637.out
         have hfz64 := blk_frozen BK637.out
         obtain ⟨Ao65, co65, eo65⟩ := Kd.R_slice HO_4.out
         subst eo65
         go_wp2_with (first | ((with_reducible refine gC_ 15 rfl ?_); refine goesC_ (some 91) Try.func15 #[.slice Ao65 t630.length co65, .agg #[.int .i64 t633, .int .i64 t634], .int .i64 t635] ?_; (with_reducible refine (spec_ProofOf.calls k2 _ _ t630 t633 t634 t635 t665 t668 _ ?side1 ?side2 A59.out).mono ?_); (case side1 => repeat (first | exact (Kd.R_reads' HO_4.out).2.2 | (with_reducible refine Kd.C_alloc ?_ _) | (with_reducible refine Kd.C_drewN ?_ _) | (with_reducible refine Kd.C_drew ?_))); (case side2 => exact (Kd.R_reads' HO_4.out).2.1); rintro e w66 ⟨v666, rfl, ho0, hb⟩; refine ⟨_, rfl, ?_⟩; replace HO_4 := hob_ HO_4 hb; replace HO_10 := hob_ HO_10 hb; replace HO_11 := hob_ HO_11 hb; have HO667 := aa_ (Kd.S_lower ho0 bls_); replace BK637 := bkb_ BK637 hb; replace BK643 := bkb_ BK643 hb; replace HB := hbs_ hb; (try clear hb ho0); obtain ⟨Ao67, co67, eo67⟩ := Kd.S_slice HO667.out; subst eo67) | ((with_reducible refine gC_ 16 rfl ?_); refine goesC_ (some 95) Try.func16 #[.slice Ao67 t665.length co67] ?_; (with_reducible refine (spec_CredsIn.calls k2 _ _ t665 t669 _ ?side1 ?side2 A60.out).mono ?_); (case side1 => repeat (first | exact (Kd.S_reads' HO667.out).2.2 | (with_reducible refine Kd.C_alloc ?_ _) | (with_reducible refine Kd.C_drewN ?_ _) | (with_reducible refine Kd.C_drew ?_))); (case side2 => exact (Kd.S_reads' HO667.out).2.1); rintro e w68 ⟨v670, rfl, ho0, hb⟩; refine ⟨_, rfl, ?_⟩; replace HO_10 := hob_ HO_10 hb; replace HO_11 := hob_ HO_11 hb; replace HO667 := aa_ (Kd.S_below (rs_ HO667) hb); have HO671 := aa_ (Kd.R_lower (Kd.R_new' ho0 (Kd.R_lt (rr_ HO_4))) bls_); replace HO_4 := aa_ (Kd.R_elder' (rr_ HO_4) (Kd.R_base ho0) hb); replace BK637 := bkb_ BK637 hb; replace BK643 := bkb_ BK643 hb; replace HB := hbs_ hb; (try clear hb ho0); obtain ⟨hcz69, hfz69⟩ := bcf_ BK637) | ((with_reducible refine gC_ 14 rfl ?_); refine goesC_ (some 101) Try.func14 #[.slice Ao65 t630.length co65, .agg #[.int .i64 t633, .int .i64 t634], .int .i64 t635] ?_; (with_reducible refine (impl_Critical.calls k2 _ _ t630 t633 t634 t635 t672 _ ?side1 ?side2 A61.out).mono ?_); (case side1 => repeat (first | exact (Kd.R_reads' HO_4.out).2.2 | (with_reducible refine Kd.C_alloc ?_ _) | (with_reducible refine Kd.C_drewN ?_ _) | (with_reducible refine Kd.C_drew ?_))); (case side2 => exact (Kd.R_reads' HO_4.out).2.1); rintro e w70 ⟨v673, rfl, ho0, hb⟩; refine ⟨_, rfl, ?_⟩; replace HO_4 := hob_ HO_4 hb; replace HO_10 := hob_ HO_10 hb; replace HO_11 := hob_ HO_11 hb; replace HO667 := aa_ (Kd.S_elder' (rs_ HO667) (Kd.R_base ho0) hb); replace HO671 := hob_ HO671 hb; have HO674 := aa_ (Kd.R_lower ho0 bls_); replace BK637 := bkb_ BK637 hb; replace BK643 := bkb_ BK643 hb; replace HB := hbs_ hb; (try clear hb ho0)))
         go_loopg [17] k2 (fun kq v17 w' => ∃ (x17_3 : Int), v17 = .int .i64 x17_3 ∧ Aside0 (laws_FnLeans.l1 kq t630 t668 t669 t672 x17_3 t633 t634 t635 = some r) ∧ Aside0 (kq ≤ k2) ∧ Aside0 (Kd.R k46 46 w' w.heap.size (fun k_ => some k_ ≠ (v670 : Value).ownBlock) (.slice Ao65 t630.length co65) t630) ∧ Aside0 (Kd.R k46 46 w' w.heap.size (fun k_ => some k_ ≠ ((.slice Ao65 t630.length co65) : Value).ownBlock) v670 t669) ∧ Aside0 (Kd.R (Kd.int .i64) 3 w' w.heap.size (fun _ => True) v673 t672) ∧ Aside0 (w'.heap[gb637]? = some (.cells #[.int .i64 t633, .int .i64 t634, .int .i64 t635] 29 (0, 0))) ∧ Aside0 (w'.heap[gb643]? = some (.cells #[.int .i64 (Int.tmod (rd t638 0) 3), .int .i64 (Int.tmod (rd t638 1) 2)] 27 (0, 0))) ∧ Aside0 (Below w.heap.size w w'))
         case atStart => exact ⟨(0), rf_, H', ⟨Nat.le_refl _⟩, ⟨by (with_reducible repeat (first | apply Kd.R_alloc | apply Kd.R_drewN | apply Kd.R_drew)); exact Kd.R_mono HO_4.out (fun _ hk => hk.2)⟩, ⟨by (with_reducible repeat (first | apply Kd.R_alloc | apply Kd.R_drewN | apply Kd.R_drew)); exact Kd.R_mono HO671.out (fun _ hk => hk.2)⟩, ⟨rr_ HO674⟩, ⟨bk_ BK637⟩, ⟨bk_ BK643⟩, ⟨bl_⟩⟩
         case round =>
          clear H'
          try clear c1
          try clear c2
          try clear p2
          try clear c4
          try clear c5
          try clear c6
          try clear p6
          try clear q6
          try clear hx6
          try clear c8
          try clear c9
          try clear c10
          try clear c11
          try clear c12
          try clear c13
          try clear c14
          try clear c15
          try clear c16
          try clear c22
          try clear c29
          try clear c42
          try clear c45
          try clear c50
          try clear c50b0
          try clear c51
          try clear c51b0
          try clear c57
          try clear c58
          try clear c63
          try clear p64
          try clear p66
          try clear q66
          try clear hx66
          try clear hcz23
          try clear hcz46
          try clear hcz48
          try clear hcz64
          try clear hcz69
          try clear hfz23
          try clear hfz46
          try clear hfz48
          try clear hfz64
          try clear hfz69
          try clear hx660_0
          try clear hx660_1
          try clear p2
          try clear p660
          try clear q660
          obtain ⟨x17_3, rfl, HA, HK3, HO_4, HO_15, HO_16, BK637, BK643, HB⟩ := hrel
          cases gk with
          | zero => exact absurd HA.out (by simp [laws_FnLeans.l1])
          | succ k3 =>
           have H := HA.out
           clear HA
           simp only [laws_FnLeans.l1] at H
           by_cases c71 : x17_3 < (t672.length : Int)
           ·rw [if_pos c71] at H
            have c71b0 : decide (x17_3 < (t672.length : Int)) = true := decide_eq_true c71
            clear c71
            have H' := aa_ H
            clear H
            obtain ⟨Ao72, co72, eo72⟩ := Kd.R_slice HO_16.out
            subst eo72
            go_wp2
            go_loopg [18, 19] k3 (fun kq v18 v19 w' => ∃ (x18_4 : Bool) (x19_4 : Int), v18 = .bool x18_4 ∧ v19 = .int .i64 x19_4 ∧ Aside0 (laws_FnLeans.l2 kq t630 t668 t669 t672 x17_3 x18_4 x19_4 t633 t634 t635 = some r) ∧ Aside0 (kq ≤ k3) ∧ Aside0 (Kd.R k46 46 w' w.heap.size (fun k_ => some k_ ≠ (v670 : Value).ownBlock) (.slice Ao65 t630.length co65) t630) ∧ Aside0 (Kd.R k46 46 w' w.heap.size (fun k_ => some k_ ≠ ((.slice Ao65 t630.length co65) : Value).ownBlock) v670 t669) ∧ Aside0 (Kd.R (Kd.int .i64) 3 w' w.heap.size (fun _ => True) (.slice Ao72 t672.length co72) t672) ∧ Aside0 (w'.heap[gb637]? = some (.cells #[.int .i64 t633, .int .i64 t634, .int .i64 t635] 29 (0, 0))) ∧ Aside0 (w'.heap[gb643]? = some (.cells #[.int .i64 (Int.tmod (rd t638 0) 3), .int .i64 (Int.tmod (rd t638 1) 2)] 27 (0, 0))) ∧ Aside0 (Below w.heap.size w w'))
            case atStart => exact ⟨(false), (0), rf_, rf_, H', ⟨Nat.le_refl _⟩, ⟨rr_ HO_4⟩, ⟨rr_ HO_15⟩, ⟨rr_ HO_16⟩, ⟨bk_ BK637⟩, ⟨bk_ BK643⟩, ⟨bl_⟩⟩
            case round =>
             clear H'
             try clear c1
             try clear c2
             try clear p2
             try clear c4
             try clear c5
             try clear c6
             try clear p6
             try clear q6
             try clear hx6
             try clear c7
             try clear c8
             try clear c9
             try clear c10
             try clear c11
             try clear c12
             try clear c13
             try clear c14
             try clear c15
             try clear c16
             try clear c22
             try clear c29
             try clear c42
             try clear c45
             try clear c50
             try clear c50b0
             try clear c51
             try clear c51b0
             try clear c57
             try clear c58
             try clear c63
             try clear p64
             try clear p66
             try clear q66
             try clear hx66
             try clear c71
             try clear c71b0
             try clear hcz23
             try clear hcz46
             try clear hcz48
             try clear hcz64
             try clear hcz69
             try clear hfz23
             try clear hfz46
             try clear hfz48
             try clear hfz64
             try clear hfz69
             try clear hx660_0
             try clear hx660_1
             try clear p2
             try clear p6
             try clear p64
             try clear p66
             try clear p660
             try clear q6
             try clear q66
             try clear q660
             obtain ⟨x18_4, x19_4, rfl, rfl, HA, HK4, HO_4, HO_15, HO_16, BK637, BK643, HB⟩ := hrel
             cases gk with
             | zero => exact absurd HA.out (by simp [laws_FnLeans.l2])
             | succ k4 =>
              have H := HA.out
              clear HA
              simp only [laws_FnLeans.l2] at H
              by_cases c73 : x19_4 < (t669.length : Int)
              ·rw [if_pos c73] at H
               have c73b0 : decide (x19_4 < (t669.length : Int)) = true := decide_eq_true c73
               clear c73
               by_cases c74 : x18_4 = true
               ·subst c74
                replace H := ite_t_ H
                have H' := aa_ H
                clear H
                obtain ⟨Ao75, co75, eo75⟩ := Kd.R_slice HO_15.out
                subst eo75
                try go_wp2
                replace HO_4 := aa_ (Kd.R_drew HO_4.out)
                replace HO_15 := aa_ (Kd.R_drew HO_15.out)
                replace HO_16 := aa_ (Kd.R_drew HO_16.out)
                replace BK637 := aa_ (blk_drew BK637.out)
                replace BK643 := aa_ (blk_drew BK643.out)
                replace HB := aa_ (below_drew1 HB.out)
                refine start_ (n := 16) (S := fun w' => True) (ds := []) #[false, false, false, false, false, false, false, false, false, false, false, false, false, false, false, false] (by kernel_rfl) rfl rfl trivial (fun hHeld => ?_); refine with_tabW laws_FnLeans.tab29 laws_FnLeans.bits29 (fun HT_ HW_ => ?_)
                generalize wr.drew = w76 at HO_4 HO_15 HO_16 BK637 BK643 HB hHeld ⊢
                refine pureZ_ (i := 0) (some 114) #[true, false, false, false, false, false, false, false, false, false, false, false, false, false, false, false] (ao_ HT_) ?_
                refine pureZ_ (i := 1) (some 115) #[true, true, false, false, false, false, false, false, false, false, false, false, false, false, false, false] (ao_ HT_) ?_
                refine pure_ (i := 2) (N := some 116) (v := undef) (a' := ?_) #[true, true, true, false, false, false, false, false, false, false, false, false, false, false, false, false] rfl rfl (ao_ HT_) (fun _ _ _ h => h) (Or.inr ⟨by rfl, rfl⟩) ?_ ?_
                rotate_left
                ·simp only [Act.put, List.setIfInBounds_toArray, List.set_cons_zero, List.set_cons_succ, i64_w, i32_w]
                 rfl
                refine pure_ (i := 3) (N := some 117) (v := undef) (a' := ?_) #[true, true, true, true, false, false, false, false, false, false, false, false, false, false, false, false] rfl rfl (ao_ HT_) (fun _ _ _ h => h) (Or.inr ⟨by rfl, rfl⟩) ?_ ?_
                rotate_left
                ·simp only [Act.put, List.setIfInBounds_toArray, List.set_cons_zero, List.set_cons_succ, i64_w, i32_w]
                 rfl
                refine pure_ (i := 4) (N := some 118) (v := undef) (a' := ?_) #[true, true, true, true, true, false, false, false, false, false, false, false, false, false, false, false] rfl rfl (ao_ HT_) (fun _ _ _ h => h) (Or.inr ⟨by rfl, rfl⟩) ?_ ?_
                rotate_left
                ·simp only [Act.put, List.setIfInBounds_toArray, List.set_cons_zero, List.set_cons_succ, i64_w, i32_w]
                 rfl
                refine pure_ (i := 5) (N := some 119) (v := undef) (a' := ?_) #[true, true, true, true, true, true, false, false, false, false, false, false, false, false, false, false] rfl rfl (ao_ HT_) (fun _ _ _ h => h) (Or.inr ⟨by rfl, rfl⟩) ?_ ?_
                rotate_left
                ·simp only [Act.put, List.setIfInBounds_toArray, List.set_cons_zero, List.set_cons_succ, i64_w, i32_w]
                 rfl
                refine pure_ (i := 6) (N := some 120) (v := undef) (a' := ?_) #[true, true, true, true, true, true, true, false, false, false, false, false, false, false, false, false] rfl rfl (ao_ HT_) (fun _ _ _ h => h) (Or.inr ⟨by rfl, rfl⟩) ?_ ?_
                rotate_left
                ·simp only [Act.put, List.setIfInBounds_toArray, List.set_cons_zero, List.set_cons_succ, i64_w, i32_w]
                 rfl
                refine pure_ (i := 7) (N := some 121) (v := undef) (a' := ?_) #[true, true, true, true, true, true, true, true, false, false, false, false, false, false, false, false] rfl rfl (ao_ HT_) (fun _ _ _ h => h) (Or.inr ⟨by rfl, rfl⟩) ?_ ?_
                rotate_left
                ·simp only [Act.put, List.setIfInBounds_toArray, List.set_cons_zero, List.set_cons_succ, i64_w, i32_w]
                 rfl
                refine pure_ (i := 8) (N := some 122) (v := undef) (a' := ?_) #[true, true, true, true, true, true, true, true, true, false, false, false, false, false, false, false] rfl rfl (ao_ HT_) (fun _ _ _ h => h) (Or.inr ⟨by rfl, rfl⟩) ?_ ?_
                rotate_left
                ·simp only [Act.put, List.setIfInBounds_toArray, List.set_cons_zero, List.set_cons_succ, i64_w, i32_w]
                 rfl
                refine pure_ (i := 9) (N := some 123) (v := undef) (a' := ?_) #[true, true, true, true, true, true, true, true, true, true, false, false, false, false, false, false] rfl rfl (ao_ HT_) (fun _ _ _ h => h) (Or.inr ⟨by rfl, rfl⟩) ?_ ?_
                rotate_left
                ·simp only [Act.put, List.setIfInBounds_toArray, List.set_cons_zero, List.set_cons_succ, i64_w, i32_w]
                 rfl
                refine pure_ (i := 10) (N := some 124) (v := undef) (a' := ?_) #[true, true, true, true, true, true, true, true, true, true, true, false, false, false, false, false] rfl rfl (ao_ HT_) (fun _ _ _ h => h) (Or.inr ⟨by rfl, rfl⟩) ?_ ?_
                rotate_left
                ·simp only [Act.put, List.setIfInBounds_toArray, List.set_cons_zero, List.set_cons_succ, i64_w, i32_w]
                 rfl
                refine pure_ (i := 11) (N := some 125) (v := undef) (a' := ?_) #[true, true, true, true, true, true, true, true, true, true, true, true, false, false, false, false] rfl rfl (ao_ HT_) (fun _ _ _ h => h) (Or.inr ⟨by rfl, rfl⟩) ?_ ?_
                rotate_left
                ·simp only [Act.put, List.setIfInBounds_toArray, List.set_cons_zero, List.set_cons_succ, i64_w, i32_w]
                 rfl
                refine pure_ (i := 12) (N := some 126) (v := undef) (a' := ?_) #[true, true, true, true, true, true, true, true, true, true, true, true, true, false, false, false] rfl rfl (ao_ HT_) (fun _ _ _ h => h) (Or.inr ⟨by rfl, rfl⟩) ?_ ?_
                rotate_left
                ·simp only [Act.put, List.setIfInBounds_toArray, List.set_cons_zero, List.set_cons_succ, i64_w, i32_w]
                 rfl
                refine pure_ (i := 13) (N := some 127) (v := undef) (a' := ?_) #[true, true, true, true, true, true, true, true, true, true, true, true, true, true, false, false] rfl rfl (ao_ HT_) (fun _ _ _ h => h) (Or.inr ⟨by rfl, rfl⟩) ?_ ?_
                rotate_left
                ·simp only [Act.put, List.setIfInBounds_toArray, List.set_cons_zero, List.set_cons_succ, i64_w, i32_w]
                 rfl
                refine pureZ_ (i := 14) (some 128) #[true, true, true, true, true, true, true, true, true, true, true, true, true, true, true, false] (ao_ HT_) ?_
                refine pureZ_ (i := 15) (some 18) #[true, true, true, true, true, true, true, true, true, true, true, true, true, true, true, true] (ao_ HT_) ?_
                refine done_ (done_of HT_.out (by kernel_rfl)) ?_
                try go_wp2
                go_roundg k4
                case measure => have := HJ10.out; have := HK2.out; have := HK3.out; have := HK4.out; omega
                case rel => exact ⟨(true), (wrap64 (x19_4 + 1)), rf_, rf_, H', ⟨by have := HJ10.out; have := HK2.out; have := HK3.out; have := HK4.out; omega⟩, ⟨rr_ HO_4⟩, ⟨rr_ HO_15⟩, ⟨rr_ HO_16⟩, ⟨bk_ BK637⟩, ⟨bk_ BK643⟩, ⟨bl_⟩⟩
               ·replace c74 := Bool.eq_false_iff.mpr c74
                subst c74
                replace H := ite_f_ H
                obtain ⟨c77b0, H⟩ := ifd_ H
                obtain ⟨c78b0, H⟩ := ifd_ H
                obtain ⟨c79b0, H⟩ := ifd_ H
                obtain ⟨c80b0, H⟩ := ifd_ H
                obtain ⟨c81b0, H⟩ := ifd_ H
                have H' := aa_ H
                clear H
                obtain ⟨Ao82, co82, eo82⟩ := Kd.R_slice HO_15.out
                subst eo82
                try go_wp2
                replace HO_4 := aa_ (Kd.R_drew HO_4.out)
                replace HO_15 := aa_ (Kd.R_drew HO_15.out)
                replace HO_16 := aa_ (Kd.R_drew HO_16.out)
                replace BK637 := aa_ (blk_drew BK637.out)
                replace BK643 := aa_ (blk_drew BK643.out)
                replace HB := aa_ (below_drew1 HB.out)
                have p678 : 0 ≤ (x19_4 : Int) := od_
                have q678 : x19_4 < (t669.length : Int) := od_
                obtain ⟨ad678, e678, hx678_0, hx678_1, hx678_2, hx678_3, hx678_4, hx678_5, hx678_6, hx678_7, hx678_8, hx678_9⟩ := at_T46 (Kd.R_reads' HO_15.out).2.2 x19_4 p678 q678
                cases e678
                replace p678 := eq_true p678
                replace q678 := eq_true q678
                have p679 : 0 ≤ (x17_3 : Int) := od_
                have q679 : x17_3 < (t672.length : Int) := od_
                obtain ⟨ad679, e679, hx679_0⟩ := Kd.at_int (Kd.R_reads' HO_16.out).2.2 x17_3 p679 q679
                cases e679
                replace p679 := eq_true p679
                replace q679 := eq_true q679
                have p680 : 0 ≤ ((rd t672 x17_3) : Int) := od_
                have q680 : (rd t672 x17_3) < (t630.length : Int) := od_
                obtain ⟨ad680, e680, hx680_0, hx680_1, hx680_2, hx680_3, hx680_4, hx680_5, hx680_6, hx680_7, hx680_8, hx680_9⟩ := at_T46 (Kd.R_reads' HO_4.out).2.2 (rd t672 x17_3) p680 q680
                cases e680
                replace p680 := eq_true p680
                replace q680 := eq_true q680
                refine start_ (n := 16) (S := fun w' => w'.cell? (ad678.add ((x19_4).toNat * 10)) = some (.int .i64 ((rd_T46 t669 x19_4).f0)) ∧ w'.cell? ⟨(ad678.add ((x19_4).toNat * 10)).block, (ad678.add ((x19_4).toNat * 10)).off + 1, none⟩ = some (.int .i64 ((rd_T46 t669 x19_4).f1.f0)) ∧ w'.cell? ⟨(ad678.add ((x19_4).toNat * 10)).block, (ad678.add ((x19_4).toNat * 10)).off + 2, none⟩ = some (.int .i64 ((rd_T46 t669 x19_4).f1.f1)) ∧ w'.cell? ⟨(ad678.add ((x19_4).toNat * 10)).block, (ad678.add ((x19_4).toNat * 10)).off + 3, none⟩ = some (.int .i64 ((rd_T46 t669 x19_4).f2)) ∧ w'.cell? ⟨(ad678.add ((x19_4).toNat * 10)).block, (ad678.add ((x19_4).toNat * 10)).off + 4, none⟩ = some (.int .i64 ((rd_T46 t669 x19_4).f3.f0)) ∧ w'.cell? ⟨(ad678.add ((x19_4).toNat * 10)).block, (ad678.add ((x19_4).toNat * 10)).off + 5, none⟩ = some (.int .i64 ((rd_T46 t669 x19_4).f3.f1)) ∧ w'.cell? ⟨(ad678.add ((x19_4).toNat * 10)).block, (ad678.add ((x19_4).toNat * 10)).off + 6, none⟩ = some (.int .i64 ((rd_T46 t669 x19_4).f4.f0)) ∧ w'.cell? ⟨(ad678.add ((x19_4).toNat * 10)).block, (ad678.add ((x19_4).toNat * 10)).off + 7, none⟩ = some (.int .i64 ((rd_T46 t669 x19_4).f4.f1)) ∧ w'.cell? ⟨(ad678.add ((x19_4).toNat * 10)).block, (ad678.add ((x19_4).toNat * 10)).off + 8, none⟩ = some (.int .i64 ((rd_T46 t669 x19_4).f5)) ∧ w'.cell? ⟨(ad678.add ((x19_4).toNat * 10)).block, (ad678.add ((x19_4).toNat * 10)).off + 9, none⟩ = some (.int .i64 ((rd_T46 t669 x19_4).f6)) ∧ w'.cell? (ad679.add (x17_3).toNat) = some (.int .i64 (rd t672 x17_3)) ∧ w'.cell? (ad680.add (((rd t672 x17_3)).toNat * 10)) = some (.int .i64 ((rd_T46 t630 (rd t672 x17_3)).f0)) ∧ w'.cell? ⟨(ad680.add (((rd t672 x17_3)).toNat * 10)).block, (ad680.add (((rd t672 x17_3)).toNat * 10)).off + 1, none⟩ = some (.int .i64 ((rd_T46 t630 (rd t672 x17_3)).f1.f0)) ∧ w'.cell? ⟨(ad680.add (((rd t672 x17_3)).toNat * 10)).block, (ad680.add (((rd t672 x17_3)).toNat * 10)).off + 2, none⟩ = some (.int .i64 ((rd_T46 t630 (rd t672 x17_3)).f1.f1)) ∧ w'.cell? ⟨(ad680.add (((rd t672 x17_3)).toNat * 10)).block, (ad680.add (((rd t672 x17_3)).toNat * 10)).off + 3, none⟩ = some (.int .i64 ((rd_T46 t630 (rd t672 x17_3)).f2)) ∧ w'.cell? ⟨(ad680.add (((rd t672 x17_3)).toNat * 10)).block, (ad680.add (((rd t672 x17_3)).toNat * 10)).off + 4, none⟩ = some (.int .i64 ((rd_T46 t630 (rd t672 x17_3)).f3.f0)) ∧ w'.cell? ⟨(ad680.add (((rd t672 x17_3)).toNat * 10)).block, (ad680.add (((rd t672 x17_3)).toNat * 10)).off + 5, none⟩ = some (.int .i64 ((rd_T46 t630 (rd t672 x17_3)).f3.f1)) ∧ w'.cell? ⟨(ad680.add (((rd t672 x17_3)).toNat * 10)).block, (ad680.add (((rd t672 x17_3)).toNat * 10)).off + 6, none⟩ = some (.int .i64 ((rd_T46 t630 (rd t672 x17_3)).f4.f0)) ∧ w'.cell? ⟨(ad680.add (((rd t672 x17_3)).toNat * 10)).block, (ad680.add (((rd t672 x17_3)).toNat * 10)).off + 7, none⟩ = some (.int .i64 ((rd_T46 t630 (rd t672 x17_3)).f4.f1)) ∧ w'.cell? ⟨(ad680.add (((rd t672 x17_3)).toNat * 10)).block, (ad680.add (((rd t672 x17_3)).toNat * 10)).off + 8, none⟩ = some (.int .i64 ((rd_T46 t630 (rd t672 x17_3)).f5)) ∧ w'.cell? ⟨(ad680.add (((rd t672 x17_3)).toNat * 10)).block, (ad680.add (((rd t672 x17_3)).toNat * 10)).off + 9, none⟩ = some (.int .i64 ((rd_T46 t630 (rd t672 x17_3)).f6))) (ds := []) #[false, false, false, false, false, false, false, false, false, false, false, false, false, false, false, false] (by kernel_rfl) rfl rfl ⟨hx678_0, hx678_1, hx678_2, hx678_3, hx678_4, hx678_5, hx678_6, hx678_7, hx678_8, hx678_9, hx679_0, hx680_0, hx680_1, hx680_2, hx680_3, hx680_4, hx680_5, hx680_6, hx680_7, hx680_8, hx680_9⟩ (fun hHeld => ?_); refine with_tabW laws_FnLeans.tab29 laws_FnLeans.bits29 (fun HT_ HW_ => ?_)
                generalize wr.drew = w83 at HO_4 HO_15 HO_16 BK637 BK643 HB hx678_0 hx678_1 hx678_2 hx678_3 hx678_4 hx678_5 hx678_6 hx678_7 hx678_8 hx678_9 hx679_0 hx680_0 hx680_1 hx680_2 hx680_3 hx680_4 hx680_5 hx680_6 hx680_7 hx680_8 hx680_9 hHeld ⊢
                refine pureZ_ (i := 0) (some 114) #[true, false, false, false, false, false, false, false, false, false, false, false, false, false, false, false] (ao_ HT_) ?_
                refine pureZ_ (i := 1) (some 115) #[true, true, false, false, false, false, false, false, false, false, false, false, false, false, false, false] (ao_ HT_) ?_
                refine pureZ_ (i := 2) (some 116) #[true, true, true, false, false, false, false, false, false, false, false, false, false, false, false, false] (ao_ HT_) ?_
                refine pureZ_ (i := 3) (some 117) #[true, true, true, true, false, false, false, false, false, false, false, false, false, false, false, false] (ao_ HT_) ?_
                refine pureZ_ (i := 4) (some 118) #[true, true, true, true, true, false, false, false, false, false, false, false, false, false, false, false] (ao_ HT_) ?_
                refine pureZ_ (i := 6) (some 120) #[true, true, true, true, true, false, true, false, false, false, false, false, false, false, false, false] (ao_ HT_) ?_
                refine pureZ_ (i := 7) (some 121) #[true, true, true, true, true, false, true, true, false, false, false, false, false, false, false, false] (ao_ HT_) ?_
                refine pureZ_ (i := 8) (some 122) #[true, true, true, true, true, false, true, true, true, false, false, false, false, false, false, false] (ao_ HT_) ?_
                refine pureZ_ (i := 9) (some 123) #[true, true, true, true, true, false, true, true, true, true, false, false, false, false, false, false] (ao_ HT_) ?_
                refine takeZ_ (i := 5) (some 119) #[true, true, true, true, true, true, true, true, true, true, false, false, false, false, false, false] (take_ofW HT_.out HW_.out (by kernel_rfl)) hHeld ?_
                refine takeZ_ (i := 10) (some 124) #[true, true, true, true, true, true, true, true, true, true, true, false, false, false, false, false] (take_ofW HT_.out HW_.out (by kernel_rfl)) hHeld ?_
                refine pureZ_ (i := 11) (some 125) #[true, true, true, true, true, true, true, true, true, true, true, true, false, false, false, false] (ao_ HT_) ?_
                refine takeZ_ (i := 12) (some 126) #[true, true, true, true, true, true, true, true, true, true, true, true, true, false, false, false] (take_ofW HT_.out HW_.out (by kernel_rfl)) hHeld ?_
                refine pureZ_ (i := 13) (some 127) #[true, true, true, true, true, true, true, true, true, true, true, true, true, true, false, false] (ao_ HT_) ?_
                refine pureZ_ (i := 14) (some 128) #[true, true, true, true, true, true, true, true, true, true, true, true, true, true, true, false] (ao_ HT_) ?_
                refine pureZ_ (i := 15) (some 18) #[true, true, true, true, true, true, true, true, true, true, true, true, true, true, true, true] (ao_ HT_) ?_
                refine done_ (done_of HT_.out (by kernel_rfl)) ?_
                try go_wp2
                go_roundg k4
                case measure => have := HJ10.out; have := HK2.out; have := HK3.out; have := HK4.out; omega
                case rel => exact ⟨((((rd_T46 t669 x19_4).f0) == ((rd_T46 t630 (rd t672 x17_3)).f0) && ((((rd_T46 t669 x19_4).f1.f0) == ((rd_T46 t630 (rd t672 x17_3)).f1.f0) && (((rd_T46 t669 x19_4).f1.f1) == ((rd_T46 t630 (rd t672 x17_3)).f1.f1))) && (((rd_T46 t669 x19_4).f2) == ((rd_T46 t630 (rd t672 x17_3)).f2) && ((((rd_T46 t669 x19_4).f3.f0) == ((rd_T46 t630 (rd t672 x17_3)).f3.f0) && (((rd_T46 t669 x19_4).f3.f1) == ((rd_T46 t630 (rd t672 x17_3)).f3.f1))) && ((((rd_T46 t669 x19_4).f4.f0) == ((rd_T46 t630 (rd t672 x17_3)).f4.f0) && (((rd_T46 t669 x19_4).f4.f1) == ((rd_T46 t630 (rd t672 x17_3)).f4.f1))) && (((rd_T46 t669 x19_4).f5) == ((rd_T46 t630 (rd t672 x17_3)).f5) && (((rd_T46 t669 x19_4).f6) == ((rd_T46 t630 (rd t672 x17_3)).f6))))))))), (wrap64 (x19_4 + 1)), rf_, rf_, H', ⟨by have := HJ10.out; have := HK2.out; have := HK3.out; have := HK4.out; omega⟩, ⟨rr_ HO_4⟩, ⟨rr_ HO_15⟩, ⟨rr_ HO_16⟩, ⟨bk_ BK637⟩, ⟨bk_ BK643⟩, ⟨bl_⟩⟩
              ·rw [if_neg c73] at H
               have c73b0 : decide (x19_4 < (t669.length : Int)) = false := decide_eq_false c73
               clear c73
               by_cases c84 : x18_4 = true
               ·subst c84
                replace H := ite_t_ H
                obtain ⟨c85b0, H⟩ := ifd_ H
                obtain ⟨c86b0, H⟩ := ifd_ H
                obtain ⟨t682, A87, H⟩ := bindE_ H
                obtain ⟨t685, A88, H⟩ := bindE_ H
                have HC89 := aa_ H
                clear H
                obtain ⟨Ao90, co90, eo90⟩ := Kd.R_slice HO_15.out
                subst eo90
                try go_wp2
                replace HO_4 := aa_ (Kd.R_drew HO_4.out)
                replace HO_15 := aa_ (Kd.R_drew HO_15.out)
                replace HO_16 := aa_ (Kd.R_drew HO_16.out)
                replace BK637 := aa_ (blk_drew BK637.out)
                replace BK643 := aa_ (blk_drew BK643.out)
                replace HB := aa_ (below_drew1 HB.out)
                have p681 : 0 ≤ (x17_3 : Int) := od_
                have q681 : x17_3 < (t672.length : Int) := od_
                obtain ⟨ad681, e681, hx681_0⟩ := Kd.at_int (Kd.R_reads' HO_16.out).2.2 x17_3 p681 q681
                cases e681
                replace p681 := eq_true p681
                replace q681 := eq_true q681
                refine start_ (n := 15) (S := fun w' => w'.cell? ⟨gb637, 0, none⟩ = some (.int .i64 t633) ∧ w'.cell? ⟨gb637, 1, none⟩ = some (.int .i64 t634) ∧ w'.cell? ⟨gb637, 2, none⟩ = some (.int .i64 t635) ∧ w'.cell? (ad681.add (x17_3).toNat) = some (.int .i64 (rd t672 x17_3))) (ds := []) #[false, false, false, false, false, false, false, false, false, false, false, false, false, false, false] (by kernel_rfl) rfl rfl ⟨(blk_cell BK637.out 0).trans rfl, (blk_cell BK637.out 1).trans rfl, (blk_cell BK637.out 2).trans rfl, hx681_0⟩ (fun hHeld => ?_); refine with_tabW laws_FnLeans.tab30 laws_FnLeans.bits30 (fun HT_ HW_ => ?_)
                generalize wr.drew = w91 at HO_4 HO_15 HO_16 BK637 BK643 HB hx681_0 hHeld ⊢
                refine pureZ_ (i := 0) (some 129) #[true, false, false, false, false, false, false, false, false, false, false, false, false, false, false] (ao_ HT_) ?_
                refine pureZ_ (i := 1) (some 130) #[true, true, false, false, false, false, false, false, false, false, false, false, false, false, false] (ao_ HT_) ?_
                refine pureZ_ (i := 2) (some 131) #[true, true, true, false, false, false, false, false, false, false, false, false, false, false, false] (ao_ HT_) ?_
                refine pureZ_ (i := 3) (some 132) #[true, true, true, true, false, false, false, false, false, false, false, false, false, false, false] (ao_ HT_) ?_
                refine pureZ_ (i := 4) (some 133) #[true, true, true, true, true, false, false, false, false, false, false, false, false, false, false] (ao_ HT_) ?_
                refine pureZ_ (i := 5) (some 134) #[true, true, true, true, true, true, false, false, false, false, false, false, false, false, false] (ao_ HT_) ?_
                refine pureZ_ (i := 6) (some 135) #[true, true, true, true, true, true, true, false, false, false, false, false, false, false, false] (ao_ HT_) ?_
                refine pureZ_ (i := 9) (some 138) #[true, true, true, true, true, true, true, false, false, true, false, false, false, false, false] (ao_ HT_) ?_
                refine pureZ_ (i := 11) (some 140) #[true, true, true, true, true, true, true, false, false, true, false, true, false, false, false] (ao_ HT_) ?_
                refine takeZ_ (i := 7) (some 136) #[true, true, true, true, true, true, true, true, false, true, false, true, false, false, false] (take_ofW HT_.out HW_.out (by kernel_rfl)) hHeld ?_
                refine takeZ_ (i := 10) (some 139) #[true, true, true, true, true, true, true, true, false, true, true, true, false, false, false] (take_ofW HT_.out HW_.out (by kernel_rfl)) hHeld ?_
                refine takeZ_ (i := 12) (some 141) #[true, true, true, true, true, true, true, true, false, true, true, true, true, false, false] (take_ofW HT_.out HW_.out (by kernel_rfl)) hHeld ?_
                refine one_ (i := 8) (N := some 137) #[true, true, true, true, true, true, true, true, true, true, true, true, true, false, false] rfl rfl (one_of HT_.out (by kernel_rfl)) (by decide) (fun K hK => ?_)
                refine goes_ Try.func18 (by kernel_rfl) rfl #[.slice Ao65 t630.length co65, .int .i64 (rd t672 x17_3)] (by rfl) rfl rfl (by (try simp only [List.map_toArray, List.map_cons, List.map_nil]); first | done | rfl | (simp only [List.length_drop, List.length_take]; rfl)) ?_
                with_reducible refine (impl_Without.calls _ _ t630 (rd t672 x17_3) t682 _ ?side1 ?side2 A87.out).mono ?_
                (case side1 => repeat (first | exact (Kd.R_reads' HO_4.out).2.2 | (with_reducible refine Kd.C_alloc ?_ _) | (with_reducible refine Kd.C_drewN ?_ _) | (with_reducible refine Kd.C_drew ?_)))
                (case side2 => exact (Kd.R_reads' HO_4.out).2.1)
                rintro e w92 ⟨v683, rfl, ho0, hb⟩
                have HS3_ := (hb.cell (World.block_lt_of_cell? _ _ (hHeld.2.2.2))).trans (hHeld.2.2.2)
                refine ⟨_, rfl, ?_⟩
                replace HO_16 := hob_ HO_16 hb
                have HO684 := aa_ (Kd.R_lower (Kd.R_new' (Kd.R_new' ho0 (Kd.R_lt (rr_ HO_4))) (Kd.R_lt (rr_ HO_15))) bls_)
                replace HO_4 := aa_ (Kd.R_elder' (rr_ HO_4) (Kd.R_base ho0) hb)
                replace HO_15 := aa_ (Kd.R_elder' (rr_ HO_15) (Kd.R_base ho0) hb)
                replace BK637 := bkb_ BK637 hb
                replace BK643 := bkb_ BK643 hb
                replace HB := hbs_ hb
                (try clear hb)
                (try clear hb2)
                (try clear hk)
                (try clear hi)
                (try clear ho0)
                obtain ⟨Ao93, co93, eo93⟩ := Kd.R_slice HO684.out
                (first | subst eo93 | (injection eo93 with f1_ f2_ f3_; have f4_ := f1_.symm; have f5_ := f3_.symm; clear f1_ f2_ f3_; subst f4_; subst f5_))
                refine hK.out _ _ ⟨(blk_cell BK637.out 0).trans rfl, (blk_cell BK637.out 1).trans rfl, (blk_cell BK637.out 2).trans rfl, HS3_⟩ (fun hHeld => ?_)
                clear hK K
                refine norm_ (a' := ?_) ?_ ?_
                rotate_left
                ·show Act.put _ (some 137) _ = _
                 simp only [Act.put, List.setIfInBounds_toArray, List.set_cons_zero, List.set_cons_succ, i64_w, i32_w]
                 rfl
                refine one_ (i := 13) (N := some 142) #[true, true, true, true, true, true, true, true, true, true, true, true, true, true, false] rfl rfl (one_of HT_.out (by kernel_rfl)) (by decide) (fun K hK => ?_)
                refine goes_ Try.func17 (by kernel_rfl) rfl #[.slice Ao93 t682.length co93, .agg #[.int .i64 t633, .int .i64 t634], .int .i64 t635] (by rfl) rfl rfl (by (try simp only [List.map_toArray, List.map_cons, List.map_nil]); first | done | rfl | (simp only [List.length_drop, List.length_take]; rfl)) ?_
                with_reducible refine (spec_IsMember.calls k4 _ _ t682 t633 t634 t635 t685 _ ?side1 ?side2 A88.out).mono ?_
                (case side1 => repeat (first | exact (Kd.R_reads' HO684.out).2.2 | (with_reducible refine Kd.C_alloc ?_ _) | (with_reducible refine Kd.C_drewN ?_ _) | (with_reducible refine Kd.C_drew ?_)))
                (case side2 => exact (Kd.R_reads' HO684.out).2.1)
                rintro e w94 ⟨rfl, hb⟩
                have HS3_ := (hb.cell (World.block_lt_of_cell? _ _ (hHeld.2.2.2))).trans (hHeld.2.2.2)
                refine ⟨_, rfl, ?_⟩
                replace HO_4 := hob_ HO_4 hb
                replace HO_15 := hob_ HO_15 hb
                replace HO_16 := hob_ HO_16 hb
                replace HO684 := hob_ HO684 hb
                replace BK637 := bkb_ BK637 hb
                replace BK643 := bkb_ BK643 hb
                replace HB := hbs_ hb
                (try clear hb)
                (try clear hb2)
                (try clear hk)
                (try clear hi)
                refine hK.out _ _ ⟨(blk_cell BK637.out 0).trans rfl, (blk_cell BK637.out 1).trans rfl, (blk_cell BK637.out 2).trans rfl, HS3_⟩ (fun hHeld => ?_)
                clear hK K
                refine norm_ (a' := ?_) ?_ ?_
                rotate_left
                ·show Act.put _ (some 142) _ = _
                 simp only [Act.put, List.setIfInBounds_toArray, List.set_cons_zero, List.set_cons_succ, i64_w, i32_w]
                 rfl
                refine pureZ_ (i := 14) (some 143) #[true, true, true, true, true, true, true, true, true, true, true, true, true, true, true] (ao_ HT_) ?_
                refine done_ (done_of HT_.out (by kernel_rfl)) ?_
                go_upto_if 143 with (fail)
                have H := HC89.out
                clear HC89
                by_cases c95 : t685 = true
                ·subst c95
                 replace H := ite_t_ H
                 exact absurd (Option.some.inj (H.trans (congrArg some hr_))) (by decide)
                ·replace c95 := Bool.eq_false_iff.mpr c95
                 subst c95
                 replace H := ite_f_ H
                 have H' := aa_ H
                 clear H
                 go_wp2
                 go_roundg k4
                 case measure => have := HJ10.out; have := HK2.out; have := HK3.out; have := HK4.out; omega
                 case rel => exact ⟨(wrap64 (x17_3 + 1)), rf_, H', ⟨by have := HJ10.out; have := HK2.out; have := HK3.out; have := HK4.out; omega⟩, ⟨by (with_reducible repeat (first | apply Kd.R_alloc | apply Kd.R_drewN | apply Kd.R_drew)); exact Kd.R_mono HO_4.out (fun _ hk => hk.1)⟩, ⟨by (with_reducible repeat (first | apply Kd.R_alloc | apply Kd.R_drewN | apply Kd.R_drew)); exact Kd.R_mono HO_15.out (fun _ hk => hk.1)⟩, ⟨rr_ HO_16⟩, ⟨bk_ BK637⟩, ⟨bk_ BK643⟩, ⟨bl_⟩⟩
               ·replace c84 := Bool.eq_false_iff.mpr c84
                subst c84
                replace H := ite_f_ H
                exact absurd (Option.some.inj (H.trans (congrArg some hr_))) (by decide)
           ·rw [if_neg c71] at H
            have c71b0 : decide (x17_3 < (t672.length : Int)) = false := decide_eq_false c71
            clear c71
            by_cases c96 : t668 = true
            ·subst c96
             replace H := ite_t_ H
             obtain ⟨t675, A97, H⟩ := bindE_ H
             obtain rfl := Option.some.inj H
             obtain ⟨Ao98, co98, eo98⟩ := Kd.R_slice HO_16.out
             subst eo98
             go_wp2_with (first | (go_at_call 18; (with_reducible refine (impl_Without.calls _ _ t630 0 t675 _ ?side1 ?side2 A97.out).mono ?_); (case side1 => repeat (first | exact (Kd.R_reads' HO_4.out).2.2 | (with_reducible refine Kd.C_alloc ?_ _) | (with_reducible refine Kd.C_drewN ?_ _) | (with_reducible refine Kd.C_drew ?_))); (case side2 => exact (Kd.R_reads' HO_4.out).2.1); rintro e w99 ⟨v676, rfl, ho0, hb⟩; replace HO_16 := hob_ HO_16 hb; have HO677 := aa_ (Kd.R_lower (Kd.R_new' (Kd.R_new' ho0 (Kd.R_lt (rr_ HO_4))) (Kd.R_lt (rr_ HO_15))) bls_); replace HO_4 := aa_ (Kd.R_elder' (rr_ HO_4) (Kd.R_base ho0) hb); replace HO_15 := aa_ (Kd.R_elder' (rr_ HO_15) (Kd.R_base ho0) hb); replace BK637 := bkb_ BK637 hb; replace BK643 := bkb_ BK643 hb; replace HB := hbs_ hb; (try clear hb ho0); obtain ⟨Ao100, co100, eo100⟩ := Kd.R_slice HO677.out; subst eo100))
             go_ret
             exact ⟨eq_, bl_⟩
            ·replace c96 := Bool.eq_false_iff.mpr c96
             subst c96
             replace H := ite_f_ H
             exact absurd (Option.some.inj (H.trans (congrArg some hr_))) (by decide)
        ·replace c58 := Bool.eq_false_iff.mpr c58
         subst c58
         replace H := ite_f_ H
         obtain ⟨t662, A101, H⟩ := bindE_ H
         obtain rfl := Option.some.inj H
         obtain ⟨Ao102, co102, eo102⟩ := Kd.R_slice HO_11.out
         subst eo102
         have hnb103 := NB643_637.out
         have hnc103 := NB637_643.out
         have hcz104 := blk_cell BK643.out
         have hfz104 := blk_frozen BK643.out
         obtain ⟨Ao105, co105, eo105⟩ := Kd.R_slice HO_4.out
         subst eo105
         go_wp2_with (first | ((with_reducible refine gC_ 14 rfl ?_); refine goesC_ (some 82) Try.func14 #[.slice Ao105 t630.length co105, .agg #[.int .i64 (Int.tmod (rd t638 0) 3), .int .i64 (Int.tmod (rd t638 1) 2)], .int .i64 0] ?_; (with_reducible refine (impl_Critical.calls k2 _ _ t630 (Int.tmod (rd t638 0) 3) (Int.tmod (rd t638 1) 2) 0 t662 _ ?side1 ?side2 A101.out).mono ?_); (case side1 => repeat (first | exact (Kd.R_reads' HO_4.out).2.2 | (with_reducible refine Kd.C_alloc ?_ _) | (with_reducible refine Kd.C_drewN ?_ _) | (with_reducible refine Kd.C_drew ?_))); (case side2 => exact (Kd.R_reads' HO_4.out).2.1); rintro e w106 ⟨v663, rfl, ho0, hb⟩; refine ⟨_, rfl, ?_⟩; replace HO_4 := hob_ HO_4 hb; replace HO_10 := hob_ HO_10 hb; replace HO_11 := hob_ HO_11 hb; have HO664 := aa_ (Kd.R_lower ho0 bls_); replace BK637 := bkb_ BK637 hb; replace BK643 := bkb_ BK643 hb; replace HB := hbs_ hb; (try clear hb ho0); obtain ⟨Ao107, co107, eo107⟩ := Kd.R_slice HO664.out; subst eo107))
         go_ret
         exact ⟨eq_, bl_⟩
end Go.Proofs.Ytcbhmcpdnokbiaa.PA
