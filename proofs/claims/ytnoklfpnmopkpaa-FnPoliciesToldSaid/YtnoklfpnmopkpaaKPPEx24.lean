import Derived.Test.YtnoklfpnmopkpaaKPPEx11
import Derived.Test.YtnoklfpnmopkpaaKPPEx20
import Derived.Test.YtnoklfpnmopkpaaKPPEx21
import Derived.Test.YtnoklfpnmopkpaaKPPEx23
-- printed by wip/tools
namespace Go.Proofs.Ytnoklfpnmopkpaa.PE
open Go.RowKit Go.Proofs.YtnoklfpnmopkpaaW.PrintWords Go.Proofs.YtnoklfpnmopkpaaW.PrintLast Go.Proofs.YtnoklfpnmopkpaaW.PrintMore
attribute [local go_sem] max2_int min2_int max_two min_two max_three min_three max_four min_four
set_option linter.unusedVariables false
set_option linter.unusedSimpArgs false
theorem fa_ {α : Type} {d : Kd α} {e base g t : Nat} {w : World} {ok : Nat → Prop} {x v : Value} {xs : List α} {cs : Array Value} (h : Aside0 (d.R e w base ok x xs)) (b : Aside0 (w.heap[g]? = some (.cells cs t (0, 0)))) (ht : ∀ q, q ∈ e :: d.E → q ≠ t := by decide) : d.R e (w.setCell ⟨g, 0, none⟩ v) base ok x xs := Kd.R_mono (Kd.R_far (p := ⟨g, 0, none⟩) (Kd.R_types h.out b.out ht) (fun _ hk => hk.2) v) (fun _ h_ => h_.1)
theorem b0_ {w : World} {g t : Nat} {cs : Array Value} {v : Value} (h : Aside0 (w.heap[g]? = some (.cells cs t (0, 0)))) (e : cs[0]? = some v := by rfl) : w.cell? ⟨g, 0, none⟩ = some v := (blk_cell h.out 0).trans e
def laws_FnPoliciesTold.f (k : Nat) (l0 : List Int) : Option (Bool) := (laws_big.f l0).bind fun t810 => (if t810 = true then (some true) else ((spec_DrawDecides.f k l0).bind fun bt811 => ((spec_DrawPolicyRoles.f k l0).bind fun t819 => ((spec_DrawRising.f k l0).bind fun t823 => ((spec_DrawPolicyText.f k l0).bind fun t827 => ((spec_DrawReadPolicy.f k l0).bind fun t831 => ((impl_ReadPolicy.f k t831).bind fun bt832 => ((spec_ReadPolicy.f k t831).bind fun bt837 => ((impl_Decides.f k bt811.1 bt811.2.1 bt811.2.2).bind fun t842 => ((spec_Decides.f k bt811.1 bt811.2.1 bt811.2.2).bind fun t843 => (if (t842 == t843) = true then ((impl_PolicyOk.f k bt811.2.1).bind fun t844 => ((spec_PolicyOk.f k bt811.2.1).bind fun t845 => (if (t844 == t845) = true then ((impl_PolicyRoles.f k t819).bind fun t846 => ((spec_PolicyRoles.f k t819).bind fun t849 => ((laws_sameRoles.f k t846 t849).bind fun t852 => (if t852 = true then ((impl_Rising.f k t823).bind fun t853 => ((spec_Rising.f k t823).bind fun t854 => (if (t853 == t854) = true then ((impl_PolicyText.f k t827).bind fun t855 => ((spec_PolicyText.f k t827).bind fun t856 => (if t855.toList = t856.toList then (if (bt832.2 == bt837.2) = true then ((laws_samePolicy.f k bt832.1 bt837.1).bind fun t857 => (some t857)) else (some false)) else (some false)))) else (some false)))) else (some false))))) else (some false)))) else (some false))))))))))))
def laws_FnPoliciesTold.T10 : Bool × List (List Nat × List Nat) := (true, [([], []), ([], []), ([], []), ([0, 1, 2], [0, 1, 2]), ([], []), ([], []), ([], []), ([4, 5, 6, 3], [4, 5, 6]), ([3, 7], [3, 7]), ([8, 7], [8]), ([9], [9]), ([10, 9, 9], [9, 10]), ([9], [9]), ([12, 11, 9], [9, 12]), ([11, 13, 9], [9, 11, 13]), ([9, 14], [9, 14]), ([15, 13], [15]), ([16], [16]), ([17, 16, 16], [16, 17]), ([16], [16]), ([19, 18, 16], [16, 19]), ([18, 20, 20, 16], [16, 18, 20]), ([16, 21], [16, 21]), ([22, 21], [22]), ([23], [23]), ([24, 23, 23], [23, 24]), ([23], [23]), ([26, 25, 23], [23, 26]), ([25, 27, 23], [23, 25, 27]), ([23, 28], [23, 28]), ([29, 27], [29]), ([30], [30]), ([31, 30, 30], [30, 31]), ([30], [30]), ([33, 32, 30], [30, 33]), ([32, 34, 30], [30, 32, 34]), ([30, 35], [30, 35]), ([36, 34], [36]), ([37], [37]), ([37], [37]), ([38, 39, 37], [37, 38, 39]), ([37, 40], [37, 40]), ([41, 37], [41]), ([42], [42]), ([42], [42]), ([43, 44, 42, 42], [42, 43, 44]), ([42, 45], [42, 45]), ([46, 45, 0, 1, 2, 3, 4, 5, 6, 7, 8, 9, 10, 11, 12, 13, 14, 15, 16, 17, 18, 19, 20, 21, 22, 23, 24, 25, 26, 27, 28, 29, 30, 31, 32, 33, 34, 35, 36, 37, 38, 39, 40, 41, 42, 43, 44, 45, 46], [46])])
def laws_FnPoliciesTold.B10 : List Nat := [0, 0, 0, 7, 0, 0, 0, 127, 255, 511, 1023, 2047, 1023, 8191, 16383, 32767, 65535, 131071, 262143, 131071, 1048575, 2097151, 4194303, 8388607, 16777215, 33554431, 16777215, 134217727, 268435455, 536870911, 1073741823, 2147483647, 4294967295, 2147483647, 17179869183, 34359738367, 68719476735, 137438953471, 274877906943, 274877906943, 1099511627775, 2199023255551, 4398046511103, 8796093022207, 8796093022207, 35184372088831, 70368744177663, 140737488355327]
theorem laws_FnPoliciesTold.tab10 : rtab .any (opsOf Try.f3 10) = laws_FnPoliciesTold.T10 := by kernel_rfl
theorem laws_FnPoliciesTold.bits10 : waitsOk laws_FnPoliciesTold.T10.2 laws_FnPoliciesTold.B10 = true := by kernel_rfl
set_option maxHeartbeats 8000000 in
set_option maxRecDepth 100000 in
theorem laws_FnPoliciesTold.calls (k : Nat) (A0 : Option Addr) (c0 : Nat) (l0 : List Int) (r : Bool) (w : World) (hr0 : Kd.C (Kd.int .u8) w A0 l0.length l0) (hc0 : l0.length ≤ c0) (hr_ : r = true) (h : laws_FnPoliciesTold.f k l0 = some r) :
  Calls Try.prog 3 #[.slice A0 l0.length c0] w fun e w' => e = .returned (.bool r) ∧ Below w.heap.size w w' := by
 have hu27 := Try.underlying27
 have HR0 := aa_ hr0
 have HC0 := aa_ hc0
 clear hr0 hc0
 have HB := aa_ (Below.refl w.heap.size w)
 have H : ((laws_big.f l0).bind fun t810 => (if t810 = true then (some true) else ((spec_DrawDecides.f k l0).bind fun bt811 => ((spec_DrawPolicyRoles.f k l0).bind fun t819 => ((spec_DrawRising.f k l0).bind fun t823 => ((spec_DrawPolicyText.f k l0).bind fun t827 => ((spec_DrawReadPolicy.f k l0).bind fun t831 => ((impl_ReadPolicy.f k t831).bind fun bt832 => ((spec_ReadPolicy.f k t831).bind fun bt837 => ((impl_Decides.f k bt811.1 bt811.2.1 bt811.2.2).bind fun t842 => ((spec_Decides.f k bt811.1 bt811.2.1 bt811.2.2).bind fun t843 => (if (t842 == t843) = true then ((impl_PolicyOk.f k bt811.2.1).bind fun t844 => ((spec_PolicyOk.f k bt811.2.1).bind fun t845 => (if (t844 == t845) = true then ((impl_PolicyRoles.f k t819).bind fun t846 => ((spec_PolicyRoles.f k t819).bind fun t849 => ((laws_sameRoles.f k t846 t849).bind fun t852 => (if t852 = true then ((impl_Rising.f k t823).bind fun t853 => ((spec_Rising.f k t823).bind fun t854 => (if (t853 == t854) = true then ((impl_PolicyText.f k t827).bind fun t855 => ((spec_PolicyText.f k t827).bind fun t856 => (if t855.toList = t856.toList then (if (bt832.2 == bt837.2) = true then ((laws_samePolicy.f k bt832.1 bt837.1).bind fun t857 => (some t857)) else (some false)) else (some false)))) else (some false)))) else (some false))))) else (some false)))) else (some false))))))))))))) = some r := h
 clear h
 obtain ⟨t810, A2, H⟩ := bindE_ H
 have HC3 := aa_ H
 clear H
 go_enter Try.func3, Try.ntmps3
 go_upto_if 15 with (first | ((with_reducible refine gC_ 4 rfl ?_); refine goesC_ (some 15) Try.func4 #[.slice A0 l0.length c0] ?_; (with_reducible refine (laws_big.calls _ _ l0 t810 _ ?side1 ?side2 A2.out).mono ?_); (case side1 => exact cc_ HR0); (case side2 => exact HC0.out); rintro e w' ⟨rfl, ⟨nd, rfl⟩⟩; refine ⟨_, rfl, ?_⟩))
 (try simp only [Act.put, List.setIfInBounds_toArray, List.set_cons_zero, List.set_cons_succ])
 have H := HC3.out
 clear HC3
 by_cases c4 : t810 = true
 ·subst c4
  replace H := ite_t_ H
  obtain rfl := Option.some.inj H
  go_wp2
  go_ret
  exact ⟨eq_, bl_⟩
 ·replace c4 := Bool.eq_false_iff.mpr c4
  subst c4
  replace H := ite_f_ H
  obtain ⟨⟨t811, t814, t817⟩, A5, H⟩ := bindE_ H
  (try dsimp only at H)
  obtain ⟨t819, A6, H⟩ := bindE_ H
  obtain ⟨t823, A7, H⟩ := bindE_ H
  obtain ⟨t827, A8, H⟩ := bindE_ H
  obtain ⟨t831, A9, H⟩ := bindE_ H
  obtain ⟨⟨t832, t835⟩, A10, H⟩ := bindE_ H
  (try dsimp only at H)
  obtain ⟨⟨t837, t840⟩, A11, H⟩ := bindE_ H
  (try dsimp only at H)
  obtain ⟨t842, A12, H⟩ := bindE_ H
  obtain ⟨t843, A13, H⟩ := bindE_ H
  by_cases c14 : (t842 == t843) = true
  ·rw [if_pos c14] at H
   have c14b0 : (t842 == t843) = true := c14
   (try (have c14b1 : decide (t842 = t843) = true := by simpa using c14))
   (try (have c14b2 : (t842 == t843) = true := by simpa using c14))
   clear c14
   (first | rw [c14b0] | (simp only [i64_w, i32_w]; rw [c14b0]) | skip)
   obtain ⟨t844, A15, H⟩ := bindE_ H
   obtain ⟨t845, A16, H⟩ := bindE_ H
   by_cases c17 : (t844 == t845) = true
   ·rw [if_pos c17] at H
    have c17b0 : (t844 == t845) = true := c17
    (try (have c17b1 : decide (t844 = t845) = true := by simpa using c17))
    (try (have c17b2 : (t844 == t845) = true := by simpa using c17))
    clear c17
    obtain ⟨t846, A18, H⟩ := bindE_ H
    obtain ⟨t849, A19, H⟩ := bindE_ H
    obtain ⟨t852, A20, H⟩ := bindE_ H
    by_cases c21 : t852 = true
    ·subst c21
     replace H := ite_t_ H
     obtain ⟨t853, A22, H⟩ := bindE_ H
     obtain ⟨t854, A23, H⟩ := bindE_ H
     by_cases c24 : (t853 == t854) = true
     ·rw [if_pos c24] at H
      have c24b0 : (t853 == t854) = true := c24
      (try (have c24b1 : decide (t853 = t854) = true := by simpa using c24))
      (try (have c24b2 : (t853 == t854) = true := by simpa using c24))
      clear c24
      obtain ⟨t855, A25, H⟩ := bindE_ H
      obtain ⟨t856, A26, H⟩ := bindE_ H
      by_cases c27 : t855.toList = t856.toList
      ·rw [if_pos c27] at H
       have c27b0 : (t855.toList == t856.toList) = true := beq_iff_eq.mpr c27
       have c27b1 : (t855.toList != t856.toList) = false := bne_eq_false_iff_eq.mpr c27
       clear c27
       by_cases c28 : (t835 == t840) = true
       ·rw [if_pos c28] at H
        have c28b0 : (t835 == t840) = true := c28
        (try (have c28b1 : decide (t835 = t840) = true := by simpa using c28))
        (try (have c28b2 : (t835 == t840) = true := by simpa using c28))
        clear c28
        obtain ⟨t857, A29, H⟩ := bindE_ H
        obtain rfl := Option.some.inj H
        try go_wp2_with (first | ((with_reducible refine gC_ 5 rfl ?_); refine goesC_ (some 18) Try.func5 #[.slice A0 l0.length c0] ?_; (with_reducible refine (spec_DrawDecides.calls k _ _ l0 t811 t814 t817 _ ?side1 ?side2 A5.out).mono ?_); (case side1 => repeat (first | exact (Kd.C_below HR0.out HB.out) | (with_reducible refine Kd.C_alloc ?_ _) | (with_reducible refine Kd.C_drewN ?_ _) | (with_reducible refine Kd.C_drew ?_))); (case side2 => exact HC0.out); rintro e w30 ⟨v812, v815, rfl, ho0, ho1, hb⟩; refine ⟨_, rfl, ?_⟩; have HO813 := aa_ (Kd.R_lower ho0 bls_); have HO816 := aa_ (Kd.R_lower ho1 bls_); replace HB := hbs_ hb; (try clear hb ho0 ho1)) | ((with_reducible refine gD_ 4 rfl ?_); refine bx_ (N := 4) (cs := #[.slice none 0 0]) (t := 27) ?_; intro gb818 hg w31 hbox hb; replace HO813 := hob_ HO813 hb; replace HO816 := hob_ HO816 hb; have BK818 := aa_ (hbox); have GW818 := gs_ hg; have GE818 := gs_ hg; replace HB := hbs_ hb; clear hb hbox hg; obtain ⟨Ao32, co32, eo32⟩ := Kd.R_slice HO816.out; subst eo32; obtain ⟨hcz33, hfz33⟩ := bcf_ BK818) | ((with_reducible refine gC_ 6 rfl ?_); refine goesC_ (some 23) Try.func6 #[.slice A0 l0.length c0] ?_; (with_reducible refine (spec_DrawPolicyRoles.calls k _ _ l0 t819 _ ?side1 ?side2 A6.out).mono ?_); (case side1 => exact Kd.C_below HR0.out bl_); (case side2 => exact HC0.out); rintro e w34 ⟨v820, rfl, ho0, hb⟩; refine ⟨_, rfl, ?_⟩; replace HO813 := aa_ (Kd.R_below (by (with_reducible repeat (first | apply Kd.R_alloc | apply Kd.R_drewN | apply Kd.R_drew)); exact fa_ HO813 BK818) hb); have HO821 := aa_ (Kd.R_lower (Kd.R_new' ho0 (Kd.R_lt (by (with_reducible repeat (first | apply Kd.R_alloc | apply Kd.R_drewN | apply Kd.R_drew)); exact fa_ HO816 BK818))) bls_); replace HO816 := aa_ (Kd.R_elder' (by (with_reducible repeat (first | apply Kd.R_alloc | apply Kd.R_drewN | apply Kd.R_drew)); exact fa_ HO816 BK818) (Kd.R_base ho0) hb); replace BK818 := aa_ (blk_below (g := gb818) (o := .cells #[.slice Ao32 t814.length co32] 27 (0, 0)) (bk_ BK818) hb); replace HB := hbs_ hb; (try clear hb ho0)) | ((with_reducible refine gD_ 6 rfl ?_); refine bx_ (N := 6) (cs := #[.slice none 0 0]) (t := 27) ?_; intro gb822 hg w35 hbox hb; replace HO813 := hob_ HO813 hb; replace HO816 := hob_ HO816 hb; replace HO821 := hob_ HO821 hb; have BK822 := aa_ (hbox); have GW822 := gs_ hg; have GE822 := gs_ hg; replace HB := hbs_ hb; have NB818_822 := nl_ hg BK818; have NB822_818 := nr_ hg BK818; replace BK818 := bkb_ BK818 hb; clear hb hbox hg; obtain ⟨Ao36, co36, eo36⟩ := Kd.R_slice HO821.out; subst eo36; have hnb37 := NB822_818.out; have hnc37 := NB818_822.out; obtain ⟨hcz38, hfz38⟩ := bcf_ BK822) | ((with_reducible refine gC_ 7 rfl ?_); refine goesC_ (some 25) Try.func7 #[.slice A0 l0.length c0] ?_; (with_reducible refine (spec_DrawRising.calls k _ _ l0 t823 _ ?side1 ?side2 A7.out).mono ?_); (case side1 => exact Kd.C_below HR0.out bl_); (case side2 => exact HC0.out); rintro e w39 ⟨v824, rfl, ho0, hb⟩; refine ⟨_, rfl, ?_⟩; replace HO813 := aa_ (Kd.R_below (by (with_reducible repeat (first | apply Kd.R_alloc | apply Kd.R_drewN | apply Kd.R_drew)); exact fa_ HO813 BK822) hb); have HO825 := aa_ (Kd.R_lower (Kd.R_new' (Kd.R_new' ho0 (Kd.R_lt (by (with_reducible repeat (first | apply Kd.R_alloc | apply Kd.R_drewN | apply Kd.R_drew)); exact fa_ HO816 BK822))) (Kd.R_lt (by (with_reducible repeat (first | apply Kd.R_alloc | apply Kd.R_drewN | apply Kd.R_drew)); exact fa_ HO821 BK822))) bls_); replace HO816 := aa_ (Kd.R_elder' (by (with_reducible repeat (first | apply Kd.R_alloc | apply Kd.R_drewN | apply Kd.R_drew)); exact fa_ HO816 BK822) (Kd.R_base ho0) hb); replace HO821 := aa_ (Kd.R_elder' (by (with_reducible repeat (first | apply Kd.R_alloc | apply Kd.R_drewN | apply Kd.R_drew)); exact fa_ HO821 BK822) (Kd.R_base ho0) hb); replace BK818 := aa_ (blk_below (g := gb818) (o := .cells #[.slice Ao32 t814.length co32] 27 (0, 0)) (bk_ BK818) hb); replace BK822 := aa_ (blk_below (g := gb822) (o := .cells #[.slice Ao36 t819.length co36] 27 (0, 0)) (bk_ BK822) hb); replace HB := hbs_ hb; (try clear hb ho0)) | ((with_reducible refine gD_ 7 rfl ?_); refine bx_ (N := 7) (cs := #[.slice none 0 0]) (t := 27) ?_; intro gb826 hg w40 hbox hb; replace HO813 := hob_ HO813 hb; replace HO816 := hob_ HO816 hb; replace HO821 := hob_ HO821 hb; replace HO825 := hob_ HO825 hb; have BK826 := aa_ (hbox); have GW826 := gs_ hg; have GE826 := gs_ hg; replace HB := hbs_ hb; have NB818_826 := nl_ hg BK818; have NB826_818 := nr_ hg BK818; replace BK818 := bkb_ BK818 hb; have NB822_826 := nl_ hg BK822; have NB826_822 := nr_ hg BK822; replace BK822 := bkb_ BK822 hb; clear hb hbox hg; obtain ⟨Ao41, co41, eo41⟩ := Kd.R_slice HO825.out; subst eo41; have hnb42 := NB826_818.out; have hnc42 := NB818_826.out; have hnb43 := NB826_822.out; have hnc43 := NB822_826.out; obtain ⟨hcz44, hfz44⟩ := bcf_ BK826) | ((with_reducible refine gC_ 8 rfl ?_); refine goesC_ (some 27) Try.func8 #[.slice A0 l0.length c0] ?_; (with_reducible refine (spec_DrawPolicyText.calls k _ _ l0 t827 _ ?side1 ?side2 A8.out).mono ?_); (case side1 => exact Kd.C_below HR0.out bl_); (case side2 => exact HC0.out); rintro e w45 ⟨v828, rfl, ho0, hb⟩; refine ⟨_, rfl, ?_⟩; replace HO813 := aa_ (Kd.R_below (by (with_reducible repeat (first | apply Kd.R_alloc | apply Kd.R_drewN | apply Kd.R_drew)); exact fa_ HO813 BK826) hb); have HO829 := aa_ (Kd.R_lower (Kd.R_new' (Kd.R_new' (Kd.R_new' ho0 (Kd.R_lt (by (with_reducible repeat (first | apply Kd.R_alloc | apply Kd.R_drewN | apply Kd.R_drew)); exact fa_ HO816 BK826))) (Kd.R_lt (by (with_reducible repeat (first | apply Kd.R_alloc | apply Kd.R_drewN | apply Kd.R_drew)); exact fa_ HO821 BK826))) (Kd.R_lt (by (with_reducible repeat (first | apply Kd.R_alloc | apply Kd.R_drewN | apply Kd.R_drew)); exact fa_ HO825 BK826))) bls_); replace HO816 := aa_ (Kd.R_elder' (by (with_reducible repeat (first | apply Kd.R_alloc | apply Kd.R_drewN | apply Kd.R_drew)); exact fa_ HO816 BK826) (Kd.R_base ho0) hb); replace HO821 := aa_ (Kd.R_elder' (by (with_reducible repeat (first | apply Kd.R_alloc | apply Kd.R_drewN | apply Kd.R_drew)); exact fa_ HO821 BK826) (Kd.R_base ho0) hb); replace HO825 := aa_ (Kd.R_elder' (by (with_reducible repeat (first | apply Kd.R_alloc | apply Kd.R_drewN | apply Kd.R_drew)); exact fa_ HO825 BK826) (Kd.R_base ho0) hb); replace BK818 := aa_ (blk_below (g := gb818) (o := .cells #[.slice Ao32 t814.length co32] 27 (0, 0)) (bk_ BK818) hb); replace BK822 := aa_ (blk_below (g := gb822) (o := .cells #[.slice Ao36 t819.length co36] 27 (0, 0)) (bk_ BK822) hb); replace BK826 := aa_ (blk_below (g := gb826) (o := .cells #[.slice Ao41 t823.length co41] 27 (0, 0)) (bk_ BK826) hb); replace HB := hbs_ hb; (try clear hb ho0)) | ((with_reducible refine gD_ 8 rfl ?_); refine bx_ (N := 8) (cs := #[.slice none 0 0]) (t := 27) ?_; intro gb830 hg w46 hbox hb; replace HO813 := hob_ HO813 hb; replace HO816 := hob_ HO816 hb; replace HO821 := hob_ HO821 hb; replace HO825 := hob_ HO825 hb; replace HO829 := hob_ HO829 hb; have BK830 := aa_ (hbox); have GW830 := gs_ hg; have GE830 := gs_ hg; replace HB := hbs_ hb; have NB818_830 := nl_ hg BK818; have NB830_818 := nr_ hg BK818; replace BK818 := bkb_ BK818 hb; have NB822_830 := nl_ hg BK822; have NB830_822 := nr_ hg BK822; replace BK822 := bkb_ BK822 hb; have NB826_830 := nl_ hg BK826; have NB830_826 := nr_ hg BK826; replace BK826 := bkb_ BK826 hb; clear hb hbox hg; obtain ⟨Ao47, co47, eo47⟩ := Kd.R_slice HO829.out; subst eo47; have hnb48 := NB830_818.out; have hnc48 := NB818_830.out; have hnb49 := NB830_822.out; have hnc49 := NB822_830.out; have hnb50 := NB830_826.out; have hnc50 := NB826_830.out; obtain ⟨hcz51, hfz51⟩ := bcf_ BK830) | ((with_reducible refine gC_ 9 rfl ?_); refine goesC_ (some 29) Try.func9 #[.slice A0 l0.length c0] ?_; (with_reducible refine (spec_DrawReadPolicy.calls k _ _ l0 t831 _ ?side1 ?side2 A9.out).mono ?_); (case side1 => exact Kd.C_below HR0.out bl_); (case side2 => exact HC0.out); rintro e w52 ⟨rfl, hb⟩; refine ⟨_, rfl, ?_⟩; replace HO813 := aa_ (Kd.R_below (by (with_reducible repeat (first | apply Kd.R_alloc | apply Kd.R_drewN | apply Kd.R_drew)); exact fa_ HO813 BK830) hb); replace HO816 := aa_ (Kd.R_below (by (with_reducible repeat (first | apply Kd.R_alloc | apply Kd.R_drewN | apply Kd.R_drew)); exact fa_ HO816 BK830) hb); replace HO821 := aa_ (Kd.R_below (by (with_reducible repeat (first | apply Kd.R_alloc | apply Kd.R_drewN | apply Kd.R_drew)); exact fa_ HO821 BK830) hb); replace HO825 := aa_ (Kd.R_below (by (with_reducible repeat (first | apply Kd.R_alloc | apply Kd.R_drewN | apply Kd.R_drew)); exact fa_ HO825 BK830) hb); replace HO829 := aa_ (Kd.R_below (by (with_reducible repeat (first | apply Kd.R_alloc | apply Kd.R_drewN | apply Kd.R_drew)); exact fa_ HO829 BK830) hb); replace BK818 := aa_ (blk_below (g := gb818) (o := .cells #[.slice Ao32 t814.length co32] 27 (0, 0)) (bk_ BK818) hb); replace BK822 := aa_ (blk_below (g := gb822) (o := .cells #[.slice Ao36 t819.length co36] 27 (0, 0)) (bk_ BK822) hb); replace BK826 := aa_ (blk_below (g := gb826) (o := .cells #[.slice Ao41 t823.length co41] 27 (0, 0)) (bk_ BK826) hb); replace BK830 := aa_ (blk_below (g := gb830) (o := .cells #[.slice Ao47 t827.length co47] 27 (0, 0)) (bk_ BK830) hb); replace HB := hbs_ hb; clear hb) | ((with_reducible refine gC_ 10 rfl ?_); refine goesC_ (some 32) Try.func10 #[.string t831] ?_; (with_reducible refine (impl_ReadPolicy.calls k t831 t832 t835 _ A10.out).mono ?_); rintro e w53 ⟨v833, rfl, ho0, hb⟩; refine ⟨_, rfl, ?_⟩; replace HO813 := hob_ HO813 hb; have HO834 := aa_ (Kd.R_lower (Kd.R_new' (Kd.R_new' (Kd.R_new' (Kd.R_new' ho0 (Kd.R_lt (rr_ HO816))) (Kd.R_lt (rr_ HO821))) (Kd.R_lt (rr_ HO825))) (Kd.R_lt (rr_ HO829))) bls_); replace HO816 := aa_ (Kd.R_elder' (rr_ HO816) (Kd.R_base ho0) hb); replace HO821 := aa_ (Kd.R_elder' (rr_ HO821) (Kd.R_base ho0) hb); replace HO825 := aa_ (Kd.R_elder' (rr_ HO825) (Kd.R_base ho0) hb); replace HO829 := aa_ (Kd.R_elder' (rr_ HO829) (Kd.R_base ho0) hb); replace BK818 := bkb_ BK818 hb; replace BK822 := bkb_ BK822 hb; replace BK826 := bkb_ BK826 hb; replace BK830 := bkb_ BK830 hb; replace HB := hbs_ hb; (try clear hb ho0)) | ((with_reducible refine gD_ 10 rfl ?_); refine bx_ (N := 10) (cs := #[.slice none 0 0]) (t := 27) ?_; intro gb836 hg w54 hbox hb; replace HO813 := hob_ HO813 hb; replace HO816 := hob_ HO816 hb; replace HO821 := hob_ HO821 hb; replace HO825 := hob_ HO825 hb; replace HO829 := hob_ HO829 hb; replace HO834 := hob_ HO834 hb; have BK836 := aa_ (hbox); have GW836 := gs_ hg; have GE836 := gs_ hg; replace HB := hbs_ hb; have NB818_836 := nl_ hg BK818; have NB836_818 := nr_ hg BK818; replace BK818 := bkb_ BK818 hb; have NB822_836 := nl_ hg BK822; have NB836_822 := nr_ hg BK822; replace BK822 := bkb_ BK822 hb; have NB826_836 := nl_ hg BK826; have NB836_826 := nr_ hg BK826; replace BK826 := bkb_ BK826 hb; have NB830_836 := nl_ hg BK830; have NB836_830 := nr_ hg BK830; replace BK830 := bkb_ BK830 hb; clear hb hbox hg; obtain ⟨Ao55, co55, eo55⟩ := Kd.R_slice HO834.out; subst eo55; have hnb56 := NB836_818.out; have hnc56 := NB818_836.out; have hnb57 := NB836_822.out; have hnc57 := NB822_836.out; have hnb58 := NB836_826.out; have hnc58 := NB826_836.out; have hnb59 := NB836_830.out; have hnc59 := NB830_836.out; obtain ⟨hcz60, hfz60⟩ := bcf_ BK836) | ((with_reducible refine gC_ 11 rfl ?_); refine goesC_ (some 37) Try.func11 #[.string t831] ?_; (with_reducible refine (spec_ReadPolicy.calls k t831 t837 t840 _ A11.out).mono ?_); rintro e w61 ⟨v838, rfl, ho0, hb⟩; refine ⟨_, rfl, ?_⟩; replace HO813 := aa_ (Kd.R_below (by (with_reducible repeat (first | apply Kd.R_alloc | apply Kd.R_drewN | apply Kd.R_drew)); exact fa_ HO813 BK836) hb); have HO839 := aa_ (Kd.R_lower (Kd.R_new' (Kd.R_new' (Kd.R_new' (Kd.R_new' (Kd.R_new' ho0 (Kd.R_lt (by (with_reducible repeat (first | apply Kd.R_alloc | apply Kd.R_drewN | apply Kd.R_drew)); exact fa_ HO816 BK836))) (Kd.R_lt (by (with_reducible repeat (first | apply Kd.R_alloc | apply Kd.R_drewN | apply Kd.R_drew)); exact fa_ HO821 BK836))) (Kd.R_lt (by (with_reducible repeat (first | apply Kd.R_alloc | apply Kd.R_drewN | apply Kd.R_drew)); exact fa_ HO825 BK836))) (Kd.R_lt (by (with_reducible repeat (first | apply Kd.R_alloc | apply Kd.R_drewN | apply Kd.R_drew)); exact fa_ HO829 BK836))) (Kd.R_lt (by (with_reducible repeat (first | apply Kd.R_alloc | apply Kd.R_drewN | apply Kd.R_drew)); exact fa_ HO834 BK836))) bls_); replace HO816 := aa_ (Kd.R_elder' (by (with_reducible repeat (first | apply Kd.R_alloc | apply Kd.R_drewN | apply Kd.R_drew)); exact fa_ HO816 BK836) (Kd.R_base ho0) hb); replace HO821 := aa_ (Kd.R_elder' (by (with_reducible repeat (first | apply Kd.R_alloc | apply Kd.R_drewN | apply Kd.R_drew)); exact fa_ HO821 BK836) (Kd.R_base ho0) hb); replace HO825 := aa_ (Kd.R_elder' (by (with_reducible repeat (first | apply Kd.R_alloc | apply Kd.R_drewN | apply Kd.R_drew)); exact fa_ HO825 BK836) (Kd.R_base ho0) hb); replace HO829 := aa_ (Kd.R_elder' (by (with_reducible repeat (first | apply Kd.R_alloc | apply Kd.R_drewN | apply Kd.R_drew)); exact fa_ HO829 BK836) (Kd.R_base ho0) hb); replace HO834 := aa_ (Kd.R_elder' (by (with_reducible repeat (first | apply Kd.R_alloc | apply Kd.R_drewN | apply Kd.R_drew)); exact fa_ HO834 BK836) (Kd.R_base ho0) hb); replace BK818 := aa_ (blk_below (g := gb818) (o := .cells #[.slice Ao32 t814.length co32] 27 (0, 0)) (bk_ BK818) hb); replace BK822 := aa_ (blk_below (g := gb822) (o := .cells #[.slice Ao36 t819.length co36] 27 (0, 0)) (bk_ BK822) hb); replace BK826 := aa_ (blk_below (g := gb826) (o := .cells #[.slice Ao41 t823.length co41] 27 (0, 0)) (bk_ BK826) hb); replace BK830 := aa_ (blk_below (g := gb830) (o := .cells #[.slice Ao47 t827.length co47] 27 (0, 0)) (bk_ BK830) hb); replace BK836 := aa_ (blk_below (g := gb836) (o := .cells #[.slice Ao55 t832.length co55] 27 (0, 0)) (bk_ BK836) hb); replace HB := hbs_ hb; (try clear hb ho0)) | ((with_reducible refine gD_ 12 rfl ?_); refine bx_ (N := 12) (cs := #[.slice none 0 0]) (t := 27) ?_; intro gb841 hg w62 hbox hb; replace HO813 := hob_ HO813 hb; replace HO816 := hob_ HO816 hb; replace HO821 := hob_ HO821 hb; replace HO825 := hob_ HO825 hb; replace HO829 := hob_ HO829 hb; replace HO834 := hob_ HO834 hb; replace HO839 := hob_ HO839 hb; have BK841 := aa_ (hbox); have GW841 := gs_ hg; have GE841 := gs_ hg; replace HB := hbs_ hb; have NB818_841 := nl_ hg BK818; have NB841_818 := nr_ hg BK818; replace BK818 := bkb_ BK818 hb; have NB822_841 := nl_ hg BK822; have NB841_822 := nr_ hg BK822; replace BK822 := bkb_ BK822 hb; have NB826_841 := nl_ hg BK826; have NB841_826 := nr_ hg BK826; replace BK826 := bkb_ BK826 hb; have NB830_841 := nl_ hg BK830; have NB841_830 := nr_ hg BK830; replace BK830 := bkb_ BK830 hb; have NB836_841 := nl_ hg BK836; have NB841_836 := nr_ hg BK836; replace BK836 := bkb_ BK836 hb; clear hb hbox hg; obtain ⟨Ao63, co63, eo63⟩ := Kd.R_slice HO839.out; subst eo63; have hnb64 := NB841_818.out; have hnc64 := NB818_841.out; have hnb65 := NB841_822.out; have hnc65 := NB822_841.out; have hnb66 := NB841_826.out; have hnc66 := NB826_841.out; have hnb67 := NB841_830.out; have hnc67 := NB830_841.out; have hnb68 := NB841_836.out; have hnc68 := NB836_841.out; obtain ⟨hcz69, hfz69⟩ := bcf_ BK841))
        have n0_ : Aside0 (Kd.R k74 74 (w62.setCell ⟨gb841, 0, none⟩ (.slice Ao63 t837.length co63)) w.heap.size (fun _ => True) v812 t811) := ⟨by (with_reducible repeat (first | apply Kd.R_alloc | apply Kd.R_drewN | apply Kd.R_drew)); exact Kd.R_mono (Kd.R_far (p := ⟨gb841, 0, none⟩) (Kd.R_types HO813.out BK841.out (by decide)) (fun _ hk => hk.2) (.slice Ao63 t837.length co63)) (fun _ hk => trivial)⟩
        have n1_ : Aside0 (Kd.R k57 57 (w62.setCell ⟨gb841, 0, none⟩ (.slice Ao63 t837.length co63)) w.heap.size (fun k_ => some k_ ≠ (.slice Ao36 t819.length co36 : Value).ownBlock ∧ some k_ ≠ (.slice Ao41 t823.length co41 : Value).ownBlock ∧ some k_ ≠ (.slice Ao47 t827.length co47 : Value).ownBlock ∧ some k_ ≠ (.slice Ao55 t832.length co55 : Value).ownBlock ∧ some k_ ≠ (.slice Ao63 t837.length co63 : Value).ownBlock) (.slice Ao32 t814.length co32) t814) := ⟨by (with_reducible repeat (first | apply Kd.R_alloc | apply Kd.R_drewN | apply Kd.R_drew)); exact Kd.R_mono (Kd.R_far (p := ⟨gb841, 0, none⟩) (Kd.R_types HO816.out BK841.out (by decide)) (fun _ hk => hk.2) (.slice Ao63 t837.length co63)) (fun _ hk => ⟨hk.1.1.1.1.1.2, ⟨hk.1.1.1.1.2, ⟨hk.1.1.1.2, ⟨hk.1.1.2, hk.1.2⟩⟩⟩⟩)⟩
        have n2_ : Aside0 (Kd.R k57 57 (w62.setCell ⟨gb841, 0, none⟩ (.slice Ao63 t837.length co63)) w.heap.size (fun k_ => some k_ ≠ (.slice Ao32 t814.length co32 : Value).ownBlock ∧ some k_ ≠ (.slice Ao41 t823.length co41 : Value).ownBlock ∧ some k_ ≠ (.slice Ao47 t827.length co47 : Value).ownBlock ∧ some k_ ≠ (.slice Ao55 t832.length co55 : Value).ownBlock ∧ some k_ ≠ (.slice Ao63 t837.length co63 : Value).ownBlock) (.slice Ao36 t819.length co36) t819) := ⟨by (with_reducible repeat (first | apply Kd.R_alloc | apply Kd.R_drewN | apply Kd.R_drew)); exact Kd.R_mono (Kd.R_far (p := ⟨gb841, 0, none⟩) (Kd.R_types HO821.out BK841.out (by decide)) (fun _ hk => hk.2) (.slice Ao63 t837.length co63)) (fun _ hk => ⟨hk.1.1.1.1.1.2, ⟨hk.1.1.1.1.2, ⟨hk.1.1.1.2, ⟨hk.1.1.2, hk.1.2⟩⟩⟩⟩)⟩
        have n3_ : Aside0 (Kd.R k57 57 (w62.setCell ⟨gb841, 0, none⟩ (.slice Ao63 t837.length co63)) w.heap.size (fun k_ => some k_ ≠ (.slice Ao32 t814.length co32 : Value).ownBlock ∧ some k_ ≠ (.slice Ao36 t819.length co36 : Value).ownBlock ∧ some k_ ≠ (.slice Ao47 t827.length co47 : Value).ownBlock ∧ some k_ ≠ (.slice Ao55 t832.length co55 : Value).ownBlock ∧ some k_ ≠ (.slice Ao63 t837.length co63 : Value).ownBlock) (.slice Ao41 t823.length co41) t823) := ⟨by (with_reducible repeat (first | apply Kd.R_alloc | apply Kd.R_drewN | apply Kd.R_drew)); exact Kd.R_mono (Kd.R_far (p := ⟨gb841, 0, none⟩) (Kd.R_types HO825.out BK841.out (by decide)) (fun _ hk => hk.2) (.slice Ao63 t837.length co63)) (fun _ hk => ⟨hk.1.1.1.1.1.2, ⟨hk.1.1.1.1.2, ⟨hk.1.1.1.2, ⟨hk.1.1.2, hk.1.2⟩⟩⟩⟩)⟩
        have n4_ : Aside0 (Kd.R k57 57 (w62.setCell ⟨gb841, 0, none⟩ (.slice Ao63 t837.length co63)) w.heap.size (fun k_ => some k_ ≠ (.slice Ao32 t814.length co32 : Value).ownBlock ∧ some k_ ≠ (.slice Ao36 t819.length co36 : Value).ownBlock ∧ some k_ ≠ (.slice Ao41 t823.length co41 : Value).ownBlock ∧ some k_ ≠ (.slice Ao55 t832.length co55 : Value).ownBlock ∧ some k_ ≠ (.slice Ao63 t837.length co63 : Value).ownBlock) (.slice Ao47 t827.length co47) t827) := ⟨by (with_reducible repeat (first | apply Kd.R_alloc | apply Kd.R_drewN | apply Kd.R_drew)); exact Kd.R_mono (Kd.R_far (p := ⟨gb841, 0, none⟩) (Kd.R_types HO829.out BK841.out (by decide)) (fun _ hk => hk.2) (.slice Ao63 t837.length co63)) (fun _ hk => ⟨hk.1.1.1.1.1.2, ⟨hk.1.1.1.1.2, ⟨hk.1.1.1.2, ⟨hk.1.1.2, hk.1.2⟩⟩⟩⟩)⟩
        have n5_ : Aside0 (Kd.R k57 57 (w62.setCell ⟨gb841, 0, none⟩ (.slice Ao63 t837.length co63)) w.heap.size (fun k_ => some k_ ≠ (.slice Ao32 t814.length co32 : Value).ownBlock ∧ some k_ ≠ (.slice Ao36 t819.length co36 : Value).ownBlock ∧ some k_ ≠ (.slice Ao41 t823.length co41 : Value).ownBlock ∧ some k_ ≠ (.slice Ao47 t827.length co47 : Value).ownBlock ∧ some k_ ≠ (.slice Ao63 t837.length co63 : Value).ownBlock) (.slice Ao55 t832.length co55) t832) := ⟨by (with_reducible repeat (first | apply Kd.R_alloc | apply Kd.R_drewN | apply Kd.R_drew)); exact Kd.R_mono (Kd.R_far (p := ⟨gb841, 0, none⟩) (Kd.R_types HO834.out BK841.out (by decide)) (fun _ hk => hk.2) (.slice Ao63 t837.length co63)) (fun _ hk => ⟨hk.1.1.1.1.1.2, ⟨hk.1.1.1.1.2, ⟨hk.1.1.1.2, ⟨hk.1.1.2, hk.1.2⟩⟩⟩⟩)⟩
        have n6_ : Aside0 (Kd.R k57 57 (w62.setCell ⟨gb841, 0, none⟩ (.slice Ao63 t837.length co63)) w.heap.size (fun k_ => some k_ ≠ (.slice Ao32 t814.length co32 : Value).ownBlock ∧ some k_ ≠ (.slice Ao36 t819.length co36 : Value).ownBlock ∧ some k_ ≠ (.slice Ao41 t823.length co41 : Value).ownBlock ∧ some k_ ≠ (.slice Ao47 t827.length co47 : Value).ownBlock ∧ some k_ ≠ (.slice Ao55 t832.length co55 : Value).ownBlock) (.slice Ao63 t837.length co63) t837) := ⟨by (with_reducible repeat (first | apply Kd.R_alloc | apply Kd.R_drewN | apply Kd.R_drew)); exact Kd.R_mono (Kd.R_far (p := ⟨gb841, 0, none⟩) (Kd.R_types HO839.out BK841.out (by decide)) (fun _ hk => hk.2) (.slice Ao63 t837.length co63)) (fun _ hk => ⟨hk.1.1.1.1.1.2, ⟨hk.1.1.1.1.2, ⟨hk.1.1.1.2, ⟨hk.1.1.2, hk.1.2⟩⟩⟩⟩)⟩
        have n7_ : Aside0 ((w62.setCell ⟨gb841, 0, none⟩ (.slice Ao63 t837.length co63)).heap[gb818]? = some (.cells #[.slice Ao32 t814.length co32] 27 (0, 0))) := ⟨bk_ BK818⟩
        have n8_ : Aside0 ((w62.setCell ⟨gb841, 0, none⟩ (.slice Ao63 t837.length co63)).heap[gb822]? = some (.cells #[.slice Ao36 t819.length co36] 27 (0, 0))) := ⟨bk_ BK822⟩
        have n9_ : Aside0 ((w62.setCell ⟨gb841, 0, none⟩ (.slice Ao63 t837.length co63)).heap[gb826]? = some (.cells #[.slice Ao41 t823.length co41] 27 (0, 0))) := ⟨bk_ BK826⟩
        have n10_ : Aside0 ((w62.setCell ⟨gb841, 0, none⟩ (.slice Ao63 t837.length co63)).heap[gb830]? = some (.cells #[.slice Ao47 t827.length co47] 27 (0, 0))) := ⟨bk_ BK830⟩
        have n11_ : Aside0 ((w62.setCell ⟨gb841, 0, none⟩ (.slice Ao63 t837.length co63)).heap[gb836]? = some (.cells #[.slice Ao55 t832.length co55] 27 (0, 0))) := ⟨bk_ BK836⟩
        have n12_ : Aside0 ((w62.setCell ⟨gb841, 0, none⟩ (.slice Ao63 t837.length co63)).heap[gb841]? = some (.cells #[.slice Ao63 t837.length co63] 27 (0, 0))) := ⟨bk_ BK841⟩
        have n13_ : Aside0 (Below w.heap.size w (w62.setCell ⟨gb841, 0, none⟩ (.slice Ao63 t837.length co63))) := ⟨bl_⟩
        (try clear HO813)
        (try clear HO816)
        (try clear HO821)
        (try clear HO825)
        (try clear HO829)
        (try clear HO834)
        (try clear HO839)
        (try clear BK818)
        (try clear BK822)
        (try clear BK826)
        (try clear BK830)
        (try clear BK836)
        (try clear BK841)
        (try clear HB)
        generalize (w62.setCell ⟨gb841, 0, none⟩ (.slice Ao63 t837.length co63)) = w70 at n0_ n1_ n2_ n3_ n4_ n5_ n6_ n7_ n8_ n9_ n10_ n11_ n12_ n13_ ⊢
        have HO813 := n0_
        have HO816 := n1_
        have HO821 := n2_
        have HO825 := n3_
        have HO829 := n4_
        have HO834 := n5_
        have HO839 := n6_
        have BK818 := n7_
        have BK822 := n8_
        have BK826 := n9_
        have BK830 := n10_
        have BK836 := n11_
        have BK841 := n12_
        have HB := n13_
        clear n0_ n1_ n2_ n3_ n4_ n5_ n6_ n7_ n8_ n9_ n10_ n11_ n12_ n13_
        replace HO813 := aa_ (Kd.R_drew HO813.out)
        replace HO816 := aa_ (Kd.R_drew HO816.out)
        replace HO821 := aa_ (Kd.R_drew HO821.out)
        replace HO825 := aa_ (Kd.R_drew HO825.out)
        replace HO829 := aa_ (Kd.R_drew HO829.out)
        replace HO834 := aa_ (Kd.R_drew HO834.out)
        replace HO839 := aa_ (Kd.R_drew HO839.out)
        replace BK818 := aa_ (blk_drew BK818.out)
        replace BK822 := aa_ (blk_drew BK822.out)
        replace BK826 := aa_ (blk_drew BK826.out)
        replace BK830 := aa_ (blk_drew BK830.out)
        replace BK836 := aa_ (blk_drew BK836.out)
        replace BK841 := aa_ (blk_drew BK841.out)
        replace HB := aa_ (below_drew1 HB.out)
        obtain ⟨Ao72, co72, eo72⟩ := Kd.R_slice HO813.out
        (first | subst eo72 | (injection eo72 with f1_ f2_ f3_; have f4_ := f1_.symm; have f5_ := f3_.symm; clear f1_ f2_ f3_; subst f4_; subst f5_))
        refine start_ (n := 48) (S := fun w' => w'.cell? ⟨gb818, 0, none⟩ = some (.slice Ao32 t814.length co32) ∧ w'.cell? ⟨gb822, 0, none⟩ = some (.slice Ao36 t819.length co36) ∧ w'.cell? ⟨gb826, 0, none⟩ = some (.slice Ao41 t823.length co41) ∧ w'.cell? ⟨gb830, 0, none⟩ = some (.slice Ao47 t827.length co47) ∧ w'.cell? ⟨gb836, 0, none⟩ = some (.slice Ao55 t832.length co55) ∧ w'.cell? ⟨gb841, 0, none⟩ = some (.slice Ao63 t837.length co63)) (ds := []) (ba_ 48 0) (by kernel_rfl) rfl rfl ⟨b0_ BK818, b0_ BK822, b0_ BK826, b0_ BK830, b0_ BK836, b0_ BK841⟩ (fun hHeld => ?_); refine with_tabW laws_FnPoliciesTold.tab10 laws_FnPoliciesTold.bits10 (fun HT_ HW_ => ?_)
        generalize w70.drew = w71 at HO813 HO816 HO821 HO825 HO829 HO834 HO839 BK818 BK822 BK826 BK830 BK836 BK841 HB hHeld ⊢
        refine pureZ_ (i := 0) (some 40) (ba_ 48 1) (ao_ HT_) ?_
        refine pureZ_ (i := 2) (some 42) (ba_ 48 5) (ao_ HT_) ?_
        refine pureZ_ (i := 4) (some 44) (ba_ 48 21) (ao_ HT_) ?_
        refine pureZ_ (i := 6) (some 46) (ba_ 48 85) (ao_ HT_) ?_
        refine takeZ_ (i := 1) (some 41) (ba_ 48 87) (take_ofW HT_.out HW_.out (by kernel_rfl)) hHeld ?_
        refine takeZ_ (i := 5) (some 45) (ba_ 48 119) (take_ofW HT_.out HW_.out (by kernel_rfl)) hHeld ?_
        refine one_ (i := 3) (N := some 43) (ba_ 48 127) rfl rfl (one_of HT_.out (by kernel_rfl)) (by decide) (fun K hK => ?_)
        refine goes_ Try.func12 (by kernel_rfl) rfl #[.slice Ao72 t811.length co72, .agg #[.slice Ao32 t814.length co32], .int .i64 t817] (by rfl) rfl rfl (by (try simp only [List.map_toArray, List.map_cons, List.map_nil]); first | done | rfl | (simp only [List.length_drop, List.length_take]; rfl)) ?_
        with_reducible refine (impl_Decides.calls k _ _ t811 _ _ t814 t817 t842 _ ?side1 ?side2 ?side3 ?side4 A12.out).mono ?_
        (case side1 => repeat (first | exact (Kd.R_reads' HO813.out).2.2 | (with_reducible refine Kd.C_alloc ?_ _) | (with_reducible refine Kd.C_drewN ?_ _) | (with_reducible refine Kd.C_drew ?_)))
        (case side2 => exact (Kd.R_reads' HO813.out).2.1)
        (case side3 => repeat (first | exact (Kd.R_reads' HO816.out).2.2 | (with_reducible refine Kd.C_alloc ?_ _) | (with_reducible refine Kd.C_drewN ?_ _) | (with_reducible refine Kd.C_drew ?_)))
        (case side4 => exact (Kd.R_reads' HO816.out).2.1)
        rintro e w73 ⟨rfl, hb⟩
        refine ⟨_, rfl, ?_⟩
        replace HO813 := hob_ HO813 hb
        replace HO816 := hob_ HO816 hb
        replace HO821 := hob_ HO821 hb
        replace HO825 := hob_ HO825 hb
        replace HO829 := hob_ HO829 hb
        replace HO834 := hob_ HO834 hb
        replace HO839 := hob_ HO839 hb
        replace BK818 := bkb_ BK818 hb
        replace BK822 := bkb_ BK822 hb
        replace BK826 := bkb_ BK826 hb
        replace BK830 := bkb_ BK830 hb
        replace BK836 := bkb_ BK836 hb
        replace BK841 := bkb_ BK841 hb
        replace HB := hbs_ hb
        (try clear hb)
        (try clear hb2)
        (try clear hk)
        (try clear hi)
        refine hK.out _ _ ⟨b0_ BK818, b0_ BK822, b0_ BK826, b0_ BK830, b0_ BK836, b0_ BK841⟩ (fun hHeld => ?_)
        clear hK K
        refine norm_ (a' := ?_) ?_ ?_
        rotate_left
        ·show Act.put _ (some 43) _ = _
         simp only [Act.put, List.setIfInBounds_toArray, List.set_cons_zero, List.set_cons_succ, i64_w, i32_w]
         rfl
        refine one_ (i := 7) (N := some 47) (ba_ 48 255) rfl rfl (one_of HT_.out (by kernel_rfl)) (by decide) (fun K hK => ?_)
        refine goes_ Try.func13 (by kernel_rfl) rfl #[.slice Ao72 t811.length co72, .agg #[.slice Ao32 t814.length co32], .int .i64 t817] (by rfl) rfl rfl (by (try simp only [List.map_toArray, List.map_cons, List.map_nil]); first | done | rfl | (simp only [List.length_drop, List.length_take]; rfl)) ?_
        with_reducible refine (spec_Decides.calls k _ _ t811 _ _ t814 t817 t843 _ ?side1 ?side2 ?side3 ?side4 A13.out).mono ?_
        (case side1 => repeat (first | exact (Kd.R_reads' HO813.out).2.2 | (with_reducible refine Kd.C_alloc ?_ _) | (with_reducible refine Kd.C_drewN ?_ _) | (with_reducible refine Kd.C_drew ?_)))
        (case side2 => exact (Kd.R_reads' HO813.out).2.1)
        (case side3 => repeat (first | exact (Kd.R_reads' HO816.out).2.2 | (with_reducible refine Kd.C_alloc ?_ _) | (with_reducible refine Kd.C_drewN ?_ _) | (with_reducible refine Kd.C_drew ?_)))
        (case side4 => exact (Kd.R_reads' HO816.out).2.1)
        rintro e w74 ⟨rfl, hb⟩
        refine ⟨_, rfl, ?_⟩
        replace HO813 := hob_ HO813 hb
        replace HO816 := hob_ HO816 hb
        replace HO821 := hob_ HO821 hb
        replace HO825 := hob_ HO825 hb
        replace HO829 := hob_ HO829 hb
        replace HO834 := hob_ HO834 hb
        replace HO839 := hob_ HO839 hb
        replace BK818 := bkb_ BK818 hb
        replace BK822 := bkb_ BK822 hb
        replace BK826 := bkb_ BK826 hb
        replace BK830 := bkb_ BK830 hb
        replace BK836 := bkb_ BK836 hb
        replace BK841 := bkb_ BK841 hb
        replace HB := hbs_ hb
        (try clear hb)
        (try clear hb2)
        (try clear hk)
        (try clear hi)
        refine hK.out _ _ ⟨b0_ BK818, b0_ BK822, b0_ BK826, b0_ BK830, b0_ BK836, b0_ BK841⟩ (fun hHeld => ?_)
        clear hK K
        refine norm_ (a' := ?_) ?_ ?_
        rotate_left
        ·show Act.put _ (some 47) _ = _
         simp only [Act.put, List.setIfInBounds_toArray, List.set_cons_zero, List.set_cons_succ, i64_w, i32_w]
         rfl
        refine pureZ_ (i := 8) (some 48) (ba_ 48 511) (ao_ HT_) ?_
        refine pureZ_ (i := 9) (some 49) (ba_ 48 1023) (ao_ HT_) ?_
        refine takeZ_ (i := 10) (some 50) (ba_ 48 2047) (take_ofW HT_.out HW_.out (by kernel_rfl)) hHeld ?_
        refine takeZ_ (i := 12) (some 52) (ba_ 48 6143) (take_ofW HT_.out HW_.out (by kernel_rfl)) hHeld ?_
        refine one_ (i := 11) (N := some 51) (ba_ 48 8191) rfl rfl (one_of HT_.out (by kernel_rfl)) (by decide) (fun K hK => ?_)
        refine goes_ Try.func14 (by kernel_rfl) rfl #[.agg #[.slice Ao32 t814.length co32]] (by rfl) rfl rfl (by (try simp only [List.map_toArray, List.map_cons, List.map_nil]); first | done | rfl | (simp only [List.length_drop, List.length_take]; rfl)) ?_
        with_reducible refine (impl_PolicyOk.calls k _ _ t814 t844 _ ?side1 ?side2 A15.out).mono ?_
        (case side1 => repeat (first | exact (Kd.R_reads' HO816.out).2.2 | (with_reducible refine Kd.C_alloc ?_ _) | (with_reducible refine Kd.C_drewN ?_ _) | (with_reducible refine Kd.C_drew ?_)))
        (case side2 => exact (Kd.R_reads' HO816.out).2.1)
        rintro e w75 ⟨rfl, hb⟩
        refine ⟨_, rfl, ?_⟩
        replace HO813 := hob_ HO813 hb
        replace HO816 := hob_ HO816 hb
        replace HO821 := hob_ HO821 hb
        replace HO825 := hob_ HO825 hb
        replace HO829 := hob_ HO829 hb
        replace HO834 := hob_ HO834 hb
        replace HO839 := hob_ HO839 hb
        replace BK818 := bkb_ BK818 hb
        replace BK822 := bkb_ BK822 hb
        replace BK826 := bkb_ BK826 hb
        replace BK830 := bkb_ BK830 hb
        replace BK836 := bkb_ BK836 hb
        replace BK841 := bkb_ BK841 hb
        replace HB := hbs_ hb
        (try clear hb)
        (try clear hb2)
        (try clear hk)
        (try clear hi)
        refine hK.out _ _ ⟨b0_ BK818, b0_ BK822, b0_ BK826, b0_ BK830, b0_ BK836, b0_ BK841⟩ (fun hHeld => ?_)
        clear hK K
        refine norm_ (a' := ?_) ?_ ?_
        rotate_left
        ·show Act.put _ (some 51) _ = _
         simp only [Act.put, List.setIfInBounds_toArray, List.set_cons_zero, List.set_cons_succ, i64_w, i32_w]
         rfl
        refine one_ (i := 13) (N := some 53) (ba_ 48 16383) rfl rfl (one_of HT_.out (by kernel_rfl)) (by decide) (fun K hK => ?_)
        refine goes_ Try.func15 (by kernel_rfl) rfl #[.agg #[.slice Ao32 t814.length co32]] (by rfl) rfl rfl (by (try simp only [List.map_toArray, List.map_cons, List.map_nil]); first | done | rfl | (simp only [List.length_drop, List.length_take]; rfl)) ?_
        with_reducible refine (spec_PolicyOk.calls k _ _ t814 t845 _ ?side1 ?side2 A16.out).mono ?_
        (case side1 => repeat (first | exact (Kd.R_reads' HO816.out).2.2 | (with_reducible refine Kd.C_alloc ?_ _) | (with_reducible refine Kd.C_drewN ?_ _) | (with_reducible refine Kd.C_drew ?_)))
        (case side2 => exact (Kd.R_reads' HO816.out).2.1)
        rintro e w76 ⟨rfl, hb⟩
        refine ⟨_, rfl, ?_⟩
        replace HO813 := hob_ HO813 hb
        replace HO816 := hob_ HO816 hb
        replace HO821 := hob_ HO821 hb
        replace HO825 := hob_ HO825 hb
        replace HO829 := hob_ HO829 hb
        replace HO834 := hob_ HO834 hb
        replace HO839 := hob_ HO839 hb
        replace BK818 := bkb_ BK818 hb
        replace BK822 := bkb_ BK822 hb
        replace BK826 := bkb_ BK826 hb
        replace BK830 := bkb_ BK830 hb
        replace BK836 := bkb_ BK836 hb
        replace BK841 := bkb_ BK841 hb
        replace HB := hbs_ hb
        (try clear hb)
        (try clear hb2)
        (try clear hk)
        (try clear hi)
        refine hK.out _ _ ⟨b0_ BK818, b0_ BK822, b0_ BK826, b0_ BK830, b0_ BK836, b0_ BK841⟩ (fun hHeld => ?_)
        clear hK K
        refine norm_ (a' := ?_) ?_ ?_
        rotate_left
        ·show Act.put _ (some 53) _ = _
         simp only [Act.put, List.setIfInBounds_toArray, List.set_cons_zero, List.set_cons_succ, i64_w, i32_w]
         rfl
        refine pureZ_ (i := 14) (some 54) (ba_ 48 32767) (ao_ HT_) ?_
        refine pureZ_ (i := 15) (some 55) (ba_ 48 65535) (ao_ HT_) ?_
        refine pureZ_ (i := 16) (some 56) (ba_ 48 131071) (ao_ HT_) ?_
        refine takeZ_ (i := 17) (some 57) (ba_ 48 262143) (take_ofW HT_.out HW_.out (by kernel_rfl)) hHeld ?_
        refine takeZ_ (i := 19) (some 59) (ba_ 48 786431) (take_ofW HT_.out HW_.out (by kernel_rfl)) hHeld ?_
        refine one_ (i := 18) (N := some 58) (ba_ 48 1048575) rfl rfl (one_of HT_.out (by kernel_rfl)) (by decide) (fun K hK => ?_)
        refine goes_ Try.func17 (by kernel_rfl) rfl #[.agg #[.slice Ao36 t819.length co36]] (by rfl) rfl rfl (by (try simp only [List.map_toArray, List.map_cons, List.map_nil]); first | done | rfl | (simp only [List.length_drop, List.length_take]; rfl)) ?_
        with_reducible refine (impl_PolicyRoles.calls k _ _ t819 t846 _ ?side1 ?side2 A18.out).mono ?_
        (case side1 => repeat (first | exact (Kd.R_reads' HO821.out).2.2 | (with_reducible refine Kd.C_alloc ?_ _) | (with_reducible refine Kd.C_drewN ?_ _) | (with_reducible refine Kd.C_drew ?_)))
        (case side2 => exact (Kd.R_reads' HO821.out).2.1)
        rintro e w77 ⟨v847, rfl, ho0, hb⟩
        refine ⟨_, rfl, ?_⟩
        replace HO813 := hob_ HO813 hb
        replace HO816 := hob_ HO816 hb
        replace HO821 := hob_ HO821 hb
        replace HO825 := hob_ HO825 hb
        replace HO829 := hob_ HO829 hb
        replace HO834 := hob_ HO834 hb
        replace HO839 := hob_ HO839 hb
        have HO848 := aa_ (Kd.R_lower ho0 bls_)
        replace BK818 := bkb_ BK818 hb
        replace BK822 := bkb_ BK822 hb
        replace BK826 := bkb_ BK826 hb
        replace BK830 := bkb_ BK830 hb
        replace BK836 := bkb_ BK836 hb
        replace BK841 := bkb_ BK841 hb
        replace HB := hbs_ hb
        (try clear hb)
        (try clear hb2)
        (try clear hk)
        (try clear hi)
        (try clear ho0)
        refine hK.out _ _ ⟨b0_ BK818, b0_ BK822, b0_ BK826, b0_ BK830, b0_ BK836, b0_ BK841⟩ (fun hHeld => ?_)
        clear hK K
        refine norm_ (a' := ?_) ?_ ?_
        rotate_left
        ·show Act.put _ (some 58) _ = _
         simp only [Act.put, List.setIfInBounds_toArray, List.set_cons_zero, List.set_cons_succ, i64_w, i32_w]
         rfl
        refine one_ (i := 20) (N := some 60) (ba_ 48 2097151) rfl rfl (one_of HT_.out (by kernel_rfl)) (by decide) (fun K hK => ?_)
        refine goes_ Try.func18 (by kernel_rfl) rfl #[.agg #[.slice Ao36 t819.length co36]] (by rfl) rfl rfl (by (try simp only [List.map_toArray, List.map_cons, List.map_nil]); first | done | rfl | (simp only [List.length_drop, List.length_take]; rfl)) ?_
        with_reducible refine (spec_PolicyRoles.calls k _ _ t819 t849 _ ?side1 ?side2 A19.out).mono ?_
        (case side1 => repeat (first | exact (Kd.R_reads' HO821.out).2.2 | (with_reducible refine Kd.C_alloc ?_ _) | (with_reducible refine Kd.C_drewN ?_ _) | (with_reducible refine Kd.C_drew ?_)))
        (case side2 => exact (Kd.R_reads' HO821.out).2.1)
        rintro e w78 ⟨v850, rfl, ho0, hb⟩
        refine ⟨_, rfl, ?_⟩
        replace HO813 := hob_ HO813 hb
        replace HO816 := hob_ HO816 hb
        replace HO821 := hob_ HO821 hb
        replace HO825 := hob_ HO825 hb
        replace HO829 := hob_ HO829 hb
        replace HO834 := hob_ HO834 hb
        replace HO839 := hob_ HO839 hb
        have HO851 := aa_ (Kd.R_lower (Kd.R_new' ho0 (Kd.R_lt (rr_ HO848))) bls_)
        replace HO848 := aa_ (Kd.R_elder' (rr_ HO848) (Kd.R_base ho0) hb)
        replace BK818 := bkb_ BK818 hb
        replace BK822 := bkb_ BK822 hb
        replace BK826 := bkb_ BK826 hb
        replace BK830 := bkb_ BK830 hb
        replace BK836 := bkb_ BK836 hb
        replace BK841 := bkb_ BK841 hb
        replace HB := hbs_ hb
        (try clear hb)
        (try clear hb2)
        (try clear hk)
        (try clear hi)
        (try clear ho0)
        obtain ⟨Ao79, co79, eo79⟩ := Kd.R_slice HO848.out
        (first | subst eo79 | (injection eo79 with f1_ f2_ f3_; have f4_ := f1_.symm; have f5_ := f3_.symm; clear f1_ f2_ f3_; subst f4_; subst f5_))
        obtain ⟨Ao80, co80, eo80⟩ := Kd.R_slice HO851.out
        (first | subst eo80 | (injection eo80 with f1_ f2_ f3_; have f4_ := f1_.symm; have f5_ := f3_.symm; clear f1_ f2_ f3_; subst f4_; subst f5_))
        refine hK.out _ _ ⟨b0_ BK818, b0_ BK822, b0_ BK826, b0_ BK830, b0_ BK836, b0_ BK841⟩ (fun hHeld => ?_)
        clear hK K
        refine norm_ (a' := ?_) ?_ ?_
        rotate_left
        ·show Act.put _ (some 60) _ = _
         simp only [Act.put, List.setIfInBounds_toArray, List.set_cons_zero, List.set_cons_succ, i64_w, i32_w]
         rfl
        refine one_ (i := 21) (N := some 61) (ba_ 48 4194303) rfl rfl (one_of HT_.out (by kernel_rfl)) (by decide) (fun K hK => ?_)
        refine goes_ Try.func16 (by kernel_rfl) rfl #[.slice Ao79 t846.length co79, .slice Ao80 t849.length co80] (by rfl) rfl rfl (by (try simp only [List.map_toArray, List.map_cons, List.map_nil]); first | done | rfl | (simp only [List.length_drop, List.length_take]; rfl)) ?_
        with_reducible refine (laws_sameRoles.calls k _ _ t846 _ _ t849 true _ ?side1 ?side2 ?side3 ?side4 A20.out).mono ?_
        (case side1 => repeat (first | exact (Kd.R_reads' HO848.out).2.2 | (with_reducible refine Kd.C_alloc ?_ _) | (with_reducible refine Kd.C_drewN ?_ _) | (with_reducible refine Kd.C_drew ?_)))
        (case side2 => exact (Kd.R_reads' HO848.out).2.1)
        (case side3 => repeat (first | exact (Kd.R_reads' HO851.out).2.2 | (with_reducible refine Kd.C_alloc ?_ _) | (with_reducible refine Kd.C_drewN ?_ _) | (with_reducible refine Kd.C_drew ?_)))
        (case side4 => exact (Kd.R_reads' HO851.out).2.1)
        rintro e w' ⟨rfl, ⟨nd, rfl⟩⟩
        refine ⟨_, rfl, ?_⟩
        refine hK.out _ _ ⟨b0_ BK818, b0_ BK822, b0_ BK826, b0_ BK830, b0_ BK836, b0_ BK841⟩ (fun hHeld => ?_)
        clear hK K
        refine norm_ (a' := ?_) ?_ ?_
        rotate_left
        ·show Act.put _ (some 61) _ = _
         simp only [Act.put, List.setIfInBounds_toArray, List.set_cons_zero, List.set_cons_succ, i64_w, i32_w]
         rfl
        refine pureZ_ (i := 22) (some 62) (ba_ 48 8388607) (ao_ HT_) ?_
        refine pureZ_ (i := 23) (some 63) (ba_ 48 16777215) (ao_ HT_) ?_
        refine takeZ_ (i := 24) (some 64) (ba_ 48 33554431) (take_ofW HT_.out HW_.out (by kernel_rfl)) hHeld ?_
        refine takeZ_ (i := 26) (some 66) (ba_ 48 100663295) (take_ofW HT_.out HW_.out (by kernel_rfl)) hHeld ?_
        refine one_ (i := 25) (N := some 65) (ba_ 48 134217727) rfl rfl (one_of HT_.out (by kernel_rfl)) (by decide) (fun K hK => ?_)
        refine goes_ Try.func19 (by kernel_rfl) rfl #[.agg #[.slice Ao41 t823.length co41]] (by rfl) rfl rfl (by (try simp only [List.map_toArray, List.map_cons, List.map_nil]); first | done | rfl | (simp only [List.length_drop, List.length_take]; rfl)) ?_
        with_reducible refine (impl_Rising.calls k _ _ t823 t853 _ ?side1 ?side2 A22.out).mono ?_
        (case side1 => repeat (first | exact (Kd.R_reads' HO825.out).2.2 | (with_reducible refine Kd.C_alloc ?_ _) | (with_reducible refine Kd.C_drewN ?_ _) | (with_reducible refine Kd.C_drew ?_)))
        (case side2 => exact (Kd.R_reads' HO825.out).2.1)
        rintro e w81 ⟨rfl, hb⟩
        refine ⟨_, rfl, ?_⟩
        replace HO813 := hob_ HO813 hb
        replace HO816 := hob_ HO816 hb
        replace HO821 := hob_ HO821 hb
        replace HO825 := hob_ HO825 hb
        replace HO829 := hob_ HO829 hb
        replace HO834 := hob_ HO834 hb
        replace HO839 := hob_ HO839 hb
        replace HO848 := hob_ HO848 hb
        replace HO851 := hob_ HO851 hb
        replace BK818 := bkb_ BK818 hb
        replace BK822 := bkb_ BK822 hb
        replace BK826 := bkb_ BK826 hb
        replace BK830 := bkb_ BK830 hb
        replace BK836 := bkb_ BK836 hb
        replace BK841 := bkb_ BK841 hb
        replace HB := hbs_ hb
        (try clear hb)
        (try clear hb2)
        (try clear hk)
        (try clear hi)
        refine hK.out _ _ ⟨b0_ BK818, b0_ BK822, b0_ BK826, b0_ BK830, b0_ BK836, b0_ BK841⟩ (fun hHeld => ?_)
        clear hK K
        refine norm_ (a' := ?_) ?_ ?_
        rotate_left
        ·show Act.put _ (some 65) _ = _
         simp only [Act.put, List.setIfInBounds_toArray, List.set_cons_zero, List.set_cons_succ, i64_w, i32_w]
         rfl
        refine one_ (i := 27) (N := some 67) (ba_ 48 268435455) rfl rfl (one_of HT_.out (by kernel_rfl)) (by decide) (fun K hK => ?_)
        refine goes_ Try.func20 (by kernel_rfl) rfl #[.agg #[.slice Ao41 t823.length co41]] (by rfl) rfl rfl (by (try simp only [List.map_toArray, List.map_cons, List.map_nil]); first | done | rfl | (simp only [List.length_drop, List.length_take]; rfl)) ?_
        with_reducible refine (spec_Rising.calls k _ _ t823 t854 _ ?side1 ?side2 A23.out).mono ?_
        (case side1 => repeat (first | exact (Kd.R_reads' HO825.out).2.2 | (with_reducible refine Kd.C_alloc ?_ _) | (with_reducible refine Kd.C_drewN ?_ _) | (with_reducible refine Kd.C_drew ?_)))
        (case side2 => exact (Kd.R_reads' HO825.out).2.1)
        rintro e w82 ⟨rfl, hb⟩
        refine ⟨_, rfl, ?_⟩
        replace HO813 := hob_ HO813 hb
        replace HO816 := hob_ HO816 hb
        replace HO821 := hob_ HO821 hb
        replace HO825 := hob_ HO825 hb
        replace HO829 := hob_ HO829 hb
        replace HO834 := hob_ HO834 hb
        replace HO839 := hob_ HO839 hb
        replace HO848 := hob_ HO848 hb
        replace HO851 := hob_ HO851 hb
        replace BK818 := bkb_ BK818 hb
        replace BK822 := bkb_ BK822 hb
        replace BK826 := bkb_ BK826 hb
        replace BK830 := bkb_ BK830 hb
        replace BK836 := bkb_ BK836 hb
        replace BK841 := bkb_ BK841 hb
        replace HB := hbs_ hb
        (try clear hb)
        (try clear hb2)
        (try clear hk)
        (try clear hi)
        refine hK.out _ _ ⟨b0_ BK818, b0_ BK822, b0_ BK826, b0_ BK830, b0_ BK836, b0_ BK841⟩ (fun hHeld => ?_)
        clear hK K
        refine norm_ (a' := ?_) ?_ ?_
        rotate_left
        ·show Act.put _ (some 67) _ = _
         simp only [Act.put, List.setIfInBounds_toArray, List.set_cons_zero, List.set_cons_succ, i64_w, i32_w]
         rfl
        refine pureZ_ (i := 28) (some 68) (ba_ 48 536870911) (ao_ HT_) ?_
        refine pureZ_ (i := 29) (some 69) (ba_ 48 1073741823) (ao_ HT_) ?_
        refine pureZ_ (i := 30) (some 70) (ba_ 48 2147483647) (ao_ HT_) ?_
        refine takeZ_ (i := 31) (some 71) (ba_ 48 4294967295) (take_ofW HT_.out HW_.out (by kernel_rfl)) hHeld ?_
        refine takeZ_ (i := 33) (some 73) (ba_ 48 12884901887) (take_ofW HT_.out HW_.out (by kernel_rfl)) hHeld ?_
        refine one_ (i := 32) (N := some 72) (ba_ 48 17179869183) rfl rfl (one_of HT_.out (by kernel_rfl)) (by decide) (fun K hK => ?_)
        refine goes_ Try.func21 (by kernel_rfl) rfl #[.agg #[.slice Ao47 t827.length co47]] (by rfl) rfl rfl (by (try simp only [List.map_toArray, List.map_cons, List.map_nil]); first | done | rfl | (simp only [List.length_drop, List.length_take]; rfl)) ?_
        with_reducible refine (impl_PolicyText.calls k _ _ t827 t855 _ ?side1 ?side2 A25.out).mono ?_
        (case side1 => repeat (first | exact (Kd.R_reads' HO829.out).2.2 | (with_reducible refine Kd.C_alloc ?_ _) | (with_reducible refine Kd.C_drewN ?_ _) | (with_reducible refine Kd.C_drew ?_)))
        (case side2 => exact (Kd.R_reads' HO829.out).2.1)
        rintro e w83 ⟨rfl, hb⟩
        refine ⟨_, rfl, ?_⟩
        replace HO813 := hob_ HO813 hb
        replace HO816 := hob_ HO816 hb
        replace HO821 := hob_ HO821 hb
        replace HO825 := hob_ HO825 hb
        replace HO829 := hob_ HO829 hb
        replace HO834 := hob_ HO834 hb
        replace HO839 := hob_ HO839 hb
        replace HO848 := hob_ HO848 hb
        replace HO851 := hob_ HO851 hb
        replace BK818 := bkb_ BK818 hb
        replace BK822 := bkb_ BK822 hb
        replace BK826 := bkb_ BK826 hb
        replace BK830 := bkb_ BK830 hb
        replace BK836 := bkb_ BK836 hb
        replace BK841 := bkb_ BK841 hb
        replace HB := hbs_ hb
        (try clear hb)
        (try clear hb2)
        (try clear hk)
        (try clear hi)
        refine hK.out _ _ ⟨b0_ BK818, b0_ BK822, b0_ BK826, b0_ BK830, b0_ BK836, b0_ BK841⟩ (fun hHeld => ?_)
        clear hK K
        refine norm_ (a' := ?_) ?_ ?_
        rotate_left
        ·show Act.put _ (some 72) _ = _
         simp only [Act.put, List.setIfInBounds_toArray, List.set_cons_zero, List.set_cons_succ, i64_w, i32_w]
         rfl
        refine one_ (i := 34) (N := some 74) (ba_ 48 34359738367) rfl rfl (one_of HT_.out (by kernel_rfl)) (by decide) (fun K hK => ?_)
        refine goes_ Try.func22 (by kernel_rfl) rfl #[.agg #[.slice Ao47 t827.length co47]] (by rfl) rfl rfl (by (try simp only [List.map_toArray, List.map_cons, List.map_nil]); first | done | rfl | (simp only [List.length_drop, List.length_take]; rfl)) ?_
        with_reducible refine (spec_PolicyText.calls k _ _ t827 t856 _ ?side1 ?side2 A26.out).mono ?_
        (case side1 => repeat (first | exact (Kd.R_reads' HO829.out).2.2 | (with_reducible refine Kd.C_alloc ?_ _) | (with_reducible refine Kd.C_drewN ?_ _) | (with_reducible refine Kd.C_drew ?_)))
        (case side2 => exact (Kd.R_reads' HO829.out).2.1)
        rintro e w84 ⟨rfl, hb⟩
        refine ⟨_, rfl, ?_⟩
        replace HO813 := hob_ HO813 hb
        replace HO816 := hob_ HO816 hb
        replace HO821 := hob_ HO821 hb
        replace HO825 := hob_ HO825 hb
        replace HO829 := hob_ HO829 hb
        replace HO834 := hob_ HO834 hb
        replace HO839 := hob_ HO839 hb
        replace HO848 := hob_ HO848 hb
        replace HO851 := hob_ HO851 hb
        replace BK818 := bkb_ BK818 hb
        replace BK822 := bkb_ BK822 hb
        replace BK826 := bkb_ BK826 hb
        replace BK830 := bkb_ BK830 hb
        replace BK836 := bkb_ BK836 hb
        replace BK841 := bkb_ BK841 hb
        replace HB := hbs_ hb
        (try clear hb)
        (try clear hb2)
        (try clear hk)
        (try clear hi)
        refine hK.out _ _ ⟨b0_ BK818, b0_ BK822, b0_ BK826, b0_ BK830, b0_ BK836, b0_ BK841⟩ (fun hHeld => ?_)
        clear hK K
        refine norm_ (a' := ?_) ?_ ?_
        rotate_left
        ·show Act.put _ (some 74) _ = _
         simp only [Act.put, List.setIfInBounds_toArray, List.set_cons_zero, List.set_cons_succ, i64_w, i32_w]
         rfl
        refine pureZ_ (i := 35) (some 75) (ba_ 48 68719476735) (ao_ HT_) ?_
        refine pureZ_ (i := 36) (some 76) (ba_ 48 137438953471) (ao_ HT_) ?_
        refine pureZ_ (i := 37) (some 77) (ba_ 48 274877906943) (ao_ HT_) ?_
        refine pureZ_ (i := 38) (some 78) (ba_ 48 549755813887) (ao_ HT_) ?_
        refine pureZ_ (i := 39) (some 79) (ba_ 48 1099511627775) (ao_ HT_) ?_
        refine pureZ_ (i := 40) (some 80) (ba_ 48 2199023255551) (ao_ HT_) ?_
        refine pureZ_ (i := 41) (some 81) (ba_ 48 4398046511103) (ao_ HT_) ?_
        refine pureZ_ (i := 42) (some 82) (ba_ 48 8796093022207) (ao_ HT_) ?_
        refine takeZ_ (i := 43) (some 83) (ba_ 48 17592186044415) (take_ofW HT_.out HW_.out (by kernel_rfl)) hHeld ?_
        refine takeZ_ (i := 44) (some 84) (ba_ 48 35184372088831) (take_ofW HT_.out HW_.out (by kernel_rfl)) hHeld ?_
        refine one_ (i := 45) (N := some 85) (ba_ 48 70368744177663) rfl rfl (one_of HT_.out (by kernel_rfl)) (by decide) (fun K hK => ?_)
        refine goes_ Try.func23 (by kernel_rfl) rfl #[.agg #[.slice Ao55 t832.length co55], .agg #[.slice Ao63 t837.length co63]] (by rfl) rfl rfl (by (try simp only [List.map_toArray, List.map_cons, List.map_nil]); first | done | rfl | (simp only [List.length_drop, List.length_take]; rfl)) ?_
        with_reducible refine (laws_samePolicy.calls k _ _ t832 _ _ t837 t857 _ ?side1 ?side2 ?side3 ?side4 A29.out).mono ?_
        (case side1 => repeat (first | exact (Kd.R_reads' HO834.out).2.2 | (with_reducible refine Kd.C_alloc ?_ _) | (with_reducible refine Kd.C_drewN ?_ _) | (with_reducible refine Kd.C_drew ?_)))
        (case side2 => exact (Kd.R_reads' HO834.out).2.1)
        (case side3 => repeat (first | exact (Kd.R_reads' HO839.out).2.2 | (with_reducible refine Kd.C_alloc ?_ _) | (with_reducible refine Kd.C_drewN ?_ _) | (with_reducible refine Kd.C_drew ?_)))
        (case side4 => exact (Kd.R_reads' HO839.out).2.1)
        rintro e w85 ⟨rfl, hb⟩
        refine ⟨_, rfl, ?_⟩
        replace HO813 := hob_ HO813 hb
        replace HO816 := hob_ HO816 hb
        replace HO821 := hob_ HO821 hb
        replace HO825 := hob_ HO825 hb
        replace HO829 := hob_ HO829 hb
        replace HO834 := hob_ HO834 hb
        replace HO839 := hob_ HO839 hb
        replace HO848 := hob_ HO848 hb
        replace HO851 := hob_ HO851 hb
        replace BK818 := bkb_ BK818 hb
        replace BK822 := bkb_ BK822 hb
        replace BK826 := bkb_ BK826 hb
        replace BK830 := bkb_ BK830 hb
        replace BK836 := bkb_ BK836 hb
        replace BK841 := bkb_ BK841 hb
        replace HB := hbs_ hb
        (try clear hb)
        (try clear hb2)
        (try clear hk)
        (try clear hi)
        refine hK.out _ _ ⟨b0_ BK818, b0_ BK822, b0_ BK826, b0_ BK830, b0_ BK836, b0_ BK841⟩ (fun hHeld => ?_)
        clear hK K
        refine norm_ (a' := ?_) ?_ ?_
        rotate_left
        ·show Act.put _ (some 85) _ = _
         simp only [Act.put, List.setIfInBounds_toArray, List.set_cons_zero, List.set_cons_succ, i64_w, i32_w]
         rfl
        refine pureZ_ (i := 46) (some 86) (ba_ 48 140737488355327) (ao_ HT_) ?_
        refine pureZ_ (i := 47) (some 2) (ba_ 48 281474976710655) (ao_ HT_) ?_
        refine done_ (done_of HT_.out (by kernel_rfl)) ?_
        try go_wp2
        go_ret
        exact ⟨eq_, bl_⟩
       ·rw [if_neg c28] at H
        have c28b0 : (t835 == t840) = false := by simpa using c28
        (try (have c28b1 : decide (t835 = t840) = false := by simpa using c28))
        (try (have c28b2 : (t835 == t840) = false := by simpa using c28))
        (try (have c28b3 : ¬ (t835 = t840) := by simpa using c28))
        clear c28
        exact absurd (Option.some.inj (H.trans (congrArg some hr_))) (by decide)
      ·rw [if_neg c27] at H
       have c27b0 : (t855.toList == t856.toList) = false := beq_eq_false_iff_ne.mpr c27
       have c27b1 : (t855.toList != t856.toList) = true := bne_iff_ne.mpr c27
       exact absurd (Option.some.inj (H.trans (congrArg some hr_))) (by decide)
     ·rw [if_neg c24] at H
      have c24b0 : (t853 == t854) = false := by simpa using c24
      (try (have c24b1 : decide (t853 = t854) = false := by simpa using c24))
      (try (have c24b2 : (t853 == t854) = false := by simpa using c24))
      (try (have c24b3 : ¬ (t853 = t854) := by simpa using c24))
      clear c24
      exact absurd (Option.some.inj (H.trans (congrArg some hr_))) (by decide)
    ·replace c21 := Bool.eq_false_iff.mpr c21
     subst c21
     replace H := ite_f_ H
     exact absurd (Option.some.inj (H.trans (congrArg some hr_))) (by decide)
   ·rw [if_neg c17] at H
    have c17b0 : (t844 == t845) = false := by simpa using c17
    (try (have c17b1 : decide (t844 = t845) = false := by simpa using c17))
    (try (have c17b2 : (t844 == t845) = false := by simpa using c17))
    (try (have c17b3 : ¬ (t844 = t845) := by simpa using c17))
    clear c17
    exact absurd (Option.some.inj (H.trans (congrArg some hr_))) (by decide)
  ·rw [if_neg c14] at H
   have c14b0 : (t842 == t843) = false := by simpa using c14
   (try (have c14b1 : decide (t842 = t843) = false := by simpa using c14))
   (try (have c14b2 : (t842 == t843) = false := by simpa using c14))
   (try (have c14b3 : ¬ (t842 = t843) := by simpa using c14))
   clear c14
   (first | rw [c14b0] | (simp only [i64_w, i32_w]; rw [c14b0]) | skip)
   exact absurd (Option.some.inj (H.trans (congrArg some hr_))) (by decide)
end Go.Proofs.Ytnoklfpnmopkpaa.PE
