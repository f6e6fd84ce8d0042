import Derived.Test.YtjpjidgfcljpcaaKRPAx18
import Derived.Test.YtjpjidgfcljpcaaKRPAx26
-- printed by wip/tools
namespace Go.Proofs.Ytjpjidgfcljpcaa.PA
open Go.RowKit Go.Proofs.YtjpjidgfcljpcaaW.PrintWords Go.Proofs.YtjpjidgfcljpcaaW.PrintLast Go.Proofs.YtjpjidgfcljpcaaW.PrintMore
attribute [local go_sem] max2_int min2_int max_two min_two max_three min_three max_four min_four
set_option linter.unusedVariables false
set_option linter.unusedSimpArgs false
mutual
def laws_FnLeansRound.l0 : Nat → List (S56) → List (S49) → Int → Option (Bool)
 | 0, _, _, _ => none
 | k + 1, x3, x4, x5 => if x5 < 24 then ((impl_ReachRoles.f k x3 (wrap64 (Int.tdiv x5 4)) (Int.tmod x5 4)).bind fun t781 => ((laws_hasRole.f k t781 (wrap64 (Int.tdiv x5 4)) (Int.tmod x5 4)).bind fun t784 => ((laws_hasRole.f k x4 (wrap64 (Int.tdiv x5 4)) (Int.tmod x5 4)).bind fun t785 => (if (t784 != t785) = true then (some false) else (laws_FnLeansRound.l1 k x3 x4 x5 t781 0))))) else ((spec_RoundRoles.f k x3).bind fun t776 => ((laws_sameRoles.f k x4 t776).bind fun t779 => (some t779)))
def laws_FnLeansRound.l1 : Nat → List (S56) → List (S49) → Int → List (S49) → Int → Option (Bool)
 | 0, _, _, _, _, _ => none
 | k + 1, x3, x4, x5, x7, x8 => if x8 < (x7.length : Int) then (if 0 ≤ x8 then ((impl_LeansOn.f k x3 ((rd_T49 x7 x8).f0) ((rd_T49 x7 x8).f1)).bind fun t787 => (laws_FnLeansRound.l2 k x3 x4 x5 x7 x8 t787 0)) else (none)) else (laws_FnLeansRound.l0 k x3 x4 (wrap64 (x5 + 1)))
def laws_FnLeansRound.l2 : Nat → List (S56) → List (S49) → Int → List (S49) → Int → List (S49) → Int → Option (Bool)
 | 0, _, _, _, _, _, _, _ => none
 | k + 1, x3, x4, x5, x7, x8, x9, x10 => if x10 < (x9.length : Int) then (if 0 ≤ x10 then ((laws_hasRole.f k x7 ((rd_T49 x9 x10).f0) ((rd_T49 x9 x10).f1)).bind fun t791 => (if t791 = true then (laws_FnLeansRound.l2 k x3 x4 x5 x7 x8 x9 (wrap64 (x10 + 1))) else (some false))) else (none)) else (laws_FnLeansRound.l1 k x3 x4 x5 x7 (wrap64 (x8 + 1)))
end
def laws_FnLeansRound.f (k : Nat) (l0 : List Int) : Option (Bool) := (laws_big.f l0).bind fun t769 => (if t769 = true then (some true) else ((spec_DrawWords.f k l0).bind fun t770 => ((impl_RoundRoles.f k t770).bind fun t773 => (laws_FnLeansRound.l0 k t770 t773 0))))
set_option maxHeartbeats 8000000 in
set_option maxRecDepth 100000 in
theorem laws_FnLeansRound.calls (k : Nat) (A0 : Option Addr) (c0 : Nat) (l0 : List Int) (r : Bool) (w : World) (hr0 : Kd.C (Kd.int .u8) w A0 l0.length l0) (hc0 : l0.length ≤ c0) (h : laws_FnLeansRound.f k l0 = some r) :
  Calls Try.prog 9 #[.slice A0 l0.length c0] w fun e w' => e = .returned (.bool r) ∧ Below w.heap.size w w' := by
 have hu49 := Try.underlying49
 have HR0 := Aside0.mk hr0
 have HC0 := Aside0.mk hc0
 clear hr0 hc0
 have HB := Aside0.mk (Below.refl w.heap.size w)
 have H : ((laws_big.f l0).bind fun t769 => (if t769 = true then (some true) else ((spec_DrawWords.f k l0).bind fun t770 => ((impl_RoundRoles.f k t770).bind fun t773 => (laws_FnLeansRound.l0 k t770 t773 0))))) = some r := h
 clear h
 obtain ⟨t769, A2, H⟩ := bindE_ H
 by_cases c3 : t769 = true
 ·subst c3
  replace H := ite_t_ H
  obtain rfl := Option.some.inj H
  go_enter Try.func9, Try.ntmps9
  go_wp2_with (first | ((with_reducible refine gate_callee (f := 34) rfl ?_); refine goesC_ (some 12) Try.func34 #[.slice A0 l0.length c0] ?_; (with_reducible refine (laws_big.calls _ _ l0 true _ ?side1 ?side2 A2.out).mono ?_); (case side1 => repeat (first | exact HR0.out | (with_reducible refine Kd.C_alloc ?_ _) | (with_reducible refine Kd.C_drewN ?_ _) | (with_reducible refine Kd.C_drew ?_))); (case side2 => exact HC0.out); rintro e w' ⟨rfl, ⟨nd, rfl⟩⟩; refine ⟨_, rfl, ?_⟩))
  go_ret
  exact ⟨eq_, bl_⟩
 ·replace c3 := Bool.eq_false_iff.mpr c3
  subst c3
  replace H := ite_f_ H
  obtain ⟨t770, A4, H⟩ := bindE_ H
  obtain ⟨t773, A5, H⟩ := bindE_ H
  have H' := Aside0.mk H
  clear H
  go_enter Try.func9, Try.ntmps9
  go_wp2_with (first | ((with_reducible refine gate_callee (f := 34) rfl ?_); refine goesC_ (some 12) Try.func34 #[.slice A0 l0.length c0] ?_; (with_reducible refine (laws_big.calls _ _ l0 false _ ?side1 ?side2 A2.out).mono ?_); (case side1 => repeat (first | exact HR0.out | (with_reducible refine Kd.C_alloc ?_ _) | (with_reducible refine Kd.C_drewN ?_ _) | (with_reducible refine Kd.C_drew ?_))); (case side2 => exact HC0.out); rintro e w' ⟨rfl, ⟨nd, rfl⟩⟩; refine ⟨_, rfl, ?_⟩) | ((with_reducible refine gate_callee (f := 35) rfl ?_); refine goesC_ (some 14) Try.func35 #[.slice A0 l0.length c0] ?_; (with_reducible refine (spec_DrawWords.calls k _ _ l0 t770 _ ?side1 ?side2 A4.out).mono ?_); (case side1 => repeat (first | exact HR0.out | (with_reducible refine Kd.C_alloc ?_ _) | (with_reducible refine Kd.C_drewN ?_ _) | (with_reducible refine Kd.C_drew ?_))); (case side2 => exact HC0.out); rintro e w6 ⟨v771, rfl, ho0, hb⟩; refine ⟨_, rfl, ?_⟩; have HO772 := Aside0.mk (Kd.R_lower ho0 bls_); replace HB := hbs_ hb; (try clear hb); (try clear hb2); (try clear hk); (try clear hi); (try clear ho0); obtain ⟨Ao7, co7, eo7⟩ := Kd.R_slice HO772.out; subst eo7) | ((with_reducible refine gate_callee (f := 65) rfl ?_); refine goesC_ (some 16) Try.func65 #[.slice Ao7 t770.length co7] ?_; (with_reducible refine (impl_RoundRoles.calls k _ _ t770 t773 _ ?side1 ?side2 A5.out).mono ?_); (case side1 => repeat (first | exact (Kd.R_reads' HO772.out).2.2 | (with_reducible refine Kd.C_alloc ?_ _) | (with_reducible refine Kd.C_drewN ?_ _) | (with_reducible refine Kd.C_drew ?_))); (case side2 => exact (Kd.R_reads' HO772.out).2.1); rintro e w8 ⟨v774, rfl, ho0, hb⟩; refine ⟨_, rfl, ?_⟩; replace HO772 := hob_ HO772 hb; have HO775 := Aside0.mk (Kd.R_lower ho0 bls_); replace HB := hbs_ hb; (try clear hb); (try clear hb2); (try clear hk); (try clear hi); (try clear ho0)))
  go_loopg [5] k (fun kq v5 w' => ∃ (x5_1 : Int), v5 = .int .i64 x5_1 ∧ Aside0 (laws_FnLeansRound.l0 kq t770 t773 x5_1 = some r) ∧ Aside0 (kq ≤ k) ∧ Aside0 (Kd.R k56 56 w' w.heap.size (fun _ => True) (.slice Ao7 t770.length co7) t770) ∧ Aside0 (Kd.R k49 49 w' w.heap.size (fun _ => True) v774 t773) ∧ Aside0 (Below w.heap.size w w'))
  case atStart => exact ⟨(0), rf_, H', ⟨Nat.le_refl _⟩, ⟨by (with_reducible repeat (first | apply Kd.R_alloc | apply Kd.R_drewN | apply Kd.R_drew)); exact HO772.out⟩, ⟨by (with_reducible repeat (first | apply Kd.R_alloc | apply Kd.R_drewN | apply Kd.R_drew)); exact HO775.out⟩, ⟨bl_⟩⟩
  case round =>
   clear H'
   try clear p2
   try clear c3
   try clear c6
   obtain ⟨x5_1, rfl, HA, HK1, HO_3, HO_4, HB⟩ := hrel
   cases gk with
   | zero => exact absurd HA.out (by simp [laws_FnLeansRound.l0])
   | succ k1 =>
    have H := HA.out
    clear HA
    simp only [laws_FnLeansRound.l0] at H
    by_cases c9 : x5_1 < 24
    ·rw [if_pos c9] at H
     have c9b0 : decide (x5_1 < 24) = true := decide_eq_true c9
     clear c9
     obtain ⟨t781, A10, H⟩ := bindE_ H
     obtain ⟨t784, A11, H⟩ := bindE_ H
     obtain ⟨t785, A12, H⟩ := bindE_ H
     by_cases c13 : (t784 != t785) = true
     ·rw [if_pos c13] at H
      have c13b0 : (t784 != t785) = true := c13
      (try (have c13b1 : decide (t784 = t785) = false := by simpa using c13))
      (try (have c13b2 : (t784 == t785) = false := by simpa using c13))
      (try (have c13b3 : ¬ (t784 = t785) := by simpa using c13))
      clear c13
      obtain rfl := Option.some.inj H
      try go_wp2_with (first | ((with_reducible refine gate_dst (N := 6) rfl ?_); refine box_event ?hg (N := 6) ?hd (cs := #[.int .i64 0, .int .i64 0]) (t := 49) ?hr ?_; (case hd => rfl); (case hg => rfl); (case hr => first | (go_simp; done) | (go_simp; rfl)); intro gb780 hg w14 hbox hb; replace HO_3 := hob_ HO_3 hb; replace HO_4 := Aside0.mk (Kd.R_below (Kd.R_elderB (by (with_reducible repeat (first | apply Kd.R_alloc | apply Kd.R_drewN | apply Kd.R_drew)); exact HO_4.out) gb780 (Nat.le_of_eq hg.symm)) hb); have BK780 := Aside0.mk (hbox); have GW780 := gs_ hg; have GE780 := gs_ hg; replace HB := hbs_ hb; clear hb hbox hg; have hcz15 := blk_cell BK780.out; have hfz15 := blk_frozen BK780.out) | ((with_reducible refine gate_callee (f := 66) rfl ?_); refine goesC_ (some 28) Try.func66 #[.slice Ao7 t770.length co7, .agg #[.int .i64 (wrap64 (Int.tdiv x5_1 4)), .int .i64 (Int.tmod x5_1 4)]] ?_; (with_reducible refine (impl_ReachRoles.calls k1 _ _ t770 (wrap64 (Int.tdiv x5_1 4)) (Int.tmod x5_1 4) t781 _ ?side1 ?side2 A10.out).mono ?_); (case side1 => refine (Kd.R_reads' (e := 56) (base := w.heap.size) (ok := fun k_ => True) (n := t770.length) (c := co7) ?_).2.2; exact (by (with_reducible repeat (first | apply Kd.R_alloc | apply Kd.R_drewN | apply Kd.R_drew)); exact (Kd.R_mono (Kd.R_far (p := ⟨gb780, 1, none⟩) (Kd.R_far (p := ⟨gb780, 0, none⟩) (Kd.R_types HO_3.out BK780.out (by decide)) (fun _ hk => hk.2) (.int .i64 (wrap64 (Int.tdiv x5_1 4)))) (fun _ hk => hk.2) (.int .i64 (Int.tmod x5_1 4))) (fun _ h_ => h_.1)))); (case side2 => exact (Kd.R_reads' HO_3.out).2.1); rintro e w16 ⟨v782, rfl, ho0, hb⟩; refine ⟨_, rfl, ?_⟩; replace HO_3 := Aside0.mk (Kd.R_below (by (with_reducible repeat (first | apply Kd.R_alloc | apply Kd.R_drewN | apply Kd.R_drew)); exact (Kd.R_mono (Kd.R_far (p := ⟨gb780, 1, none⟩) (Kd.R_far (p := ⟨gb780, 0, none⟩) (Kd.R_types HO_3.out BK780.out (by decide)) (fun _ hk => hk.2) (.int .i64 (wrap64 (Int.tdiv x5_1 4)))) (fun _ hk => hk.2) (.int .i64 (Int.tmod x5_1 4))) (fun _ h_ => h_.1))) hb); have HO783 := Aside0.mk (Kd.R_lower (Kd.R_newB (Kd.R_new' ho0 (Kd.R_lt (by (with_reducible repeat (first | apply Kd.R_alloc | apply Kd.R_drewN | apply Kd.R_drew)); exact (Kd.R_mono (Kd.R_far (p := ⟨gb780, 1, none⟩) (Kd.R_far (p := ⟨gb780, 0, none⟩) (Kd.R_mono HO_4.out (fun k_ hk => (⟨hk, hk.2⟩ : _ ∧ k_ ≠ gb780))) (fun _ hk => hk.2) (.int .i64 (wrap64 (Int.tdiv x5_1 4)))) (fun _ hk => hk.2) (.int .i64 (Int.tmod x5_1 4))) (fun _ h_ => h_.1))))) (g := gb780) (o := .cells #[.int .i64 (wrap64 (Int.tdiv x5_1 4)), .int .i64 (Int.tmod x5_1 4)] 49 (0, 0)) (bk_ BK780)) bls_); replace HO_4 := Aside0.mk (Kd.R_elder' (by (with_reducible repeat (first | apply Kd.R_alloc | apply Kd.R_drewN | apply Kd.R_drew)); exact (Kd.R_mono (Kd.R_far (p := ⟨gb780, 1, none⟩) (Kd.R_far (p := ⟨gb780, 0, none⟩) (Kd.R_mono HO_4.out (fun k_ hk => (⟨hk, hk.2⟩ : _ ∧ k_ ≠ gb780))) (fun _ hk => hk.2) (.int .i64 (wrap64 (Int.tdiv x5_1 4)))) (fun _ hk => hk.2) (.int .i64 (Int.tmod x5_1 4))) (fun _ h_ => h_.1))) (Kd.R_base ho0) hb); replace BK780 := Aside0.mk (blk_below (g := gb780) (o := .cells #[.int .i64 (wrap64 (Int.tdiv x5_1 4)), .int .i64 (Int.tmod x5_1 4)] 49 (0, 0)) (bk_ BK780) hb); replace HB := hbs_ hb; (try clear hb); (try clear hb2); (try clear hk); (try clear hi); (try clear ho0)))
      replace HO_3 := Aside0.mk (Kd.R_drew HO_3.out)
      replace HO_4 := Aside0.mk (Kd.R_drew HO_4.out)
      replace HO783 := Aside0.mk (Kd.R_drew HO783.out)
      replace BK780 := Aside0.mk (blk_drew BK780.out)
      replace HB := Aside0.mk (below_drew1 HB.out)
      obtain ⟨Ao18, co18, eo18⟩ := Kd.R_slice HO783.out
      (first | subst eo18 | (injection eo18 with f1_ f2_ f3_; have f4_ := f1_.symm; have f5_ := f3_.symm; clear f1_ f2_ f3_; subst f4_; subst f5_))
      refine start_ (n := 7) (S := fun w' => w'.cell? ⟨gb780, 0, none⟩ = some (.int .i64 (wrap64 (Int.tdiv x5_1 4))) ∧ w'.cell? ⟨gb780, 1, none⟩ = some (.int .i64 (Int.tmod x5_1 4))) (ds := []) #[false, false, false, false, false, false, false] (by kernel_rfl) rfl rfl ⟨(blk_cell BK780.out 0).trans rfl, (blk_cell BK780.out 1).trans rfl⟩ (fun hHeld => ?_)
      generalize w16.drew = w17 at HO_3 HO_4 HO783 BK780 HB hHeld ⊢
      refine pure_ (i := 0) (N := some 29) (v := ?_) (a' := ?_) #[true, false, false, false, false, false, false] rfl rfl (by kernel_rfl) (fun _ _ _ h => h) (Or.inl ⟨by rfl, ?_⟩) ?_ ?_
      rotate_left
      ·intro w'
       go_simp
       with_reducible rfl
      rotate_left
      ·simp only [Act.put, List.setIfInBounds_toArray, List.set_cons_zero, List.set_cons_succ, i64_w, i32_w]
       rfl
      refine pure_ (i := 3) (N := some 32) (v := ?_) (a' := ?_) #[true, false, false, true, false, false, false] rfl rfl (by kernel_rfl) (fun _ _ _ h => h) (Or.inl ⟨by rfl, ?_⟩) ?_ ?_
      rotate_left
      ·intro w'
       go_simp
       with_reducible rfl
      rotate_left
      ·simp only [Act.put, List.setIfInBounds_toArray, List.set_cons_zero, List.set_cons_succ, i64_w, i32_w]
       rfl
      refine take_ (i := 1) (N := some 30) (v := ?_) (a' := ?_) #[true, true, false, true, false, false, false] rfl rfl (by kernel_rfl) (fun _ _ _ h => h) (Or.inl ⟨by rfl, ?_⟩) hHeld ?_ ?_
      rotate_left
      ·rintro w' ⟨s0, s1⟩
       go_simp
       with_reducible rfl
      rotate_left
      ·simp only [Act.put, List.setIfInBounds_toArray, List.set_cons_zero, List.set_cons_succ, i64_w, i32_w]
       rfl
      refine take_ (i := 4) (N := some 33) (v := ?_) (a' := ?_) #[true, true, false, true, true, false, false] rfl rfl (by kernel_rfl) (fun _ _ _ h => h) (Or.inl ⟨by rfl, ?_⟩) hHeld ?_ ?_
      rotate_left
      ·rintro w' ⟨s0, s1⟩
       go_simp
       with_reducible rfl
      rotate_left
      ·simp only [Act.put, List.setIfInBounds_toArray, List.set_cons_zero, List.set_cons_succ, i64_w, i32_w]
       rfl
      refine one_ (i := 2) (N := some 31) #[true, true, true, true, true, false, false] rfl rfl (by kernel_rfl) (by decide) (fun K hK => ?_)
      refine goes_ Try.func67 (by kernel_rfl) rfl #[.slice Ao18 t781.length co18, .agg #[.int .i64 (wrap64 (Int.tdiv x5_1 4)), .int .i64 (Int.tmod x5_1 4)]] (by rfl) rfl rfl (by (try simp only [List.map_toArray, List.map_cons, List.map_nil]); first | done | rfl | (simp only [List.length_drop, List.length_take]; rfl)) ?_
      with_reducible refine (laws_hasRole.calls k1 _ _ t781 (wrap64 (Int.tdiv x5_1 4)) (Int.tmod x5_1 4) t784 _ ?side1 ?side2 A11.out).mono ?_
      (case side1 => repeat (first | exact (Kd.R_reads' HO783.out).2.2 | (with_reducible refine Kd.C_alloc ?_ _) | (with_reducible refine Kd.C_drewN ?_ _) | (with_reducible refine Kd.C_drew ?_)))
      (case side2 => exact (Kd.R_reads' HO783.out).2.1)
      rintro e w19 ⟨rfl, hb⟩
      refine ⟨_, rfl, ?_⟩
      replace HO_3 := hob_ HO_3 hb
      replace HO_4 := hob_ HO_4 hb
      replace HO783 := hob_ HO783 hb
      replace BK780 := bkb_ BK780 hb
      replace HB := hbs_ hb
      (try clear hb)
      (try clear hb2)
      (try clear hk)
      (try clear hi)
      obtain ⟨Ao20, co20, eo20⟩ := Kd.R_slice HO_4.out
      (first | subst eo20 | (injection eo20 with f1_ f2_ f3_; have f4_ := f1_.symm; have f5_ := f3_.symm; clear f1_ f2_ f3_; subst f4_; subst f5_))
      refine hK.out _ _ ⟨(blk_cell BK780.out 0).trans rfl, (blk_cell BK780.out 1).trans rfl⟩ (fun hHeld => ?_)
      clear hK K
      refine norm_ (a' := ?_) ?_ ?_
      rotate_left
      ·show Act.put _ (some 31) _ = _
       simp only [Act.put, List.setIfInBounds_toArray, List.set_cons_zero, List.set_cons_succ, i64_w, i32_w]
       rfl
      refine one_ (i := 5) (N := some 34) #[true, true, true, true, true, true, false] rfl rfl (by kernel_rfl) (by decide) (fun K hK => ?_)
      refine goes_ Try.func67 (by kernel_rfl) rfl #[.slice Ao20 t773.length co20, .agg #[.int .i64 (wrap64 (Int.tdiv x5_1 4)), .int .i64 (Int.tmod x5_1 4)]] (by rfl) rfl rfl (by (try simp only [List.map_toArray, List.map_cons, List.map_nil]); first | done | rfl | (simp only [List.length_drop, List.length_take]; rfl)) ?_
      with_reducible refine (laws_hasRole.calls k1 _ _ t773 (wrap64 (Int.tdiv x5_1 4)) (Int.tmod x5_1 4) t785 _ ?side1 ?side2 A12.out).mono ?_
      (case side1 => repeat (first | exact (Kd.R_reads' HO_4.out).2.2 | (with_reducible refine Kd.C_alloc ?_ _) | (with_reducible refine Kd.C_drewN ?_ _) | (with_reducible refine Kd.C_drew ?_)))
      (case side2 => exact (Kd.R_reads' HO_4.out).2.1)
      rintro e w21 ⟨rfl, hb⟩
      refine ⟨_, rfl, ?_⟩
      replace HO_3 := hob_ HO_3 hb
      replace HO_4 := hob_ HO_4 hb
      replace HO783 := hob_ HO783 hb
      replace BK780 := bkb_ BK780 hb
      replace HB := hbs_ hb
      (try clear hb)
      (try clear hb2)
      (try clear hk)
      (try clear hi)
      refine hK.out _ _ ⟨(blk_cell BK780.out 0).trans rfl, (blk_cell BK780.out 1).trans rfl⟩ (fun hHeld => ?_)
      clear hK K
      refine norm_ (a' := ?_) ?_ ?_
      rotate_left
      ·show Act.put _ (some 34) _ = _
       simp only [Act.put, List.setIfInBounds_toArray, List.set_cons_zero, List.set_cons_succ, i64_w, i32_w]
       rfl
      refine pure_ (i := 6) (N := some 35) (v := ?_) (a' := ?_) #[true, true, true, true, true, true, true] rfl rfl (by kernel_rfl) (fun _ _ _ h => h) (Or.inl ⟨by rfl, ?_⟩) ?_ ?_
      rotate_left
      ·intro w'
       go_simp
       with_reducible rfl
      rotate_left
      ·simp only [Act.put, List.setIfInBounds_toArray, List.set_cons_zero, List.set_cons_succ, i64_w, i32_w]
       rfl
      refine done_ (by kernel_rfl) ?_
      try go_wp2
      go_ret
      exact ⟨eq_, bl_⟩
     ·rw [if_neg c13] at H
      have c13b0 : (t784 != t785) = false := by simpa using c13
      (try (have c13b1 : decide (t784 = t785) = true := by simpa using c13))
      (try (have c13b2 : (t784 == t785) = true := by simpa using c13))
      clear c13
      have H' := Aside0.mk H
      clear H
      try go_wp2_with (first | ((with_reducible refine gate_dst (N := 6) rfl ?_); refine box_event ?hg (N := 6) ?hd (cs := #[.int .i64 0, .int .i64 0]) (t := 49) ?hr ?_; (case hd => rfl); (case hg => rfl); (case hr => first | (go_simp; done) | (go_simp; rfl)); intro gb780 hg w22 hbox hb; replace HO_3 := hob_ HO_3 hb; replace HO_4 := Aside0.mk (Kd.R_below (Kd.R_elderB (by (with_reducible repeat (first | apply Kd.R_alloc | apply Kd.R_drewN | apply Kd.R_drew)); exact HO_4.out) gb780 (Nat.le_of_eq hg.symm)) hb); have BK780 := Aside0.mk (hbox); have GW780 := gs_ hg; have GE780 := gs_ hg; replace HB := hbs_ hb; clear hb hbox hg; have hcz23 := blk_cell BK780.out; have hfz23 := blk_frozen BK780.out) | ((with_reducible refine gate_callee (f := 66) rfl ?_); refine goesC_ (some 28) Try.func66 #[.slice Ao7 t770.length co7, .agg #[.int .i64 (wrap64 (Int.tdiv x5_1 4)), .int .i64 (Int.tmod x5_1 4)]] ?_; (with_reducible refine (impl_ReachRoles.calls k1 _ _ t770 (wrap64 (Int.tdiv x5_1 4)) (Int.tmod x5_1 4) t781 _ ?side1 ?side2 A10.out).mono ?_); (case side1 => refine (Kd.R_reads' (e := 56) (base := w.heap.size) (ok := fun k_ => True) (n := t770.length) (c := co7) ?_).2.2; exact (by (with_reducible repeat (first | apply Kd.R_alloc | apply Kd.R_drewN | apply Kd.R_drew)); exact (Kd.R_mono (Kd.R_far (p := ⟨gb780, 1, none⟩) (Kd.R_far (p := ⟨gb780, 0, none⟩) (Kd.R_types HO_3.out BK780.out (by decide)) (fun _ hk => hk.2) (.int .i64 (wrap64 (Int.tdiv x5_1 4)))) (fun _ hk => hk.2) (.int .i64 (Int.tmod x5_1 4))) (fun _ h_ => h_.1)))); (case side2 => exact (Kd.R_reads' HO_3.out).2.1); rintro e w24 ⟨v782, rfl, ho0, hb⟩; refine ⟨_, rfl, ?_⟩; replace HO_3 := Aside0.mk (Kd.R_below (by (with_reducible repeat (first | apply Kd.R_alloc | apply Kd.R_drewN | apply Kd.R_drew)); exact (Kd.R_mono (Kd.R_far (p := ⟨gb780, 1, none⟩) (Kd.R_far (p := ⟨gb780, 0, none⟩) (Kd.R_types HO_3.out BK780.out (by decide)) (fun _ hk => hk.2) (.int .i64 (wrap64 (Int.tdiv x5_1 4)))) (fun _ hk => hk.2) (.int .i64 (Int.tmod x5_1 4))) (fun _ h_ => h_.1))) hb); have HO783 := Aside0.mk (Kd.R_lower (Kd.R_newB (Kd.R_new' ho0 (Kd.R_lt (by (with_reducible repeat (first | apply Kd.R_alloc | apply Kd.R_drewN | apply Kd.R_drew)); exact (Kd.R_mono (Kd.R_far (p := ⟨gb780, 1, none⟩) (Kd.R_far (p := ⟨gb780, 0, none⟩) (Kd.R_mono HO_4.out (fun k_ hk => (⟨hk, hk.2⟩ : _ ∧ k_ ≠ gb780))) (fun _ hk => hk.2) (.int .i64 (wrap64 (Int.tdiv x5_1 4)))) (fun _ hk => hk.2) (.int .i64 (Int.tmod x5_1 4))) (fun _ h_ => h_.1))))) (g := gb780) (o := .cells #[.int .i64 (wrap64 (Int.tdiv x5_1 4)), .int .i64 (Int.tmod x5_1 4)] 49 (0, 0)) (bk_ BK780)) bls_); replace HO_4 := Aside0.mk (Kd.R_elder' (by (with_reducible repeat (first | apply Kd.R_alloc | apply Kd.R_drewN | apply Kd.R_drew)); exact (Kd.R_mono (Kd.R_far (p := ⟨gb780, 1, none⟩) (Kd.R_far (p := ⟨gb780, 0, none⟩) (Kd.R_mono HO_4.out (fun k_ hk => (⟨hk, hk.2⟩ : _ ∧ k_ ≠ gb780))) (fun _ hk => hk.2) (.int .i64 (wrap64 (Int.tdiv x5_1 4)))) (fun _ hk => hk.2) (.int .i64 (Int.tmod x5_1 4))) (fun _ h_ => h_.1))) (Kd.R_base ho0) hb); replace BK780 := Aside0.mk (blk_below (g := gb780) (o := .cells #[.int .i64 (wrap64 (Int.tdiv x5_1 4)), .int .i64 (Int.tmod x5_1 4)] 49 (0, 0)) (bk_ BK780) hb); replace HB := hbs_ hb; (try clear hb); (try clear hb2); (try clear hk); (try clear hi); (try clear ho0)))
      replace HO_3 := Aside0.mk (Kd.R_drew HO_3.out)
      replace HO_4 := Aside0.mk (Kd.R_drew HO_4.out)
      replace HO783 := Aside0.mk (Kd.R_drew HO783.out)
      replace BK780 := Aside0.mk (blk_drew BK780.out)
      replace HB := Aside0.mk (below_drew1 HB.out)
      obtain ⟨Ao26, co26, eo26⟩ := Kd.R_slice HO783.out
      (first | subst eo26 | (injection eo26 with f1_ f2_ f3_; have f4_ := f1_.symm; have f5_ := f3_.symm; clear f1_ f2_ f3_; subst f4_; subst f5_))
      refine start_ (n := 7) (S := fun w' => w'.cell? ⟨gb780, 0, none⟩ = some (.int .i64 (wrap64 (Int.tdiv x5_1 4))) ∧ w'.cell? ⟨gb780, 1, none⟩ = some (.int .i64 (Int.tmod x5_1 4))) (ds := []) #[false, false, false, false, false, false, false] (by kernel_rfl) rfl rfl ⟨(blk_cell BK780.out 0).trans rfl, (blk_cell BK780.out 1).trans rfl⟩ (fun hHeld => ?_)
      generalize w24.drew = w25 at HO_3 HO_4 HO783 BK780 HB hHeld ⊢
      refine pure_ (i := 0) (N := some 29) (v := ?_) (a' := ?_) #[true, false, false, false, false, false, false] rfl rfl (by kernel_rfl) (fun _ _ _ h => h) (Or.inl ⟨by rfl, ?_⟩) ?_ ?_
      rotate_left
      ·intro w'
       go_simp
       with_reducible rfl
      rotate_left
      ·simp only [Act.put, List.setIfInBounds_toArray, List.set_cons_zero, List.set_cons_succ, i64_w, i32_w]
       rfl
      refine pure_ (i := 3) (N := some 32) (v := ?_) (a' := ?_) #[true, false, false, true, false, false, false] rfl rfl (by kernel_rfl) (fun _ _ _ h => h) (Or.inl ⟨by rfl, ?_⟩) ?_ ?_
      rotate_left
      ·intro w'
       go_simp
       with_reducible rfl
      rotate_left
      ·simp only [Act.put, List.setIfInBounds_toArray, List.set_cons_zero, List.set_cons_succ, i64_w, i32_w]
       rfl
      refine take_ (i := 1) (N := some 30) (v := ?_) (a' := ?_) #[true, true, false, true, false, false, false] rfl rfl (by kernel_rfl) (fun _ _ _ h => h) (Or.inl ⟨by rfl, ?_⟩) hHeld ?_ ?_
      rotate_left
      ·rintro w' ⟨s0, s1⟩
       go_simp
       with_reducible rfl
      rotate_left
      ·simp only [Act.put, List.setIfInBounds_toArray, List.set_cons_zero, List.set_cons_succ, i64_w, i32_w]
       rfl
      refine take_ (i := 4) (N := some 33) (v := ?_) (a' := ?_) #[true, true, false, true, true, false, false] rfl rfl (by kernel_rfl) (fun _ _ _ h => h) (Or.inl ⟨by rfl, ?_⟩) hHeld ?_ ?_
      rotate_left
      ·rintro w' ⟨s0, s1⟩
       go_simp
       with_reducible rfl
      rotate_left
      ·simp only [Act.put, List.setIfInBounds_toArray, List.set_cons_zero, List.set_cons_succ, i64_w, i32_w]
       rfl
      refine one_ (i := 2) (N := some 31) #[true, true, true, true, true, false, false] rfl rfl (by kernel_rfl) (by decide) (fun K hK => ?_)
      refine goes_ Try.func67 (by kernel_rfl) rfl #[.slice Ao26 t781.length co26, .agg #[.int .i64 (wrap64 (Int.tdiv x5_1 4)), .int .i64 (Int.tmod x5_1 4)]] (by rfl) rfl rfl (by (try simp only [List.map_toArray, List.map_cons, List.map_nil]); first | done | rfl | (simp only [List.length_drop, List.length_take]; rfl)) ?_
      with_reducible refine (laws_hasRole.calls k1 _ _ t781 (wrap64 (Int.tdiv x5_1 4)) (Int.tmod x5_1 4) t784 _ ?side1 ?side2 A11.out).mono ?_
      (case side1 => repeat (first | exact (Kd.R_reads' HO783.out).2.2 | (with_reducible refine Kd.C_alloc ?_ _) | (with_reducible refine Kd.C_drewN ?_ _) | (with_reducible refine Kd.C_drew ?_)))
      (case side2 => exact (Kd.R_reads' HO783.out).2.1)
      rintro e w27 ⟨rfl, hb⟩
      refine ⟨_, rfl, ?_⟩
      replace HO_3 := hob_ HO_3 hb
      replace HO_4 := hob_ HO_4 hb
      replace HO783 := hob_ HO783 hb
      replace BK780 := bkb_ BK780 hb
      replace HB := hbs_ hb
      (try clear hb)
      (try clear hb2)
      (try clear hk)
      (try clear hi)
      obtain ⟨Ao28, co28, eo28⟩ := Kd.R_slice HO_4.out
      (first | subst eo28 | (injection eo28 with f1_ f2_ f3_; have f4_ := f1_.symm; have f5_ := f3_.symm; clear f1_ f2_ f3_; subst f4_; subst f5_))
      refine hK.out _ _ ⟨(blk_cell BK780.out 0).trans rfl, (blk_cell BK780.out 1).trans rfl⟩ (fun hHeld => ?_)
      clear hK K
      refine norm_ (a' := ?_) ?_ ?_
      rotate_left
      ·show Act.put _ (some 31) _ = _
       simp only [Act.put, List.setIfInBounds_toArray, List.set_cons_zero, List.set_cons_succ, i64_w, i32_w]
       rfl
      refine one_ (i := 5) (N := some 34) #[true, true, true, true, true, true, false] rfl rfl (by kernel_rfl) (by decide) (fun K hK => ?_)
      refine goes_ Try.func67 (by kernel_rfl) rfl #[.slice Ao28 t773.length co28, .agg #[.int .i64 (wrap64 (Int.tdiv x5_1 4)), .int .i64 (Int.tmod x5_1 4)]] (by rfl) rfl rfl (by (try simp only [List.map_toArray, List.map_cons, List.map_nil]); first | done | rfl | (simp only [List.length_drop, List.length_take]; rfl)) ?_
      with_reducible refine (laws_hasRole.calls k1 _ _ t773 (wrap64 (Int.tdiv x5_1 4)) (Int.tmod x5_1 4) t785 _ ?side1 ?side2 A12.out).mono ?_
      (case side1 => repeat (first | exact (Kd.R_reads' HO_4.out).2.2 | (with_reducible refine Kd.C_alloc ?_ _) | (with_reducible refine Kd.C_drewN ?_ _) | (with_reducible refine Kd.C_drew ?_)))
      (case side2 => exact (Kd.R_reads' HO_4.out).2.1)
      rintro e w29 ⟨rfl, hb⟩
      refine ⟨_, rfl, ?_⟩
      replace HO_3 := hob_ HO_3 hb
      replace HO_4 := hob_ HO_4 hb
      replace HO783 := hob_ HO783 hb
      replace BK780 := bkb_ BK780 hb
      replace HB := hbs_ hb
      (try clear hb)
      (try clear hb2)
      (try clear hk)
      (try clear hi)
      refine hK.out _ _ ⟨(blk_cell BK780.out 0).trans rfl, (blk_cell BK780.out 1).trans rfl⟩ (fun hHeld => ?_)
      clear hK K
      refine norm_ (a' := ?_) ?_ ?_
      rotate_left
      ·show Act.put _ (some 34) _ = _
       simp only [Act.put, List.setIfInBounds_toArray, List.set_cons_zero, List.set_cons_succ, i64_w, i32_w]
       rfl
      refine pure_ (i := 6) (N := some 35) (v := ?_) (a' := ?_) #[true, true, true, true, true, true, true] rfl rfl (by kernel_rfl) (fun _ _ _ h => h) (Or.inl ⟨by rfl, ?_⟩) ?_ ?_
      rotate_left
      ·intro w'
       go_simp
       with_reducible rfl
      rotate_left
      ·simp only [Act.put, List.setIfInBounds_toArray, List.set_cons_zero, List.set_cons_succ, i64_w, i32_w]
       rfl
      refine done_ (by kernel_rfl) ?_
      try go_wp2
      go_loopg [8] k1 (fun kq v8 w' => ∃ (x8_2 : Int), v8 = .int .i64 x8_2 ∧ Aside0 (laws_FnLeansRound.l1 kq t770 t773 x5_1 t781 x8_2 = some r) ∧ Aside0 (kq ≤ k1) ∧ Aside0 (Kd.R k56 56 w' w.heap.size (fun _ => True) (.slice Ao7 t770.length co7) t770) ∧ Aside0 (Kd.R k49 49 w' w.heap.size (fun k_ => some k_ ≠ ((.slice Ao26 t781.length co26) : Value).ownBlock ∧ k_ ≠ gb780) (.slice Ao28 t773.length co28) t773) ∧ Aside0 (Kd.R k49 49 w' w.heap.size (fun k_ => some k_ ≠ ((.slice Ao28 t773.length co28) : Value).ownBlock ∧ k_ ≠ gb780) (.slice Ao26 t781.length co26) t781) ∧ Aside0 (w'.heap[gb780]? = some (.cells #[.int .i64 (wrap64 (Int.tdiv x5_1 4)), .int .i64 (Int.tmod x5_1 4)] 49 (0, 0))) ∧ Aside0 (Below w.heap.size w w'))
      case atStart => exact ⟨(0), rf_, H', ⟨Nat.le_refl _⟩, ⟨by (with_reducible repeat (first | apply Kd.R_alloc | apply Kd.R_drewN | apply Kd.R_drew)); exact HO_3.out⟩, ⟨by (with_reducible repeat (first | apply Kd.R_alloc | apply Kd.R_drewN | apply Kd.R_drew)); exact Kd.R_mono HO_4.out (fun _ hk => ⟨hk.2, hk.1.2⟩)⟩, ⟨by (with_reducible repeat (first | apply Kd.R_alloc | apply Kd.R_drewN | apply Kd.R_drew)); exact Kd.R_mono HO783.out (fun _ hk => ⟨hk.1.2, hk.2⟩)⟩, ⟨bk_ BK780⟩, ⟨bl_⟩⟩
      case round =>
       clear H'
       try clear c1
       try clear p2
       try clear c3
       try clear c6
       try clear p6
       try clear c9
       try clear c9b0
       try clear c13
       try clear c13b0
       try clear c13b1
       try clear c13b2
       try clear hcz15
       try clear hcz23
       try clear hfz15
       try clear hfz23
       try clear p2
       obtain ⟨x8_2, rfl, HA, HK2, HO_3, HO_4, HO_7, BK780, HB⟩ := hrel
       cases gk with
       | zero => exact absurd HA.out (by simp [laws_FnLeansRound.l1])
       | succ k2 =>
        have H := HA.out
        clear HA
        simp only [laws_FnLeansRound.l1] at H
        by_cases c30 : x8_2 < (t781.length : Int)
        ·rw [if_pos c30] at H
         have c30b0 : decide (x8_2 < (t781.length : Int)) = true := decide_eq_true c30
         clear c30
         obtain ⟨c31b0, H⟩ := ifd_ H
         obtain ⟨t787, A32, H⟩ := bindE_ H
         have H' := Aside0.mk H
         clear H
         have p786 : 0 ≤ (x8_2 : Int) := od_
         have q786 : x8_2 < (t781.length : Int) := od_
         obtain ⟨ad786, e786, hx786_0, hx786_1⟩ := at_T49 (Kd.R_reads' HO_7.out).2.2 x8_2 p786 q786
         cases e786
         replace p786 := eq_true p786
         replace q786 := eq_true q786
         go_wp2_with (first | ((with_reducible refine gate_callee (f := 68) rfl ?_); refine goesC_ (some 47) Try.func68 #[.slice Ao7 t770.length co7, .agg #[.int .i64 ((rd_T49 t781 x8_2).f0), .int .i64 ((rd_T49 t781 x8_2).f1)]] ?_; (with_reducible refine (impl_LeansOn.calls k2 _ _ t770 ((rd_T49 t781 x8_2).f0) ((rd_T49 t781 x8_2).f1) t787 _ ?side1 ?side2 A32.out).mono ?_); (case side1 => repeat (first | exact (Kd.R_reads' HO_3.out).2.2 | (with_reducible refine Kd.C_alloc ?_ _) | (with_reducible refine Kd.C_drewN ?_ _) | (with_reducible refine Kd.C_drew ?_))); (case side2 => exact (Kd.R_reads' HO_3.out).2.1); rintro e w33 ⟨v788, rfl, ho0, hb⟩; refine ⟨_, rfl, ?_⟩; replace HO_3 := hob_ HO_3 hb; have HO789 := Aside0.mk (Kd.R_lower (Kd.R_newB (Kd.R_new' (Kd.R_new' ho0 (Kd.R_lt (by (with_reducible repeat (first | apply Kd.R_alloc | apply Kd.R_drewN | apply Kd.R_drew)); exact HO_4.out))) (Kd.R_lt (by (with_reducible repeat (first | apply Kd.R_alloc | apply Kd.R_drewN | apply Kd.R_drew)); exact HO_7.out))) (g := gb780) (o := .cells #[.int .i64 (wrap64 (Int.tdiv x5_1 4)), .int .i64 (Int.tmod x5_1 4)] 49 (0, 0)) (bk_ BK780)) bls_); replace HO_4 := Aside0.mk (Kd.R_elder' (by (with_reducible repeat (first | apply Kd.R_alloc | apply Kd.R_drewN | apply Kd.R_drew)); exact HO_4.out) (Kd.R_base ho0) hb); replace HO_7 := Aside0.mk (Kd.R_elder' (by (with_reducible repeat (first | apply Kd.R_alloc | apply Kd.R_drewN | apply Kd.R_drew)); exact HO_7.out) (Kd.R_base ho0) hb); replace BK780 := bkb_ BK780 hb; replace HB := hbs_ hb; (try clear hb); (try clear hb2); (try clear hk); (try clear hi); (try clear ho0)))
         go_loopg [10] k2 (fun kq v10 w' => ∃ (x10_3 : Int), v10 = .int .i64 x10_3 ∧ Aside0 (laws_FnLeansRound.l2 kq t770 t773 x5_1 t781 x8_2 t787 x10_3 = some r) ∧ Aside0 (kq ≤ k2) ∧ Aside0 (Kd.R k56 56 w' w.heap.size (fun _ => True) (.slice Ao7 t770.length co7) t770) ∧ Aside0 (Kd.R k49 49 w' w.heap.size (fun k_ => some k_ ≠ ((.slice (some ad786) t781.length co26) : Value).ownBlock ∧ some k_ ≠ (v788 : Value).ownBlock ∧ k_ ≠ gb780) (.slice Ao28 t773.length co28) t773) ∧ Aside0 (Kd.R k49 49 w' w.heap.size (fun k_ => some k_ ≠ ((.slice Ao28 t773.length co28) : Value).ownBlock ∧ some k_ ≠ (v788 : Value).ownBlock ∧ k_ ≠ gb780) (.slice (some ad786) t781.length co26) t781) ∧ Aside0 (Kd.R k49 49 w' w.heap.size (fun k_ => some k_ ≠ ((.slice Ao28 t773.length co28) : Value).ownBlock ∧ some k_ ≠ ((.slice (some ad786) t781.length co26) : Value).ownBlock ∧ k_ ≠ gb780) v788 t787) ∧ Aside0 (w'.heap[gb780]? = some (.cells #[.int .i64 (wrap64 (Int.tdiv x5_1 4)), .int .i64 (Int.tmod x5_1 4)] 49 (0, 0))) ∧ Aside0 (Below w.heap.size w w'))
         case atStart => exact ⟨(0), rf_, H', ⟨Nat.le_refl _⟩, ⟨by (with_reducible repeat (first | apply Kd.R_alloc | apply Kd.R_drewN | apply Kd.R_drew)); exact HO_3.out⟩, ⟨by (with_reducible repeat (first | apply Kd.R_alloc | apply Kd.R_drewN | apply Kd.R_drew)); exact Kd.R_mono HO_4.out (fun _ hk => ⟨hk.1.1, ⟨hk.2, hk.1.2⟩⟩)⟩, ⟨by (with_reducible repeat (first | apply Kd.R_alloc | apply Kd.R_drewN | apply Kd.R_drew)); exact Kd.R_mono HO_7.out (fun _ hk => ⟨hk.1.1, ⟨hk.2, hk.1.2⟩⟩)⟩, ⟨by (with_reducible repeat (first | apply Kd.R_alloc | apply Kd.R_drewN | apply Kd.R_drew)); exact Kd.R_mono HO789.out (fun _ hk => ⟨hk.1.1.2, ⟨hk.1.2, hk.2⟩⟩)⟩, ⟨bk_ BK780⟩, ⟨bl_⟩⟩
         case round =>
          clear H'
          try clear c1
          try clear p2
          try clear c3
          try clear c6
          try clear p6
          try clear p7
          try clear q7
          try clear hx7
          try clear c9
          try clear c9b0
          try clear c13
          try clear c13b0
          try clear c13b1
          try clear c13b2
          try clear c30
          try clear c30b0
          try clear c31
          try clear c31b0
          try clear hcz15
          try clear hcz23
          try clear hfz15
          try clear hfz23
          try clear hx786_0
          try clear hx786_1
          try clear p2
          try clear p6
          try clear p786
          try clear q786
          obtain ⟨x10_3, rfl, HA, HK3, HO_3, HO_4, HO_7, HO_9, BK780, HB⟩ := hrel
          cases gk with
          | zero => exact absurd HA.out (by simp [laws_FnLeansRound.l2])
          | succ k3 =>
           have H := HA.out
           clear HA
           simp only [laws_FnLeansRound.l2] at H
           by_cases c34 : x10_3 < (t787.length : Int)
           ·rw [if_pos c34] at H
            have c34b0 : decide (x10_3 < (t787.length : Int)) = true := decide_eq_true c34
            clear c34
            obtain ⟨c35b0, H⟩ := ifd_ H
            obtain ⟨t791, A36, H⟩ := bindE_ H
            by_cases c37 : t791 = true
            ·subst c37
             replace H := ite_t_ H
             have H' := Aside0.mk H
             clear H
             obtain ⟨Ao38, co38, eo38⟩ := Kd.R_slice HO_9.out
             subst eo38
             have p790 : 0 ≤ (x10_3 : Int) := od_
             have q790 : x10_3 < (t787.length : Int) := od_
             obtain ⟨ad790, e790, hx790_0, hx790_1⟩ := at_T49 (Kd.R_reads' HO_9.out).2.2 x10_3 p790 q790
             cases e790
             replace p790 := eq_true p790
             replace q790 := eq_true q790
             go_wp2_with (first | ((with_reducible refine gate_callee (f := 67) rfl ?_); refine goesC_ (some 59) Try.func67 #[.slice (some ad786) t781.length co26, .agg #[.int .i64 ((rd_T49 t787 x10_3).f0), .int .i64 ((rd_T49 t787 x10_3).f1)]] ?_; (with_reducible refine (laws_hasRole.calls k3 _ _ t781 ((rd_T49 t787 x10_3).f0) ((rd_T49 t787 x10_3).f1) true _ ?side1 ?side2 A36.out).mono ?_); (case side1 => repeat (first | exact (Kd.R_reads' HO_7.out).2.2 | (with_reducible refine Kd.C_alloc ?_ _) | (with_reducible refine Kd.C_drewN ?_ _) | (with_reducible refine Kd.C_drew ?_))); (case side2 => exact (Kd.R_reads' HO_7.out).2.1); rintro e w39 ⟨rfl, hb⟩; refine ⟨_, rfl, ?_⟩; replace HO_3 := hob_ HO_3 hb; replace HO_4 := hob_ HO_4 hb; replace HO_7 := hob_ HO_7 hb; replace HO_9 := hob_ HO_9 hb; replace BK780 := bkb_ BK780 hb; replace HB := hbs_ hb; clear hb))
             go_roundg k3
             case measure => have := HK1.out; have := HK2.out; have := HK3.out; omega
             case rel => exact ⟨(wrap64 (x10_3 + 1)), rf_, H', ⟨by have := HK1.out; have := HK2.out; have := HK3.out; omega⟩, ⟨by (with_reducible repeat (first | apply Kd.R_alloc | apply Kd.R_drewN | apply Kd.R_drew)); exact HO_3.out⟩, ⟨by (with_reducible repeat (first | apply Kd.R_alloc | apply Kd.R_drewN | apply Kd.R_drew)); exact HO_4.out⟩, ⟨by (with_reducible repeat (first | apply Kd.R_alloc | apply Kd.R_drewN | apply Kd.R_drew)); exact HO_7.out⟩, ⟨by (with_reducible repeat (first | apply Kd.R_alloc | apply Kd.R_drewN | apply Kd.R_drew)); exact HO_9.out⟩, ⟨bk_ BK780⟩, ⟨bl_⟩⟩
            ·replace c37 := Bool.eq_false_iff.mpr c37
             subst c37
             replace H := ite_f_ H
             obtain rfl := Option.some.inj H
             obtain ⟨Ao40, co40, eo40⟩ := Kd.R_slice HO_9.out
             subst eo40
             have p790 : 0 ≤ (x10_3 : Int) := od_
             have q790 : x10_3 < (t787.length : Int) := od_
             obtain ⟨ad790, e790, hx790_0, hx790_1⟩ := at_T49 (Kd.R_reads' HO_9.out).2.2 x10_3 p790 q790
             cases e790
             replace p790 := eq_true p790
             replace q790 := eq_true q790
             go_wp2_with (first | ((with_reducible refine gate_callee (f := 67) rfl ?_); refine goesC_ (some 59) Try.func67 #[.slice (some ad786) t781.length co26, .agg #[.int .i64 ((rd_T49 t787 x10_3).f0), .int .i64 ((rd_T49 t787 x10_3).f1)]] ?_; (with_reducible refine (laws_hasRole.calls k3 _ _ t781 ((rd_T49 t787 x10_3).f0) ((rd_T49 t787 x10_3).f1) false _ ?side1 ?side2 A36.out).mono ?_); (case side1 => repeat (first | exact (Kd.R_reads' HO_7.out).2.2 | (with_reducible refine Kd.C_alloc ?_ _) | (with_reducible refine Kd.C_drewN ?_ _) | (with_reducible refine Kd.C_drew ?_))); (case side2 => exact (Kd.R_reads' HO_7.out).2.1); rintro e w41 ⟨rfl, hb⟩; refine ⟨_, rfl, ?_⟩; replace HO_3 := hob_ HO_3 hb; replace HO_4 := hob_ HO_4 hb; replace HO_7 := hob_ HO_7 hb; replace HO_9 := hob_ HO_9 hb; replace BK780 := bkb_ BK780 hb; replace HB := hbs_ hb; clear hb))
             go_ret
             exact ⟨eq_, bl_⟩
           ·rw [if_neg c34] at H
            have c34b0 : decide (x10_3 < (t787.length : Int)) = false := decide_eq_false c34
            clear c34
            have H' := Aside0.mk H
            clear H
            obtain ⟨Ao42, co42, eo42⟩ := Kd.R_slice HO_9.out
            subst eo42
            go_wp2
            go_roundg k3
            case measure => have := HK1.out; have := HK2.out; have := HK3.out; omega
            case rel => exact ⟨(wrap64 (x8_2 + 1)), rf_, H', ⟨by have := HK1.out; have := HK2.out; have := HK3.out; omega⟩, ⟨by (with_reducible repeat (first | apply Kd.R_alloc | apply Kd.R_drewN | apply Kd.R_drew)); exact HO_3.out⟩, ⟨by (with_reducible repeat (first | apply Kd.R_alloc | apply Kd.R_drewN | apply Kd.R_drew)); exact Kd.R_mono HO_4.out (fun _ hk => ⟨hk.1, hk.2.2⟩)⟩, ⟨by (with_reducible repeat (first | apply Kd.R_alloc | apply Kd.R_drewN | apply Kd.R_drew)); exact Kd.R_mono HO_7.out (fun _ hk => ⟨hk.1, hk.2.2⟩)⟩, ⟨bk_ BK780⟩, ⟨bl_⟩⟩
        ·rw [if_neg c30] at H
         have c30b0 : decide (x8_2 < (t781.length : Int)) = false := decide_eq_false c30
         clear c30
         have H' := Aside0.mk H
         clear H
         go_wp2
         go_roundg k2
         case measure => have := HK1.out; have := HK2.out; omega
         case rel => exact ⟨(wrap64 (x5_1 + 1)), rf_, H', ⟨by have := HK1.out; have := HK2.out; omega⟩, ⟨by (with_reducible repeat (first | apply Kd.R_alloc | apply Kd.R_drewN | apply Kd.R_drew)); exact HO_3.out⟩, ⟨by (with_reducible repeat (first | apply Kd.R_alloc | apply Kd.R_drewN | apply Kd.R_drew)); exact Kd.R_mono HO_4.out (fun _ hk => trivial)⟩, ⟨bl_⟩⟩
    ·rw [if_neg c9] at H
     have c9b0 : decide (x5_1 < 24) = false := decide_eq_false c9
     clear c9
     obtain ⟨t776, A43, H⟩ := bindE_ H
     obtain ⟨t779, A44, H⟩ := bindE_ H
     obtain rfl := Option.some.inj H
     go_wp2_with (first | ((with_reducible refine gate_callee (f := 69) rfl ?_); refine goesC_ (some 63) Try.func69 #[.slice Ao7 t770.length co7] ?_; (with_reducible refine (spec_RoundRoles.calls k1 _ _ t770 t776 _ ?side1 ?side2 A43.out).mono ?_); (case side1 => repeat (first | exact (Kd.R_reads' HO_3.out).2.2 | (with_reducible refine Kd.C_alloc ?_ _) | (with_reducible refine Kd.C_drewN ?_ _) | (with_reducible refine Kd.C_drew ?_))); (case side2 => exact (Kd.R_reads' HO_3.out).2.1); rintro e w45 ⟨v777, rfl, ho0, hb⟩; refine ⟨_, rfl, ?_⟩; replace HO_3 := hob_ HO_3 hb; have HO778 := Aside0.mk (Kd.R_lower (Kd.R_new' ho0 (Kd.R_lt (by (with_reducible repeat (first | apply Kd.R_alloc | apply Kd.R_drewN | apply Kd.R_drew)); exact HO_4.out))) bls_); replace HO_4 := Aside0.mk (Kd.R_elder' (by (with_reducible repeat (first | apply Kd.R_alloc | apply Kd.R_drewN | apply Kd.R_drew)); exact HO_4.out) (Kd.R_base ho0) hb); replace HB := hbs_ hb; (try clear hb); (try clear hb2); (try clear hk); (try clear hi); (try clear ho0); obtain ⟨Ao46, co46, eo46⟩ := Kd.R_slice HO_4.out; subst eo46; obtain ⟨Ao47, co47, eo47⟩ := Kd.R_slice HO778.out; subst eo47) | ((with_reducible refine gate_callee (f := 50) rfl ?_); refine goesC_ (some 64) Try.func50 #[.slice Ao46 t773.length co46, .slice Ao47 t776.length co47] ?_; (with_reducible refine (laws_sameRoles.calls k1 _ _ t773 _ _ t776 t779 _ ?side1 ?side2 ?side3 ?side4 A44.out).mono ?_); (case side1 => repeat (first | exact (Kd.R_reads' HO_4.out).2.2 | (with_reducible refine Kd.C_alloc ?_ _) | (with_reducible refine Kd.C_drewN ?_ _) | (with_reducible refine Kd.C_drew ?_))); (case side2 => exact (Kd.R_reads' HO_4.out).2.1); (case side3 => repeat (first | exact (Kd.R_reads' HO778.out).2.2 | (with_reducible refine Kd.C_alloc ?_ _) | (with_reducible refine Kd.C_drewN ?_ _) | (with_reducible refine Kd.C_drew ?_))); (case side4 => exact (Kd.R_reads' HO778.out).2.1); rintro e w' ⟨rfl, ⟨nd, rfl⟩⟩; refine ⟨_, rfl, ?_⟩))
     go_ret
     exact ⟨eq_, bl_⟩
end Go.Proofs.Ytjpjidgfcljpcaa.PA
