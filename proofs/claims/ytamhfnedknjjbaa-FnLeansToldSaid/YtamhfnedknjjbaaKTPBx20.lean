import Derived.Test.YtamhfnedknjjbaaKTPBx17
import Derived.Test.YtamhfnedknjjbaaKTPBx19
-- printed by wip/tools
namespace Go.Proofs.Ytamhfnedknjjbaa.PB
open Go.RowKit Go.Proofs.YtamhfnedknjjbaaW.PrintWords Go.Proofs.YtamhfnedknjjbaaW.PrintLast Go.Proofs.YtamhfnedknjjbaaW.PrintMore
attribute [local go_sem] max2_int min2_int max_two min_two max_three min_three max_four min_four
set_option linter.unusedVariables false
set_option linter.unusedSimpArgs false
def laws_FnLeansTold.f (k : Nat) (l0 : List Int) : Option (Bool) := (laws_big.f l0).bind fun t724 => (if t724 = true then (some true) else ((spec_DrawLeansOn.f k l0).bind fun bt725 => ((spec_DrawRoundRoles.f k l0).bind fun t731 => ((spec_DrawWithout.f k l0).bind fun bt734 => ((spec_DrawCritical.f k l0).bind fun bt738 => ((impl_LeansOn.f k bt725.1 bt725.2.1 bt725.2.2).bind fun t745 => ((spec_LeansOn.f k bt725.1 bt725.2.1 bt725.2.2).bind fun t748 => ((laws_sameRoles.f k t745 t748).bind fun t751 => (if t751 = true then ((impl_ReachRoles.f k bt725.1 bt725.2.1 bt725.2.2).bind fun t752 => ((spec_ReachRoles.f k bt725.1 bt725.2.1 bt725.2.2).bind fun t755 => ((laws_sameRoles.f k t752 t755).bind fun t758 => (if t758 = true then ((impl_RoundRoles.f k t731).bind fun t759 => ((spec_RoundRoles.f k t731).bind fun t762 => ((laws_sameRoles.f k t759 t762).bind fun t765 => (if t765 = true then ((impl_NeededFor.f k bt725.1 bt725.2.1 bt725.2.2).bind fun t766 => ((spec_NeededFor.f k bt725.1 bt725.2.1 bt725.2.2).bind fun t769 => ((laws_sameCreds.f k t766 t769).bind fun t772 => (if t772 = true then ((impl_Without.f bt734.1 bt734.2).bind fun t773 => ((spec_Without.f k bt734.1 bt734.2).bind fun t776 => ((laws_sameCreds.f k t773 t776).bind fun t779 => (if t779 = true then ((impl_Critical.f k bt738.1 bt738.2.1 bt738.2.2.1 bt738.2.2.2).bind fun t780 => ((spec_Critical.f k bt738.1 bt738.2.1 bt738.2.2.1 bt738.2.2.2).bind fun t783 => ((laws_sameInts.f k t780 t783).bind fun t786 => (some t786)))) else (some false))))) else (some false))))) else (some false))))) else (some false))))) else (some false))))))))))
def laws_FnLeansTold.T7 : Bool × List (List Nat × List Nat) := (true, [([], []), ([], []), ([0, 1], [0, 1]), ([], []), ([], []), ([3, 4, 2], [3, 4]), ([2, 5, 5], [2, 5]), ([6, 6], [6]), ([7], [7]), ([7], [7]), ([8, 9, 7, 7], [7, 8, 9]), ([7], [7]), ([7], [7]), ([11, 12, 10, 7], [7, 11, 12]), ([10, 13, 13, 7], [7, 10, 13]), ([7, 14], [7, 14]), ([15, 14], [15]), ([16], [16]), ([17, 16, 16], [16, 17]), ([16], [16]), ([19, 18, 16], [16, 19]), ([18, 20, 20, 16], [16, 18, 20]), ([16, 21], [16, 21]), ([22, 21], [22]), ([23], [23]), ([23], [23]), ([24, 25, 23, 23], [23, 24, 25]), ([23], [23]), ([23], [23]), ([27, 28, 26, 23], [23, 27, 28]), ([26, 29, 29, 23], [23, 26, 29]), ([23, 30], [23, 30]), ([31, 30], [31]), ([32], [32]), ([32], [32]), ([33, 34, 32, 32], [32, 33, 34]), ([32], [32]), ([32], [32]), ([36, 37, 35, 32], [32, 36, 37]), ([35, 38, 38, 32], [32, 35, 38]), ([32, 39], [32, 39]), ([40, 39], [40]), ([41], [41]), ([41], [41]), ([41], [41]), ([42, 43, 44, 41, 41], [41, 42, 43, 44]), ([41], [41]), ([41], [41]), ([41], [41]), ([46, 47, 48, 45, 41], [41, 46, 47, 48]), ([45, 49, 49, 41], [41, 45, 49]), ([41, 50], [41, 50]), ([51, 50, 0, 1, 2, 3, 4, 5, 6, 7, 8, 9, 10, 11, 12, 13, 14, 15, 16, 17, 18, 19, 20, 21, 22, 23, 24, 25, 26, 27, 28, 29, 30, 31, 32, 33, 34, 35, 36, 37, 38, 39, 40, 41, 42, 43, 44, 45, 46, 47, 48, 49, 50, 51], [51])])
def laws_FnLeansTold.B7 : List Nat := [0, 0, 3, 0, 0, 31, 63, 127, 255, 255, 1023, 255, 255, 8191, 16383, 32767, 65535, 131071, 262143, 131071, 1048575, 2097151, 4194303, 8388607, 16777215, 16777215, 67108863, 16777215, 16777215, 536870911, 1073741823, 2147483647, 4294967295, 8589934591, 8589934591, 34359738367, 8589934591, 8589934591, 274877906943, 549755813887, 1099511627775, 2199023255551, 4398046511103, 4398046511103, 4398046511103, 35184372088831, 4398046511103, 4398046511103, 4398046511103, 562949953421311, 1125899906842623, 2251799813685247, 4503599627370495]
theorem laws_FnLeansTold.tab7 : rtab .any (opsOf Try.f3 7) = laws_FnLeansTold.T7 := by kernel_rfl
theorem laws_FnLeansTold.bits7 : waitsOk laws_FnLeansTold.T7.2 laws_FnLeansTold.B7 = true := by kernel_rfl
set_option maxHeartbeats 8000000 in
set_option maxRecDepth 100000 in
theorem laws_FnLeansTold.calls (k : Nat) (A0 : Option Addr) (c0 : Nat) (l0 : List Int) (r : Bool) (w : World) (hr0 : Kd.C (Kd.int .u8) w A0 l0.length l0) (hc0 : l0.length ≤ c0) (hr_ : r = true) (h : laws_FnLeansTold.f k l0 = some r) :
  Calls Try.prog 3 #[.slice A0 l0.length c0] w fun e w' => e = .returned (.bool r) ∧ Below w.heap.size w w' := by
 have hu26 := Try.underlying26
 have HR0 := Aside0.mk hr0
 have HC0 := Aside0.mk hc0
 clear hr0 hc0
 have HB := Aside0.mk (Below.refl w.heap.size w)
 have H : ((laws_big.f l0).bind fun t724 => (if t724 = true then (some true) else ((spec_DrawLeansOn.f k l0).bind fun bt725 => ((spec_DrawRoundRoles.f k l0).bind fun t731 => ((spec_DrawWithout.f k l0).bind fun bt734 => ((spec_DrawCritical.f k l0).bind fun bt738 => ((impl_LeansOn.f k bt725.1 bt725.2.1 bt725.2.2).bind fun t745 => ((spec_LeansOn.f k bt725.1 bt725.2.1 bt725.2.2).bind fun t748 => ((laws_sameRoles.f k t745 t748).bind fun t751 => (if t751 = true then ((impl_ReachRoles.f k bt725.1 bt725.2.1 bt725.2.2).bind fun t752 => ((spec_ReachRoles.f k bt725.1 bt725.2.1 bt725.2.2).bind fun t755 => ((laws_sameRoles.f k t752 t755).bind fun t758 => (if t758 = true then ((impl_RoundRoles.f k t731).bind fun t759 => ((spec_RoundRoles.f k t731).bind fun t762 => ((laws_sameRoles.f k t759 t762).bind fun t765 => (if t765 = true then ((impl_NeededFor.f k bt725.1 bt725.2.1 bt725.2.2).bind fun t766 => ((spec_NeededFor.f k bt725.1 bt725.2.1 bt725.2.2).bind fun t769 => ((laws_sameCreds.f k t766 t769).bind fun t772 => (if t772 = true then ((impl_Without.f bt734.1 bt734.2).bind fun t773 => ((spec_Without.f k bt734.1 bt734.2).bind fun t776 => ((laws_sameCreds.f k t773 t776).bind fun t779 => (if t779 = true then ((impl_Critical.f k bt738.1 bt738.2.1 bt738.2.2.1 bt738.2.2.2).bind fun t780 => ((spec_Critical.f k bt738.1 bt738.2.1 bt738.2.2.1 bt738.2.2.2).bind fun t783 => ((laws_sameInts.f k t780 t783).bind fun t786 => (some t786)))) else (some false))))) else (some false))))) else (some false))))) else (some false))))) else (some false))))))))))) = some r := h
 clear h
 obtain ⟨t724, A2, H⟩ := bindE_ H
 have HC3 := Aside0.mk H
 clear H
 go_enter Try.func3, Try.ntmps3
 go_upto_if 12 with (first | ((with_reducible refine gate_callee (f := 4) rfl ?_); refine goesC_ (some 12) Try.func4 #[.slice A0 l0.length c0] ?_; (with_reducible refine (laws_big.calls _ _ l0 t724 _ ?side1 ?side2 A2.out).mono ?_); (case side1 => exact cc_ HR0); (case side2 => exact HC0.out); rintro e w' ⟨rfl, ⟨nd, rfl⟩⟩; refine ⟨_, rfl, ?_⟩))
 (try simp only [Act.put, List.setIfInBounds_toArray, List.set_cons_zero, List.set_cons_succ])
 have H := HC3.out
 clear HC3
 by_cases c4 : t724 = true
 ·subst c4
  replace H := ite_t_ H
  obtain rfl := Option.some.inj H
  go_wp2
  go_ret
  exact ⟨eq_, bl_⟩
 ·replace c4 := Bool.eq_false_iff.mpr c4
  subst c4
  replace H := ite_f_ H
  obtain ⟨⟨t725, t728, t729⟩, A5, H⟩ := bindE_ H
  (try dsimp only at H)
  obtain ⟨t731, A6, H⟩ := bindE_ H
  obtain ⟨⟨t734, t735⟩, A7, H⟩ := bindE_ H
  (try dsimp only at H)
  obtain ⟨⟨t738, t741, t742, t743⟩, A8, H⟩ := bindE_ H
  (try dsimp only at H)
  obtain ⟨t745, A9, H⟩ := bindE_ H
  obtain ⟨t748, A10, H⟩ := bindE_ H
  obtain ⟨t751, A11, H⟩ := bindE_ H
  by_cases c12 : t751 = true
  ·subst c12
   replace H := ite_t_ H
   obtain ⟨t752, A13, H⟩ := bindE_ H
   obtain ⟨t755, A14, H⟩ := bindE_ H
   obtain ⟨t758, A15, H⟩ := bindE_ H
   by_cases c16 : t758 = true
   ·subst c16
    replace H := ite_t_ H
    obtain ⟨t759, A17, H⟩ := bindE_ H
    obtain ⟨t762, A18, H⟩ := bindE_ H
    obtain ⟨t765, A19, H⟩ := bindE_ H
    by_cases c20 : t765 = true
    ·subst c20
     replace H := ite_t_ H
     obtain ⟨t766, A21, H⟩ := bindE_ H
     obtain ⟨t769, A22, H⟩ := bindE_ H
     obtain ⟨t772, A23, H⟩ := bindE_ H
     by_cases c24 : t772 = true
     ·subst c24
      replace H := ite_t_ H
      obtain ⟨t773, A25, H⟩ := bindE_ H
      obtain ⟨t776, A26, H⟩ := bindE_ H
      obtain ⟨t779, A27, H⟩ := bindE_ H
      by_cases c28 : t779 = true
      ·subst c28
       replace H := ite_t_ H
       obtain ⟨t780, A29, H⟩ := bindE_ H
       obtain ⟨t783, A30, H⟩ := bindE_ H
       obtain ⟨t786, A31, H⟩ := bindE_ H
       obtain rfl := Option.some.inj H
       try go_wp2_with (first | ((with_reducible refine gate_callee (f := 5) rfl ?_); refine goesC_ (some 15) Try.func5 #[.slice A0 l0.length c0] ?_; (with_reducible refine (spec_DrawLeansOn.calls k _ _ l0 t725 t728 t729 _ ?side1 ?side2 A5.out).mono ?_); (case side1 => repeat (first | exact (Kd.C_below HR0.out HB.out) | (with_reducible refine Kd.C_alloc ?_ _) | (with_reducible refine Kd.C_drewN ?_ _) | (with_reducible refine Kd.C_drew ?_))); (case side2 => exact HC0.out); rintro e w32 ⟨v726, rfl, ho0, hb⟩; refine ⟨_, rfl, ?_⟩; have HO727 := Aside0.mk (Kd.R_lower ho0 bls_); replace HB := hbs_ hb; (try clear hb ho0)) | ((with_reducible refine gate_dst (N := 4) rfl ?_); refine box_event ?hg (N := 4) ?hd (cs := #[.int .i64 0, .int .i64 0]) (t := 26) ?hr ?_; (case hd => rfl); (case hg => rfl); (case hr => first | (go_simp; done) | (go_simp; rfl)); intro gb730 hg w33 hbox hb; replace HO727 := hob_ HO727 hb; have BK730 := Aside0.mk (hbox); have GW730 := gs_ hg; have GE730 := gs_ hg; replace HB := hbs_ hb; clear hb hbox hg; obtain ⟨hcz34, hfz34⟩ := bcf_ BK730) | ((with_reducible refine gate_callee (f := 6) rfl ?_); refine goesC_ (some 19) Try.func6 #[.slice A0 l0.length c0] ?_; (with_reducible refine (spec_DrawRoundRoles.calls k _ _ l0 t731 _ ?side1 ?side2 A6.out).mono ?_); (case side1 => exact Kd.C_below HR0.out bl_); (case side2 => exact HC0.out); rintro e w35 ⟨v732, rfl, ho0, hb⟩; refine ⟨_, rfl, ?_⟩; have HO733 := Aside0.mk (Kd.R_lower (Kd.R_new' ho0 (Kd.R_lt (by (with_reducible repeat (first | apply Kd.R_alloc | apply Kd.R_drewN | apply Kd.R_drew)); exact (Kd.R_mono (fr2_ (Kd.R_types HO727.out BK730.out (by decide)) (fun _ hk => hk.2)) (fun _ h_ => h_.1))))) bls_); replace HO727 := Aside0.mk (Kd.R_elder' (by (with_reducible repeat (first | apply Kd.R_alloc | apply Kd.R_drewN | apply Kd.R_drew)); exact (Kd.R_mono (fr2_ (Kd.R_types HO727.out BK730.out (by decide)) (fun _ hk => hk.2)) (fun _ h_ => h_.1))) (Kd.R_base ho0) hb); replace BK730 := Aside0.mk (blk_below (g := gb730) (o := .cells #[.int .i64 t728, .int .i64 t729] 26 (0, 0)) (bk_ BK730) hb); replace HB := hbs_ hb; (try clear hb ho0)) | ((with_reducible refine gate_callee (f := 7) rfl ?_); refine goesC_ (some 22) Try.func7 #[.slice A0 l0.length c0] ?_; (with_reducible refine (spec_DrawWithout.calls k _ _ l0 t734 t735 _ ?side1 ?side2 A7.out).mono ?_); (case side1 => repeat (first | exact (Kd.C_below HR0.out HB.out) | (with_reducible refine Kd.C_alloc ?_ _) | (with_reducible refine Kd.C_drewN ?_ _) | (with_reducible refine Kd.C_drew ?_))); (case side2 => exact HC0.out); rintro e w36 ⟨v736, rfl, ho0, hb⟩; refine ⟨_, rfl, ?_⟩; have HO737 := Aside0.mk (Kd.R_lower (Kd.R_new' (Kd.R_new' ho0 (Kd.R_lt (rr_ HO727))) (Kd.R_lt (rr_ HO733))) bls_); replace HO727 := Aside0.mk (Kd.R_elder' (rr_ HO727) (Kd.R_base ho0) hb); replace HO733 := Aside0.mk (Kd.R_elder' (rr_ HO733) (Kd.R_base ho0) hb); replace BK730 := bkb_ BK730 hb; replace HB := hbs_ hb; (try clear hb ho0)) | ((with_reducible refine gate_callee (f := 8) rfl ?_); refine goesC_ (some 27) Try.func8 #[.slice A0 l0.length c0] ?_; (with_reducible refine (spec_DrawCritical.calls k _ _ l0 t738 t741 t742 t743 _ ?side1 ?side2 A8.out).mono ?_); (case side1 => repeat (first | exact (Kd.C_below HR0.out HB.out) | (with_reducible refine Kd.C_alloc ?_ _) | (with_reducible refine Kd.C_drewN ?_ _) | (with_reducible refine Kd.C_drew ?_))); (case side2 => exact HC0.out); rintro e w37 ⟨v739, rfl, ho0, hb⟩; refine ⟨_, rfl, ?_⟩; have HO740 := Aside0.mk (Kd.R_lower (Kd.R_new' (Kd.R_new' (Kd.R_new' ho0 (Kd.R_lt (rr_ HO727))) (Kd.R_lt (rr_ HO733))) (Kd.R_lt (rr_ HO737))) bls_); replace HO727 := Aside0.mk (Kd.R_elder' (rr_ HO727) (Kd.R_base ho0) hb); replace HO733 := Aside0.mk (Kd.R_elder' (rr_ HO733) (Kd.R_base ho0) hb); replace HO737 := Aside0.mk (Kd.R_elder' (rr_ HO737) (Kd.R_base ho0) hb); replace BK730 := bkb_ BK730 hb; replace HB := hbs_ hb; (try clear hb ho0)) | ((with_reducible refine gate_dst (N := 9) rfl ?_); refine box_event ?hg (N := 9) ?hd (cs := #[.int .i64 0, .int .i64 0]) (t := 26) ?hr ?_; (case hd => rfl); (case hg => rfl); (case hr => first | (go_simp; done) | (go_simp; rfl)); intro gb744 hg w38 hbox hb; replace HO727 := hob_ HO727 hb; replace HO733 := hob_ HO733 hb; replace HO737 := hob_ HO737 hb; replace HO740 := hob_ HO740 hb; have BK744 := Aside0.mk (hbox); have GW744 := gs_ hg; have GE744 := gs_ hg; replace HB := hbs_ hb; have NB730_744 := nl_ hg BK730; have NB744_730 := nr_ hg BK730; replace BK730 := bkb_ BK730 hb; clear hb hbox hg; have hnb39 := NB744_730.out; have hnc39 := NB730_744.out; obtain ⟨hcz40, hfz40⟩ := bcf_ BK744))
       have n0_ : Aside0 (Kd.R k49 49 ((w38.setCell ⟨gb744, 0, none⟩ (.int .i64 t741)).setCell ⟨gb744, 1, none⟩ (.int .i64 t742)) w.heap.size (fun k_ => some k_ ≠ (v732 : Value).ownBlock ∧ some k_ ≠ (v736 : Value).ownBlock ∧ some k_ ≠ (v739 : Value).ownBlock) v726 t725) := ⟨by (with_reducible repeat (first | apply Kd.R_alloc | apply Kd.R_drewN | apply Kd.R_drew)); exact Kd.R_mono (fr2_ (Kd.R_types HO727.out BK744.out (by decide)) (fun _ hk => hk.2)) (fun _ hk => ⟨hk.1.1.1.2, ⟨hk.1.1.2, hk.1.2⟩⟩)⟩
       have n1_ : Aside0 (Kd.R k49 49 ((w38.setCell ⟨gb744, 0, none⟩ (.int .i64 t741)).setCell ⟨gb744, 1, none⟩ (.int .i64 t742)) w.heap.size (fun k_ => some k_ ≠ (v726 : Value).ownBlock ∧ some k_ ≠ (v736 : Value).ownBlock ∧ some k_ ≠ (v739 : Value).ownBlock) v732 t731) := ⟨by (with_reducible repeat (first | apply Kd.R_alloc | apply Kd.R_drewN | apply Kd.R_drew)); exact Kd.R_mono (fr2_ (Kd.R_types HO733.out BK744.out (by decide)) (fun _ hk => hk.2)) (fun _ hk => ⟨hk.1.1.1.2, ⟨hk.1.1.2, hk.1.2⟩⟩)⟩
       have n2_ : Aside0 (Kd.R k49 49 ((w38.setCell ⟨gb744, 0, none⟩ (.int .i64 t741)).setCell ⟨gb744, 1, none⟩ (.int .i64 t742)) w.heap.size (fun k_ => some k_ ≠ (v726 : Value).ownBlock ∧ some k_ ≠ (v732 : Value).ownBlock ∧ some k_ ≠ (v739 : Value).ownBlock) v736 t734) := ⟨by (with_reducible repeat (first | apply Kd.R_alloc | apply Kd.R_drewN | apply Kd.R_drew)); exact Kd.R_mono (fr2_ (Kd.R_types HO737.out BK744.out (by decide)) (fun _ hk => hk.2)) (fun _ hk => ⟨hk.1.1.1.2, ⟨hk.1.1.2, hk.1.2⟩⟩)⟩
       have n3_ : Aside0 (Kd.R k49 49 ((w38.setCell ⟨gb744, 0, none⟩ (.int .i64 t741)).setCell ⟨gb744, 1, none⟩ (.int .i64 t742)) w.heap.size (fun k_ => some k_ ≠ (v726 : Value).ownBlock ∧ some k_ ≠ (v732 : Value).ownBlock ∧ some k_ ≠ (v736 : Value).ownBlock) v739 t738) := ⟨by (with_reducible repeat (first | apply Kd.R_alloc | apply Kd.R_drewN | apply Kd.R_drew)); exact Kd.R_mono (fr2_ (Kd.R_types HO740.out BK744.out (by decide)) (fun _ hk => hk.2)) (fun _ hk => ⟨hk.1.1.1.2, ⟨hk.1.1.2, hk.1.2⟩⟩)⟩
       have n4_ : Aside0 (((w38.setCell ⟨gb744, 0, none⟩ (.int .i64 t741)).setCell ⟨gb744, 1, none⟩ (.int .i64 t742)).heap[gb730]? = some (.cells #[.int .i64 t728, .int .i64 t729] 26 (0, 0))) := ⟨bk_ BK730⟩
       have n5_ : Aside0 (((w38.setCell ⟨gb744, 0, none⟩ (.int .i64 t741)).setCell ⟨gb744, 1, none⟩ (.int .i64 t742)).heap[gb744]? = some (.cells #[.int .i64 t741, .int .i64 t742] 26 (0, 0))) := ⟨bk_ BK744⟩
       have n6_ : Aside0 (Below w.heap.size w ((w38.setCell ⟨gb744, 0, none⟩ (.int .i64 t741)).setCell ⟨gb744, 1, none⟩ (.int .i64 t742))) := ⟨bl_⟩
       (try clear HO727)
       (try clear HO733)
       (try clear HO737)
       (try clear HO740)
       (try clear BK730)
       (try clear BK744)
       (try clear HB)
       generalize ((w38.setCell ⟨gb744, 0, none⟩ (.int .i64 t741)).setCell ⟨gb744, 1, none⟩ (.int .i64 t742)) = w41 at n0_ n1_ n2_ n3_ n4_ n5_ n6_ ⊢
       have HO727 := n0_
       have HO733 := n1_
       have HO737 := n2_
       have HO740 := n3_
       have BK730 := n4_
       have BK744 := n5_
       have HB := n6_
       clear n0_ n1_ n2_ n3_ n4_ n5_ n6_
       replace HO727 := Aside0.mk (Kd.R_drew HO727.out)
       replace HO733 := Aside0.mk (Kd.R_drew HO733.out)
       replace HO737 := Aside0.mk (Kd.R_drew HO737.out)
       replace HO740 := Aside0.mk (Kd.R_drew HO740.out)
       replace BK730 := Aside0.mk (blk_drew BK730.out)
       replace BK744 := Aside0.mk (blk_drew BK744.out)
       replace HB := Aside0.mk (below_drew1 HB.out)
       obtain ⟨Ao43, co43, eo43⟩ := Kd.R_slice HO727.out
       (first | subst eo43 | (injection eo43 with f1_ f2_ f3_; have f4_ := f1_.symm; have f5_ := f3_.symm; clear f1_ f2_ f3_; subst f4_; subst f5_))
       refine start_ (n := 53) (S := fun w' => w'.cell? ⟨gb730, 0, none⟩ = some (.int .i64 t728) ∧ w'.cell? ⟨gb730, 1, none⟩ = some (.int .i64 t729) ∧ w'.cell? ⟨gb744, 0, none⟩ = some (.int .i64 t741) ∧ w'.cell? ⟨gb744, 1, none⟩ = some (.int .i64 t742)) (ds := []) #[false, false, false, false, false, false, false, false, false, false, false, false, false, false, false, false, false, false, false, false, false, false, false, false, false, false, false, false, false, false, false, false, false, false, false, false, false, false, false, false, false, false, false, false, false, false, false, false, false, false, false, false, false] (by kernel_rfl) rfl rfl ⟨(blk_cell BK730.out 0).trans rfl, (blk_cell BK730.out 1).trans rfl, (blk_cell BK744.out 0).trans rfl, (blk_cell BK744.out 1).trans rfl⟩ (fun hHeld => ?_); refine with_tabW laws_FnLeansTold.tab7 laws_FnLeansTold.bits7 (fun HT_ HW_ => ?_)
       generalize w41.drew = w42 at HO727 HO733 HO737 HO740 BK730 BK744 HB hHeld ⊢
       refine pureZ_ (i := 0) (some 31) #[true, false, false, false, false, false, false, false, false, false, false, false, false, false, false, false, false, false, false, false, false, false, false, false, false, false, false, false, false, false, false, false, false, false, false, false, false, false, false, false, false, false, false, false, false, false, false, false, false, false, false, false, false] (ao_ HT_) ?_
       refine pureZ_ (i := 3) (some 34) #[true, false, false, true, false, false, false, false, false, false, false, false, false, false, false, false, false, false, false, false, false, false, false, false, false, false, false, false, false, false, false, false, false, false, false, false, false, false, false, false, false, false, false, false, false, false, false, false, false, false, false, false, false] (ao_ HT_) ?_
       refine takeZ_ (i := 1) (some 32) #[true, true, false, true, false, false, false, false, false, false, false, false, false, false, false, false, false, false, false, false, false, false, false, false, false, false, false, false, false, false, false, false, false, false, false, false, false, false, false, false, false, false, false, false, false, false, false, false, false, false, false, false, false] (take_ofW HT_.out HW_.out (by kernel_rfl)) hHeld ?_
       refine takeZ_ (i := 4) (some 35) #[true, true, false, true, true, false, false, false, false, false, false, false, false, false, false, false, false, false, false, false, false, false, false, false, false, false, false, false, false, false, false, false, false, false, false, false, false, false, false, false, false, false, false, false, false, false, false, false, false, false, false, false, false] (take_ofW HT_.out HW_.out (by kernel_rfl)) hHeld ?_
       refine one_ (i := 2) (N := some 33) #[true, true, true, true, true, false, false, false, false, false, false, false, false, false, false, false, false, false, false, false, false, false, false, false, false, false, false, false, false, false, false, false, false, false, false, false, false, false, false, false, false, false, false, false, false, false, false, false, false, false, false, false, false] rfl rfl (one_of HT_.out (by kernel_rfl)) (by decide) (fun K hK => ?_)
       refine goes_ Try.func10 (by kernel_rfl) rfl #[.slice Ao43 t725.length co43, .agg #[.int .i64 t728, .int .i64 t729]] (by rfl) rfl rfl (by (try simp only [List.map_toArray, List.map_cons, List.map_nil]); first | done | rfl | (simp only [List.length_drop, List.length_take]; rfl)) ?_
       with_reducible refine (impl_LeansOn.calls k _ _ t725 t728 t729 t745 _ ?side1 ?side2 A9.out).mono ?_
       (case side1 => repeat (first | exact (Kd.R_reads' HO727.out).2.2 | (with_reducible refine Kd.C_alloc ?_ _) | (with_reducible refine Kd.C_drewN ?_ _) | (with_reducible refine Kd.C_drew ?_)))
       (case side2 => exact (Kd.R_reads' HO727.out).2.1)
       rintro e w44 ⟨v746, rfl, ho0, hb⟩
       refine ⟨_, rfl, ?_⟩
       replace HO727 := hob_ HO727 hb
       replace HO733 := hob_ HO733 hb
       replace HO737 := hob_ HO737 hb
       replace HO740 := hob_ HO740 hb
       have HO747 := Aside0.mk (Kd.R_lower (Kd.R_newB (Kd.R_newB ho0 (g := gb730) (o := .cells #[.int .i64 t728, .int .i64 t729] 26 (0, 0)) (bk_ BK730)) (g := gb744) (o := .cells #[.int .i64 t741, .int .i64 t742] 26 (0, 0)) (bk_ BK744)) bls_)
       replace BK730 := bkb_ BK730 hb
       replace BK744 := bkb_ BK744 hb
       replace HB := hbs_ hb
       (try clear hb)
       (try clear hb2)
       (try clear hk)
       (try clear hi)
       (try clear ho0)
       refine hK.out _ _ ⟨(blk_cell BK730.out 0).trans rfl, (blk_cell BK730.out 1).trans rfl, (blk_cell BK744.out 0).trans rfl, (blk_cell BK744.out 1).trans rfl⟩ (fun hHeld => ?_)
       clear hK K
       refine norm_ (a' := ?_) ?_ ?_
       rotate_left
       ·show Act.put _ (some 33) _ = _
        simp only [Act.put, List.setIfInBounds_toArray, List.set_cons_zero, List.set_cons_succ, i64_w, i32_w]
        rfl
       refine one_ (i := 5) (N := some 36) #[true, true, true, true, true, true, false, false, false, false, false, false, false, false, false, false, false, false, false, false, false, false, false, false, false, false, false, false, false, false, false, false, false, false, false, false, false, false, false, false, false, false, false, false, false, false, false, false, false, false, false, false, false] rfl rfl (one_of HT_.out (by kernel_rfl)) (by decide) (fun K hK => ?_)
       refine goes_ Try.func11 (by kernel_rfl) rfl #[.slice Ao43 t725.length co43, .agg #[.int .i64 t728, .int .i64 t729]] (by rfl) rfl rfl (by (try simp only [List.map_toArray, List.map_cons, List.map_nil]); first | done | rfl | (simp only [List.length_drop, List.length_take]; rfl)) ?_
       with_reducible refine (spec_LeansOn.calls k _ _ t725 t728 t729 t748 _ ?side1 ?side2 A10.out).mono ?_
       (case side1 => repeat (first | exact (Kd.R_reads' HO727.out).2.2 | (with_reducible refine Kd.C_alloc ?_ _) | (with_reducible refine Kd.C_drewN ?_ _) | (with_reducible refine Kd.C_drew ?_)))
       (case side2 => exact (Kd.R_reads' HO727.out).2.1)
       rintro e w45 ⟨v749, rfl, ho0, hb⟩
       refine ⟨_, rfl, ?_⟩
       replace HO727 := hob_ HO727 hb
       replace HO733 := hob_ HO733 hb
       replace HO737 := hob_ HO737 hb
       replace HO740 := hob_ HO740 hb
       have HO750 := Aside0.mk (Kd.R_lower (Kd.R_newB (Kd.R_newB (Kd.R_new' ho0 (Kd.R_lt (rr_ HO747))) (g := gb730) (o := .cells #[.int .i64 t728, .int .i64 t729] 26 (0, 0)) (bk_ BK730)) (g := gb744) (o := .cells #[.int .i64 t741, .int .i64 t742] 26 (0, 0)) (bk_ BK744)) bls_)
       replace HO747 := Aside0.mk (Kd.R_elder' (rr_ HO747) (Kd.R_base ho0) hb)
       replace BK730 := bkb_ BK730 hb
       replace BK744 := bkb_ BK744 hb
       replace HB := hbs_ hb
       (try clear hb)
       (try clear hb2)
       (try clear hk)
       (try clear hi)
       (try clear ho0)
       obtain ⟨Ao46, co46, eo46⟩ := Kd.R_slice HO747.out
       (first | subst eo46 | (injection eo46 with f1_ f2_ f3_; have f4_ := f1_.symm; have f5_ := f3_.symm; clear f1_ f2_ f3_; subst f4_; subst f5_))
       obtain ⟨Ao47, co47, eo47⟩ := Kd.R_slice HO750.out
       (first | subst eo47 | (injection eo47 with f1_ f2_ f3_; have f4_ := f1_.symm; have f5_ := f3_.symm; clear f1_ f2_ f3_; subst f4_; subst f5_))
       refine hK.out _ _ ⟨(blk_cell BK730.out 0).trans rfl, (blk_cell BK730.out 1).trans rfl, (blk_cell BK744.out 0).trans rfl, (blk_cell BK744.out 1).trans rfl⟩ (fun hHeld => ?_)
       clear hK K
       refine norm_ (a' := ?_) ?_ ?_
       rotate_left
       ·show Act.put _ (some 36) _ = _
        simp only [Act.put, List.setIfInBounds_toArray, List.set_cons_zero, List.set_cons_succ, i64_w, i32_w]
        rfl
       refine one_ (i := 6) (N := some 37) #[true, true, true, true, true, true, true, false, false, false, false, false, false, false, false, false, false, false, false, false, false, false, false, false, false, false, false, false, false, false, false, false, false, false, false, false, false, false, false, false, false, false, false, false, false, false, false, false, false, false, false, false, false] rfl rfl (one_of HT_.out (by kernel_rfl)) (by decide) (fun K hK => ?_)
       refine goes_ Try.func9 (by kernel_rfl) rfl #[.slice Ao46 t745.length co46, .slice Ao47 t748.length co47] (by rfl) rfl rfl (by (try simp only [List.map_toArray, List.map_cons, List.map_nil]); first | done | rfl | (simp only [List.length_drop, List.length_take]; rfl)) ?_
       with_reducible refine (laws_sameRoles.calls k _ _ t745 _ _ t748 true _ ?side1 ?side2 ?side3 ?side4 A11.out).mono ?_
       (case side1 => repeat (first | exact (Kd.R_reads' HO747.out).2.2 | (with_reducible refine Kd.C_alloc ?_ _) | (with_reducible refine Kd.C_drewN ?_ _) | (with_reducible refine Kd.C_drew ?_)))
       (case side2 => exact (Kd.R_reads' HO747.out).2.1)
       (case side3 => repeat (first | exact (Kd.R_reads' HO750.out).2.2 | (with_reducible refine Kd.C_alloc ?_ _) | (with_reducible refine Kd.C_drewN ?_ _) | (with_reducible refine Kd.C_drew ?_)))
       (case side4 => exact (Kd.R_reads' HO750.out).2.1)
       rintro e w' ⟨rfl, ⟨nd, rfl⟩⟩
       refine ⟨_, rfl, ?_⟩
       refine hK.out _ _ ⟨(blk_cell BK730.out 0).trans rfl, (blk_cell BK730.out 1).trans rfl, (blk_cell BK744.out 0).trans rfl, (blk_cell BK744.out 1).trans rfl⟩ (fun hHeld => ?_)
       clear hK K
       refine norm_ (a' := ?_) ?_ ?_
       rotate_left
       ·show Act.put _ (some 37) _ = _
        simp only [Act.put, List.setIfInBounds_toArray, List.set_cons_zero, List.set_cons_succ, i64_w, i32_w]
        rfl
       refine pureZ_ (i := 7) (some 38) #[true, true, true, true, true, true, true, true, false, false, false, false, false, false, false, false, false, false, false, false, false, false, false, false, false, false, false, false, false, false, false, false, false, false, false, false, false, false, false, false, false, false, false, false, false, false, false, false, false, false, false, false, false] (ao_ HT_) ?_
       refine pureZ_ (i := 8) (some 39) #[true, true, true, true, true, true, true, true, true, false, false, false, false, false, false, false, false, false, false, false, false, false, false, false, false, false, false, false, false, false, false, false, false, false, false, false, false, false, false, false, false, false, false, false, false, false, false, false, false, false, false, false, false] (ao_ HT_) ?_
       refine pureZ_ (i := 11) (some 42) #[true, true, true, true, true, true, true, true, true, false, false, true, false, false, false, false, false, false, false, false, false, false, false, false, false, false, false, false, false, false, false, false, false, false, false, false, false, false, false, false, false, false, false, false, false, false, false, false, false, false, false, false, false] (ao_ HT_) ?_
       refine takeZ_ (i := 9) (some 40) #[true, true, true, true, true, true, true, true, true, true, false, true, false, false, false, false, false, false, false, false, false, false, false, false, false, false, false, false, false, false, false, false, false, false, false, false, false, false, false, false, false, false, false, false, false, false, false, false, false, false, false, false, false] (take_ofW HT_.out HW_.out (by kernel_rfl)) hHeld ?_
       refine takeZ_ (i := 12) (some 43) #[true, true, true, true, true, true, true, true, true, true, false, true, true, false, false, false, false, false, false, false, false, false, false, false, false, false, false, false, false, false, false, false, false, false, false, false, false, false, false, false, false, false, false, false, false, false, false, false, false, false, false, false, false] (take_ofW HT_.out HW_.out (by kernel_rfl)) hHeld ?_
       refine one_ (i := 10) (N := some 41) #[true, true, true, true, true, true, true, true, true, true, true, true, true, false, false, false, false, false, false, false, false, false, false, false, false, false, false, false, false, false, false, false, false, false, false, false, false, false, false, false, false, false, false, false, false, false, false, false, false, false, false, false, false] rfl rfl (one_of HT_.out (by kernel_rfl)) (by decide) (fun K hK => ?_)
       refine goes_ Try.func12 (by kernel_rfl) rfl #[.slice Ao43 t725.length co43, .agg #[.int .i64 t728, .int .i64 t729]] (by rfl) rfl rfl (by (try simp only [List.map_toArray, List.map_cons, List.map_nil]); first | done | rfl | (simp only [List.length_drop, List.length_take]; rfl)) ?_
       with_reducible refine (impl_ReachRoles.calls k _ _ t725 t728 t729 t752 _ ?side1 ?side2 A13.out).mono ?_
       (case side1 => repeat (first | exact (Kd.R_reads' HO727.out).2.2 | (with_reducible refine Kd.C_alloc ?_ _) | (with_reducible refine Kd.C_drewN ?_ _) | (with_reducible refine Kd.C_drew ?_)))
       (case side2 => exact (Kd.R_reads' HO727.out).2.1)
       rintro e w48 ⟨v753, rfl, ho0, hb⟩
       refine ⟨_, rfl, ?_⟩
       replace HO727 := hob_ HO727 hb
       replace HO733 := hob_ HO733 hb
       replace HO737 := hob_ HO737 hb
       replace HO740 := hob_ HO740 hb
       have HO754 := Aside0.mk (Kd.R_lower (Kd.R_newB (Kd.R_newB (Kd.R_new' (Kd.R_new' ho0 (Kd.R_lt (rr_ HO747))) (Kd.R_lt (rr_ HO750))) (g := gb730) (o := .cells #[.int .i64 t728, .int .i64 t729] 26 (0, 0)) (bk_ BK730)) (g := gb744) (o := .cells #[.int .i64 t741, .int .i64 t742] 26 (0, 0)) (bk_ BK744)) bls_)
       replace HO747 := Aside0.mk (Kd.R_elder' (rr_ HO747) (Kd.R_base ho0) hb)
       replace HO750 := Aside0.mk (Kd.R_elder' (rr_ HO750) (Kd.R_base ho0) hb)
       replace BK730 := bkb_ BK730 hb
       replace BK744 := bkb_ BK744 hb
       replace HB := hbs_ hb
       (try clear hb)
       (try clear hb2)
       (try clear hk)
       (try clear hi)
       (try clear ho0)
       refine hK.out _ _ ⟨(blk_cell BK730.out 0).trans rfl, (blk_cell BK730.out 1).trans rfl, (blk_cell BK744.out 0).trans rfl, (blk_cell BK744.out 1).trans rfl⟩ (fun hHeld => ?_)
       clear hK K
       refine norm_ (a' := ?_) ?_ ?_
       rotate_left
       ·show Act.put _ (some 41) _ = _
        simp only [Act.put, List.setIfInBounds_toArray, List.set_cons_zero, List.set_cons_succ, i64_w, i32_w]
        rfl
       refine one_ (i := 13) (N := some 44) #[true, true, true, true, true, true, true, true, true, true, true, true, true, true, false, false, false, false, false, false, false, false, false, false, false, false, false, false, false, false, false, false, false, false, false, false, false, false, false, false, false, false, false, false, false, false, false, false, false, false, false, false, false] rfl rfl (one_of HT_.out (by kernel_rfl)) (by decide) (fun K hK => ?_)
       refine goes_ Try.func13 (by kernel_rfl) rfl #[.slice Ao43 t725.length co43, .agg #[.int .i64 t728, .int .i64 t729]] (by rfl) rfl rfl (by (try simp only [List.map_toArray, List.map_cons, List.map_nil]); first | done | rfl | (simp only [List.length_drop, List.length_take]; rfl)) ?_
       with_reducible refine (spec_ReachRoles.calls k _ _ t725 t728 t729 t755 _ ?side1 ?side2 A14.out).mono ?_
       (case side1 => repeat (first | exact (Kd.R_reads' HO727.out).2.2 | (with_reducible refine Kd.C_alloc ?_ _) | (with_reducible refine Kd.C_drewN ?_ _) | (with_reducible refine Kd.C_drew ?_)))
       (case side2 => exact (Kd.R_reads' HO727.out).2.1)
       rintro e w49 ⟨v756, rfl, ho0, hb⟩
       refine ⟨_, rfl, ?_⟩
       replace HO727 := hob_ HO727 hb
       replace HO733 := hob_ HO733 hb
       replace HO737 := hob_ HO737 hb
       replace HO740 := hob_ HO740 hb
       have HO757 := Aside0.mk (Kd.R_lower (Kd.R_newB (Kd.R_newB (Kd.R_new' (Kd.R_new' (Kd.R_new' ho0 (Kd.R_lt (rr_ HO747))) (Kd.R_lt (rr_ HO750))) (Kd.R_lt (rr_ HO754))) (g := gb730) (o := .cells #[.int .i64 t728, .int .i64 t729] 26 (0, 0)) (bk_ BK730)) (g := gb744) (o := .cells #[.int .i64 t741, .int .i64 t742] 26 (0, 0)) (bk_ BK744)) bls_)
       replace HO747 := Aside0.mk (Kd.R_elder' (rr_ HO747) (Kd.R_base ho0) hb)
       replace HO750 := Aside0.mk (Kd.R_elder' (rr_ HO750) (Kd.R_base ho0) hb)
       replace HO754 := Aside0.mk (Kd.R_elder' (rr_ HO754) (Kd.R_base ho0) hb)
       replace BK730 := bkb_ BK730 hb
       replace BK744 := bkb_ BK744 hb
       replace HB := hbs_ hb
       (try clear hb)
       (try clear hb2)
       (try clear hk)
       (try clear hi)
       (try clear ho0)
       obtain ⟨Ao50, co50, eo50⟩ := Kd.R_slice HO754.out
       (first | subst eo50 | (injection eo50 with f1_ f2_ f3_; have f4_ := f1_.symm; have f5_ := f3_.symm; clear f1_ f2_ f3_; subst f4_; subst f5_))
       obtain ⟨Ao51, co51, eo51⟩ := Kd.R_slice HO757.out
       (first | subst eo51 | (injection eo51 with f1_ f2_ f3_; have f4_ := f1_.symm; have f5_ := f3_.symm; clear f1_ f2_ f3_; subst f4_; subst f5_))
       refine hK.out _ _ ⟨(blk_cell BK730.out 0).trans rfl, (blk_cell BK730.out 1).trans rfl, (blk_cell BK744.out 0).trans rfl, (blk_cell BK744.out 1).trans rfl⟩ (fun hHeld => ?_)
       clear hK K
       refine norm_ (a' := ?_) ?_ ?_
       rotate_left
       ·show Act.put _ (some 44) _ = _
        simp only [Act.put, List.setIfInBounds_toArray, List.set_cons_zero, List.set_cons_succ, i64_w, i32_w]
        rfl
       refine one_ (i := 14) (N := some 45) #[true, true, true, true, true, true, true, true, true, true, true, true, true, true, true, false, false, false, false, false, false, false, false, false, false, false, false, false, false, false, false, false, false, false, false, false, false, false, false, false, false, false, false, false, false, false, false, false, false, false, false, false, false] rfl rfl (one_of HT_.out (by kernel_rfl)) (by decide) (fun K hK => ?_)
       refine goes_ Try.func9 (by kernel_rfl) rfl #[.slice Ao50 t752.length co50, .slice Ao51 t755.length co51] (by rfl) rfl rfl (by (try simp only [List.map_toArray, List.map_cons, List.map_nil]); first | done | rfl | (simp only [List.length_drop, List.length_take]; rfl)) ?_
       with_reducible refine (laws_sameRoles.calls k _ _ t752 _ _ t755 true _ ?side1 ?side2 ?side3 ?side4 A15.out).mono ?_
       (case side1 => repeat (first | exact (Kd.R_reads' HO754.out).2.2 | (with_reducible refine Kd.C_alloc ?_ _) | (with_reducible refine Kd.C_drewN ?_ _) | (with_reducible refine Kd.C_drew ?_)))
       (case side2 => exact (Kd.R_reads' HO754.out).2.1)
       (case side3 => repeat (first | exact (Kd.R_reads' HO757.out).2.2 | (with_reducible refine Kd.C_alloc ?_ _) | (with_reducible refine Kd.C_drewN ?_ _) | (with_reducible refine Kd.C_drew ?_)))
       (case side4 => exact (Kd.R_reads' HO757.out).2.1)
       rintro e w' ⟨rfl, ⟨nd, rfl⟩⟩
       refine ⟨_, rfl, ?_⟩
       obtain ⟨Ao52, co52, eo52⟩ := Kd.R_slice HO733.out
       (first | subst eo52 | (injection eo52 with f1_ f2_ f3_; have f4_ := f1_.symm; have f5_ := f3_.symm; clear f1_ f2_ f3_; subst f4_; subst f5_))
       refine hK.out _ _ ⟨(blk_cell BK730.out 0).trans rfl, (blk_cell BK730.out 1).trans rfl, (blk_cell BK744.out 0).trans rfl, (blk_cell BK744.out 1).trans rfl⟩ (fun hHeld => ?_)
       clear hK K
       refine norm_ (a' := ?_) ?_ ?_
       rotate_left
       ·show Act.put _ (some 45) _ = _
        simp only [Act.put, List.setIfInBounds_toArray, List.set_cons_zero, List.set_cons_succ, i64_w, i32_w]
        rfl
       refine pureZ_ (i := 15) (some 46) #[true, true, true, true, true, true, true, true, true, true, true, true, true, true, true, true, false, false, false, false, false, false, false, false, false, false, false, false, false, false, false, false, false, false, false, false, false, false, false, false, false, false, false, false, false, false, false, false, false, false, false, false, false] (ao_ HT_) ?_
       refine pureZ_ (i := 16) (some 47) #[true, true, true, true, true, true, true, true, true, true, true, true, true, true, true, true, true, false, false, false, false, false, false, false, false, false, false, false, false, false, false, false, false, false, false, false, false, false, false, false, false, false, false, false, false, false, false, false, false, false, false, false, false] (ao_ HT_) ?_
       refine pureZ_ (i := 17) (some 48) #[true, true, true, true, true, true, true, true, true, true, true, true, true, true, true, true, true, true, false, false, false, false, false, false, false, false, false, false, false, false, false, false, false, false, false, false, false, false, false, false, false, false, false, false, false, false, false, false, false, false, false, false, false] (ao_ HT_) ?_
       refine pureZ_ (i := 19) (some 50) #[true, true, true, true, true, true, true, true, true, true, true, true, true, true, true, true, true, true, false, true, false, false, false, false, false, false, false, false, false, false, false, false, false, false, false, false, false, false, false, false, false, false, false, false, false, false, false, false, false, false, false, false, false] (ao_ HT_) ?_
       refine one_ (i := 18) (N := some 49) #[true, true, true, true, true, true, true, true, true, true, true, true, true, true, true, true, true, true, true, true, false, false, false, false, false, false, false, false, false, false, false, false, false, false, false, false, false, false, false, false, false, false, false, false, false, false, false, false, false, false, false, false, false] rfl rfl (one_of HT_.out (by kernel_rfl)) (by decide) (fun K hK => ?_)
       refine goes_ Try.func14 (by kernel_rfl) rfl #[.slice Ao52 t731.length co52] (by rfl) rfl rfl (by (try simp only [List.map_toArray, List.map_cons, List.map_nil]); first | done | rfl | (simp only [List.length_drop, List.length_take]; rfl)) ?_
       with_reducible refine (impl_RoundRoles.calls k _ _ t731 t759 _ ?side1 ?side2 A17.out).mono ?_
       (case side1 => repeat (first | exact (Kd.R_reads' HO733.out).2.2 | (with_reducible refine Kd.C_alloc ?_ _) | (with_reducible refine Kd.C_drewN ?_ _) | (with_reducible refine Kd.C_drew ?_)))
       (case side2 => exact (Kd.R_reads' HO733.out).2.1)
       rintro e w53 ⟨v760, rfl, ho0, hb⟩
       refine ⟨_, rfl, ?_⟩
       replace HO727 := hob_ HO727 hb
       replace HO733 := hob_ HO733 hb
       replace HO737 := hob_ HO737 hb
       replace HO740 := hob_ HO740 hb
       have HO761 := Aside0.mk (Kd.R_lower (Kd.R_newB (Kd.R_newB (Kd.R_new' (Kd.R_new' (Kd.R_new' (Kd.R_new' ho0 (Kd.R_lt (rr_ HO747))) (Kd.R_lt (rr_ HO750))) (Kd.R_lt (rr_ HO754))) (Kd.R_lt (rr_ HO757))) (g := gb730) (o := .cells #[.int .i64 t728, .int .i64 t729] 26 (0, 0)) (bk_ BK730)) (g := gb744) (o := .cells #[.int .i64 t741, .int .i64 t742] 26 (0, 0)) (bk_ BK744)) bls_)
       replace HO747 := Aside0.mk (Kd.R_elder' (rr_ HO747) (Kd.R_base ho0) hb)
       replace HO750 := Aside0.mk (Kd.R_elder' (rr_ HO750) (Kd.R_base ho0) hb)
       replace HO754 := Aside0.mk (Kd.R_elder' (rr_ HO754) (Kd.R_base ho0) hb)
       replace HO757 := Aside0.mk (Kd.R_elder' (rr_ HO757) (Kd.R_base ho0) hb)
       replace BK730 := bkb_ BK730 hb
       replace BK744 := bkb_ BK744 hb
       replace HB := hbs_ hb
       (try clear hb)
       (try clear hb2)
       (try clear hk)
       (try clear hi)
       (try clear ho0)
       refine hK.out _ _ ⟨(blk_cell BK730.out 0).trans rfl, (blk_cell BK730.out 1).trans rfl, (blk_cell BK744.out 0).trans rfl, (blk_cell BK744.out 1).trans rfl⟩ (fun hHeld => ?_)
       clear hK K
       refine norm_ (a' := ?_) ?_ ?_
       rotate_left
       ·show Act.put _ (some 49) _ = _
        simp only [Act.put, List.setIfInBounds_toArray, List.set_cons_zero, List.set_cons_succ, i64_w, i32_w]
        rfl
       refine one_ (i := 20) (N := some 51) #[true, true, true, true, true, true, true, true, true, true, true, true, true, true, true, true, true, true, true, true, true, false, false, false, false, false, false, false, false, false, false, false, false, false, false, false, false, false, false, false, false, false, false, false, false, false, false, false, false, false, false, false, false] rfl rfl (one_of HT_.out (by kernel_rfl)) (by decide) (fun K hK => ?_)
       refine goes_ Try.func15 (by kernel_rfl) rfl #[.slice Ao52 t731.length co52] (by rfl) rfl rfl (by (try simp only [List.map_toArray, List.map_cons, List.map_nil]); first | done | rfl | (simp only [List.length_drop, List.length_take]; rfl)) ?_
       with_reducible refine (spec_RoundRoles.calls k _ _ t731 t762 _ ?side1 ?side2 A18.out).mono ?_
       (case side1 => repeat (first | exact (Kd.R_reads' HO733.out).2.2 | (with_reducible refine Kd.C_alloc ?_ _) | (with_reducible refine Kd.C_drewN ?_ _) | (with_reducible refine Kd.C_drew ?_)))
       (case side2 => exact (Kd.R_reads' HO733.out).2.1)
       rintro e w54 ⟨v763, rfl, ho0, hb⟩
       refine ⟨_, rfl, ?_⟩
       replace HO727 := hob_ HO727 hb
       replace HO733 := hob_ HO733 hb
       replace HO737 := hob_ HO737 hb
       replace HO740 := hob_ HO740 hb
       have HO764 := Aside0.mk (Kd.R_lower (Kd.R_newB (Kd.R_newB (Kd.R_new' (Kd.R_new' (Kd.R_new' (Kd.R_new' (Kd.R_new' ho0 (Kd.R_lt (rr_ HO747))) (Kd.R_lt (rr_ HO750))) (Kd.R_lt (rr_ HO754))) (Kd.R_lt (rr_ HO757))) (Kd.R_lt (rr_ HO761))) (g := gb730) (o := .cells #[.int .i64 t728, .int .i64 t729] 26 (0, 0)) (bk_ BK730)) (g := gb744) (o := .cells #[.int .i64 t741, .int .i64 t742] 26 (0, 0)) (bk_ BK744)) bls_)
       replace HO747 := Aside0.mk (Kd.R_elder' (rr_ HO747) (Kd.R_base ho0) hb)
       replace HO750 := Aside0.mk (Kd.R_elder' (rr_ HO750) (Kd.R_base ho0) hb)
       replace HO754 := Aside0.mk (Kd.R_elder' (rr_ HO754) (Kd.R_base ho0) hb)
       replace HO757 := Aside0.mk (Kd.R_elder' (rr_ HO757) (Kd.R_base ho0) hb)
       replace HO761 := Aside0.mk (Kd.R_elder' (rr_ HO761) (Kd.R_base ho0) hb)
       replace BK730 := bkb_ BK730 hb
       replace BK744 := bkb_ BK744 hb
       replace HB := hbs_ hb
       (try clear hb)
       (try clear hb2)
       (try clear hk)
       (try clear hi)
       (try clear ho0)
       obtain ⟨Ao55, co55, eo55⟩ := Kd.R_slice HO761.out
       (first | subst eo55 | (injection eo55 with f1_ f2_ f3_; have f4_ := f1_.symm; have f5_ := f3_.symm; clear f1_ f2_ f3_; subst f4_; subst f5_))
       obtain ⟨Ao56, co56, eo56⟩ := Kd.R_slice HO764.out
       (first | subst eo56 | (injection eo56 with f1_ f2_ f3_; have f4_ := f1_.symm; have f5_ := f3_.symm; clear f1_ f2_ f3_; subst f4_; subst f5_))
       refine hK.out _ _ ⟨(blk_cell BK730.out 0).trans rfl, (blk_cell BK730.out 1).trans rfl, (blk_cell BK744.out 0).trans rfl, (blk_cell BK744.out 1).trans rfl⟩ (fun hHeld => ?_)
       clear hK K
       refine norm_ (a' := ?_) ?_ ?_
       rotate_left
       ·show Act.put _ (some 51) _ = _
        simp only [Act.put, List.setIfInBounds_toArray, List.set_cons_zero, List.set_cons_succ, i64_w, i32_w]
        rfl
       refine one_ (i := 21) (N := some 52) #[true, true, true, true, true, true, true, true, true, true, true, true, true, true, true, true, true, true, true, true, true, true, false, false, false, false, false, false, false, false, false, false, false, false, false, false, false, false, false, false, false, false, false, false, false, false, false, false, false, false, false, false, false] rfl rfl (one_of HT_.out (by kernel_rfl)) (by decide) (fun K hK => ?_)
       refine goes_ Try.func9 (by kernel_rfl) rfl #[.slice Ao55 t759.length co55, .slice Ao56 t762.length co56] (by rfl) rfl rfl (by (try simp only [List.map_toArray, List.map_cons, List.map_nil]); first | done | rfl | (simp only [List.length_drop, List.length_take]; rfl)) ?_
       with_reducible refine (laws_sameRoles.calls k _ _ t759 _ _ t762 true _ ?side1 ?side2 ?side3 ?side4 A19.out).mono ?_
       (case side1 => repeat (first | exact (Kd.R_reads' HO761.out).2.2 | (with_reducible refine Kd.C_alloc ?_ _) | (with_reducible refine Kd.C_drewN ?_ _) | (with_reducible refine Kd.C_drew ?_)))
       (case side2 => exact (Kd.R_reads' HO761.out).2.1)
       (case side3 => repeat (first | exact (Kd.R_reads' HO764.out).2.2 | (with_reducible refine Kd.C_alloc ?_ _) | (with_reducible refine Kd.C_drewN ?_ _) | (with_reducible refine Kd.C_drew ?_)))
       (case side4 => exact (Kd.R_reads' HO764.out).2.1)
       rintro e w' ⟨rfl, ⟨nd, rfl⟩⟩
       refine ⟨_, rfl, ?_⟩
       refine hK.out _ _ ⟨(blk_cell BK730.out 0).trans rfl, (blk_cell BK730.out 1).trans rfl, (blk_cell BK744.out 0).trans rfl, (blk_cell BK744.out 1).trans rfl⟩ (fun hHeld => ?_)
       clear hK K
       refine norm_ (a' := ?_) ?_ ?_
       rotate_left
       ·show Act.put _ (some 52) _ = _
        simp only [Act.put, List.setIfInBounds_toArray, List.set_cons_zero, List.set_cons_succ, i64_w, i32_w]
        rfl
       refine pureZ_ (i := 22) (some 53) #[true, true, true, true, true, true, true, true, true, true, true, true, true, true, true, true, true, true, true, true, true, true, true, false, false, false, false, false, false, false, false, false, false, false, false, false, false, false, false, false, false, false, false, false, false, false, false, false, false, false, false, false, false] (ao_ HT_) ?_
       refine pureZ_ (i := 23) (some 54) #[true, true, true, true, true, true, true, true, true, true, true, true, true, true, true, true, true, true, true, true, true, true, true, true, false, false, false, false, false, false, false, false, false, false, false, false, false, false, false, false, false, false, false, false, false, false, false, false, false, false, false, false, false] (ao_ HT_) ?_
       refine pureZ_ (i := 24) (some 55) #[true, true, true, true, true, true, true, true, true, true, true, true, true, true, true, true, true, true, true, true, true, true, true, true, true, false, false, false, false, false, false, false, false, false, false, false, false, false, false, false, false, false, false, false, false, false, false, false, false, false, false, false, false] (ao_ HT_) ?_
       refine pureZ_ (i := 27) (some 58) #[true, true, true, true, true, true, true, true, true, true, true, true, true, true, true, true, true, true, true, true, true, true, true, true, true, false, false, true, false, false, false, false, false, false, false, false, false, false, false, false, false, false, false, false, false, false, false, false, false, false, false, false, false] (ao_ HT_) ?_
       refine takeZ_ (i := 25) (some 56) #[true, true, true, true, true, true, true, true, true, true, true, true, true, true, true, true, true, true, true, true, true, true, true, true, true, true, false, true, false, false, false, false, false, false, false, false, false, false, false, false, false, false, false, false, false, false, false, false, false, false, false, false, false] (take_ofW HT_.out HW_.out (by kernel_rfl)) hHeld ?_
       refine takeZ_ (i := 28) (some 59) #[true, true, true, true, true, true, true, true, true, true, true, true, true, true, true, true, true, true, true, true, true, true, true, true, true, true, false, true, true, false, false, false, false, false, false, false, false, false, false, false, false, false, false, false, false, false, false, false, false, false, false, false, false] (take_ofW HT_.out HW_.out (by kernel_rfl)) hHeld ?_
       refine one_ (i := 26) (N := some 57) #[true, true, true, true, true, true, true, true, true, true, true, true, true, true, true, true, true, true, true, true, true, true, true, true, true, true, true, true, true, false, false, false, false, false, false, false, false, false, false, false, false, false, false, false, false, false, false, false, false, false, false, false, false] rfl rfl (one_of HT_.out (by kernel_rfl)) (by decide) (fun K hK => ?_)
       refine goes_ Try.func17 (by kernel_rfl) rfl #[.slice Ao43 t725.length co43, .agg #[.int .i64 t728, .int .i64 t729]] (by rfl) rfl rfl (by (try simp only [List.map_toArray, List.map_cons, List.map_nil]); first | done | rfl | (simp only [List.length_drop, List.length_take]; rfl)) ?_
       with_reducible refine (impl_NeededFor.calls k _ _ t725 t728 t729 t766 _ ?side1 ?side2 A21.out).mono ?_
       (case side1 => repeat (first | exact (Kd.R_reads' HO727.out).2.2 | (with_reducible refine Kd.C_alloc ?_ _) | (with_reducible refine Kd.C_drewN ?_ _) | (with_reducible refine Kd.C_drew ?_)))
       (case side2 => exact (Kd.R_reads' HO727.out).2.1)
       rintro e w57 ⟨v767, rfl, ho0, hb⟩
       refine ⟨_, rfl, ?_⟩
       replace HO747 := hob_ HO747 hb
       replace HO750 := hob_ HO750 hb
       replace HO754 := hob_ HO754 hb
       replace HO757 := hob_ HO757 hb
       replace HO761 := hob_ HO761 hb
       replace HO764 := hob_ HO764 hb
       have HO768 := Aside0.mk (Kd.R_lower (Kd.R_new' (Kd.R_new' (Kd.R_new' (Kd.R_new' ho0 (Kd.R_lt (rr_ HO727))) (Kd.R_lt (rr_ HO733))) (Kd.R_lt (rr_ HO737))) (Kd.R_lt (rr_ HO740))) bls_)
       replace HO727 := Aside0.mk (Kd.R_elder' (rr_ HO727) (Kd.R_base ho0) hb)
       replace HO733 := Aside0.mk (Kd.R_elder' (rr_ HO733) (Kd.R_base ho0) hb)
       replace HO737 := Aside0.mk (Kd.R_elder' (rr_ HO737) (Kd.R_base ho0) hb)
       replace HO740 := Aside0.mk (Kd.R_elder' (rr_ HO740) (Kd.R_base ho0) hb)
       replace BK730 := bkb_ BK730 hb
       replace BK744 := bkb_ BK744 hb
       replace HB := hbs_ hb
       (try clear hb)
       (try clear hb2)
       (try clear hk)
       (try clear hi)
       (try clear ho0)
       refine hK.out _ _ ⟨(blk_cell BK730.out 0).trans rfl, (blk_cell BK730.out 1).trans rfl, (blk_cell BK744.out 0).trans rfl, (blk_cell BK744.out 1).trans rfl⟩ (fun hHeld => ?_)
       clear hK K
       refine norm_ (a' := ?_) ?_ ?_
       rotate_left
       ·show Act.put _ (some 57) _ = _
        simp only [Act.put, List.setIfInBounds_toArray, List.set_cons_zero, List.set_cons_succ, i64_w, i32_w]
        rfl
       refine one_ (i := 29) (N := some 60) #[true, true, true, true, true, true, true, true, true, true, true, true, true, true, true, true, true, true, true, true, true, true, true, true, true, true, true, true, true, true, false, false, false, false, false, false, false, false, false, false, false, false, false, false, false, false, false, false, false, false, false, false, false] rfl rfl (one_of HT_.out (by kernel_rfl)) (by decide) (fun K hK => ?_)
       refine goes_ Try.func18 (by kernel_rfl) rfl #[.slice Ao43 t725.length co43, .agg #[.int .i64 t728, .int .i64 t729]] (by rfl) rfl rfl (by (try simp only [List.map_toArray, List.map_cons, List.map_nil]); first | done | rfl | (simp only [List.length_drop, List.length_take]; rfl)) ?_
       with_reducible refine (spec_NeededFor.calls k _ _ t725 t728 t729 t769 _ ?side1 ?side2 A22.out).mono ?_
       (case side1 => repeat (first | exact (Kd.R_reads' HO727.out).2.2 | (with_reducible refine Kd.C_alloc ?_ _) | (with_reducible refine Kd.C_drewN ?_ _) | (with_reducible refine Kd.C_drew ?_)))
       (case side2 => exact (Kd.R_reads' HO727.out).2.1)
       rintro e w58 ⟨v770, rfl, ho0, hb⟩
       refine ⟨_, rfl, ?_⟩
       replace HO747 := hob_ HO747 hb
       replace HO750 := hob_ HO750 hb
       replace HO754 := hob_ HO754 hb
       replace HO757 := hob_ HO757 hb
       replace HO761 := hob_ HO761 hb
       replace HO764 := hob_ HO764 hb
       have HO771 := Aside0.mk (Kd.R_lower (Kd.R_new' (Kd.R_new' (Kd.R_new' (Kd.R_new' (Kd.R_new' ho0 (Kd.R_lt (rr_ HO727))) (Kd.R_lt (rr_ HO733))) (Kd.R_lt (rr_ HO737))) (Kd.R_lt (rr_ HO740))) (Kd.R_lt (rr_ HO768))) bls_)
       replace HO727 := Aside0.mk (Kd.R_elder' (rr_ HO727) (Kd.R_base ho0) hb)
       replace HO733 := Aside0.mk (Kd.R_elder' (rr_ HO733) (Kd.R_base ho0) hb)
       replace HO737 := Aside0.mk (Kd.R_elder' (rr_ HO737) (Kd.R_base ho0) hb)
       replace HO740 := Aside0.mk (Kd.R_elder' (rr_ HO740) (Kd.R_base ho0) hb)
       replace HO768 := Aside0.mk (Kd.R_elder' (rr_ HO768) (Kd.R_base ho0) hb)
       replace BK730 := bkb_ BK730 hb
       replace BK744 := bkb_ BK744 hb
       replace HB := hbs_ hb
       (try clear hb)
       (try clear hb2)
       (try clear hk)
       (try clear hi)
       (try clear ho0)
       obtain ⟨Ao59, co59, eo59⟩ := Kd.R_slice HO768.out
       (first | subst eo59 | (injection eo59 with f1_ f2_ f3_; have f4_ := f1_.symm; have f5_ := f3_.symm; clear f1_ f2_ f3_; subst f4_; subst f5_))
       obtain ⟨Ao60, co60, eo60⟩ := Kd.R_slice HO771.out
       (first | subst eo60 | (injection eo60 with f1_ f2_ f3_; have f4_ := f1_.symm; have f5_ := f3_.symm; clear f1_ f2_ f3_; subst f4_; subst f5_))
       refine hK.out _ _ ⟨(blk_cell BK730.out 0).trans rfl, (blk_cell BK730.out 1).trans rfl, (blk_cell BK744.out 0).trans rfl, (blk_cell BK744.out 1).trans rfl⟩ (fun hHeld => ?_)
       clear hK K
       refine norm_ (a' := ?_) ?_ ?_
       rotate_left
       ·show Act.put _ (some 60) _ = _
        simp only [Act.put, List.setIfInBounds_toArray, List.set_cons_zero, List.set_cons_succ, i64_w, i32_w]
        rfl
       refine one_ (i := 30) (N := some 61) #[true, true, true, true, true, true, true, true, true, true, true, true, true, true, true, true, true, true, true, true, true, true, true, true, true, true, true, true, true, true, true, false, false, false, false, false, false, false, false, false, false, false, false, false, false, false, false, false, false, false, false, false, false] rfl rfl (one_of HT_.out (by kernel_rfl)) (by decide) (fun K hK => ?_)
       refine goes_ Try.func16 (by kernel_rfl) rfl #[.slice Ao59 t766.length co59, .slice Ao60 t769.length co60] (by rfl) rfl rfl (by (try simp only [List.map_toArray, List.map_cons, List.map_nil]); first | done | rfl | (simp only [List.length_drop, List.length_take]; rfl)) ?_
       with_reducible refine (laws_sameCreds.calls k _ _ t766 _ _ t769 true _ ?side1 ?side2 ?side3 ?side4 A23.out).mono ?_
       (case side1 => repeat (first | exact (Kd.R_reads' HO768.out).2.2 | (with_reducible refine Kd.C_alloc ?_ _) | (with_reducible refine Kd.C_drewN ?_ _) | (with_reducible refine Kd.C_drew ?_)))
       (case side2 => exact (Kd.R_reads' HO768.out).2.1)
       (case side3 => repeat (first | exact (Kd.R_reads' HO771.out).2.2 | (with_reducible refine Kd.C_alloc ?_ _) | (with_reducible refine Kd.C_drewN ?_ _) | (with_reducible refine Kd.C_drew ?_)))
       (case side4 => exact (Kd.R_reads' HO771.out).2.1)
       rintro e w' ⟨rfl, ⟨nd, rfl⟩⟩
       refine ⟨_, rfl, ?_⟩
       obtain ⟨Ao61, co61, eo61⟩ := Kd.R_slice HO737.out
       (first | subst eo61 | (injection eo61 with f1_ f2_ f3_; have f4_ := f1_.symm; have f5_ := f3_.symm; clear f1_ f2_ f3_; subst f4_; subst f5_))
       refine hK.out _ _ ⟨(blk_cell BK730.out 0).trans rfl, (blk_cell BK730.out 1).trans rfl, (blk_cell BK744.out 0).trans rfl, (blk_cell BK744.out 1).trans rfl⟩ (fun hHeld => ?_)
       clear hK K
       refine norm_ (a' := ?_) ?_ ?_
       rotate_left
       ·show Act.put _ (some 61) _ = _
        simp only [Act.put, List.setIfInBounds_toArray, List.set_cons_zero, List.set_cons_succ, i64_w, i32_w]
        rfl
       refine pureZ_ (i := 31) (some 62) #[true, true, true, true, true, true, true, true, true, true, true, true, true, true, true, true, true, true, true, true, true, true, true, true, true, true, true, true, true, true, true, true, false, false, false, false, false, false, false, false, false, false, false, false, false, false, false, false, false, false, false, false, false] (ao_ HT_) ?_
       refine pureZ_ (i := 32) (some 63) #[true, true, true, true, true, true, true, true, true, true, true, true, true, true, true, true, true, true, true, true, true, true, true, true, true, true, true, true, true, true, true, true, true, false, false, false, false, false, false, false, false, false, false, false, false, false, false, false, false, false, false, false, false] (ao_ HT_) ?_
       refine pureZ_ (i := 33) (some 64) #[true, true, true, true, true, true, true, true, true, true, true, true, true, true, true, true, true, true, true, true, true, true, true, true, true, true, true, true, true, true, true, true, true, true, false, false, false, false, false, false, false, false, false, false, false, false, false, false, false, false, false, false, false] (ao_ HT_) ?_
       refine pureZ_ (i := 34) (some 65) #[true, true, true, true, true, true, true, true, true, true, true, true, true, true, true, true, true, true, true, true, true, true, true, true, true, true, true, true, true, true, true, true, true, true, true, false, false, false, false, false, false, false, false, false, false, false, false, false, false, false, false, false, false] (ao_ HT_) ?_
       refine pureZ_ (i := 36) (some 67) #[true, true, true, true, true, true, true, true, true, true, true, true, true, true, true, true, true, true, true, true, true, true, true, true, true, true, true, true, true, true, true, true, true, true, true, false, true, false, false, false, false, false, false, false, false, false, false, false, false, false, false, false, false] (ao_ HT_) ?_
       refine pureZ_ (i := 37) (some 68) #[true, true, true, true, true, true, true, true, true, true, true, true, true, true, true, true, true, true, true, true, true, true, true, true, true, true, true, true, true, true, true, true, true, true, true, false, true, true, false, false, false, false, false, false, false, false, false, false, false, false, false, false, false] (ao_ HT_) ?_
       refine one_ (i := 35) (N := some 66) #[true, true, true, true, true, true, true, true, true, true, true, true, true, true, true, true, true, true, true, true, true, true, true, true, true, true, true, true, true, true, true, true, true, true, true, true, true, true, false, false, false, false, false, false, false, false, false, false, false, false, false, false, false] rfl rfl (one_of HT_.out (by kernel_rfl)) (by decide) (fun K hK => ?_)
       refine goes_ Try.func19 (by kernel_rfl) rfl #[.slice Ao61 t734.length co61, .int .i64 t735] (by rfl) rfl rfl (by (try simp only [List.map_toArray, List.map_cons, List.map_nil]); first | done | rfl | (simp only [List.length_drop, List.length_take]; rfl)) ?_
       with_reducible refine (impl_Without.calls _ _ t734 t735 t773 _ ?side1 ?side2 A25.out).mono ?_
       (case side1 => repeat (first | exact (Kd.R_reads' HO737.out).2.2 | (with_reducible refine Kd.C_alloc ?_ _) | (with_reducible refine Kd.C_drewN ?_ _) | (with_reducible refine Kd.C_drew ?_)))
       (case side2 => exact (Kd.R_reads' HO737.out).2.1)
       rintro e w62 ⟨v774, rfl, ho0, hb⟩
       refine ⟨_, rfl, ?_⟩
       replace HO747 := hob_ HO747 hb
       replace HO750 := hob_ HO750 hb
       replace HO754 := hob_ HO754 hb
       replace HO757 := hob_ HO757 hb
       replace HO761 := hob_ HO761 hb
       replace HO764 := hob_ HO764 hb
       have HO775 := Aside0.mk (Kd.R_lower (Kd.R_new' (Kd.R_new' (Kd.R_new' (Kd.R_new' (Kd.R_new' (Kd.R_new' ho0 (Kd.R_lt (rr_ HO727))) (Kd.R_lt (rr_ HO733))) (Kd.R_lt (rr_ HO737))) (Kd.R_lt (rr_ HO740))) (Kd.R_lt (rr_ HO768))) (Kd.R_lt (rr_ HO771))) bls_)
       replace HO727 := Aside0.mk (Kd.R_elder' (rr_ HO727) (Kd.R_base ho0) hb)
       replace HO733 := Aside0.mk (Kd.R_elder' (rr_ HO733) (Kd.R_base ho0) hb)
       replace HO737 := Aside0.mk (Kd.R_elder' (rr_ HO737) (Kd.R_base ho0) hb)
       replace HO740 := Aside0.mk (Kd.R_elder' (rr_ HO740) (Kd.R_base ho0) hb)
       replace HO768 := Aside0.mk (Kd.R_elder' (rr_ HO768) (Kd.R_base ho0) hb)
       replace HO771 := Aside0.mk (Kd.R_elder' (rr_ HO771) (Kd.R_base ho0) hb)
       replace BK730 := bkb_ BK730 hb
       replace BK744 := bkb_ BK744 hb
       replace HB := hbs_ hb
       (try clear hb)
       (try clear hb2)
       (try clear hk)
       (try clear hi)
       (try clear ho0)
       refine hK.out _ _ ⟨(blk_cell BK730.out 0).trans rfl, (blk_cell BK730.out 1).trans rfl, (blk_cell BK744.out 0).trans rfl, (blk_cell BK744.out 1).trans rfl⟩ (fun hHeld => ?_)
       clear hK K
       refine norm_ (a' := ?_) ?_ ?_
       rotate_left
       ·show Act.put _ (some 66) _ = _
        simp only [Act.put, List.setIfInBounds_toArray, List.set_cons_zero, List.set_cons_succ, i64_w, i32_w]
        rfl
       refine one_ (i := 38) (N := some 69) #[true, true, true, true, true, true, true, true, true, true, true, true, true, true, true, true, true, true, true, true, true, true, true, true, true, true, true, true, true, true, true, true, true, true, true, true, true, true, true, false, false, false, false, false, false, false, false, false, false, false, false, false, false] rfl rfl (one_of HT_.out (by kernel_rfl)) (by decide) (fun K hK => ?_)
       refine goes_ Try.func20 (by kernel_rfl) rfl #[.slice Ao61 t734.length co61, .int .i64 t735] (by rfl) rfl rfl (by (try simp only [List.map_toArray, List.map_cons, List.map_nil]); first | done | rfl | (simp only [List.length_drop, List.length_take]; rfl)) ?_
       with_reducible refine (spec_Without.calls k _ _ t734 t735 t776 _ ?side1 ?side2 A26.out).mono ?_
       (case side1 => repeat (first | exact (Kd.R_reads' HO737.out).2.2 | (with_reducible refine Kd.C_alloc ?_ _) | (with_reducible refine Kd.C_drewN ?_ _) | (with_reducible refine Kd.C_drew ?_)))
       (case side2 => exact (Kd.R_reads' HO737.out).2.1)
       rintro e w63 ⟨v777, rfl, ho0, hb⟩
       refine ⟨_, rfl, ?_⟩
       replace HO747 := hob_ HO747 hb
       replace HO750 := hob_ HO750 hb
       replace HO754 := hob_ HO754 hb
       replace HO757 := hob_ HO757 hb
       replace HO761 := hob_ HO761 hb
       replace HO764 := hob_ HO764 hb
       have HO778 := Aside0.mk (Kd.R_lower (Kd.R_new' (Kd.R_new' (Kd.R_new' (Kd.R_new' (Kd.R_new' (Kd.R_new' (Kd.R_new' ho0 (Kd.R_lt (rr_ HO727))) (Kd.R_lt (rr_ HO733))) (Kd.R_lt (rr_ HO737))) (Kd.R_lt (rr_ HO740))) (Kd.R_lt (rr_ HO768))) (Kd.R_lt (rr_ HO771))) (Kd.R_lt (rr_ HO775))) bls_)
       replace HO727 := Aside0.mk (Kd.R_elder' (rr_ HO727) (Kd.R_base ho0) hb)
       replace HO733 := Aside0.mk (Kd.R_elder' (rr_ HO733) (Kd.R_base ho0) hb)
       replace HO737 := Aside0.mk (Kd.R_elder' (rr_ HO737) (Kd.R_base ho0) hb)
       replace HO740 := Aside0.mk (Kd.R_elder' (rr_ HO740) (Kd.R_base ho0) hb)
       replace HO768 := Aside0.mk (Kd.R_elder' (rr_ HO768) (Kd.R_base ho0) hb)
       replace HO771 := Aside0.mk (Kd.R_elder' (rr_ HO771) (Kd.R_base ho0) hb)
       replace HO775 := Aside0.mk (Kd.R_elder' (rr_ HO775) (Kd.R_base ho0) hb)
       replace BK730 := bkb_ BK730 hb
       replace BK744 := bkb_ BK744 hb
       replace HB := hbs_ hb
       (try clear hb)
       (try clear hb2)
       (try clear hk)
       (try clear hi)
       (try clear ho0)
       obtain ⟨Ao64, co64, eo64⟩ := Kd.R_slice HO775.out
       (first | subst eo64 | (injection eo64 with f1_ f2_ f3_; have f4_ := f1_.symm; have f5_ := f3_.symm; clear f1_ f2_ f3_; subst f4_; subst f5_))
       obtain ⟨Ao65, co65, eo65⟩ := Kd.R_slice HO778.out
       (first | subst eo65 | (injection eo65 with f1_ f2_ f3_; have f4_ := f1_.symm; have f5_ := f3_.symm; clear f1_ f2_ f3_; subst f4_; subst f5_))
       refine hK.out _ _ ⟨(blk_cell BK730.out 0).trans rfl, (blk_cell BK730.out 1).trans rfl, (blk_cell BK744.out 0).trans rfl, (blk_cell BK744.out 1).trans rfl⟩ (fun hHeld => ?_)
       clear hK K
       refine norm_ (a' := ?_) ?_ ?_
       rotate_left
       ·show Act.put _ (some 69) _ = _
        simp only [Act.put, List.setIfInBounds_toArray, List.set_cons_zero, List.set_cons_succ, i64_w, i32_w]
        rfl
       refine one_ (i := 39) (N := some 70) #[true, true, true, true, true, true, true, true, true, true, true, true, true, true, true, true, true, true, true, true, true, true, true, true, true, true, true, true, true, true, true, true, true, true, true, true, true, true, true, true, false, false, false, false, false, false, false, false, false, false, false, false, false] rfl rfl (one_of HT_.out (by kernel_rfl)) (by decide) (fun K hK => ?_)
       refine goes_ Try.func16 (by kernel_rfl) rfl #[.slice Ao64 t773.length co64, .slice Ao65 t776.length co65] (by rfl) rfl rfl (by (try simp only [List.map_toArray, List.map_cons, List.map_nil]); first | done | rfl | (simp only [List.length_drop, List.length_take]; rfl)) ?_
       with_reducible refine (laws_sameCreds.calls k _ _ t773 _ _ t776 true _ ?side1 ?side2 ?side3 ?side4 A27.out).mono ?_
       (case side1 => repeat (first | exact (Kd.R_reads' HO775.out).2.2 | (with_reducible refine Kd.C_alloc ?_ _) | (with_reducible refine Kd.C_drewN ?_ _) | (with_reducible refine Kd.C_drew ?_)))
       (case side2 => exact (Kd.R_reads' HO775.out).2.1)
       (case side3 => repeat (first | exact (Kd.R_reads' HO778.out).2.2 | (with_reducible refine Kd.C_alloc ?_ _) | (with_reducible refine Kd.C_drewN ?_ _) | (with_reducible refine Kd.C_drew ?_)))
       (case side4 => exact (Kd.R_reads' HO778.out).2.1)
       rintro e w' ⟨rfl, ⟨nd, rfl⟩⟩
       refine ⟨_, rfl, ?_⟩
       obtain ⟨Ao66, co66, eo66⟩ := Kd.R_slice HO740.out
       (first | subst eo66 | (injection eo66 with f1_ f2_ f3_; have f4_ := f1_.symm; have f5_ := f3_.symm; clear f1_ f2_ f3_; subst f4_; subst f5_))
       refine hK.out _ _ ⟨(blk_cell BK730.out 0).trans rfl, (blk_cell BK730.out 1).trans rfl, (blk_cell BK744.out 0).trans rfl, (blk_cell BK744.out 1).trans rfl⟩ (fun hHeld => ?_)
       clear hK K
       refine norm_ (a' := ?_) ?_ ?_
       rotate_left
       ·show Act.put _ (some 70) _ = _
        simp only [Act.put, List.setIfInBounds_toArray, List.set_cons_zero, List.set_cons_succ, i64_w, i32_w]
        rfl
       refine pureZ_ (i := 40) (some 71) #[true, true, true, true, true, true, true, true, true, true, true, true, true, true, true, true, true, true, true, true, true, true, true, true, true, true, true, true, true, true, true, true, true, true, true, true, true, true, true, true, true, false, false, false, false, false, false, false, false, false, false, false, false] (ao_ HT_) ?_
       refine pureZ_ (i := 41) (some 72) #[true, true, true, true, true, true, true, true, true, true, true, true, true, true, true, true, true, true, true, true, true, true, true, true, true, true, true, true, true, true, true, true, true, true, true, true, true, true, true, true, true, true, false, false, false, false, false, false, false, false, false, false, false] (ao_ HT_) ?_
       refine pureZ_ (i := 42) (some 73) #[true, true, true, true, true, true, true, true, true, true, true, true, true, true, true, true, true, true, true, true, true, true, true, true, true, true, true, true, true, true, true, true, true, true, true, true, true, true, true, true, true, true, true, false, false, false, false, false, false, false, false, false, false] (ao_ HT_) ?_
       refine pureZ_ (i := 44) (some 75) #[true, true, true, true, true, true, true, true, true, true, true, true, true, true, true, true, true, true, true, true, true, true, true, true, true, true, true, true, true, true, true, true, true, true, true, true, true, true, true, true, true, true, true, false, true, false, false, false, false, false, false, false, false] (ao_ HT_) ?_
       refine pureZ_ (i := 46) (some 77) #[true, true, true, true, true, true, true, true, true, true, true, true, true, true, true, true, true, true, true, true, true, true, true, true, true, true, true, true, true, true, true, true, true, true, true, true, true, true, true, true, true, true, true, false, true, false, true, false, false, false, false, false, false] (ao_ HT_) ?_
       refine pureZ_ (i := 48) (some 79) #[true, true, true, true, true, true, true, true, true, true, true, true, true, true, true, true, true, true, true, true, true, true, true, true, true, true, true, true, true, true, true, true, true, true, true, true, true, true, true, true, true, true, true, false, true, false, true, false, true, false, false, false, false] (ao_ HT_) ?_
       refine takeZ_ (i := 43) (some 74) #[true, true, true, true, true, true, true, true, true, true, true, true, true, true, true, true, true, true, true, true, true, true, true, true, true, true, true, true, true, true, true, true, true, true, true, true, true, true, true, true, true, true, true, true, true, false, true, false, true, false, false, false, false] (take_ofW HT_.out HW_.out (by kernel_rfl)) hHeld ?_
       refine takeZ_ (i := 47) (some 78) #[true, true, true, true, true, true, true, true, true, true, true, true, true, true, true, true, true, true, true, true, true, true, true, true, true, true, true, true, true, true, true, true, true, true, true, true, true, true, true, true, true, true, true, true, true, false, true, true, true, false, false, false, false] (take_ofW HT_.out HW_.out (by kernel_rfl)) hHeld ?_
       refine one_ (i := 45) (N := some 76) #[true, true, true, true, true, true, true, true, true, true, true, true, true, true, true, true, true, true, true, true, true, true, true, true, true, true, true, true, true, true, true, true, true, true, true, true, true, true, true, true, true, true, true, true, true, true, true, true, true, false, false, false, false] rfl rfl (one_of HT_.out (by kernel_rfl)) (by decide) (fun K hK => ?_)
       refine goes_ Try.func22 (by kernel_rfl) rfl #[.slice Ao66 t738.length co66, .agg #[.int .i64 t741, .int .i64 t742], .int .i64 t743] (by rfl) rfl rfl (by (try simp only [List.map_toArray, List.map_cons, List.map_nil]); first | done | rfl | (simp only [List.length_drop, List.length_take]; rfl)) ?_
       with_reducible refine (impl_Critical.calls k _ _ t738 t741 t742 t743 t780 _ ?side1 ?side2 A29.out).mono ?_
       (case side1 => repeat (first | exact (Kd.R_reads' HO740.out).2.2 | (with_reducible refine Kd.C_alloc ?_ _) | (with_reducible refine Kd.C_drewN ?_ _) | (with_reducible refine Kd.C_drew ?_)))
       (case side2 => exact (Kd.R_reads' HO740.out).2.1)
       rintro e w67 ⟨v781, rfl, ho0, hb⟩
       refine ⟨_, rfl, ?_⟩
       replace HO727 := hob_ HO727 hb
       replace HO733 := hob_ HO733 hb
       replace HO737 := hob_ HO737 hb
       replace HO740 := hob_ HO740 hb
       replace HO747 := hob_ HO747 hb
       replace HO750 := hob_ HO750 hb
       replace HO754 := hob_ HO754 hb
       replace HO757 := hob_ HO757 hb
       replace HO761 := hob_ HO761 hb
       replace HO764 := hob_ HO764 hb
       replace HO768 := hob_ HO768 hb
       replace HO771 := hob_ HO771 hb
       replace HO775 := hob_ HO775 hb
       replace HO778 := hob_ HO778 hb
       have HO782 := Aside0.mk (Kd.R_lower ho0 bls_)
       replace BK730 := bkb_ BK730 hb
       replace BK744 := bkb_ BK744 hb
       replace HB := hbs_ hb
       (try clear hb)
       (try clear hb2)
       (try clear hk)
       (try clear hi)
       (try clear ho0)
       refine hK.out _ _ ⟨(blk_cell BK730.out 0).trans rfl, (blk_cell BK730.out 1).trans rfl, (blk_cell BK744.out 0).trans rfl, (blk_cell BK744.out 1).trans rfl⟩ (fun hHeld => ?_)
       clear hK K
       refine norm_ (a' := ?_) ?_ ?_
       rotate_left
       ·show Act.put _ (some 76) _ = _
        simp only [Act.put, List.setIfInBounds_toArray, List.set_cons_zero, List.set_cons_succ, i64_w, i32_w]
        rfl
       refine one_ (i := 49) (N := some 80) #[true, true, true, true, true, true, true, true, true, true, true, true, true, true, true, true, true, true, true, true, true, true, true, true, true, true, true, true, true, true, true, true, true, true, true, true, true, true, true, true, true, true, true, true, true, true, true, true, true, true, false, false, false] rfl rfl (one_of HT_.out (by kernel_rfl)) (by decide) (fun K hK => ?_)
       refine goes_ Try.func23 (by kernel_rfl) rfl #[.slice Ao66 t738.length co66, .agg #[.int .i64 t741, .int .i64 t742], .int .i64 t743] (by rfl) rfl rfl (by (try simp only [List.map_toArray, List.map_cons, List.map_nil]); first | done | rfl | (simp only [List.length_drop, List.length_take]; rfl)) ?_
       with_reducible refine (spec_Critical.calls k _ _ t738 t741 t742 t743 t783 _ ?side1 ?side2 A30.out).mono ?_
       (case side1 => repeat (first | exact (Kd.R_reads' HO740.out).2.2 | (with_reducible refine Kd.C_alloc ?_ _) | (with_reducible refine Kd.C_drewN ?_ _) | (with_reducible refine Kd.C_drew ?_)))
       (case side2 => exact (Kd.R_reads' HO740.out).2.1)
       rintro e w68 ⟨v784, rfl, ho0, hb⟩
       refine ⟨_, rfl, ?_⟩
       replace HO727 := hob_ HO727 hb
       replace HO733 := hob_ HO733 hb
       replace HO737 := hob_ HO737 hb
       replace HO740 := hob_ HO740 hb
       replace HO747 := hob_ HO747 hb
       replace HO750 := hob_ HO750 hb
       replace HO754 := hob_ HO754 hb
       replace HO757 := hob_ HO757 hb
       replace HO761 := hob_ HO761 hb
       replace HO764 := hob_ HO764 hb
       replace HO768 := hob_ HO768 hb
       replace HO771 := hob_ HO771 hb
       replace HO775 := hob_ HO775 hb
       replace HO778 := hob_ HO778 hb
       have HO785 := Aside0.mk (Kd.R_lower (Kd.R_new' ho0 (Kd.R_lt (rr_ HO782))) bls_)
       replace HO782 := Aside0.mk (Kd.R_elder' (rr_ HO782) (Kd.R_base ho0) hb)
       replace BK730 := bkb_ BK730 hb
       replace BK744 := bkb_ BK744 hb
       replace HB := hbs_ hb
       (try clear hb)
       (try clear hb2)
       (try clear hk)
       (try clear hi)
       (try clear ho0)
       obtain ⟨Ao69, co69, eo69⟩ := Kd.R_slice HO782.out
       (first | subst eo69 | (injection eo69 with f1_ f2_ f3_; have f4_ := f1_.symm; have f5_ := f3_.symm; clear f1_ f2_ f3_; subst f4_; subst f5_))
       obtain ⟨Ao70, co70, eo70⟩ := Kd.R_slice HO785.out
       (first | subst eo70 | (injection eo70 with f1_ f2_ f3_; have f4_ := f1_.symm; have f5_ := f3_.symm; clear f1_ f2_ f3_; subst f4_; subst f5_))
       refine hK.out _ _ ⟨(blk_cell BK730.out 0).trans rfl, (blk_cell BK730.out 1).trans rfl, (blk_cell BK744.out 0).trans rfl, (blk_cell BK744.out 1).trans rfl⟩ (fun hHeld => ?_)
       clear hK K
       refine norm_ (a' := ?_) ?_ ?_
       rotate_left
       ·show Act.put _ (some 80) _ = _
        simp only [Act.put, List.setIfInBounds_toArray, List.set_cons_zero, List.set_cons_succ, i64_w, i32_w]
        rfl
       refine one_ (i := 50) (N := some 81) #[true, true, true, true, true, true, true, true, true, true, true, true, true, true, true, true, true, true, true, true, true, true, true, true, true, true, true, true, true, true, true, true, true, true, true, true, true, true, true, true, true, true, true, true, true, true, true, true, true, true, true, false, false] rfl rfl (one_of HT_.out (by kernel_rfl)) (by decide) (fun K hK => ?_)
       refine goes_ Try.func21 (by kernel_rfl) rfl #[.slice Ao69 t780.length co69, .slice Ao70 t783.length co70] (by rfl) rfl rfl (by (try simp only [List.map_toArray, List.map_cons, List.map_nil]); first | done | rfl | (simp only [List.length_drop, List.length_take]; rfl)) ?_
       with_reducible refine (laws_sameInts.calls k _ _ t780 _ _ t783 t786 _ ?side1 ?side2 ?side3 ?side4 A31.out).mono ?_
       (case side1 => repeat (first | exact (Kd.R_reads' HO782.out).2.2 | (with_reducible refine Kd.C_alloc ?_ _) | (with_reducible refine Kd.C_drewN ?_ _) | (with_reducible refine Kd.C_drew ?_)))
       (case side2 => exact (Kd.R_reads' HO782.out).2.1)
       (case side3 => repeat (first | exact (Kd.R_reads' HO785.out).2.2 | (with_reducible refine Kd.C_alloc ?_ _) | (with_reducible refine Kd.C_drewN ?_ _) | (with_reducible refine Kd.C_drew ?_)))
       (case side4 => exact (Kd.R_reads' HO785.out).2.1)
       rintro e w' ⟨rfl, ⟨nd, rfl⟩⟩
       refine ⟨_, rfl, ?_⟩
       refine hK.out _ _ ⟨(blk_cell BK730.out 0).trans rfl, (blk_cell BK730.out 1).trans rfl, (blk_cell BK744.out 0).trans rfl, (blk_cell BK744.out 1).trans rfl⟩ (fun hHeld => ?_)
       clear hK K
       refine norm_ (a' := ?_) ?_ ?_
       rotate_left
       ·show Act.put _ (some 81) _ = _
        simp only [Act.put, List.setIfInBounds_toArray, List.set_cons_zero, List.set_cons_succ, i64_w, i32_w]
        rfl
       refine pureZ_ (i := 51) (some 82) #[true, true, true, true, true, true, true, true, true, true, true, true, true, true, true, true, true, true, true, true, true, true, true, true, true, true, true, true, true, true, true, true, true, true, true, true, true, true, true, true, true, true, true, true, true, true, true, true, true, true, true, true, false] (ao_ HT_) ?_
       refine pureZ_ (i := 52) (some 2) #[true, true, true, true, true, true, true, true, true, true, true, true, true, true, true, true, true, true, true, true, true, true, true, true, true, true, true, true, true, true, true, true, true, true, true, true, true, true, true, true, true, true, true, true, true, true, true, true, true, true, true, true, true] (ao_ HT_) ?_
       refine done_ (done_of HT_.out (by kernel_rfl)) ?_
       try go_wp2
       go_ret
       exact ⟨eq_, bl_⟩
      ·replace c28 := Bool.eq_false_iff.mpr c28
       subst c28
       replace H := ite_f_ H
       exact absurd (Option.some.inj (H.trans (congrArg some hr_))) (by decide)
     ·replace c24 := Bool.eq_false_iff.mpr c24
      subst c24
      replace H := ite_f_ H
      exact absurd (Option.some.inj (H.trans (congrArg some hr_))) (by decide)
    ·replace c20 := Bool.eq_false_iff.mpr c20
     subst c20
     replace H := ite_f_ H
     exact absurd (Option.some.inj (H.trans (congrArg some hr_))) (by decide)
   ·replace c16 := Bool.eq_false_iff.mpr c16
    subst c16
    replace H := ite_f_ H
    exact absurd (Option.some.inj (H.trans (congrArg some hr_))) (by decide)
  ·replace c12 := Bool.eq_false_iff.mpr c12
   subst c12
   replace H := ite_f_ H
   exact absurd (Option.some.inj (H.trans (congrArg some hr_))) (by decide)
end Go.Proofs.Ytamhfnedknjjbaa.PB
