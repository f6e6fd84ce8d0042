import Derived.Test.YtppdmcimddhbaaaKNPEx3
import Derived.Test.YtppdmcimddhbaaaKNPEx14
import Derived.Test.YtppdmcimddhbaaaKNPEx23
-- printed by wip/tools
namespace Go.Proofs.Ytppdmcimddhbaaa.PE
open Go.RowKit Go.Proofs.YtppdmcimddhbaaaW.PrintWords Go.Proofs.YtppdmcimddhbaaaW.PrintLast Go.Proofs.YtppdmcimddhbaaaW.PrintMore
attribute [local go_sem] max2_int min2_int max_two min_two max_three min_three max_four min_four
set_option linter.unusedVariables false
set_option linter.unusedSimpArgs false
attribute [local go_sem high] eqA46
mutual
def laws_FnPoliciesNeed.l0 : Nat → List (S46) → List (S27) → List (S46) → Int → List (S71) → Option (Bool)
 | 0, _, _, _, _, _ => none
 | k + 1, x3, x5, x6, x7, x741000 => if x7 < (x3.length : Int) then (laws_FnPoliciesNeed.l1 k x3 x5 x6 x7 false 0 x741000) else (laws_FnPoliciesNeed.l3 k x3 x5 x6 0 x741000)
def laws_FnPoliciesNeed.l1 : Nat → List (S46) → List (S27) → List (S46) → Int → Bool → Int → List (S71) → Option (Bool)
 | 0, _, _, _, _, _, _, _ => none
 | k + 1, x3, x5, x6, x7, x8, x9, x741000 => if x9 < (x5.length : Int) then (if 0 ≤ x9 then ((spec_NeededFor.f k x3 ((rd_T27 x5 x9).f0) ((rd_T27 x5 x9).f1)).bind fun t752 => (laws_FnPoliciesNeed.l2 k x3 x5 x6 x7 x8 x9 t752 0 x741000)) else (none)) else (if x8 = true then (if 0 ≤ x7 then (if x7 < (x3.length : Int) then (if x6.length < 1759218604441 then (laws_FnPoliciesNeed.l0 k x3 x5 (x6 ++ [(⟨(rd_T46 x3 x7).f0, (⟨(rd_T46 x3 x7).f1.f0, (rd_T46 x3 x7).f1.f1⟩ : S27), (rd_T46 x3 x7).f2, (⟨(rd_T46 x3 x7).f3.f0, (rd_T46 x3 x7).f3.f1⟩ : S27), (⟨(rd_T46 x3 x7).f4.f0, (rd_T46 x3 x7).f4.f1⟩ : S27), (rd_T46 x3 x7).f5, (rd_T46 x3 x7).f6⟩ : S46)]) (wrap64 (x7 + 1)) x741000) else (none)) else (none)) else (none)) else (laws_FnPoliciesNeed.l0 k x3 x5 x6 (wrap64 (x7 + 1)) x741000))
def laws_FnPoliciesNeed.l2 : Nat → List (S46) → List (S27) → List (S46) → Int → Bool → Int → List (S46) → Int → List (S71) → Option (Bool)
 | 0, _, _, _, _, _, _, _, _, _ => none
 | k + 1, x3, x5, x6, x7, x8, x9, x10, x11, x741000 => if x11 < (x10.length : Int) then (if x8 = true then (laws_FnPoliciesNeed.l2 k x3 x5 x6 x7 true x9 x10 (wrap64 (x11 + 1)) x741000) else (if 0 ≤ x11 then (if 0 ≤ x7 then (if x7 < (x3.length : Int) then (laws_FnPoliciesNeed.l2 k x3 x5 x6 x7 (((rd_T46 x10 x11).f0) == ((rd_T46 x3 x7).f0) && ((((rd_T46 x10 x11).f1.f0) == ((rd_T46 x3 x7).f1.f0) && (((rd_T46 x10 x11).f1.f1) == ((rd_T46 x3 x7).f1.f1))) && (((rd_T46 x10 x11).f2) == ((rd_T46 x3 x7).f2) && ((((rd_T46 x10 x11).f3.f0) == ((rd_T46 x3 x7).f3.f0) && (((rd_T46 x10 x11).f3.f1) == ((rd_T46 x3 x7).f3.f1))) && ((((rd_T46 x10 x11).f4.f0) == ((rd_T46 x3 x7).f4.f0) && (((rd_T46 x10 x11).f4.f1) == ((rd_T46 x3 x7).f4.f1))) && (((rd_T46 x10 x11).f5) == ((rd_T46 x3 x7).f5) && (((rd_T46 x10 x11).f6) == ((rd_T46 x3 x7).f6)))))))) x9 x10 (wrap64 (x11 + 1)) x741000) else (none)) else (none)) else (none))) else (laws_FnPoliciesNeed.l1 k x3 x5 x6 x7 x8 (wrap64 (x9 + 1)) x741000)
def laws_FnPoliciesNeed.l3 : Nat → List (S46) → List (S27) → List (S46) → Int → List (S71) → Option (Bool)
 | 0, _, _, _, _, _ => none
 | k + 1, x3, x5, x6, x12, x741000 => if x12 < 6 then ((impl_Decides.f k x6 x741000 x12).bind fun t758 => ((impl_Decides.f k x3 x741000 x12).bind fun t759 => (if (t758 != t759) = true then (some false) else ((impl_Decides.f k x3 x741000 x12).bind fun t760 => ((spec_Decides.f k x3 x741000 x12).bind fun t761 => (if (t760 != t761) = true then (some false) else (laws_FnPoliciesNeed.l3 k x3 x5 x6 (wrap64 (x12 + 1)) x741000))))))) else ((impl_Decides.f k x3 ([] : List (S71)) 0).bind fun t757 => (if t757 = true then (some false) else (some (decide ((x5.length : Int) > 0)))))
end
def laws_FnPoliciesNeed.f (k : Nat) (l0 : List Int) : Option (Bool) := (laws_big.f l0).bind fun t733 => (if t733 = true then (some true) else ((spec_DrawWords.f k l0).bind fun t734 => ((spec_DrawPolicy.f k l0 false).bind fun t737 => ((impl_PolicyRoles.f k t737).bind fun t741 => (laws_FnPoliciesNeed.l0 k t734 t741 (([] : List (S46))) 0 t737)))))
def laws_FnPoliciesNeed.T18 : Bool × List (List Nat × List Nat) := (true, [([], []), ([0], [0]), ([1], [1]), ([1], [1]), ([2, 3, 1], [1, 2, 3]), ([4, 1], [1, 4]), ([1], [1]), ([1], [1]), ([6, 7, 1], [1, 6, 7]), ([8, 1], [1, 8]), ([5, 9, 1], [1, 5, 9]), ([1, 10], [1, 10]), ([11, 1, 0, 1, 2, 3, 4, 5, 6, 7, 8, 9, 10, 11], [0, 11])])
def laws_FnPoliciesNeed.B18 : List Nat := [0, 1, 3, 3, 15, 31, 3, 3, 195, 451, 1023, 2047, 4095]
theorem laws_FnPoliciesNeed.tab18 : rtab .any (opsOf Try.f12 18) = laws_FnPoliciesNeed.T18 := by kernel_rfl
theorem laws_FnPoliciesNeed.bits18 : waitsOk laws_FnPoliciesNeed.T18.2 laws_FnPoliciesNeed.B18 = true := by kernel_rfl
def laws_FnPoliciesNeed.T24 : Bool × List (List Nat × List Nat) := (true, [([], []), ([], []), ([], []), ([0, 1, 2], [0, 1, 2]), ([], []), ([], []), ([], []), ([4, 5, 6, 3], [4, 5, 6]), ([3, 7], [3, 7]), ([8, 7], [8]), ([9], [9]), ([9], [9]), ([9], [9]), ([10, 11, 12, 9, 9], [9, 10, 11, 12]), ([9], [9]), ([9], [9]), ([9], [9]), ([14, 15, 16, 13, 9], [9, 14, 15, 16]), ([13, 17, 9], [9, 13, 17]), ([9, 18], [9, 18])])
def laws_FnPoliciesNeed.B24 : List Nat := [0, 0, 0, 7, 0, 0, 0, 127, 255, 511, 1023, 1023, 1023, 8191, 1023, 1023, 1023, 131071, 262143, 524287]
theorem laws_FnPoliciesNeed.tab24 : rtab .any (opsOf Try.f12 24) = laws_FnPoliciesNeed.T24 := by kernel_rfl
theorem laws_FnPoliciesNeed.bits24 : waitsOk laws_FnPoliciesNeed.T24.2 laws_FnPoliciesNeed.B24 = true := by kernel_rfl
set_option maxHeartbeats 8000000 in
set_option maxRecDepth 100000 in
theorem laws_FnPoliciesNeed.calls (k : Nat) (A0 : Option Addr) (c0 : Nat) (l0 : List Int) (r : Bool) (w : World) (hr0 : Kd.C (Kd.int .u8) w A0 l0.length l0) (hc0 : l0.length ≤ c0) (h : laws_FnPoliciesNeed.f k l0 = some r) :
  Calls Try.prog 12 #[.slice A0 l0.length c0] w fun e w' => e = .returned (.bool r) ∧ Below w.heap.size w w' := by
 have hu68 := Try.underlying68
 have hu27 := Try.underlying27
 have hu46 := Try.underlying46
 have HR0 := Aside0.mk hr0
 have HC0 := Aside0.mk hc0
 clear hr0 hc0
 have HB := Aside0.mk (Below.refl w.heap.size w)
 have H : ((laws_big.f l0).bind fun t733 => (if t733 = true then (some true) else ((spec_DrawWords.f k l0).bind fun t734 => ((spec_DrawPolicy.f k l0 false).bind fun t737 => ((impl_PolicyRoles.f k t737).bind fun t741 => (laws_FnPoliciesNeed.l0 k t734 t741 (([] : List (S46))) 0 t737)))))) = some r := h
 clear h
 obtain ⟨t733, A2, H⟩ := bindE_ H
 by_cases c3 : t733 = true
 ·subst c3
  replace H := ite_t_ H
  obtain rfl := Option.some.inj H
  go_enter Try.func12, Try.ntmps12
  go_wp2_with (first | ((with_reducible refine gate_callee (f := 14) rfl ?_); refine goesC_ (some 14) Try.func14 #[.slice A0 l0.length c0] ?_; (with_reducible refine (laws_big.calls _ _ l0 true _ ?side1 ?side2 A2.out).mono ?_); (case side1 => repeat (first | exact HR0.out | (with_reducible refine Kd.C_alloc ?_ _) | (with_reducible refine Kd.C_drewN ?_ _) | (with_reducible refine Kd.C_drew ?_))); (case side2 => exact HC0.out); rintro e w' ⟨rfl, ⟨nd, rfl⟩⟩; refine ⟨_, rfl, ?_⟩))
  go_ret
  exact ⟨eq_, bl_⟩
 ·replace c3 := Bool.eq_false_iff.mpr c3
  subst c3
  replace H := ite_f_ H
  obtain ⟨t734, A4, H⟩ := bindE_ H
  obtain ⟨t737, A5, H⟩ := bindE_ H
  obtain ⟨t741, A6, H⟩ := bindE_ H
  obtain ⟨y744, hy744⟩ : ∃ y_ : List (S46), y_ = (([] : List (S46))) := ⟨_, rfl⟩
  replace H : (laws_FnPoliciesNeed.l0 k t734 t741 y744 0 t737) = some r := by first | (rw [hy744]; with_reducible exact H) | (have H2_ := (Option.bind_some _ _).symm.trans H; rw [hy744]; with_reducible exact H2_) | (have H2_ := (Option.bind_some _ _).symm.trans H; with_reducible exact H2_) | with_reducible exact H | (rw [hy744]; exact H) | exact H
  have Ny744 := Aside0.mk hy744
  clear hy744
  have H' := Aside0.mk H
  clear H
  go_enter Try.func12, Try.ntmps12
  go_wp2_with (first | ((with_reducible refine gate_callee (f := 14) rfl ?_); refine goesC_ (some 14) Try.func14 #[.slice A0 l0.length c0] ?_; (with_reducible refine (laws_big.calls _ _ l0 false _ ?side1 ?side2 A2.out).mono ?_); (case side1 => repeat (first | exact HR0.out | (with_reducible refine Kd.C_alloc ?_ _) | (with_reducible refine Kd.C_drewN ?_ _) | (with_reducible refine Kd.C_drew ?_))); (case side2 => exact HC0.out); rintro e w' ⟨rfl, ⟨nd, rfl⟩⟩; refine ⟨_, rfl, ?_⟩) | ((with_reducible refine gate_callee (f := 15) rfl ?_); refine goesC_ (some 16) Try.func15 #[.slice A0 l0.length c0] ?_; (with_reducible refine (spec_DrawWords.calls k _ _ l0 t734 _ ?side1 ?side2 A4.out).mono ?_); (case side1 => repeat (first | exact HR0.out | (with_reducible refine Kd.C_alloc ?_ _) | (with_reducible refine Kd.C_drewN ?_ _) | (with_reducible refine Kd.C_drew ?_))); (case side2 => exact HC0.out); rintro e w7 ⟨v735, rfl, ho0, hb⟩; refine ⟨_, rfl, ?_⟩; have HO736 := Aside0.mk (Kd.R_lower ho0 bls_); replace HB := hbs_ hb; (try clear hb); (try clear hb2); (try clear hk); (try clear hi); (try clear ho0)) | ((with_reducible refine gate_callee (f := 43) rfl ?_); refine goesC_ (some 18) Try.func43 #[.slice A0 l0.length c0, .bool false] ?_; (with_reducible refine (spec_DrawPolicy.calls k _ _ l0 false t737 _ ?side1 ?side2 A5.out).mono ?_); (case side1 => repeat (first | exact (Kd.C_below HR0.out HB.out) | (with_reducible refine Kd.C_alloc ?_ _) | (with_reducible refine Kd.C_drewN ?_ _) | (with_reducible refine Kd.C_drew ?_))); (case side2 => exact HC0.out); rintro e w8 ⟨v738, rfl, ho0, hb⟩; refine ⟨_, rfl, ?_⟩; replace HO736 := hob_ HO736 hb; have HO739 := Aside0.mk (Kd.R_lower ho0 bls_); replace HB := hbs_ hb; (try clear hb); (try clear hb2); (try clear hk); (try clear hi); (try clear ho0)) | ((with_reducible refine gate_dst (N := 4) rfl ?_); (try (refine gate_guard (by rfl) ?_; dsimp only)); refine box_event ?hg (N := 4) ?hd (cs := #[.slice none 0 0]) (t := 68) ?hr ?_; (case hd => rfl); (case hg => rfl); (case hr => first | (go_simp; done) | (go_simp; rfl)); intro gb740 hg w9 hbox hb; replace HO736 := hob_ HO736 hb; replace HO739 := hob_ HO739 hb; have BK740 := Aside0.mk (hbox); have GW740 := gs_ hg; have GE740 := gs_ hg; replace HB := hbs_ hb; clear hb hbox hg; obtain ⟨Ao10, co10, eo10⟩ := Kd.R_slice HO739.out; subst eo10; have hcz11 := blk_cell BK740.out; have hfz11 := blk_frozen BK740.out) | ((with_reducible refine gate_callee (f := 46) rfl ?_); refine goesC_ (some 20) Try.func46 #[.agg #[.slice Ao10 t737.length co10]] ?_; (with_reducible refine (impl_PolicyRoles.calls k _ _ t737 t741 _ ?side1 ?side2 A6.out).mono ?_); (case side1 => refine (Kd.R_reads' (e := 71) (base := w.heap.size) (ok := fun k_ => True) (n := t737.length) (c := co10) ?_).2.2; exact (by (with_reducible repeat (first | apply Kd.R_alloc | apply Kd.R_drewN | apply Kd.R_drew)); exact (Kd.R_mono (Kd.R_far (p := ⟨gb740, 0, none⟩) (Kd.R_types HO739.out BK740.out (by decide)) (fun _ hk => hk.2) (.slice Ao10 t737.length co10)) (fun _ h_ => h_.1)))); (case side2 => exact (Kd.R_reads' HO739.out).2.1); rintro e w12 ⟨v742, rfl, ho0, hb⟩; refine ⟨_, rfl, ?_⟩; replace HO736 := Aside0.mk (Kd.R_below (by (with_reducible repeat (first | apply Kd.R_alloc | apply Kd.R_drewN | apply Kd.R_drew)); exact (Kd.R_mono (Kd.R_far (p := ⟨gb740, 0, none⟩) (Kd.R_types HO736.out BK740.out (by decide)) (fun _ hk => hk.2) (.slice Ao10 t737.length co10)) (fun _ h_ => h_.1))) hb); replace HO739 := Aside0.mk (Kd.R_below (by (with_reducible repeat (first | apply Kd.R_alloc | apply Kd.R_drewN | apply Kd.R_drew)); exact (Kd.R_mono (Kd.R_far (p := ⟨gb740, 0, none⟩) (Kd.R_types HO739.out BK740.out (by decide)) (fun _ hk => hk.2) (.slice Ao10 t737.length co10)) (fun _ h_ => h_.1))) hb); have HO743 := Aside0.mk (Kd.R_lower ho0 bls_); replace BK740 := Aside0.mk (blk_below (g := gb740) (o := .cells #[.slice Ao10 t737.length co10] 68 (0, 0)) (bk_ BK740) hb); replace HB := hbs_ hb; (try clear hb); (try clear hb2); (try clear hk); (try clear hi); (try clear ho0)) | ((with_reducible refine gate_dst (N := 21) rfl ?_); (try (refine gate_guard (by rfl) ?_; dsimp only)); refine Kd.R_lit k46 _ 46 ?hg (N := 21) ?hd (xs := ([] : List (S46))) (inner := []) (ok := fun _ => True) (okp := fun _ => True) ?hr ?hp (fun _ hk => hk) trivial (Below.refl _ _) (Nat.le_refl _) (by simp) ?_; (case hd => rfl); (case hg => rfl); (case hr => first | (go_simp; done) | (go_simp; rfl)); (case hp => exact (Reps.none _ _)); intro v745 w13 ho14 hb hg_ hnew_; clear hg_ hnew_; (first | rw [← Ny744.out] at ho14 | (simp only [Int.reduceToNat] at ho14; rw [← Ny744.out] at ho14)); replace HO739 := hob_ HO739 hb; replace HO743 := hob_ HO743 hb; have HO746 := Aside0.mk (Kd.R_lower (Kd.R_new' ho14 (Kd.R_lt (by (with_reducible repeat (first | apply Kd.R_alloc | apply Kd.R_drewN | apply Kd.R_drew)); exact HO736.out))) bls_); replace HO736 := Aside0.mk (Kd.R_elder' (by (with_reducible repeat (first | apply Kd.R_alloc | apply Kd.R_drewN | apply Kd.R_drew)); exact HO736.out) (Kd.R_base ho14) hb); replace BK740 := bkb_ BK740 hb; replace HB := hbs_ hb; clear hb ho14))
  go_loopg [6, 7] k (fun kq v6 v7 w' => ∃ (x6_1 : List (S46)) (x7_1 : Int), v7 = .int .i64 x7_1 ∧ Aside0 (laws_FnPoliciesNeed.l0 kq t734 t741 x6_1 x7_1 t737 = some r) ∧ Aside0 (kq ≤ k) ∧ Aside0 (Kd.R k46 46 w' w.heap.size (fun k_ => some k_ ≠ (v6 : Value).ownBlock) v735 t734) ∧ Aside0 (Kd.R k27 27 w' w.heap.size (fun _ => True) v742 t741) ∧ Aside0 (Kd.R k46 46 w' w.heap.size (fun k_ => some k_ ≠ (v735 : Value).ownBlock) v6 x6_1) ∧ Aside0 (Kd.R k71 71 w' w.heap.size (fun _ => True) (.slice Ao10 t737.length co10) t737) ∧ Aside0 (w'.heap[gb740]? = some (.cells #[(.slice Ao10 t737.length co10)] 68 (0, 0))) ∧ Aside0 (Below w.heap.size w w'))
  case atStart => exact ⟨(y744), (0), rf_, H', ⟨Nat.le_refl _⟩, ⟨by (with_reducible repeat (first | apply Kd.R_alloc | apply Kd.R_drewN | apply Kd.R_drew)); exact Kd.R_mono HO736.out (fun _ hk => hk.2)⟩, ⟨by (with_reducible repeat (first | apply Kd.R_alloc | apply Kd.R_drewN | apply Kd.R_drew)); exact HO743.out⟩, ⟨by (with_reducible repeat (first | apply Kd.R_alloc | apply Kd.R_drewN | apply Kd.R_drew)); exact Kd.R_mono HO746.out (fun _ hk => hk.2)⟩, ⟨by (with_reducible repeat (first | apply Kd.R_alloc | apply Kd.R_drewN | apply Kd.R_drew)); exact HO739.out⟩, ⟨bk_ BK740⟩, ⟨bl_⟩⟩
  case round =>
   clear H'
   try clear c1
   try clear p2
   try clear c3
   try clear c4
   try clear c12
   try clear c14
   try clear hcz11
   try clear hfz11
   obtain ⟨x6_1, x7_1, rfl, HA, HK1, HO_3, HO_5, HO_6, HO_741000, BK740, HB⟩ := hrel
   cases gk with
   | zero => exact absurd HA.out (by simp [laws_FnPoliciesNeed.l0])
   | succ k1 =>
    have H := HA.out
    clear HA
    simp only [laws_FnPoliciesNeed.l0] at H
    by_cases c15 : x7_1 < (t734.length : Int)
    ·rw [if_pos c15] at H
     have c15b0 : decide (x7_1 < (t734.length : Int)) = true := decide_eq_true c15
     clear c15
     have H' := Aside0.mk H
     clear H
     obtain ⟨Ao16, co16, eo16⟩ := Kd.R_slice HO_3.out
     subst eo16
     go_wp2
     go_loopg [8, 9] k1 (fun kq v8 v9 w' => ∃ (x8_2 : Bool) (x9_2 : Int), v8 = .bool x8_2 ∧ v9 = .int .i64 x9_2 ∧ Aside0 (laws_FnPoliciesNeed.l1 kq t734 t741 x6_1 x7_1 x8_2 x9_2 t737 = some r) ∧ Aside0 (kq ≤ k1) ∧ Aside0 (Kd.R k46 46 w' w.heap.size (fun k_ => some k_ ≠ (u6 : Value).ownBlock) (.slice Ao16 t734.length co16) t734) ∧ Aside0 (Kd.R k27 27 w' w.heap.size (fun _ => True) v742 t741) ∧ Aside0 (Kd.R k46 46 w' w.heap.size (fun k_ => some k_ ≠ ((.slice Ao16 t734.length co16) : Value).ownBlock) u6 x6_1) ∧ Aside0 (Kd.R k71 71 w' w.heap.size (fun _ => True) (.slice Ao10 t737.length co10) t737) ∧ Aside0 (w'.heap[gb740]? = some (.cells #[(.slice Ao10 t737.length co10)] 68 (0, 0))) ∧ Aside0 (Below w.heap.size w w'))
     case atStart => exact ⟨(false), (0), rf_, rf_, H', ⟨Nat.le_refl _⟩, ⟨by (with_reducible repeat (first | apply Kd.R_alloc | apply Kd.R_drewN | apply Kd.R_drew)); exact HO_3.out⟩, ⟨by (with_reducible repeat (first | apply Kd.R_alloc | apply Kd.R_drewN | apply Kd.R_drew)); exact HO_5.out⟩, ⟨by (with_reducible repeat (first | apply Kd.R_alloc | apply Kd.R_drewN | apply Kd.R_drew)); exact HO_6.out⟩, ⟨by (with_reducible repeat (first | apply Kd.R_alloc | apply Kd.R_drewN | apply Kd.R_drew)); exact HO_741000.out⟩, ⟨bk_ BK740⟩, ⟨bl_⟩⟩
     case round =>
      clear H'
      try clear c1
      try clear p2
      try clear c3
      try clear c4
      try clear c12
      try clear c14
      try clear c15
      try clear c15b0
      try clear hcz11
      try clear hfz11
      try clear p2
      obtain ⟨x8_2, x9_2, rfl, rfl, HA, HK2, HO_3, HO_5, HO_6, HO_741000, BK740, HB⟩ := hrel
      cases gk with
      | zero => exact absurd HA.out (by simp [laws_FnPoliciesNeed.l1])
      | succ k2 =>
       have H := HA.out
       clear HA
       simp only [laws_FnPoliciesNeed.l1] at H
       by_cases c17 : x9_2 < (t741.length : Int)
       ·rw [if_pos c17] at H
        have c17b0 : decide (x9_2 < (t741.length : Int)) = true := decide_eq_true c17
        clear c17
        obtain ⟨c18b0, H⟩ := ifd_ H
        obtain ⟨t752, A19, H⟩ := bindE_ H
        have H' := Aside0.mk H
        clear H
        obtain ⟨Ao20, co20, eo20⟩ := Kd.R_slice HO_5.out
        subst eo20
        have p751 : 0 ≤ (x9_2 : Int) := od_
        have q751 : x9_2 < (t741.length : Int) := od_
        obtain ⟨ad751, e751, hx751_0, hx751_1⟩ := at_T27 (Kd.R_reads' HO_5.out).2.2 x9_2 p751 q751
        cases e751
        replace p751 := eq_true p751
        replace q751 := eq_true q751
        go_wp2_with (first | ((with_reducible refine gate_callee (f := 67) rfl ?_); refine goesC_ (some 39) Try.func67 #[.slice Ao16 t734.length co16, .agg #[.int .i64 ((rd_T27 t741 x9_2).f0), .int .i64 ((rd_T27 t741 x9_2).f1)]] ?_; (with_reducible refine (spec_NeededFor.calls k2 _ _ t734 ((rd_T27 t741 x9_2).f0) ((rd_T27 t741 x9_2).f1) t752 _ ?side1 ?side2 A19.out).mono ?_); (case side1 => repeat (first | exact (Kd.R_reads' HO_3.out).2.2 | (with_reducible refine Kd.C_alloc ?_ _) | (with_reducible refine Kd.C_drewN ?_ _) | (with_reducible refine Kd.C_drew ?_))); (case side2 => exact (Kd.R_reads' HO_3.out).2.1); rintro e w21 ⟨v753, rfl, ho0, hb⟩; refine ⟨_, rfl, ?_⟩; replace HO_5 := hob_ HO_5 hb; replace HO_741000 := hob_ HO_741000 hb; have HO754 := Aside0.mk (Kd.R_lower (Kd.R_new' (Kd.R_new' ho0 (Kd.R_lt (by (with_reducible repeat (first | apply Kd.R_alloc | apply Kd.R_drewN | apply Kd.R_drew)); exact HO_3.out))) (Kd.R_lt (by (with_reducible repeat (first | apply Kd.R_alloc | apply Kd.R_drewN | apply Kd.R_drew)); exact HO_6.out))) bls_); replace HO_3 := Aside0.mk (Kd.R_elder' (by (with_reducible repeat (first | apply Kd.R_alloc | apply Kd.R_drewN | apply Kd.R_drew)); exact HO_3.out) (Kd.R_base ho0) hb); replace HO_6 := Aside0.mk (Kd.R_elder' (by (with_reducible repeat (first | apply Kd.R_alloc | apply Kd.R_drewN | apply Kd.R_drew)); exact HO_6.out) (Kd.R_base ho0) hb); replace BK740 := bkb_ BK740 hb; replace HB := hbs_ hb; (try clear hb); (try clear hb2); (try clear hk); (try clear hi); (try clear ho0)))
        go_loopg [8, 11] k2 (fun kq v8 v11 w' => ∃ (x8_3 : Bool) (x11_3 : Int), v8 = .bool x8_3 ∧ v11 = .int .i64 x11_3 ∧ Aside0 (laws_FnPoliciesNeed.l2 kq t734 t741 x6_1 x7_1 x8_3 x9_2 t752 x11_3 t737 = some r) ∧ Aside0 (kq ≤ k2) ∧ Aside0 (Kd.R k46 46 w' w.heap.size (fun k_ => some k_ ≠ (u6 : Value).ownBlock ∧ some k_ ≠ (v753 : Value).ownBlock) (.slice Ao16 t734.length co16) t734) ∧ Aside0 (Kd.R k27 27 w' w.heap.size (fun _ => True) (.slice (some ad751) t741.length co20) t741) ∧ Aside0 (Kd.R k46 46 w' w.heap.size (fun k_ => some k_ ≠ ((.slice Ao16 t734.length co16) : Value).ownBlock ∧ some k_ ≠ (v753 : Value).ownBlock) u6 x6_1) ∧ Aside0 (Kd.R k46 46 w' w.heap.size (fun k_ => some k_ ≠ ((.slice Ao16 t734.length co16) : Value).ownBlock ∧ some k_ ≠ (u6 : Value).ownBlock) v753 t752) ∧ Aside0 (Kd.R k71 71 w' w.heap.size (fun _ => True) (.slice Ao10 t737.length co10) t737) ∧ Aside0 (w'.heap[gb740]? = some (.cells #[(.slice Ao10 t737.length co10)] 68 (0, 0))) ∧ Aside0 (Below w.heap.size w w'))
        case atStart => exact ⟨(x8_2), (0), rf_, rf_, H', ⟨Nat.le_refl _⟩, ⟨by (with_reducible repeat (first | apply Kd.R_alloc | apply Kd.R_drewN | apply Kd.R_drew)); exact HO_3.out⟩, ⟨by (with_reducible repeat (first | apply Kd.R_alloc | apply Kd.R_drewN | apply Kd.R_drew)); exact HO_5.out⟩, ⟨by (with_reducible repeat (first | apply Kd.R_alloc | apply Kd.R_drewN | apply Kd.R_drew)); exact HO_6.out⟩, ⟨by (with_reducible repeat (first | apply Kd.R_alloc | apply Kd.R_drewN | apply Kd.R_drew)); exact Kd.R_mono HO754.out (fun _ hk => ⟨hk.1.2, hk.2⟩)⟩, ⟨by (with_reducible repeat (first | apply Kd.R_alloc | apply Kd.R_drewN | apply Kd.R_drew)); exact HO_741000.out⟩, ⟨bk_ BK740⟩, ⟨bl_⟩⟩
        case round =>
         clear H'
         try clear c1
         try clear p2
         try clear c3
         try clear c4
         try clear c6
         try clear p7
         try clear q7
         try clear hx7
         try clear c12
         try clear c14
         try clear c15
         try clear c15b0
         try clear c17
         try clear c17b0
         try clear c18
         try clear c18b0
         try clear hcz11
         try clear hfz11
         try clear hx751_0
         try clear hx751_1
         try clear p2
         try clear p751
         try clear q751
         obtain ⟨x8_3, x11_3, rfl, rfl, HA, HK3, HO_3, HO_5, HO_6, HO_10, HO_741000, BK740, HB⟩ := hrel
         cases gk with
         | zero => exact absurd HA.out (by simp [laws_FnPoliciesNeed.l2])
         | succ k3 =>
          have H := HA.out
          clear HA
          simp only [laws_FnPoliciesNeed.l2] at H
          by_cases c22 : x11_3 < (t752.length : Int)
          ·rw [if_pos c22] at H
           have c22b0 : decide (x11_3 < (t752.length : Int)) = true := decide_eq_true c22
           clear c22
           by_cases c23 : x8_3 = true
           ·subst c23
            replace H := ite_t_ H
            have H' := Aside0.mk H
            clear H
            obtain ⟨Ao24, co24, eo24⟩ := Kd.R_slice HO_10.out
            subst eo24
            try go_wp2
            replace HO_3 := Aside0.mk (Kd.R_drew HO_3.out)
            replace HO_5 := Aside0.mk (Kd.R_drew HO_5.out)
            replace HO_6 := Aside0.mk (Kd.R_drew HO_6.out)
            replace HO_10 := Aside0.mk (Kd.R_drew HO_10.out)
            replace HO_741000 := Aside0.mk (Kd.R_drew HO_741000.out)
            replace BK740 := Aside0.mk (blk_drew BK740.out)
            replace HB := Aside0.mk (below_drew1 HB.out)
            refine start_ (n := 13) (S := fun w' => True) (ds := []) #[false, false, false, false, false, false, false, false, false, false, false, false, false] (by kernel_rfl) rfl rfl trivial (fun hHeld => ?_); refine with_tabW laws_FnPoliciesNeed.tab18 laws_FnPoliciesNeed.bits18 (fun HT_ HW_ => ?_)
            generalize wr.drew = w25 at HO_3 HO_5 HO_6 HO_10 HO_741000 BK740 HB hHeld ⊢
            refine pureZ_ (i := 0) (some 46) #[true, false, false, false, false, false, false, false, false, false, false, false, false] (any_of HT_.out (by kernel_rfl)) ?_
            refine pureZ_ (i := 1) (some 47) #[true, true, false, false, false, false, false, false, false, false, false, false, false] (any_of HT_.out (by kernel_rfl)) ?_
            refine pure_ (i := 2) (N := some 48) (v := undef) (a' := ?_) #[true, true, true, false, false, false, false, false, false, false, false, false, false] rfl rfl (any_of HT_.out (by kernel_rfl)) (fun _ _ _ h => h) (Or.inr ⟨by rfl, rfl⟩) ?_ ?_
            rotate_left
            ·simp only [Act.put, List.setIfInBounds_toArray, List.set_cons_zero, List.set_cons_succ, i64_w, i32_w]
             rfl
            refine pure_ (i := 3) (N := some 49) (v := undef) (a' := ?_) #[true, true, true, true, false, false, false, false, false, false, false, false, false] rfl rfl (any_of HT_.out (by kernel_rfl)) (fun _ _ _ h => h) (Or.inr ⟨by rfl, rfl⟩) ?_ ?_
            rotate_left
            ·simp only [Act.put, List.setIfInBounds_toArray, List.set_cons_zero, List.set_cons_succ, i64_w, i32_w]
             rfl
            refine pure_ (i := 4) (N := some 50) (v := undef) (a' := ?_) #[true, true, true, true, true, false, false, false, false, false, false, false, false] rfl rfl (any_of HT_.out (by kernel_rfl)) (fun _ _ _ h => h) (Or.inr ⟨by rfl, rfl⟩) ?_ ?_
            rotate_left
            ·simp only [Act.put, List.setIfInBounds_toArray, List.set_cons_zero, List.set_cons_succ, i64_w, i32_w]
             rfl
            refine pure_ (i := 5) (N := some 51) (v := undef) (a' := ?_) #[true, true, true, true, true, true, false, false, false, false, false, false, false] rfl rfl (any_of HT_.out (by kernel_rfl)) (fun _ _ _ h => h) (Or.inr ⟨by rfl, rfl⟩) ?_ ?_
            rotate_left
            ·simp only [Act.put, List.setIfInBounds_toArray, List.set_cons_zero, List.set_cons_succ, i64_w, i32_w]
             rfl
            refine pure_ (i := 6) (N := some 52) (v := undef) (a' := ?_) #[true, true, true, true, true, true, true, false, false, false, false, false, false] rfl rfl (any_of HT_.out (by kernel_rfl)) (fun _ _ _ h => h) (Or.inr ⟨by rfl, rfl⟩) ?_ ?_
            rotate_left
            ·simp only [Act.put, List.setIfInBounds_toArray, List.set_cons_zero, List.set_cons_succ, i64_w, i32_w]
             rfl
            refine pure_ (i := 7) (N := some 53) (v := undef) (a' := ?_) #[true, true, true, true, true, true, true, true, false, false, false, false, false] rfl rfl (any_of HT_.out (by kernel_rfl)) (fun _ _ _ h => h) (Or.inr ⟨by rfl, rfl⟩) ?_ ?_
            rotate_left
            ·simp only [Act.put, List.setIfInBounds_toArray, List.set_cons_zero, List.set_cons_succ, i64_w, i32_w]
             rfl
            refine pure_ (i := 8) (N := some 54) (v := undef) (a' := ?_) #[true, true, true, true, true, true, true, true, true, false, false, false, false] rfl rfl (any_of HT_.out (by kernel_rfl)) (fun _ _ _ h => h) (Or.inr ⟨by rfl, rfl⟩) ?_ ?_
            rotate_left
            ·simp only [Act.put, List.setIfInBounds_toArray, List.set_cons_zero, List.set_cons_succ, i64_w, i32_w]
             rfl
            refine pure_ (i := 9) (N := some 55) (v := undef) (a' := ?_) #[true, true, true, true, true, true, true, true, true, true, false, false, false] rfl rfl (any_of HT_.out (by kernel_rfl)) (fun _ _ _ h => h) (Or.inr ⟨by rfl, rfl⟩) ?_ ?_
            rotate_left
            ·simp only [Act.put, List.setIfInBounds_toArray, List.set_cons_zero, List.set_cons_succ, i64_w, i32_w]
             rfl
            refine pure_ (i := 10) (N := some 56) (v := undef) (a' := ?_) #[true, true, true, true, true, true, true, true, true, true, true, false, false] rfl rfl (any_of HT_.out (by kernel_rfl)) (fun _ _ _ h => h) (Or.inr ⟨by rfl, rfl⟩) ?_ ?_
            rotate_left
            ·simp only [Act.put, List.setIfInBounds_toArray, List.set_cons_zero, List.set_cons_succ, i64_w, i32_w]
             rfl
            refine pureZ_ (i := 11) (some 57) #[true, true, true, true, true, true, true, true, true, true, true, true, false] (any_of HT_.out (by kernel_rfl)) ?_
            refine pureZ_ (i := 12) (some 8) #[true, true, true, true, true, true, true, true, true, true, true, true, true] (any_of HT_.out (by kernel_rfl)) ?_
            refine done_ (done_of HT_.out (by kernel_rfl)) ?_
            try go_wp2
            go_roundg k3
            case measure => have := HK1.out; have := HK2.out; have := HK3.out; omega
            case rel => exact ⟨(true), (wrap64 (x11_3 + 1)), rf_, rf_, H', ⟨by have := HK1.out; have := HK2.out; have := HK3.out; omega⟩, ⟨by (with_reducible repeat (first | apply Kd.R_alloc | apply Kd.R_drewN | apply Kd.R_drew)); exact HO_3.out⟩, ⟨by (with_reducible repeat (first | apply Kd.R_alloc | apply Kd.R_drewN | apply Kd.R_drew)); exact HO_5.out⟩, ⟨by (with_reducible repeat (first | apply Kd.R_alloc | apply Kd.R_drewN | apply Kd.R_drew)); exact HO_6.out⟩, ⟨by (with_reducible repeat (first | apply Kd.R_alloc | apply Kd.R_drewN | apply Kd.R_drew)); exact HO_10.out⟩, ⟨by (with_reducible repeat (first | apply Kd.R_alloc | apply Kd.R_drewN | apply Kd.R_drew)); exact HO_741000.out⟩, ⟨bk_ BK740⟩, ⟨bl_⟩⟩
           ·replace c23 := Bool.eq_false_iff.mpr c23
            subst c23
            replace H := ite_f_ H
            obtain ⟨c26b0, H⟩ := ifd_ H
            obtain ⟨c27b0, H⟩ := ifd_ H
            obtain ⟨c28b0, H⟩ := ifd_ H
            have H' := Aside0.mk H
            clear H
            obtain ⟨Ao29, co29, eo29⟩ := Kd.R_slice HO_10.out
            subst eo29
            try go_wp2
            replace HO_3 := Aside0.mk (Kd.R_drew HO_3.out)
            replace HO_5 := Aside0.mk (Kd.R_drew HO_5.out)
            replace HO_6 := Aside0.mk (Kd.R_drew HO_6.out)
            replace HO_10 := Aside0.mk (Kd.R_drew HO_10.out)
            replace HO_741000 := Aside0.mk (Kd.R_drew HO_741000.out)
            replace BK740 := Aside0.mk (blk_drew BK740.out)
            replace HB := Aside0.mk (below_drew1 HB.out)
            have p755 : 0 ≤ (x11_3 : Int) := od_
            have q755 : x11_3 < (t752.length : Int) := od_
            obtain ⟨ad755, e755, hx755_0, hx755_1, hx755_2, hx755_3, hx755_4, hx755_5, hx755_6, hx755_7, hx755_8, hx755_9⟩ := at_T46 (Kd.R_reads' HO_10.out).2.2 x11_3 p755 q755
            cases e755
            replace p755 := eq_true p755
            replace q755 := eq_true q755
            have p756 : 0 ≤ (x7_1 : Int) := od_
            have q756 : x7_1 < (t734.length : Int) := od_
            obtain ⟨ad756, e756, hx756_0, hx756_1, hx756_2, hx756_3, hx756_4, hx756_5, hx756_6, hx756_7, hx756_8, hx756_9⟩ := at_T46 (Kd.R_reads' HO_3.out).2.2 x7_1 p756 q756
            cases e756
            replace p756 := eq_true p756
            replace q756 := eq_true q756
            refine start_ (n := 13) (S := fun w' => w'.cell? (ad755.add ((x11_3).toNat * 10)) = some (.int .i64 ((rd_T46 t752 x11_3).f0)) ∧ w'.cell? ⟨(ad755.add ((x11_3).toNat * 10)).block, (ad755.add ((x11_3).toNat * 10)).off + 1, none⟩ = some (.int .i64 ((rd_T46 t752 x11_3).f1.f0)) ∧ w'.cell? ⟨(ad755.add ((x11_3).toNat * 10)).block, (ad755.add ((x11_3).toNat * 10)).off + 2, none⟩ = some (.int .i64 ((rd_T46 t752 x11_3).f1.f1)) ∧ w'.cell? ⟨(ad755.add ((x11_3).toNat * 10)).block, (ad755.add ((x11_3).toNat * 10)).off + 3, none⟩ = some (.int .i64 ((rd_T46 t752 x11_3).f2)) ∧ w'.cell? ⟨(ad755.add ((x11_3).toNat * 10)).block, (ad755.add ((x11_3).toNat * 10)).off + 4, none⟩ = some (.int .i64 ((rd_T46 t752 x11_3).f3.f0)) ∧ w'.cell? ⟨(ad755.add ((x11_3).toNat * 10)).block, (ad755.add ((x11_3).toNat * 10)).off + 5, none⟩ = some (.int .i64 ((rd_T46 t752 x11_3).f3.f1)) ∧ w'.cell? ⟨(ad755.add ((x11_3).toNat * 10)).block, (ad755.add ((x11_3).toNat * 10)).off + 6, none⟩ = some (.int .i64 ((rd_T46 t752 x11_3).f4.f0)) ∧ w'.cell? ⟨(ad755.add ((x11_3).toNat * 10)).block, (ad755.add ((x11_3).toNat * 10)).off + 7, none⟩ = some (.int .i64 ((rd_T46 t752 x11_3).f4.f1)) ∧ w'.cell? ⟨(ad755.add ((x11_3).toNat * 10)).block, (ad755.add ((x11_3).toNat * 10)).off + 8, none⟩ = some (.int .i64 ((rd_T46 t752 x11_3).f5)) ∧ w'.cell? ⟨(ad755.add ((x11_3).toNat * 10)).block, (ad755.add ((x11_3).toNat * 10)).off + 9, none⟩ = some (.int .i64 ((rd_T46 t752 x11_3).f6)) ∧ w'.cell? (ad756.add ((x7_1).toNat * 10)) = some (.int .i64 ((rd_T46 t734 x7_1).f0)) ∧ w'.cell? ⟨(ad756.add ((x7_1).toNat * 10)).block, (ad756.add ((x7_1).toNat * 10)).off + 1, none⟩ = some (.int .i64 ((rd_T46 t734 x7_1).f1.f0)) ∧ w'.cell? ⟨(ad756.add ((x7_1).toNat * 10)).block, (ad756.add ((x7_1).toNat * 10)).off + 2, none⟩ = some (.int .i64 ((rd_T46 t734 x7_1).f1.f1)) ∧ w'.cell? ⟨(ad756.add ((x7_1).toNat * 10)).block, (ad756.add ((x7_1).toNat * 10)).off + 3, none⟩ = some (.int .i64 ((rd_T46 t734 x7_1).f2)) ∧ w'.cell? ⟨(ad756.add ((x7_1).toNat * 10)).block, (ad756.add ((x7_1).toNat * 10)).off + 4, none⟩ = some (.int .i64 ((rd_T46 t734 x7_1).f3.f0)) ∧ w'.cell? ⟨(ad756.add ((x7_1).toNat * 10)).block, (ad756.add ((x7_1).toNat * 10)).off + 5, none⟩ = some (.int .i64 ((rd_T46 t734 x7_1).f3.f1)) ∧ w'.cell? ⟨(ad756.add ((x7_1).toNat * 10)).block, (ad756.add ((x7_1).toNat * 10)).off + 6, none⟩ = some (.int .i64 ((rd_T46 t734 x7_1).f4.f0)) ∧ w'.cell? ⟨(ad756.add ((x7_1).toNat * 10)).block, (ad756.add ((x7_1).toNat * 10)).off + 7, none⟩ = some (.int .i64 ((rd_T46 t734 x7_1).f4.f1)) ∧ w'.cell? ⟨(ad756.add ((x7_1).toNat * 10)).block, (ad756.add ((x7_1).toNat * 10)).off + 8, none⟩ = some (.int .i64 ((rd_T46 t734 x7_1).f5)) ∧ w'.cell? ⟨(ad756.add ((x7_1).toNat * 10)).block, (ad756.add ((x7_1).toNat * 10)).off + 9, none⟩ = some (.int .i64 ((rd_T46 t734 x7_1).f6))) (ds := []) #[false, false, false, false, false, false, false, false, false, false, false, false, false] (by kernel_rfl) rfl rfl ⟨hx755_0, hx755_1, hx755_2, hx755_3, hx755_4, hx755_5, hx755_6, hx755_7, hx755_8, hx755_9, hx756_0, hx756_1, hx756_2, hx756_3, hx756_4, hx756_5, hx756_6, hx756_7, hx756_8, hx756_9⟩ (fun hHeld => ?_); refine with_tabW laws_FnPoliciesNeed.tab18 laws_FnPoliciesNeed.bits18 (fun HT_ HW_ => ?_)
            generalize wr.drew = w30 at HO_3 HO_5 HO_6 HO_10 HO_741000 BK740 HB hx755_0 hx755_1 hx755_2 hx755_3 hx755_4 hx755_5 hx755_6 hx755_7 hx755_8 hx755_9 hx756_0 hx756_1 hx756_2 hx756_3 hx756_4 hx756_5 hx756_6 hx756_7 hx756_8 hx756_9 hHeld ⊢
            refine pureZ_ (i := 0) (some 46) #[true, false, false, false, false, false, false, false, false, false, false, false, false] (any_of HT_.out (by kernel_rfl)) ?_
            refine pureZ_ (i := 1) (some 47) #[true, true, false, false, false, false, false, false, false, false, false, false, false] (any_of HT_.out (by kernel_rfl)) ?_
            refine pureZ_ (i := 2) (some 48) #[true, true, true, false, false, false, false, false, false, false, false, false, false] (any_of HT_.out (by kernel_rfl)) ?_
            refine pureZ_ (i := 3) (some 49) #[true, true, true, true, false, false, false, false, false, false, false, false, false] (any_of HT_.out (by kernel_rfl)) ?_
            refine pureZ_ (i := 4) (some 50) #[true, true, true, true, true, false, false, false, false, false, false, false, false] (any_of HT_.out (by kernel_rfl)) ?_
            refine pureZ_ (i := 6) (some 52) #[true, true, true, true, true, false, true, false, false, false, false, false, false] (any_of HT_.out (by kernel_rfl)) ?_
            refine pureZ_ (i := 7) (some 53) #[true, true, true, true, true, false, true, true, false, false, false, false, false] (any_of HT_.out (by kernel_rfl)) ?_
            refine pureZ_ (i := 8) (some 54) #[true, true, true, true, true, false, true, true, true, false, false, false, false] (any_of HT_.out (by kernel_rfl)) ?_
            refine takeZ_ (i := 5) (some 51) #[true, true, true, true, true, true, true, true, true, false, false, false, false] (take_ofW HT_.out HW_.out (by kernel_rfl)) hHeld ?_
            refine takeZ_ (i := 9) (some 55) #[true, true, true, true, true, true, true, true, true, true, false, false, false] (take_ofW HT_.out HW_.out (by kernel_rfl)) hHeld ?_
            refine pureZ_ (i := 10) (some 56) #[true, true, true, true, true, true, true, true, true, true, true, false, false] (any_of HT_.out (by kernel_rfl)) ?_
            refine pureZ_ (i := 11) (some 57) #[true, true, true, true, true, true, true, true, true, true, true, true, false] (any_of HT_.out (by kernel_rfl)) ?_
            refine pureZ_ (i := 12) (some 8) #[true, true, true, true, true, true, true, true, true, true, true, true, true] (any_of HT_.out (by kernel_rfl)) ?_
            refine done_ (done_of HT_.out (by kernel_rfl)) ?_
            try go_wp2
            go_roundg k3
            case measure => have := HK1.out; have := HK2.out; have := HK3.out; omega
            case rel => exact ⟨((((rd_T46 t752 x11_3).f0) == ((rd_T46 t734 x7_1).f0) && ((((rd_T46 t752 x11_3).f1.f0) == ((rd_T46 t734 x7_1).f1.f0) && (((rd_T46 t752 x11_3).f1.f1) == ((rd_T46 t734 x7_1).f1.f1))) && (((rd_T46 t752 x11_3).f2) == ((rd_T46 t734 x7_1).f2) && ((((rd_T46 t752 x11_3).f3.f0) == ((rd_T46 t734 x7_1).f3.f0) && (((rd_T46 t752 x11_3).f3.f1) == ((rd_T46 t734 x7_1).f3.f1))) && ((((rd_T46 t752 x11_3).f4.f0) == ((rd_T46 t734 x7_1).f4.f0) && (((rd_T46 t752 x11_3).f4.f1) == ((rd_T46 t734 x7_1).f4.f1))) && (((rd_T46 t752 x11_3).f5) == ((rd_T46 t734 x7_1).f5) && (((rd_T46 t752 x11_3).f6) == ((rd_T46 t734 x7_1).f6))))))))), (wrap64 (x11_3 + 1)), rf_, rf_, H', ⟨by have := HK1.out; have := HK2.out; have := HK3.out; omega⟩, ⟨by (with_reducible repeat (first | apply Kd.R_alloc | apply Kd.R_drewN | apply Kd.R_drew)); exact HO_3.out⟩, ⟨by (with_reducible repeat (first | apply Kd.R_alloc | apply Kd.R_drewN | apply Kd.R_drew)); exact HO_5.out⟩, ⟨by (with_reducible repeat (first | apply Kd.R_alloc | apply Kd.R_drewN | apply Kd.R_drew)); exact HO_6.out⟩, ⟨by (with_reducible repeat (first | apply Kd.R_alloc | apply Kd.R_drewN | apply Kd.R_drew)); exact HO_10.out⟩, ⟨by (with_reducible repeat (first | apply Kd.R_alloc | apply Kd.R_drewN | apply Kd.R_drew)); exact HO_741000.out⟩, ⟨bk_ BK740⟩, ⟨bl_⟩⟩
          ·rw [if_neg c22] at H
           have c22b0 : decide (x11_3 < (t752.length : Int)) = false := decide_eq_false c22
           clear c22
           have H' := Aside0.mk H
           clear H
           obtain ⟨Ao31, co31, eo31⟩ := Kd.R_slice HO_10.out
           subst eo31
           go_wp2
           go_roundg k3
           case measure => have := HK1.out; have := HK2.out; have := HK3.out; omega
           case rel => exact ⟨(x8_3), (wrap64 (x9_2 + 1)), rf_, rf_, H', ⟨by have := HK1.out; have := HK2.out; have := HK3.out; omega⟩, ⟨by (with_reducible repeat (first | apply Kd.R_alloc | apply Kd.R_drewN | apply Kd.R_drew)); exact Kd.R_mono HO_3.out (fun _ hk => hk.1)⟩, ⟨by (with_reducible repeat (first | apply Kd.R_alloc | apply Kd.R_drewN | apply Kd.R_drew)); exact HO_5.out⟩, ⟨by (with_reducible repeat (first | apply Kd.R_alloc | apply Kd.R_drewN | apply Kd.R_drew)); exact Kd.R_mono HO_6.out (fun _ hk => hk.1)⟩, ⟨by (with_reducible repeat (first | apply Kd.R_alloc | apply Kd.R_drewN | apply Kd.R_drew)); exact HO_741000.out⟩, ⟨bk_ BK740⟩, ⟨bl_⟩⟩
       ·rw [if_neg c17] at H
        have c17b0 : decide (x9_2 < (t741.length : Int)) = false := decide_eq_false c17
        clear c17
        by_cases c32 : x8_2 = true
        ·subst c32
         replace H := ite_t_ H
         obtain ⟨c33b0, H⟩ := ifd_ H
         obtain ⟨c34b0, H⟩ := ifd_ H
         obtain ⟨c35, H⟩ := ifn_ H
         have LMc35 := Aside0.mk c35
         clear c35
         obtain ⟨y748, hy748⟩ : ∃ y_ : List (S46), y_ = (x6_1 ++ [(⟨(rd_T46 t734 x7_1).f0, (⟨(rd_T46 t734 x7_1).f1.f0, (rd_T46 t734 x7_1).f1.f1⟩ : S27), (rd_T46 t734 x7_1).f2, (⟨(rd_T46 t734 x7_1).f3.f0, (rd_T46 t734 x7_1).f3.f1⟩ : S27), (⟨(rd_T46 t734 x7_1).f4.f0, (rd_T46 t734 x7_1).f4.f1⟩ : S27), (rd_T46 t734 x7_1).f5, (rd_T46 t734 x7_1).f6⟩ : S46)]) := ⟨_, rfl⟩
         replace H : (laws_FnPoliciesNeed.l0 k2 t734 t741 y748 (wrap64 (x7_1 + 1)) t737) = some r := by first | (rw [hy748]; with_reducible exact H) | (have H2_ := (Option.bind_some _ _).symm.trans H; rw [hy748]; with_reducible exact H2_) | (have H2_ := (Option.bind_some _ _).symm.trans H; with_reducible exact H2_) | with_reducible exact H | (rw [hy748]; exact H) | exact H
         have Ny748 := Aside0.mk hy748
         clear hy748
         have H' := Aside0.mk H
         clear H
         obtain ⟨Ao36, co36, eo36⟩ := Kd.R_slice HO_5.out
         subst eo36
         have p747 : 0 ≤ (x7_1 : Int) := od_
         have q747 : x7_1 < (t734.length : Int) := od_
         obtain ⟨ad747, e747, hx747_0, hx747_1, hx747_2, hx747_3, hx747_4, hx747_5, hx747_6, hx747_7, hx747_8, hx747_9⟩ := at_T46 (Kd.R_reads' HO_3.out).2.2 x7_1 p747 q747
         cases e747
         replace p747 := eq_true p747
         replace q747 := eq_true q747
         go_wp2_with (first | ((with_reducible refine gate_builtin (b := .append) (xs := #[.tmp 59, .tmp 64]) rfl ?_); (try (refine gate_guard (by rfl) ?_; dsimp only)); at_builtin; refine Kd.R_append k46 (w0 := w) w.heap.size rfl (.tmp 59) (.tmp 64) 24 46 (.agg #[(.int .i64 0), (.int .i64 0), (.int .i64 0), (.int .i64 0), (.int .i64 0), (.int .i64 0), (.int .i64 0), (.int .i64 0), (.int .i64 0), (.int .i64 0)]) 80 rfl Try.underlying24 info46 rfl (by decide) (by omega) u6 x6_1 (⟨(rd_T46 t734 x7_1).f0, (⟨(rd_T46 t734 x7_1).f1.f0, (rd_T46 t734 x7_1).f1.f1⟩ : S27), (rd_T46 t734 x7_1).f2, (⟨(rd_T46 t734 x7_1).f3.f0, (rd_T46 t734 x7_1).f3.f1⟩ : S27), (⟨(rd_T46 t734 x7_1).f4.f0, (rd_T46 t734 x7_1).f4.f1⟩ : S27), (rd_T46 t734 x7_1).f5, (rd_T46 t734 x7_1).f6⟩ : S46) [.int .i64 ((rd_T46 t734 x7_1).f0), .int .i64 ((rd_T46 t734 x7_1).f1.f0), .int .i64 ((rd_T46 t734 x7_1).f1.f1), .int .i64 ((rd_T46 t734 x7_1).f2), .int .i64 ((rd_T46 t734 x7_1).f3.f0), .int .i64 ((rd_T46 t734 x7_1).f3.f1), .int .i64 ((rd_T46 t734 x7_1).f4.f0), .int .i64 ((rd_T46 t734 x7_1).f4.f1), .int .i64 ((rd_T46 t734 x7_1).f5), .int .i64 ((rd_T46 t734 x7_1).f6)] (fun k_ => some k_ ≠ (.slice (some ad747) t734.length co16 : Value).ownBlock) (fun _ => False) rfl rfl ?aP (fun _ hk => hk.elim) ?aF ?aO ?aB ?aS ?aL ?_; (case aP => exact k46_mkM _ _ _ (⟨(rd_T46 t734 x7_1).f0, (⟨(rd_T46 t734 x7_1).f1.f0, (rd_T46 t734 x7_1).f1.f1⟩ : S27), (rd_T46 t734 x7_1).f2, (⟨(rd_T46 t734 x7_1).f3.f0, (rd_T46 t734 x7_1).f3.f1⟩ : S27), (⟨(rd_T46 t734 x7_1).f4.f0, (rd_T46 t734 x7_1).f4.f1⟩ : S27), (rd_T46 t734 x7_1).f5, (rd_T46 t734 x7_1).f6⟩ : S46)); (case aB => exact bl_); (case aF => exact (fun k_ hk => Kd.fresh' (Kd.R_lt (by (with_reducible repeat (first | apply Kd.R_alloc | apply Kd.R_drewN | apply Kd.R_drew)); exact HO_3.out)) k_ hk)); (case aO => exact (by (with_reducible repeat (first | apply Kd.R_alloc | apply Kd.R_drewN | apply Kd.R_drew)); exact HO_6.out)); (case aS => exact bls_); (case aL => have := LMc35.out; omega); intro v749 w37 ho hb hg hat; rw [← Ny748.out] at ho; replace HO_3 := Aside0.mk (Kd.R_after (ok := (fun _ => True)) (by (with_reducible repeat (first | apply Kd.R_alloc | apply Kd.R_drewN | apply Kd.R_drew)); exact Kd.R_mono HO_3.out (fun _ hk => ⟨trivial, hk⟩)) hg hat); replace HO_5 := Aside0.mk (Kd.R_over' (by (with_reducible repeat (first | apply Kd.R_alloc | apply Kd.R_drewN | apply Kd.R_drew)); exact HO_5.out) (Kd.R_typed (by (with_reducible repeat (first | apply Kd.R_alloc | apply Kd.R_drewN | apply Kd.R_drew)); exact HO_6.out)) (by decide) hg); replace HO_741000 := Aside0.mk (Kd.R_over' (by (with_reducible repeat (first | apply Kd.R_alloc | apply Kd.R_drewN | apply Kd.R_drew)); exact HO_741000.out) (Kd.R_typed (by (with_reducible repeat (first | apply Kd.R_alloc | apply Kd.R_drewN | apply Kd.R_drew)); exact HO_6.out)) (by decide) hg); replace BK740 := Aside0.mk (blk_grown (g := gb740) (o := .cells #[.slice Ao10 t737.length co10] 68 (0, 0)) (bk_ BK740) hg (Kd.R_ne HO_6.out BK740.out (by decide))); replace HB := Aside0.mk (hb); have HO750 := Aside0.mk (ho); clear HO_6; clear ho hb hg hat))
         go_roundg k2
         case measure => have := HK1.out; have := HK2.out; omega
         case rel => exact ⟨(y748), (wrap64 (x7_1 + 1)), rf_, H', ⟨by have := HK1.out; have := HK2.out; omega⟩, ⟨by (with_reducible repeat (first | apply Kd.R_alloc | apply Kd.R_drewN | apply Kd.R_drew)); exact Kd.R_mono HO_3.out (fun _ hk => hk.2)⟩, ⟨by (with_reducible repeat (first | apply Kd.R_alloc | apply Kd.R_drewN | apply Kd.R_drew)); exact HO_5.out⟩, ⟨by (with_reducible repeat (first | apply Kd.R_alloc | apply Kd.R_drewN | apply Kd.R_drew)); exact HO750.out⟩, ⟨by (with_reducible repeat (first | apply Kd.R_alloc | apply Kd.R_drewN | apply Kd.R_drew)); exact HO_741000.out⟩, ⟨bk_ BK740⟩, ⟨bl_⟩⟩
        ·replace c32 := Bool.eq_false_iff.mpr c32
         subst c32
         replace H := ite_f_ H
         have H' := Aside0.mk H
         clear H
         obtain ⟨Ao38, co38, eo38⟩ := Kd.R_slice HO_5.out
         subst eo38
         go_wp2
         go_roundg k2
         case measure => have := HK1.out; have := HK2.out; omega
         case rel => exact ⟨(x6_1), (wrap64 (x7_1 + 1)), rf_, H', ⟨by have := HK1.out; have := HK2.out; omega⟩, ⟨by (with_reducible repeat (first | apply Kd.R_alloc | apply Kd.R_drewN | apply Kd.R_drew)); exact HO_3.out⟩, ⟨by (with_reducible repeat (first | apply Kd.R_alloc | apply Kd.R_drewN | apply Kd.R_drew)); exact HO_5.out⟩, ⟨by (with_reducible repeat (first | apply Kd.R_alloc | apply Kd.R_drewN | apply Kd.R_drew)); exact HO_6.out⟩, ⟨by (with_reducible repeat (first | apply Kd.R_alloc | apply Kd.R_drewN | apply Kd.R_drew)); exact HO_741000.out⟩, ⟨bk_ BK740⟩, ⟨bl_⟩⟩
    ·rw [if_neg c15] at H
     have c15b0 : decide (x7_1 < (t734.length : Int)) = false := decide_eq_false c15
     clear c15
     have H' := Aside0.mk H
     clear H
     obtain ⟨Ao39, co39, eo39⟩ := Kd.R_slice HO_3.out
     subst eo39
     go_wp2
     go_loopg [12] k1 (fun kq v12 w' => ∃ (x12_2 : Int), v12 = .int .i64 x12_2 ∧ Aside0 (laws_FnPoliciesNeed.l3 kq t734 t741 x6_1 x12_2 t737 = some r) ∧ Aside0 (kq ≤ k1) ∧ Aside0 (Kd.R k46 46 w' w.heap.size (fun k_ => some k_ ≠ (u6 : Value).ownBlock) (.slice Ao39 t734.length co39) t734) ∧ Aside0 (Kd.R k27 27 w' w.heap.size (fun _ => True) v742 t741) ∧ Aside0 (Kd.R k46 46 w' w.heap.size (fun k_ => some k_ ≠ ((.slice Ao39 t734.length co39) : Value).ownBlock) u6 x6_1) ∧ Aside0 (Kd.R k71 71 w' w.heap.size (fun _ => True) (.slice Ao10 t737.length co10) t737) ∧ Aside0 (w'.heap[gb740]? = some (.cells #[(.slice Ao10 t737.length co10)] 68 (0, 0))) ∧ Aside0 (Below w.heap.size w w'))
     case atStart => exact ⟨(0), rf_, H', ⟨Nat.le_refl _⟩, ⟨by (with_reducible repeat (first | apply Kd.R_alloc | apply Kd.R_drewN | apply Kd.R_drew)); exact HO_3.out⟩, ⟨by (with_reducible repeat (first | apply Kd.R_alloc | apply Kd.R_drewN | apply Kd.R_drew)); exact HO_5.out⟩, ⟨by (with_reducible repeat (first | apply Kd.R_alloc | apply Kd.R_drewN | apply Kd.R_drew)); exact HO_6.out⟩, ⟨by (with_reducible repeat (first | apply Kd.R_alloc | apply Kd.R_drewN | apply Kd.R_drew)); exact HO_741000.out⟩, ⟨bk_ BK740⟩, ⟨bl_⟩⟩
     case round =>
      clear H'
      try clear c1
      try clear c2
      try clear p2
      try clear c3
      try clear c4
      try clear c6
      try clear p6
      try clear p7
      try clear q7
      try clear hx7
      try clear c12
      try clear c14
      try clear c15
      try clear c15b0
      try clear c17
      try clear c17b0
      try clear c18
      try clear c18b0
      try clear c22
      try clear c22b0
      try clear c23
      try clear c26
      try clear c26b0
      try clear c27
      try clear c27b0
      try clear c28
      try clear c28b0
      try clear c32
      try clear c33
      try clear c33b0
      try clear c34
      try clear c34b0
      try clear c35
      try clear hcz11
      try clear hfz11
      try clear hx747_0
      try clear hx747_1
      try clear hx747_2
      try clear hx747_3
      try clear hx747_4
      try clear hx747_5
      try clear hx747_6
      try clear hx747_7
      try clear hx747_8
      try clear hx747_9
      try clear hx751_0
      try clear hx751_1
      try clear hx755_0
      try clear hx755_1
      try clear hx755_2
      try clear hx755_3
      try clear hx755_4
      try clear hx755_5
      try clear hx755_6
      try clear hx755_7
      try clear hx755_8
      try clear hx755_9
      try clear hx756_0
      try clear hx756_1
      try clear hx756_2
      try clear hx756_3
      try clear hx756_4
      try clear hx756_5
      try clear hx756_6
      try clear hx756_7
      try clear hx756_8
      try clear hx756_9
      try clear p2
      try clear p7
      try clear p747
      try clear p751
      try clear p755
      try clear p756
      try clear q7
      try clear q747
      try clear q751
      try clear q755
      try clear q756
      obtain ⟨x12_2, rfl, HA, HK2, HO_3, HO_5, HO_6, HO_741000, BK740, HB⟩ := hrel
      cases gk with
      | zero => exact absurd HA.out (by simp [laws_FnPoliciesNeed.l3])
      | succ k2 =>
       have H := HA.out
       clear HA
       simp only [laws_FnPoliciesNeed.l3] at H
       by_cases c40 : x12_2 < 6
       ·rw [if_pos c40] at H
        have c40b0 : decide (x12_2 < 6) = true := decide_eq_true c40
        clear c40
        obtain ⟨t758, A41, H⟩ := bindE_ H
        obtain ⟨t759, A42, H⟩ := bindE_ H
        by_cases c43 : (t758 != t759) = true
        ·rw [if_pos c43] at H
         have c43b0 : (t758 != t759) = true := c43
         (try (have c43b1 : decide (t758 = t759) = false := by simpa using c43))
         (try (have c43b2 : (t758 == t759) = false := by simpa using c43))
         (try (have c43b3 : ¬ (t758 = t759) := by simpa using c43))
         clear c43
         obtain rfl := Option.some.inj H
         try go_wp2
         replace HO_3 := Aside0.mk (Kd.R_drew HO_3.out)
         replace HO_5 := Aside0.mk (Kd.R_drew HO_5.out)
         replace HO_6 := Aside0.mk (Kd.R_drew HO_6.out)
         replace HO_741000 := Aside0.mk (Kd.R_drew HO_741000.out)
         replace BK740 := Aside0.mk (blk_drew BK740.out)
         replace HB := Aside0.mk (below_drew1 HB.out)
         obtain ⟨Ao45, co45, eo45⟩ := Kd.R_slice HO_6.out
         (first | subst eo45 | (injection eo45 with f1_ f2_ f3_; have f4_ := f1_.symm; have f5_ := f3_.symm; clear f1_ f2_ f3_; subst f4_; subst f5_))
         refine start_ (n := 20) (S := fun w' => w'.cell? ⟨gb740, 0, none⟩ = some (.slice Ao10 t737.length co10)) (ds := []) #[false, false, false, false, false, false, false, false, false, false, false, false, false, false, false, false, false, false, false, false] (by kernel_rfl) rfl rfl ((blk_cell BK740.out 0).trans rfl) (fun hHeld => ?_); refine with_tabW laws_FnPoliciesNeed.tab24 laws_FnPoliciesNeed.bits24 (fun HT_ HW_ => ?_)
         generalize wr.drew = w44 at HO_3 HO_5 HO_6 HO_741000 BK740 HB hHeld ⊢
         refine pureZ_ (i := 0) (some 70) #[true, false, false, false, false, false, false, false, false, false, false, false, false, false, false, false, false, false, false, false] (any_of HT_.out (by kernel_rfl)) ?_
         refine pureZ_ (i := 2) (some 72) #[true, false, true, false, false, false, false, false, false, false, false, false, false, false, false, false, false, false, false, false] (any_of HT_.out (by kernel_rfl)) ?_
         refine pureZ_ (i := 4) (some 74) #[true, false, true, false, true, false, false, false, false, false, false, false, false, false, false, false, false, false, false, false] (any_of HT_.out (by kernel_rfl)) ?_
         refine pureZ_ (i := 6) (some 76) #[true, false, true, false, true, false, true, false, false, false, false, false, false, false, false, false, false, false, false, false] (any_of HT_.out (by kernel_rfl)) ?_
         refine take_ (i := 1) (N := some 71) (v := ?_) (a' := ?_) #[true, true, true, false, true, false, true, false, false, false, false, false, false, false, false, false, false, false, false, false] rfl rfl (take_ofW HT_.out HW_.out (by kernel_rfl)) (fun _ _ _ h => h) (Or.inl ⟨by rfl, ?_⟩) hHeld ?_ ?_
         rotate_left
         ·intro w' s0
          go_simp
          with_reducible rfl
         rotate_left
         ·simp only [Act.put, List.setIfInBounds_toArray, List.set_cons_zero, List.set_cons_succ, i64_w, i32_w]
          rfl
         refine take_ (i := 5) (N := some 75) (v := ?_) (a' := ?_) #[true, true, true, false, true, true, true, false, false, false, false, false, false, false, false, false, false, false, false, false] rfl rfl (take_ofW HT_.out HW_.out (by kernel_rfl)) (fun _ _ _ h => h) (Or.inl ⟨by rfl, ?_⟩) hHeld ?_ ?_
         rotate_left
         ·intro w' s0
          go_simp
          with_reducible rfl
         rotate_left
         ·simp only [Act.put, List.setIfInBounds_toArray, List.set_cons_zero, List.set_cons_succ, i64_w, i32_w]
          rfl
         refine one_ (i := 3) (N := some 73) #[true, true, true, true, true, true, true, false, false, false, false, false, false, false, false, false, false, false, false, false] rfl rfl (one_of HT_.out (by kernel_rfl)) (by decide) (fun K hK => ?_)
         refine goes_ Try.func47 (by kernel_rfl) rfl #[.slice Ao45 x6_1.length co45, .agg #[.slice Ao10 t737.length co10], .int .i64 x12_2] (by rfl) rfl rfl (by (try simp only [List.map_toArray, List.map_cons, List.map_nil]); first | done | rfl | (simp only [List.length_drop, List.length_take]; rfl)) ?_
         with_reducible refine (impl_Decides.calls k2 _ _ x6_1 _ _ t737 x12_2 t758 _ ?side1 ?side2 ?side3 ?side4 A41.out).mono ?_
         (case side1 => repeat (first | exact (Kd.R_reads' HO_6.out).2.2 | (with_reducible refine Kd.C_alloc ?_ _) | (with_reducible refine Kd.C_drewN ?_ _) | (with_reducible refine Kd.C_drew ?_)))
         (case side2 => exact (Kd.R_reads' HO_6.out).2.1)
         (case side3 => repeat (first | exact (Kd.R_reads' HO_741000.out).2.2 | (with_reducible refine Kd.C_alloc ?_ _) | (with_reducible refine Kd.C_drewN ?_ _) | (with_reducible refine Kd.C_drew ?_)))
         (case side4 => exact (Kd.R_reads' HO_741000.out).2.1)
         rintro e w46 ⟨rfl, hb⟩
         refine ⟨_, rfl, ?_⟩
         replace HO_3 := hob_ HO_3 hb
         replace HO_5 := hob_ HO_5 hb
         replace HO_6 := hob_ HO_6 hb
         replace HO_741000 := hob_ HO_741000 hb
         replace BK740 := bkb_ BK740 hb
         replace HB := hbs_ hb
         (try clear hb)
         (try clear hb2)
         (try clear hk)
         (try clear hi)
         refine hK.out _ _ ((blk_cell BK740.out 0).trans rfl) (fun hHeld => ?_)
         clear hK K
         refine norm_ (a' := ?_) ?_ ?_
         rotate_left
         ·show Act.put _ (some 73) _ = _
          simp only [Act.put, List.setIfInBounds_toArray, List.set_cons_zero, List.set_cons_succ, i64_w, i32_w]
          rfl
         refine one_ (i := 7) (N := some 77) #[true, true, true, true, true, true, true, true, false, false, false, false, false, false, false, false, false, false, false, false] rfl rfl (one_of HT_.out (by kernel_rfl)) (by decide) (fun K hK => ?_)
         refine goes_ Try.func47 (by kernel_rfl) rfl #[.slice Ao39 t734.length co39, .agg #[.slice Ao10 t737.length co10], .int .i64 x12_2] (by rfl) rfl rfl (by (try simp only [List.map_toArray, List.map_cons, List.map_nil]); first | done | rfl | (simp only [List.length_drop, List.length_take]; rfl)) ?_
         with_reducible refine (impl_Decides.calls k2 _ _ t734 _ _ t737 x12_2 t759 _ ?side1 ?side2 ?side3 ?side4 A42.out).mono ?_
         (case side1 => repeat (first | exact (Kd.R_reads' HO_3.out).2.2 | (with_reducible refine Kd.C_alloc ?_ _) | (with_reducible refine Kd.C_drewN ?_ _) | (with_reducible refine Kd.C_drew ?_)))
         (case side2 => exact (Kd.R_reads' HO_3.out).2.1)
         (case side3 => repeat (first | exact (Kd.R_reads' HO_741000.out).2.2 | (with_reducible refine Kd.C_alloc ?_ _) | (with_reducible refine Kd.C_drewN ?_ _) | (with_reducible refine Kd.C_drew ?_)))
         (case side4 => exact (Kd.R_reads' HO_741000.out).2.1)
         rintro e w47 ⟨rfl, hb⟩
         refine ⟨_, rfl, ?_⟩
         replace HO_3 := hob_ HO_3 hb
         replace HO_5 := hob_ HO_5 hb
         replace HO_6 := hob_ HO_6 hb
         replace HO_741000 := hob_ HO_741000 hb
         replace BK740 := bkb_ BK740 hb
         replace HB := hbs_ hb
         (try clear hb)
         (try clear hb2)
         (try clear hk)
         (try clear hi)
         refine hK.out _ _ ((blk_cell BK740.out 0).trans rfl) (fun hHeld => ?_)
         clear hK K
         refine norm_ (a' := ?_) ?_ ?_
         rotate_left
         ·show Act.put _ (some 77) _ = _
          simp only [Act.put, List.setIfInBounds_toArray, List.set_cons_zero, List.set_cons_succ, i64_w, i32_w]
          rfl
         refine pureZ_ (i := 8) (some 78) #[true, true, true, true, true, true, true, true, true, false, false, false, false, false, false, false, false, false, false, false] (any_of HT_.out (by kernel_rfl)) ?_
         refine pureZ_ (i := 9) (some 79) #[true, true, true, true, true, true, true, true, true, true, false, false, false, false, false, false, false, false, false, false] (any_of HT_.out (by kernel_rfl)) ?_
         refine pure_ (i := 10) (N := some 80) (v := undef) (a' := ?_) #[true, true, true, true, true, true, true, true, true, true, true, false, false, false, false, false, false, false, false, false] rfl rfl (any_of HT_.out (by kernel_rfl)) (fun _ _ _ h => h) (Or.inr ⟨by rfl, rfl⟩) ?_ ?_
         rotate_left
         ·simp only [Act.put, List.setIfInBounds_toArray, List.set_cons_zero, List.set_cons_succ, i64_w, i32_w]
          rfl
         refine pure_ (i := 11) (N := some 81) (v := undef) (a' := ?_) #[true, true, true, true, true, true, true, true, true, true, true, true, false, false, false, false, false, false, false, false] rfl rfl (any_of HT_.out (by kernel_rfl)) (fun _ _ _ h => h) (Or.inr ⟨by rfl, rfl⟩) ?_ ?_
         rotate_left
         ·simp only [Act.put, List.setIfInBounds_toArray, List.set_cons_zero, List.set_cons_succ, i64_w, i32_w]
          rfl
         refine pure_ (i := 12) (N := some 82) (v := undef) (a' := ?_) #[true, true, true, true, true, true, true, true, true, true, true, true, true, false, false, false, false, false, false, false] rfl rfl (any_of HT_.out (by kernel_rfl)) (fun _ _ _ h => h) (Or.inr ⟨by rfl, rfl⟩) ?_ ?_
         rotate_left
         ·simp only [Act.put, List.setIfInBounds_toArray, List.set_cons_zero, List.set_cons_succ, i64_w, i32_w]
          rfl
         refine pure_ (i := 13) (N := some 83) (v := undef) (a' := ?_) #[true, true, true, true, true, true, true, true, true, true, true, true, true, true, false, false, false, false, false, false] rfl rfl (any_of HT_.out (by kernel_rfl)) (fun _ _ _ h => h) (Or.inr ⟨by rfl, rfl⟩) ?_ ?_
         rotate_left
         ·simp only [Act.put, List.setIfInBounds_toArray, List.set_cons_zero, List.set_cons_succ, i64_w, i32_w]
          rfl
         refine pure_ (i := 14) (N := some 84) (v := undef) (a' := ?_) #[true, true, true, true, true, true, true, true, true, true, true, true, true, true, true, false, false, false, false, false] rfl rfl (any_of HT_.out (by kernel_rfl)) (fun _ _ _ h => h) (Or.inr ⟨by rfl, rfl⟩) ?_ ?_
         rotate_left
         ·simp only [Act.put, List.setIfInBounds_toArray, List.set_cons_zero, List.set_cons_succ, i64_w, i32_w]
          rfl
         refine pure_ (i := 15) (N := some 85) (v := undef) (a' := ?_) #[true, true, true, true, true, true, true, true, true, true, true, true, true, true, true, true, false, false, false, false] rfl rfl (any_of HT_.out (by kernel_rfl)) (fun _ _ _ h => h) (Or.inr ⟨by rfl, rfl⟩) ?_ ?_
         rotate_left
         ·simp only [Act.put, List.setIfInBounds_toArray, List.set_cons_zero, List.set_cons_succ, i64_w, i32_w]
          rfl
         refine pure_ (i := 16) (N := some 86) (v := undef) (a' := ?_) #[true, true, true, true, true, true, true, true, true, true, true, true, true, true, true, true, true, false, false, false] rfl rfl (any_of HT_.out (by kernel_rfl)) (fun _ _ _ h => h) (Or.inr ⟨by rfl, rfl⟩) ?_ ?_
         rotate_left
         ·simp only [Act.put, List.setIfInBounds_toArray, List.set_cons_zero, List.set_cons_succ, i64_w, i32_w]
          rfl
         refine pure_ (i := 17) (N := some 87) (v := undef) (a' := ?_) #[true, true, true, true, true, true, true, true, true, true, true, true, true, true, true, true, true, true, false, false] rfl rfl (any_of HT_.out (by kernel_rfl)) (fun _ _ _ h => h) (Or.inr ⟨by rfl, rfl⟩) ?_ ?_
         rotate_left
         ·simp only [Act.put, List.setIfInBounds_toArray, List.set_cons_zero, List.set_cons_succ, i64_w, i32_w]
          rfl
         refine pure_ (i := 18) (N := some 88) (v := undef) (a' := ?_) #[true, true, true, true, true, true, true, true, true, true, true, true, true, true, true, true, true, true, true, false] rfl rfl (any_of HT_.out (by kernel_rfl)) (fun _ _ _ h => h) (Or.inr ⟨by rfl, rfl⟩) ?_ ?_
         rotate_left
         ·simp only [Act.put, List.setIfInBounds_toArray, List.set_cons_zero, List.set_cons_succ, i64_w, i32_w]
          rfl
         refine pureZ_ (i := 19) (some 89) #[true, true, true, true, true, true, true, true, true, true, true, true, true, true, true, true, true, true, true, true] (any_of HT_.out (by kernel_rfl)) ?_
         refine done_ (done_of HT_.out (by kernel_rfl)) ?_
         try go_wp2
         go_ret
         exact ⟨eq_, bl_⟩
        ·rw [if_neg c43] at H
         have c43b0 : (t758 != t759) = false := by simpa using c43
         (try (have c43b1 : decide (t758 = t759) = true := by simpa using c43))
         (try (have c43b2 : (t758 == t759) = true := by simpa using c43))
         clear c43
         obtain ⟨t760, A48, H⟩ := bindE_ H
         obtain ⟨t761, A49, H⟩ := bindE_ H
         by_cases c50 : (t760 != t761) = true
         ·rw [if_pos c50] at H
          have c50b0 : (t760 != t761) = true := c50
          (try (have c50b1 : decide (t760 = t761) = false := by simpa using c50))
          (try (have c50b2 : (t760 == t761) = false := by simpa using c50))
          (try (have c50b3 : ¬ (t760 = t761) := by simpa using c50))
          clear c50
          obtain rfl := Option.some.inj H
          try go_wp2
          replace HO_3 := Aside0.mk (Kd.R_drew HO_3.out)
          replace HO_5 := Aside0.mk (Kd.R_drew HO_5.out)
          replace HO_6 := Aside0.mk (Kd.R_drew HO_6.out)
          replace HO_741000 := Aside0.mk (Kd.R_drew HO_741000.out)
          replace BK740 := Aside0.mk (blk_drew BK740.out)
          replace HB := Aside0.mk (below_drew1 HB.out)
          obtain ⟨Ao52, co52, eo52⟩ := Kd.R_slice HO_6.out
          (first | subst eo52 | (injection eo52 with f1_ f2_ f3_; have f4_ := f1_.symm; have f5_ := f3_.symm; clear f1_ f2_ f3_; subst f4_; subst f5_))
          refine start_ (n := 20) (S := fun w' => w'.cell? ⟨gb740, 0, none⟩ = some (.slice Ao10 t737.length co10)) (ds := []) #[false, false, false, false, false, false, false, false, false, false, false, false, false, false, false, false, false, false, false, false] (by kernel_rfl) rfl rfl ((blk_cell BK740.out 0).trans rfl) (fun hHeld => ?_); refine with_tabW laws_FnPoliciesNeed.tab24 laws_FnPoliciesNeed.bits24 (fun HT_ HW_ => ?_)
          generalize wr.drew = w51 at HO_3 HO_5 HO_6 HO_741000 BK740 HB hHeld ⊢
          refine pureZ_ (i := 0) (some 70) #[true, false, false, false, false, false, false, false, false, false, false, false, false, false, false, false, false, false, false, false] (any_of HT_.out (by kernel_rfl)) ?_
          refine pureZ_ (i := 2) (some 72) #[true, false, true, false, false, false, false, false, false, false, false, false, false, false, false, false, false, false, false, false] (any_of HT_.out (by kernel_rfl)) ?_
          refine pureZ_ (i := 4) (some 74) #[true, false, true, false, true, false, false, false, false, false, false, false, false, false, false, false, false, false, false, false] (any_of HT_.out (by kernel_rfl)) ?_
          refine pureZ_ (i := 6) (some 76) #[true, false, true, false, true, false, true, false, false, false, false, false, false, false, false, false, false, false, false, false] (any_of HT_.out (by kernel_rfl)) ?_
          refine take_ (i := 1) (N := some 71) (v := ?_) (a' := ?_) #[true, true, true, false, true, false, true, false, false, false, false, false, false, false, false, false, false, false, false, false] rfl rfl (take_ofW HT_.out HW_.out (by kernel_rfl)) (fun _ _ _ h => h) (Or.inl ⟨by rfl, ?_⟩) hHeld ?_ ?_
          rotate_left
          ·intro w' s0
           go_simp
           with_reducible rfl
          rotate_left
          ·simp only [Act.put, List.setIfInBounds_toArray, List.set_cons_zero, List.set_cons_succ, i64_w, i32_w]
           rfl
          refine take_ (i := 5) (N := some 75) (v := ?_) (a' := ?_) #[true, true, true, false, true, true, true, false, false, false, false, false, false, false, false, false, false, false, false, false] rfl rfl (take_ofW HT_.out HW_.out (by kernel_rfl)) (fun _ _ _ h => h) (Or.inl ⟨by rfl, ?_⟩) hHeld ?_ ?_
          rotate_left
          ·intro w' s0
           go_simp
           with_reducible rfl
          rotate_left
          ·simp only [Act.put, List.setIfInBounds_toArray, List.set_cons_zero, List.set_cons_succ, i64_w, i32_w]
           rfl
          refine one_ (i := 3) (N := some 73) #[true, true, true, true, true, true, true, false, false, false, false, false, false, false, false, false, false, false, false, false] rfl rfl (one_of HT_.out (by kernel_rfl)) (by decide) (fun K hK => ?_)
          refine goes_ Try.func47 (by kernel_rfl) rfl #[.slice Ao52 x6_1.length co52, .agg #[.slice Ao10 t737.length co10], .int .i64 x12_2] (by rfl) rfl rfl (by (try simp only [List.map_toArray, List.map_cons, List.map_nil]); first | done | rfl | (simp only [List.length_drop, List.length_take]; rfl)) ?_
          with_reducible refine (impl_Decides.calls k2 _ _ x6_1 _ _ t737 x12_2 t758 _ ?side1 ?side2 ?side3 ?side4 A41.out).mono ?_
          (case side1 => repeat (first | exact (Kd.R_reads' HO_6.out).2.2 | (with_reducible refine Kd.C_alloc ?_ _) | (with_reducible refine Kd.C_drewN ?_ _) | (with_reducible refine Kd.C_drew ?_)))
          (case side2 => exact (Kd.R_reads' HO_6.out).2.1)
          (case side3 => repeat (first | exact (Kd.R_reads' HO_741000.out).2.2 | (with_reducible refine Kd.C_alloc ?_ _) | (with_reducible refine Kd.C_drewN ?_ _) | (with_reducible refine Kd.C_drew ?_)))
          (case side4 => exact (Kd.R_reads' HO_741000.out).2.1)
          rintro e w53 ⟨rfl, hb⟩
          refine ⟨_, rfl, ?_⟩
          replace HO_3 := hob_ HO_3 hb
          replace HO_5 := hob_ HO_5 hb
          replace HO_6 := hob_ HO_6 hb
          replace HO_741000 := hob_ HO_741000 hb
          replace BK740 := bkb_ BK740 hb
          replace HB := hbs_ hb
          (try clear hb)
          (try clear hb2)
          (try clear hk)
          (try clear hi)
          refine hK.out _ _ ((blk_cell BK740.out 0).trans rfl) (fun hHeld => ?_)
          clear hK K
          refine norm_ (a' := ?_) ?_ ?_
          rotate_left
          ·show Act.put _ (some 73) _ = _
           simp only [Act.put, List.setIfInBounds_toArray, List.set_cons_zero, List.set_cons_succ, i64_w, i32_w]
           rfl
          refine one_ (i := 7) (N := some 77) #[true, true, true, true, true, true, true, true, false, false, false, false, false, false, false, false, false, false, false, false] rfl rfl (one_of HT_.out (by kernel_rfl)) (by decide) (fun K hK => ?_)
          refine goes_ Try.func47 (by kernel_rfl) rfl #[.slice Ao39 t734.length co39, .agg #[.slice Ao10 t737.length co10], .int .i64 x12_2] (by rfl) rfl rfl (by (try simp only [List.map_toArray, List.map_cons, List.map_nil]); first | done | rfl | (simp only [List.length_drop, List.length_take]; rfl)) ?_
          with_reducible refine (impl_Decides.calls k2 _ _ t734 _ _ t737 x12_2 t759 _ ?side1 ?side2 ?side3 ?side4 A42.out).mono ?_
          (case side1 => repeat (first | exact (Kd.R_reads' HO_3.out).2.2 | (with_reducible refine Kd.C_alloc ?_ _) | (with_reducible refine Kd.C_drewN ?_ _) | (with_reducible refine Kd.C_drew ?_)))
          (case side2 => exact (Kd.R_reads' HO_3.out).2.1)
          (case side3 => repeat (first | exact (Kd.R_reads' HO_741000.out).2.2 | (with_reducible refine Kd.C_alloc ?_ _) | (with_reducible refine Kd.C_drewN ?_ _) | (with_reducible refine Kd.C_drew ?_)))
          (case side4 => exact (Kd.R_reads' HO_741000.out).2.1)
          rintro e w54 ⟨rfl, hb⟩
          refine ⟨_, rfl, ?_⟩
          replace HO_3 := hob_ HO_3 hb
          replace HO_5 := hob_ HO_5 hb
          replace HO_6 := hob_ HO_6 hb
          replace HO_741000 := hob_ HO_741000 hb
          replace BK740 := bkb_ BK740 hb
          replace HB := hbs_ hb
          (try clear hb)
          (try clear hb2)
          (try clear hk)
          (try clear hi)
          refine hK.out _ _ ((blk_cell BK740.out 0).trans rfl) (fun hHeld => ?_)
          clear hK K
          refine norm_ (a' := ?_) ?_ ?_
          rotate_left
          ·show Act.put _ (some 77) _ = _
           simp only [Act.put, List.setIfInBounds_toArray, List.set_cons_zero, List.set_cons_succ, i64_w, i32_w]
           rfl
          refine pureZ_ (i := 8) (some 78) #[true, true, true, true, true, true, true, true, true, false, false, false, false, false, false, false, false, false, false, false] (any_of HT_.out (by kernel_rfl)) ?_
          refine pureZ_ (i := 9) (some 79) #[true, true, true, true, true, true, true, true, true, true, false, false, false, false, false, false, false, false, false, false] (any_of HT_.out (by kernel_rfl)) ?_
          refine pureZ_ (i := 10) (some 80) #[true, true, true, true, true, true, true, true, true, true, true, false, false, false, false, false, false, false, false, false] (any_of HT_.out (by kernel_rfl)) ?_
          refine pureZ_ (i := 12) (some 82) #[true, true, true, true, true, true, true, true, true, true, true, false, true, false, false, false, false, false, false, false] (any_of HT_.out (by kernel_rfl)) ?_
          refine pureZ_ (i := 14) (some 84) #[true, true, true, true, true, true, true, true, true, true, true, false, true, false, true, false, false, false, false, false] (any_of HT_.out (by kernel_rfl)) ?_
          refine pureZ_ (i := 16) (some 86) #[true, true, true, true, true, true, true, true, true, true, true, false, true, false, true, false, true, false, false, false] (any_of HT_.out (by kernel_rfl)) ?_
          refine take_ (i := 11) (N := some 81) (v := ?_) (a' := ?_) #[true, true, true, true, true, true, true, true, true, true, true, true, true, false, true, false, true, false, false, false] rfl rfl (take_ofW HT_.out HW_.out (by kernel_rfl)) (fun _ _ _ h => h) (Or.inl ⟨by rfl, ?_⟩) hHeld ?_ ?_
          rotate_left
          ·intro w' s0
           go_simp
           with_reducible rfl
          rotate_left
          ·simp only [Act.put, List.setIfInBounds_toArray, List.set_cons_zero, List.set_cons_succ, i64_w, i32_w]
           rfl
          refine take_ (i := 15) (N := some 85) (v := ?_) (a' := ?_) #[true, true, true, true, true, true, true, true, true, true, true, true, true, false, true, true, true, false, false, false] rfl rfl (take_ofW HT_.out HW_.out (by kernel_rfl)) (fun _ _ _ h => h) (Or.inl ⟨by rfl, ?_⟩) hHeld ?_ ?_
          rotate_left
          ·intro w' s0
           go_simp
           with_reducible rfl
          rotate_left
          ·simp only [Act.put, List.setIfInBounds_toArray, List.set_cons_zero, List.set_cons_succ, i64_w, i32_w]
           rfl
          refine one_ (i := 13) (N := some 83) #[true, true, true, true, true, true, true, true, true, true, true, true, true, true, true, true, true, false, false, false] rfl rfl (one_of HT_.out (by kernel_rfl)) (by decide) (fun K hK => ?_)
          refine goes_ Try.func47 (by kernel_rfl) rfl #[.slice Ao39 t734.length co39, .agg #[.slice Ao10 t737.length co10], .int .i64 x12_2] (by rfl) rfl rfl (by (try simp only [List.map_toArray, List.map_cons, List.map_nil]); first | done | rfl | (simp only [List.length_drop, List.length_take]; rfl)) ?_
          with_reducible refine (impl_Decides.calls k2 _ _ t734 _ _ t737 x12_2 t760 _ ?side1 ?side2 ?side3 ?side4 A48.out).mono ?_
          (case side1 => repeat (first | exact (Kd.R_reads' HO_3.out).2.2 | (with_reducible refine Kd.C_alloc ?_ _) | (with_reducible refine Kd.C_drewN ?_ _) | (with_reducible refine Kd.C_drew ?_)))
          (case side2 => exact (Kd.R_reads' HO_3.out).2.1)
          (case side3 => repeat (first | exact (Kd.R_reads' HO_741000.out).2.2 | (with_reducible refine Kd.C_alloc ?_ _) | (with_reducible refine Kd.C_drewN ?_ _) | (with_reducible refine Kd.C_drew ?_)))
          (case side4 => exact (Kd.R_reads' HO_741000.out).2.1)
          rintro e w55 ⟨rfl, hb⟩
          refine ⟨_, rfl, ?_⟩
          replace HO_3 := hob_ HO_3 hb
          replace HO_5 := hob_ HO_5 hb
          replace HO_6 := hob_ HO_6 hb
          replace HO_741000 := hob_ HO_741000 hb
          replace BK740 := bkb_ BK740 hb
          replace HB := hbs_ hb
          (try clear hb)
          (try clear hb2)
          (try clear hk)
          (try clear hi)
          refine hK.out _ _ ((blk_cell BK740.out 0).trans rfl) (fun hHeld => ?_)
          clear hK K
          refine norm_ (a' := ?_) ?_ ?_
          rotate_left
          ·show Act.put _ (some 83) _ = _
           simp only [Act.put, List.setIfInBounds_toArray, List.set_cons_zero, List.set_cons_succ, i64_w, i32_w]
           rfl
          refine one_ (i := 17) (N := some 87) #[true, true, true, true, true, true, true, true, true, true, true, true, true, true, true, true, true, true, false, false] rfl rfl (one_of HT_.out (by kernel_rfl)) (by decide) (fun K hK => ?_)
          refine goes_ Try.func64 (by kernel_rfl) rfl #[.slice Ao39 t734.length co39, .agg #[.slice Ao10 t737.length co10], .int .i64 x12_2] (by rfl) rfl rfl (by (try simp only [List.map_toArray, List.map_cons, List.map_nil]); first | done | rfl | (simp only [List.length_drop, List.length_take]; rfl)) ?_
          with_reducible refine (spec_Decides.calls k2 _ _ t734 _ _ t737 x12_2 t761 _ ?side1 ?side2 ?side3 ?side4 A49.out).mono ?_
          (case side1 => repeat (first | exact (Kd.R_reads' HO_3.out).2.2 | (with_reducible refine Kd.C_alloc ?_ _) | (with_reducible refine Kd.C_drewN ?_ _) | (with_reducible refine Kd.C_drew ?_)))
          (case side2 => exact (Kd.R_reads' HO_3.out).2.1)
          (case side3 => repeat (first | exact (Kd.R_reads' HO_741000.out).2.2 | (with_reducible refine Kd.C_alloc ?_ _) | (with_reducible refine Kd.C_drewN ?_ _) | (with_reducible refine Kd.C_drew ?_)))
          (case side4 => exact (Kd.R_reads' HO_741000.out).2.1)
          rintro e w56 ⟨rfl, hb⟩
          refine ⟨_, rfl, ?_⟩
          replace HO_3 := hob_ HO_3 hb
          replace HO_5 := hob_ HO_5 hb
          replace HO_6 := hob_ HO_6 hb
          replace HO_741000 := hob_ HO_741000 hb
          replace BK740 := bkb_ BK740 hb
          replace HB := hbs_ hb
          (try clear hb)
          (try clear hb2)
          (try clear hk)
          (try clear hi)
          refine hK.out _ _ ((blk_cell BK740.out 0).trans rfl) (fun hHeld => ?_)
          clear hK K
          refine norm_ (a' := ?_) ?_ ?_
          rotate_left
          ·show Act.put _ (some 87) _ = _
           simp only [Act.put, List.setIfInBounds_toArray, List.set_cons_zero, List.set_cons_succ, i64_w, i32_w]
           rfl
          refine pureZ_ (i := 18) (some 88) #[true, true, true, true, true, true, true, true, true, true, true, true, true, true, true, true, true, true, true, false] (any_of HT_.out (by kernel_rfl)) ?_
          refine pureZ_ (i := 19) (some 89) #[true, true, true, true, true, true, true, true, true, true, true, true, true, true, true, true, true, true, true, true] (any_of HT_.out (by kernel_rfl)) ?_
          refine done_ (done_of HT_.out (by kernel_rfl)) ?_
          try go_wp2
          go_ret
          exact ⟨eq_, bl_⟩
         ·rw [if_neg c50] at H
          have c50b0 : (t760 != t761) = false := by simpa using c50
          (try (have c50b1 : decide (t760 = t761) = true := by simpa using c50))
          (try (have c50b2 : (t760 == t761) = true := by simpa using c50))
          clear c50
          have H' := Aside0.mk H
          clear H
          try go_wp2
          replace HO_3 := Aside0.mk (Kd.R_drew HO_3.out)
          replace HO_5 := Aside0.mk (Kd.R_drew HO_5.out)
          replace HO_6 := Aside0.mk (Kd.R_drew HO_6.out)
          replace HO_741000 := Aside0.mk (Kd.R_drew HO_741000.out)
          replace BK740 := Aside0.mk (blk_drew BK740.out)
          replace HB := Aside0.mk (below_drew1 HB.out)
          obtain ⟨Ao58, co58, eo58⟩ := Kd.R_slice HO_6.out
          (first | subst eo58 | (injection eo58 with f1_ f2_ f3_; have f4_ := f1_.symm; have f5_ := f3_.symm; clear f1_ f2_ f3_; subst f4_; subst f5_))
          refine start_ (n := 20) (S := fun w' => w'.cell? ⟨gb740, 0, none⟩ = some (.slice Ao10 t737.length co10)) (ds := []) #[false, false, false, false, false, false, false, false, false, false, false, false, false, false, false, false, false, false, false, false] (by kernel_rfl) rfl rfl ((blk_cell BK740.out 0).trans rfl) (fun hHeld => ?_); refine with_tabW laws_FnPoliciesNeed.tab24 laws_FnPoliciesNeed.bits24 (fun HT_ HW_ => ?_)
          generalize wr.drew = w57 at HO_3 HO_5 HO_6 HO_741000 BK740 HB hHeld ⊢
          refine pureZ_ (i := 0) (some 70) #[true, false, false, false, false, false, false, false, false, false, false, false, false, false, false, false, false, false, false, false] (any_of HT_.out (by kernel_rfl)) ?_
          refine pureZ_ (i := 2) (some 72) #[true, false, true, false, false, false, false, false, false, false, false, false, false, false, false, false, false, false, false, false] (any_of HT_.out (by kernel_rfl)) ?_
          refine pureZ_ (i := 4) (some 74) #[true, false, true, false, true, false, false, false, false, false, false, false, false, false, false, false, false, false, false, false] (any_of HT_.out (by kernel_rfl)) ?_
          refine pureZ_ (i := 6) (some 76) #[true, false, true, false, true, false, true, false, false, false, false, false, false, false, false, false, false, false, false, false] (any_of HT_.out (by kernel_rfl)) ?_
          refine take_ (i := 1) (N := some 71) (v := ?_) (a' := ?_) #[true, true, true, false, true, false, true, false, false, false, false, false, false, false, false, false, false, false, false, false] rfl rfl (take_ofW HT_.out HW_.out (by kernel_rfl)) (fun _ _ _ h => h) (Or.inl ⟨by rfl, ?_⟩) hHeld ?_ ?_
          rotate_left
          ·intro w' s0
           go_simp
           with_reducible rfl
          rotate_left
          ·simp only [Act.put, List.setIfInBounds_toArray, List.set_cons_zero, List.set_cons_succ, i64_w, i32_w]
           rfl
          refine take_ (i := 5) (N := some 75) (v := ?_) (a' := ?_) #[true, true, true, false, true, true, true, false, false, false, false, false, false, false, false, false, false, false, false, false] rfl rfl (take_ofW HT_.out HW_.out (by kernel_rfl)) (fun _ _ _ h => h) (Or.inl ⟨by rfl, ?_⟩) hHeld ?_ ?_
          rotate_left
          ·intro w' s0
           go_simp
           with_reducible rfl
          rotate_left
          ·simp only [Act.put, List.setIfInBounds_toArray, List.set_cons_zero, List.set_cons_succ, i64_w, i32_w]
           rfl
          refine one_ (i := 3) (N := some 73) #[true, true, true, true, true, true, true, false, false, false, false, false, false, false, false, false, false, false, false, false] rfl rfl (one_of HT_.out (by kernel_rfl)) (by decide) (fun K hK => ?_)
          refine goes_ Try.func47 (by kernel_rfl) rfl #[.slice Ao58 x6_1.length co58, .agg #[.slice Ao10 t737.length co10], .int .i64 x12_2] (by rfl) rfl rfl (by (try simp only [List.map_toArray, List.map_cons, List.map_nil]); first | done | rfl | (simp only [List.length_drop, List.length_take]; rfl)) ?_
          with_reducible refine (impl_Decides.calls k2 _ _ x6_1 _ _ t737 x12_2 t758 _ ?side1 ?side2 ?side3 ?side4 A41.out).mono ?_
          (case side1 => repeat (first | exact (Kd.R_reads' HO_6.out).2.2 | (with_reducible refine Kd.C_alloc ?_ _) | (with_reducible refine Kd.C_drewN ?_ _) | (with_reducible refine Kd.C_drew ?_)))
          (case side2 => exact (Kd.R_reads' HO_6.out).2.1)
          (case side3 => repeat (first | exact (Kd.R_reads' HO_741000.out).2.2 | (with_reducible refine Kd.C_alloc ?_ _) | (with_reducible refine Kd.C_drewN ?_ _) | (with_reducible refine Kd.C_drew ?_)))
          (case side4 => exact (Kd.R_reads' HO_741000.out).2.1)
          rintro e w59 ⟨rfl, hb⟩
          refine ⟨_, rfl, ?_⟩
          replace HO_3 := hob_ HO_3 hb
          replace HO_5 := hob_ HO_5 hb
          replace HO_6 := hob_ HO_6 hb
          replace HO_741000 := hob_ HO_741000 hb
          replace BK740 := bkb_ BK740 hb
          replace HB := hbs_ hb
          (try clear hb)
          (try clear hb2)
          (try clear hk)
          (try clear hi)
          refine hK.out _ _ ((blk_cell BK740.out 0).trans rfl) (fun hHeld => ?_)
          clear hK K
          refine norm_ (a' := ?_) ?_ ?_
          rotate_left
          ·show Act.put _ (some 73) _ = _
           simp only [Act.put, List.setIfInBounds_toArray, List.set_cons_zero, List.set_cons_succ, i64_w, i32_w]
           rfl
          refine one_ (i := 7) (N := some 77) #[true, true, true, true, true, true, true, true, false, false, false, false, false, false, false, false, false, false, false, false] rfl rfl (one_of HT_.out (by kernel_rfl)) (by decide) (fun K hK => ?_)
          refine goes_ Try.func47 (by kernel_rfl) rfl #[.slice Ao39 t734.length co39, .agg #[.slice Ao10 t737.length co10], .int .i64 x12_2] (by rfl) rfl rfl (by (try simp only [List.map_toArray, List.map_cons, List.map_nil]); first | done | rfl | (simp only [List.length_drop, List.length_take]; rfl)) ?_
          with_reducible refine (impl_Decides.calls k2 _ _ t734 _ _ t737 x12_2 t759 _ ?side1 ?side2 ?side3 ?side4 A42.out).mono ?_
          (case side1 => repeat (first | exact (Kd.R_reads' HO_3.out).2.2 | (with_reducible refine Kd.C_alloc ?_ _) | (with_reducible refine Kd.C_drewN ?_ _) | (with_reducible refine Kd.C_drew ?_)))
          (case side2 => exact (Kd.R_reads' HO_3.out).2.1)
          (case side3 => repeat (first | exact (Kd.R_reads' HO_741000.out).2.2 | (with_reducible refine Kd.C_alloc ?_ _) | (with_reducible refine Kd.C_drewN ?_ _) | (with_reducible refine Kd.C_drew ?_)))
          (case side4 => exact (Kd.R_reads' HO_741000.out).2.1)
          rintro e w60 ⟨rfl, hb⟩
          refine ⟨_, rfl, ?_⟩
          replace HO_3 := hob_ HO_3 hb
          replace HO_5 := hob_ HO_5 hb
          replace HO_6 := hob_ HO_6 hb
          replace HO_741000 := hob_ HO_741000 hb
          replace BK740 := bkb_ BK740 hb
          replace HB := hbs_ hb
          (try clear hb)
          (try clear hb2)
          (try clear hk)
          (try clear hi)
          refine hK.out _ _ ((blk_cell BK740.out 0).trans rfl) (fun hHeld => ?_)
          clear hK K
          refine norm_ (a' := ?_) ?_ ?_
          rotate_left
          ·show Act.put _ (some 77) _ = _
           simp only [Act.put, List.setIfInBounds_toArray, List.set_cons_zero, List.set_cons_succ, i64_w, i32_w]
           rfl
          refine pureZ_ (i := 8) (some 78) #[true, true, true, true, true, true, true, true, true, false, false, false, false, false, false, false, false, false, false, false] (any_of HT_.out (by kernel_rfl)) ?_
          refine pureZ_ (i := 9) (some 79) #[true, true, true, true, true, true, true, true, true, true, false, false, false, false, false, false, false, false, false, false] (any_of HT_.out (by kernel_rfl)) ?_
          refine pureZ_ (i := 10) (some 80) #[true, true, true, true, true, true, true, true, true, true, true, false, false, false, false, false, false, false, false, false] (any_of HT_.out (by kernel_rfl)) ?_
          refine pureZ_ (i := 12) (some 82) #[true, true, true, true, true, true, true, true, true, true, true, false, true, false, false, false, false, false, false, false] (any_of HT_.out (by kernel_rfl)) ?_
          refine pureZ_ (i := 14) (some 84) #[true, true, true, true, true, true, true, true, true, true, true, false, true, false, true, false, false, false, false, false] (any_of HT_.out (by kernel_rfl)) ?_
          refine pureZ_ (i := 16) (some 86) #[true, true, true, true, true, true, true, true, true, true, true, false, true, false, true, false, true, false, false, false] (any_of HT_.out (by kernel_rfl)) ?_
          refine take_ (i := 11) (N := some 81) (v := ?_) (a' := ?_) #[true, true, true, true, true, true, true, true, true, true, true, true, true, false, true, false, true, false, false, false] rfl rfl (take_ofW HT_.out HW_.out (by kernel_rfl)) (fun _ _ _ h => h) (Or.inl ⟨by rfl, ?_⟩) hHeld ?_ ?_
          rotate_left
          ·intro w' s0
           go_simp
           with_reducible rfl
          rotate_left
          ·simp only [Act.put, List.setIfInBounds_toArray, List.set_cons_zero, List.set_cons_succ, i64_w, i32_w]
           rfl
          refine take_ (i := 15) (N := some 85) (v := ?_) (a' := ?_) #[true, true, true, true, true, true, true, true, true, true, true, true, true, false, true, true, true, false, false, false] rfl rfl (take_ofW HT_.out HW_.out (by kernel_rfl)) (fun _ _ _ h => h) (Or.inl ⟨by rfl, ?_⟩) hHeld ?_ ?_
          rotate_left
          ·intro w' s0
           go_simp
           with_reducible rfl
          rotate_left
          ·simp only [Act.put, List.setIfInBounds_toArray, List.set_cons_zero, List.set_cons_succ, i64_w, i32_w]
           rfl
          refine one_ (i := 13) (N := some 83) #[true, true, true, true, true, true, true, true, true, true, true, true, true, true, true, true, true, false, false, false] rfl rfl (one_of HT_.out (by kernel_rfl)) (by decide) (fun K hK => ?_)
          refine goes_ Try.func47 (by kernel_rfl) rfl #[.slice Ao39 t734.length co39, .agg #[.slice Ao10 t737.length co10], .int .i64 x12_2] (by rfl) rfl rfl (by (try simp only [List.map_toArray, List.map_cons, List.map_nil]); first | done | rfl | (simp only [List.length_drop, List.length_take]; rfl)) ?_
          with_reducible refine (impl_Decides.calls k2 _ _ t734 _ _ t737 x12_2 t760 _ ?side1 ?side2 ?side3 ?side4 A48.out).mono ?_
          (case side1 => repeat (first | exact (Kd.R_reads' HO_3.out).2.2 | (with_reducible refine Kd.C_alloc ?_ _) | (with_reducible refine Kd.C_drewN ?_ _) | (with_reducible refine Kd.C_drew ?_)))
          (case side2 => exact (Kd.R_reads' HO_3.out).2.1)
          (case side3 => repeat (first | exact (Kd.R_reads' HO_741000.out).2.2 | (with_reducible refine Kd.C_alloc ?_ _) | (with_reducible refine Kd.C_drewN ?_ _) | (with_reducible refine Kd.C_drew ?_)))
          (case side4 => exact (Kd.R_reads' HO_741000.out).2.1)
          rintro e w61 ⟨rfl, hb⟩
          refine ⟨_, rfl, ?_⟩
          replace HO_3 := hob_ HO_3 hb
          replace HO_5 := hob_ HO_5 hb
          replace HO_6 := hob_ HO_6 hb
          replace HO_741000 := hob_ HO_741000 hb
          replace BK740 := bkb_ BK740 hb
          replace HB := hbs_ hb
          (try clear hb)
          (try clear hb2)
          (try clear hk)
          (try clear hi)
          refine hK.out _ _ ((blk_cell BK740.out 0).trans rfl) (fun hHeld => ?_)
          clear hK K
          refine norm_ (a' := ?_) ?_ ?_
          rotate_left
          ·show Act.put _ (some 83) _ = _
           simp only [Act.put, List.setIfInBounds_toArray, List.set_cons_zero, List.set_cons_succ, i64_w, i32_w]
           rfl
          refine one_ (i := 17) (N := some 87) #[true, true, true, true, true, true, true, true, true, true, true, true, true, true, true, true, true, true, false, false] rfl rfl (one_of HT_.out (by kernel_rfl)) (by decide) (fun K hK => ?_)
          refine goes_ Try.func64 (by kernel_rfl) rfl #[.slice Ao39 t734.length co39, .agg #[.slice Ao10 t737.length co10], .int .i64 x12_2] (by rfl) rfl rfl (by (try simp only [List.map_toArray, List.map_cons, List.map_nil]); first | done | rfl | (simp only [List.length_drop, List.length_take]; rfl)) ?_
          with_reducible refine (spec_Decides.calls k2 _ _ t734 _ _ t737 x12_2 t761 _ ?side1 ?side2 ?side3 ?side4 A49.out).mono ?_
          (case side1 => repeat (first | exact (Kd.R_reads' HO_3.out).2.2 | (with_reducible refine Kd.C_alloc ?_ _) | (with_reducible refine Kd.C_drewN ?_ _) | (with_reducible refine Kd.C_drew ?_)))
          (case side2 => exact (Kd.R_reads' HO_3.out).2.1)
          (case side3 => repeat (first | exact (Kd.R_reads' HO_741000.out).2.2 | (with_reducible refine Kd.C_alloc ?_ _) | (with_reducible refine Kd.C_drewN ?_ _) | (with_reducible refine Kd.C_drew ?_)))
          (case side4 => exact (Kd.R_reads' HO_741000.out).2.1)
          rintro e w62 ⟨rfl, hb⟩
          refine ⟨_, rfl, ?_⟩
          replace HO_3 := hob_ HO_3 hb
          replace HO_5 := hob_ HO_5 hb
          replace HO_6 := hob_ HO_6 hb
          replace HO_741000 := hob_ HO_741000 hb
          replace BK740 := bkb_ BK740 hb
          replace HB := hbs_ hb
          (try clear hb)
          (try clear hb2)
          (try clear hk)
          (try clear hi)
          refine hK.out _ _ ((blk_cell BK740.out 0).trans rfl) (fun hHeld => ?_)
          clear hK K
          refine norm_ (a' := ?_) ?_ ?_
          rotate_left
          ·show Act.put _ (some 87) _ = _
           simp only [Act.put, List.setIfInBounds_toArray, List.set_cons_zero, List.set_cons_succ, i64_w, i32_w]
           rfl
          refine pureZ_ (i := 18) (some 88) #[true, true, true, true, true, true, true, true, true, true, true, true, true, true, true, true, true, true, true, false] (any_of HT_.out (by kernel_rfl)) ?_
          refine pureZ_ (i := 19) (some 89) #[true, true, true, true, true, true, true, true, true, true, true, true, true, true, true, true, true, true, true, true] (any_of HT_.out (by kernel_rfl)) ?_
          refine done_ (done_of HT_.out (by kernel_rfl)) ?_
          try go_wp2
          go_roundg k2
          case measure => have := HK1.out; have := HK2.out; omega
          case rel => exact ⟨(wrap64 (x12_2 + 1)), rf_, H', ⟨by have := HK1.out; have := HK2.out; omega⟩, ⟨by (with_reducible repeat (first | apply Kd.R_alloc | apply Kd.R_drewN | apply Kd.R_drew)); exact HO_3.out⟩, ⟨by (with_reducible repeat (first | apply Kd.R_alloc | apply Kd.R_drewN | apply Kd.R_drew)); exact HO_5.out⟩, ⟨by (with_reducible repeat (first | apply Kd.R_alloc | apply Kd.R_drewN | apply Kd.R_drew)); exact HO_6.out⟩, ⟨by (with_reducible repeat (first | apply Kd.R_alloc | apply Kd.R_drewN | apply Kd.R_drew)); exact HO_741000.out⟩, ⟨bk_ BK740⟩, ⟨bl_⟩⟩
       ·rw [if_neg c40] at H
        have c40b0 : decide (x12_2 < 6) = false := decide_eq_false c40
        clear c40
        obtain ⟨t757, A63, H⟩ := bindE_ H
        by_cases c64 : t757 = true
        ·subst c64
         replace H := ite_t_ H
         obtain rfl := Option.some.inj H
         go_wp2_with (first | ((with_reducible refine gate_callee (f := 47) rfl ?_); refine goesC_ (some 92) Try.func47 #[.slice Ao39 t734.length co39, .agg #[.slice none 0 0], .int .i64 0] ?_; (refine (impl_Decides.calls k2 _ _ t734 _ _ ([] : List (S71)) 0 true _ ?side1 ?side2 ?side3 ?side4 A63.out).mono ?_); (case side1 => repeat (first | exact (Kd.R_reads' HO_3.out).2.2 | (with_reducible refine Kd.C_alloc ?_ _) | (with_reducible refine Kd.C_drewN ?_ _) | (with_reducible refine Kd.C_drew ?_))); (case side2 => exact (Kd.R_reads' HO_3.out).2.1); (case side3 => exact Kd.C_nil _ _); (case side4 => exact Nat.le_refl _); rintro e w65 ⟨rfl, hb⟩; refine ⟨_, rfl, ?_⟩; replace HO_3 := hob_ HO_3 hb; replace HO_5 := hob_ HO_5 hb; replace HO_6 := hob_ HO_6 hb; replace HO_741000 := hob_ HO_741000 hb; replace BK740 := bkb_ BK740 hb; replace HB := hbs_ hb; clear hb))
         go_ret
         exact ⟨eq_, bl_⟩
        ·replace c64 := Bool.eq_false_iff.mpr c64
         subst c64
         replace H := ite_f_ H
         obtain rfl := Option.some.inj H
         go_wp2_with (first | ((with_reducible refine gate_callee (f := 47) rfl ?_); refine goesC_ (some 92) Try.func47 #[.slice Ao39 t734.length co39, .agg #[.slice none 0 0], .int .i64 0] ?_; (refine (impl_Decides.calls k2 _ _ t734 _ _ ([] : List (S71)) 0 false _ ?side1 ?side2 ?side3 ?side4 A63.out).mono ?_); (case side1 => repeat (first | exact (Kd.R_reads' HO_3.out).2.2 | (with_reducible refine Kd.C_alloc ?_ _) | (with_reducible refine Kd.C_drewN ?_ _) | (with_reducible refine Kd.C_drew ?_))); (case side2 => exact (Kd.R_reads' HO_3.out).2.1); (case side3 => exact Kd.C_nil _ _); (case side4 => exact Nat.le_refl _); rintro e w66 ⟨rfl, hb⟩; refine ⟨_, rfl, ?_⟩; replace HO_3 := hob_ HO_3 hb; replace HO_5 := hob_ HO_5 hb; replace HO_6 := hob_ HO_6 hb; replace HO_741000 := hob_ HO_741000 hb; replace BK740 := bkb_ BK740 hb; replace HB := hbs_ hb; clear hb; obtain ⟨Ao67, co67, eo67⟩ := Kd.R_slice HO_5.out; subst eo67))
         go_ret
         exact ⟨eq_, bl_⟩
end Go.Proofs.Ytppdmcimddhbaaa.PE
