-- A text of this claim: written by the session's own program out of the translation (wip/tools). Lean checks it.
import Derived.Test.YtcgnegnljffkmaaPAx0
import Derived.Test.YtcgnegnljffkmaaPAx5
import Derived.Test.YtcgnegnljffkmaaPAx6
import Derived.Test.YtcgnegnljffkmaaPAx8
import Derived.Test.YtcgnegnljffkmaaPAx9
namespace Go.Proofs.Ytcgnegnljffkmaa.PA
open Go.RowKit Go.Proofs.YtcgnegnljffkmaaW.PrintWords Go.Proofs.YtcgnegnljffkmaaW.PrintLast Go.Proofs.YtcgnegnljffkmaaW.PrintMore
attribute [local go_sem] max2_int min2_int max_two min_two max_three min_three max_four min_four   -- for this text's walks alone
set_option linter.unusedVariables false
set_option linter.unusedSimpArgs false

/-! ### laws_FnExactPolicyText: function 5 -/
def laws_FnExactPolicyText.f (k : Nat) (l0_0 : List (S150)) : Option (Bool) := (laws_szPolicy.f l0_0 1048576).bind fun t293 => (if t293 < 0 then (some true) else ((laws_toPolicy.f k l0_0).bind fun t294 => ((spec_PolicyText.f k t294).bind fun t297 => ((laws_toPolicy.f k l0_0).bind fun t298 => ((impl_PolicyText.f k t298).bind fun t302 => (if t302.toList = t297.toList then ((laws_toPolicy.f k l0_0).bind fun t303 => ((laws_eqPolicy.f k t298 t303).bind fun t306 => (if t306 = true then (some true) else (some false)))) else (some false)))))))
theorem laws_FnExactPolicyText.mono : ∀ a0 k, LeO (laws_FnExactPolicyText.f k a0) (laws_FnExactPolicyText.f (k + 1) a0) := by
  intro a0 k
  unfold laws_FnExactPolicyText.f
  repeat' first
      | (with_reducible exact impl_PolicyText.mono _ _)
      | (with_reducible exact laws_eqPolicy.mono _ _ _)
      | (with_reducible exact laws_toPolicy.mono _ _)
      | (with_reducible exact spec_PolicyText.mono _ _)
      | (with_reducible exact LeO.refl _)
      | (with_reducible exact LeO.none _)
      | (with_reducible refine LeO.ite ?_ ?_)
      | (with_reducible refine LeO.bind ?_ (fun _ => ?_))
      | exact impl_PolicyText.mono _ _
      | exact laws_eqPolicy.mono _ _ _
      | exact laws_toPolicy.mono _ _
      | exact spec_PolicyText.mono _ _
      | exact LeO.none _
      | refine LeO.ite ?_ ?_
      | refine LeO.bind ?_ (fun _ => ?_)
set_option maxHeartbeats 8000000 in
set_option maxRecDepth 100000 in
theorem laws_FnExactPolicyText.calls (k : Nat) (A0_0 : Option Addr) (c0_0 : Nat) (l0_0 : List (S150)) (r : Bool) (w : World) (hr0_0 : Kd.C k150 w A0_0 l0_0.length l0_0) (hc0_0 : l0_0.length ≤ c0_0) (h : laws_FnExactPolicyText.f k l0_0 = some r) :
    Calls Try.prog 5 #[.agg #[.slice A0_0 l0_0.length c0_0]] w fun e w' => e = .returned (.bool r) ∧ Below w.heap.size w w' := by
  have hu34 := Try.underlying34
  have hu39 := Try.underlying39
  have HR0_0 := Aside0.mk hr0_0
  have HC0_0 := Aside0.mk hc0_0
  clear hr0_0 hc0_0
  have HB := Aside0.mk (Below.refl w.heap.size w)
  have H : ((laws_szPolicy.f l0_0 1048576).bind fun t293 => (if t293 < 0 then (some true) else ((laws_toPolicy.f k l0_0).bind fun t294 => ((spec_PolicyText.f k t294).bind fun t297 => ((laws_toPolicy.f k l0_0).bind fun t298 => ((impl_PolicyText.f k t298).bind fun t302 => (if t302.toList = t297.toList then ((laws_toPolicy.f k l0_0).bind fun t303 => ((laws_eqPolicy.f k t298 t303).bind fun t306 => (if t306 = true then (some true) else (some false)))) else (some false)))))))) = some r := h
  clear h
  obtain ⟨t293, A2, H⟩ := bindE_ H
  by_cases c3 : t293 < 0
  · rw [if_pos c3] at H
    have c3b0 : decide (t293 < 0) = true := decide_eq_true c3
    clear c3
    obtain rfl := Option.some.inj H
    go_enter Try.func5, Try.ntmps5
    go_wp2_with (first | ((with_reducible refine gate_dst (N := 1) rfl ?_); refine box_event ?hg (N := 1) ?hd (cs := #[.slice A0_0 l0_0.length c0_0]) (t := 34) ?hr ?_; (case hd => rfl); (case hg => rfl); (case hr => first | (go_simp; done) | (go_simp; rfl)); intro gb292 hg w4 hbox hb; have n0_ := Aside0.mk (below_step bl_ hb); have n1_ := Aside0.mk (hbox); have n2_ := Aside0.mk ((by rw [hg]; exact bls_ : w.heap.size ≤ gb292)); have n3_ := Aside0.mk ((by rw [hg]; exact bls_ : w.heap.size ≤ gb292)); clear HB; have HB := n0_; have BK292 := n1_; have GW292 := n2_; have GE292 := n3_; clear n0_ n1_ n2_ n3_; clear hb hbox hg; have hcz5 := blk_cell BK292.out; have hfz5 := blk_frozen BK292.out) | ((with_reducible refine gate_callee (f := 18) rfl ?_); refine goesL_ (some 9) rfl rfl Try.func18 (by kernel_rfl) rfl #[.agg #[.slice A0_0 l0_0.length c0_0], .int .i64 1048576] rfl (by (try simp only [List.map_toArray, List.map_cons, List.map_nil]); first | done | rfl | (simp only [List.length_drop, List.length_take]; rfl)) ?_; (with_reducible refine (laws_szPolicy.calls _ _ l0_0 1048576 t293 _ ?side1 ?side2 A2.out).mono ?_); (case side1 => repeat (first | exact (Kd.C_below HR0_0.out HB.out) | (with_reducible refine Kd.C_alloc ?_ _) | (with_reducible refine Kd.C_drewN ?_ _) | (with_reducible refine Kd.C_drew ?_))); (case side2 => exact HC0_0.out); rintro e w6 ⟨rfl, hb⟩; refine ⟨_, rfl, ?_⟩; have n0_ := Aside0.mk (blk_below (g := gb292) (o := .cells #[.slice A0_0 l0_0.length c0_0] 34 (0, 0)) (blw_ BK292) hb); have n1_ := Aside0.mk (below_step bl_ hb); clear BK292; clear HB; have BK292 := n0_; have HB := n1_; clear n0_ n1_; (try clear hb); (try clear hb2); (try clear hk); (try clear hi)))
    go_ret
    exact ⟨by first | rfl | (simp [errW_none, errW_some] <;> rfl) | (simp [*, errW_none, errW_some] <;> rfl), bl_⟩
  · rw [if_neg c3] at H
    have c3b0 : decide (t293 < 0) = false := decide_eq_false c3
    clear c3
    obtain ⟨t294, A7, H⟩ := bindE_ H
    obtain ⟨t297, A8, H⟩ := bindE_ H
    obtain ⟨t298, A9, H⟩ := bindE_ H
    obtain ⟨t302, A10, H⟩ := bindE_ H
    by_cases c11 : t302.toList = t297.toList
    · rw [if_pos c11] at H
      have c11b0 : (t302.toList == t297.toList) = true := beq_iff_eq.mpr c11
      have c11b1 : (t302.toList != t297.toList) = false := bne_eq_false_iff_eq.mpr c11
      clear c11
      obtain ⟨t303, A12, H⟩ := bindE_ H
      obtain ⟨t306, A13, H⟩ := bindE_ H
      by_cases c14 : t306 = true
      · subst c14
        replace H := ite_t_ H
        obtain rfl := Option.some.inj H
        go_enter Try.func5, Try.ntmps5
        try go_wp2_with (first | ((with_reducible refine gate_dst (N := 1) rfl ?_); refine box_event ?hg (N := 1) ?hd (cs := #[.slice A0_0 l0_0.length c0_0]) (t := 34) ?hr ?_; (case hd => rfl); (case hg => rfl); (case hr => first | (go_simp; done) | (go_simp; rfl)); intro gb292 hg w15 hbox hb; have n0_ := Aside0.mk (below_step bl_ hb); have n1_ := Aside0.mk (hbox); have n2_ := Aside0.mk ((by rw [hg]; exact bls_ : w.heap.size ≤ gb292)); have n3_ := Aside0.mk ((by rw [hg]; exact bls_ : w.heap.size ≤ gb292)); clear HB; have HB := n0_; have BK292 := n1_; have GW292 := n2_; have GE292 := n3_; clear n0_ n1_ n2_ n3_; clear hb hbox hg; have hcz16 := blk_cell BK292.out; have hfz16 := blk_frozen BK292.out) | ((with_reducible refine gate_callee (f := 18) rfl ?_); refine goesL_ (some 9) rfl rfl Try.func18 (by kernel_rfl) rfl #[.agg #[.slice A0_0 l0_0.length c0_0], .int .i64 1048576] rfl (by (try simp only [List.map_toArray, List.map_cons, List.map_nil]); first | done | rfl | (simp only [List.length_drop, List.length_take]; rfl)) ?_; (with_reducible refine (laws_szPolicy.calls _ _ l0_0 1048576 t293 _ ?side1 ?side2 A2.out).mono ?_); (case side1 => repeat (first | exact (Kd.C_below HR0_0.out HB.out) | (with_reducible refine Kd.C_alloc ?_ _) | (with_reducible refine Kd.C_drewN ?_ _) | (with_reducible refine Kd.C_drew ?_))); (case side2 => exact HC0_0.out); rintro e w17 ⟨rfl, hb⟩; refine ⟨_, rfl, ?_⟩; have n0_ := Aside0.mk (blk_below (g := gb292) (o := .cells #[.slice A0_0 l0_0.length c0_0] 34 (0, 0)) (blw_ BK292) hb); have n1_ := Aside0.mk (below_step bl_ hb); clear BK292; clear HB; have BK292 := n0_; have HB := n1_; clear n0_ n1_; (try clear hb); (try clear hb2); (try clear hk); (try clear hi); have hcz18 := blk_cell BK292.out; have hfz18 := blk_frozen BK292.out) | ((with_reducible refine gate_callee (f := 20) rfl ?_); refine goesL_ (some 13) rfl rfl Try.func20 (by kernel_rfl) rfl #[.agg #[.slice A0_0 l0_0.length c0_0]] rfl (by (try simp only [List.map_toArray, List.map_cons, List.map_nil]); first | done | rfl | (simp only [List.length_drop, List.length_take]; rfl)) ?_; (with_reducible refine (laws_toPolicy.calls k _ _ l0_0 t294 _ ?side1 ?side2 A7.out).mono ?_); (case side1 => repeat (first | exact (Kd.C_below HR0_0.out HB.out) | (with_reducible refine Kd.C_alloc ?_ _) | (with_reducible refine Kd.C_drewN ?_ _) | (with_reducible refine Kd.C_drew ?_))); (case side2 => exact HC0_0.out); rintro e w19 ⟨v295, rfl, ho0, hb⟩; refine ⟨_, rfl, ?_⟩; have n0_ := Aside0.mk (Kd.R_lower ho0 bls_); have n1_ := Aside0.mk (blk_below (g := gb292) (o := .cells #[.slice A0_0 l0_0.length c0_0] 34 (0, 0)) (blw_ BK292) hb); have n2_ := Aside0.mk (below_step bl_ hb); clear BK292; clear HB; have HO296 := n0_; have BK292 := n1_; have HB := n2_; clear n0_ n1_ n2_; (try clear hb); (try clear hb2); (try clear hk); (try clear hi); (try clear ho0); obtain ⟨Ao20, co20, eo20⟩ := Kd.R_slice HO296.out; subst eo20) | ((with_reducible refine gate_callee (f := 23) rfl ?_); refine goesL_ (some 14) rfl rfl Try.func23 (by kernel_rfl) rfl #[.agg #[.slice Ao20 t294.length co20]] rfl (by (try simp only [List.map_toArray, List.map_cons, List.map_nil]); first | done | rfl | (simp only [List.length_drop, List.length_take]; rfl)) ?_; (with_reducible refine (spec_PolicyText.calls k _ _ t294 t297 _ ?side1 ?side2 A8.out).mono ?_); (case side1 => repeat (first | exact (Kd.R_reads' HO296.out).2.2 | (with_reducible refine Kd.C_alloc ?_ _) | (with_reducible refine Kd.C_drewN ?_ _) | (with_reducible refine Kd.C_drew ?_))); (case side2 => exact (Kd.R_reads' HO296.out).2.1); rintro e w21 ⟨rfl, hb⟩; refine ⟨_, rfl, ?_⟩; have n0_ := Aside0.mk (Kd.R_below (by (with_reducible repeat (first | apply Kd.R_alloc | apply Kd.R_drewN | apply Kd.R_drew)); exact HO296.out) hb); have n1_ := Aside0.mk (blk_below (g := gb292) (o := .cells #[.slice A0_0 l0_0.length c0_0] 34 (0, 0)) (blw_ BK292) hb); have n2_ := Aside0.mk (below_step bl_ hb); clear HO296; clear BK292; clear HB; have HO296 := n0_; have BK292 := n1_; have HB := n2_; clear n0_ n1_ n2_; (try clear hb); (try clear hb2); (try clear hk); (try clear hi); have hcz22 := blk_cell BK292.out; have hfz22 := blk_frozen BK292.out) | ((with_reducible refine gate_callee (f := 20) rfl ?_); refine goesL_ (some 16) rfl rfl Try.func20 (by kernel_rfl) rfl #[.agg #[.slice A0_0 l0_0.length c0_0]] rfl (by (try simp only [List.map_toArray, List.map_cons, List.map_nil]); first | done | rfl | (simp only [List.length_drop, List.length_take]; rfl)) ?_; (with_reducible refine (laws_toPolicy.calls k _ _ l0_0 t298 _ ?side1 ?side2 A9.out).mono ?_); (case side1 => repeat (first | exact (Kd.C_below HR0_0.out HB.out) | (with_reducible refine Kd.C_alloc ?_ _) | (with_reducible refine Kd.C_drewN ?_ _) | (with_reducible refine Kd.C_drew ?_))); (case side2 => exact HC0_0.out); rintro e w23 ⟨v299, rfl, ho0, hb⟩; refine ⟨_, rfl, ?_⟩; have n0_ := Aside0.mk (Kd.R_elder' (by (with_reducible repeat (first | apply Kd.R_alloc | apply Kd.R_drewN | apply Kd.R_drew)); exact HO296.out) (Kd.R_base ho0) hb); have n1_ := Aside0.mk (Kd.R_lower (Kd.R_new' ho0 (Kd.R_lt (by (with_reducible repeat (first | apply Kd.R_alloc | apply Kd.R_drewN | apply Kd.R_drew)); exact HO296.out))) bls_); have n2_ := Aside0.mk (blk_below (g := gb292) (o := .cells #[.slice A0_0 l0_0.length c0_0] 34 (0, 0)) (blw_ BK292) hb); have n3_ := Aside0.mk (below_step bl_ hb); clear HO296; clear BK292; clear HB; have HO296 := n0_; have HO300 := n1_; have BK292 := n2_; have HB := n3_; clear n0_ n1_ n2_ n3_; (try clear hb); (try clear hb2); (try clear hk); (try clear hi); (try clear ho0)) | ((with_reducible refine gate_dst (N := 5) rfl ?_); refine box_event ?hg (N := 5) ?hd (cs := #[.slice none 0 0]) (t := 39) ?hr ?_; (case hd => rfl); (case hg => rfl); (case hr => first | (go_simp; done) | (go_simp; rfl)); intro gb301 hg w24 hbox hb; have n0_ := Aside0.mk (Kd.R_below (by (with_reducible repeat (first | apply Kd.R_alloc | apply Kd.R_drewN | apply Kd.R_drew)); exact HO296.out) hb); have n1_ := Aside0.mk (Kd.R_below (by (with_reducible repeat (first | apply Kd.R_alloc | apply Kd.R_drewN | apply Kd.R_drew)); exact HO300.out) hb); have n2_ := Aside0.mk (blk_below (g := gb292) (o := .cells #[.slice A0_0 l0_0.length c0_0] 34 (0, 0)) (blw_ BK292) hb); have n3_ := Aside0.mk (below_step bl_ hb); have n4_ := Aside0.mk (hbox); have n5_ := Aside0.mk ((by rw [hg]; exact bls_ : w.heap.size ≤ gb301)); have n6_ := Aside0.mk ((by rw [hg]; exact bls_ : w.heap.size ≤ gb301)); have n7_ := Aside0.mk ((by rw [hg]; exact Nat.ne_of_lt (blk_lt (g := gb292) (o := .cells #[.slice A0_0 l0_0.length c0_0] 34 (0, 0)) (blw_ BK292)) : gb292 ≠ gb301)); have n8_ := Aside0.mk ((by rw [hg]; exact Nat.ne_of_gt (blk_lt (g := gb292) (o := .cells #[.slice A0_0 l0_0.length c0_0] 34 (0, 0)) (blw_ BK292)) : gb301 ≠ gb292)); clear HO296; clear HO300; clear BK292; clear HB; have HO296 := n0_; have HO300 := n1_; have BK292 := n2_; have HB := n3_; have BK301 := n4_; have GW301 := n5_; have GE301 := n6_; have NB292_301 := n7_; have NB301_292 := n8_; clear n0_ n1_ n2_ n3_ n4_ n5_ n6_ n7_ n8_; clear hb hbox hg; obtain ⟨Ao25, co25, eo25⟩ := Kd.R_slice HO300.out; subst eo25; have hnb26 := NB301_292.out; have hnc26 := NB292_301.out; have hcz27 := blk_cell BK301.out; have hfz27 := blk_frozen BK301.out) | ((with_reducible refine gate_callee (f := 24) rfl ?_); refine goesL_ (some 18) rfl rfl Try.func24 (by kernel_rfl) rfl #[.agg #[.slice Ao25 t298.length co25]] rfl (by (try simp only [List.map_toArray, List.map_cons, List.map_nil]); first | done | rfl | (simp only [List.length_drop, List.length_take]; rfl)) ?_; (with_reducible refine (impl_PolicyText.calls k _ _ t298 t302 _ ?side1 ?side2 A10.out).mono ?_); (case side1 => refine (Kd.R_reads' (e := 105) (base := w.heap.size) (ok := fun k_ => (True ∧ some k_ ≠ (.slice Ao20 t294.length co20 : Value).ownBlock)) (n := t298.length) (c := co25) ?_).2.2; exact (by (with_reducible repeat (first | apply Kd.R_alloc | apply Kd.R_drewN | apply Kd.R_drew)); exact (Kd.R_mono (Kd.R_far (p := ⟨gb301, 0, none⟩) (Kd.R_types HO300.out BK301.out (by decide)) (fun _ hk => hk.2) (.slice Ao25 t298.length co25)) (fun _ h_ => h_.1)))); (case side2 => exact (Kd.R_reads' HO300.out).2.1); rintro e w28 ⟨rfl, hb⟩; refine ⟨_, rfl, ?_⟩; have n0_ := Aside0.mk (Kd.R_below (by (with_reducible repeat (first | apply Kd.R_alloc | apply Kd.R_drewN | apply Kd.R_drew)); exact (Kd.R_mono (Kd.R_far (p := ⟨gb301, 0, none⟩) (Kd.R_types HO296.out BK301.out (by decide)) (fun _ hk => hk.2) (.slice Ao25 t298.length co25)) (fun _ h_ => h_.1))) hb); have n1_ := Aside0.mk (Kd.R_below (by (with_reducible repeat (first | apply Kd.R_alloc | apply Kd.R_drewN | apply Kd.R_drew)); exact (Kd.R_mono (Kd.R_far (p := ⟨gb301, 0, none⟩) (Kd.R_types HO300.out BK301.out (by decide)) (fun _ hk => hk.2) (.slice Ao25 t298.length co25)) (fun _ h_ => h_.1))) hb); have n2_ := Aside0.mk (blk_below (g := gb292) (o := .cells #[.slice A0_0 l0_0.length c0_0] 34 (0, 0)) (by (with_reducible repeat (first | refine blk_drewN ?_ _ | refine blk_drew ?_ | refine blk_alloc ?_ _)); refine blk_far ?_ NB292_301.out _; (with_reducible repeat (first | refine blk_drewN ?_ _ | refine blk_drew ?_ | refine blk_alloc ?_ _)); exact BK292.out) hb); have n3_ := Aside0.mk (blk_below (g := gb301) (o := .cells #[.slice Ao25 t298.length co25] 39 (0, 0)) (by (with_reducible repeat (first | refine blk_drewN ?_ _ | refine blk_drew ?_ | refine blk_alloc ?_ _)); refine blk_put (cs := #[.slice none 0 0]) ?_ 0 _ rfl; (with_reducible repeat (first | refine blk_drewN ?_ _ | refine blk_drew ?_ | refine blk_alloc ?_ _)); exact BK301.out) hb); have n4_ := Aside0.mk (below_step bl_ hb); clear HO296; clear HO300; clear BK292; clear BK301; clear HB; have HO296 := n0_; have HO300 := n1_; have BK292 := n2_; have BK301 := n3_; have HB := n4_; clear n0_ n1_ n2_ n3_ n4_; (try clear hb); (try clear hb2); (try clear hk); (try clear hi)))
        have n0_ := Aside0.mk (Kd.R_drew HO296.out)
        have n1_ := Aside0.mk (Kd.R_drew HO300.out)
        have n2_ := Aside0.mk (blk_drew BK292.out)
        have n3_ := Aside0.mk (blk_drew BK301.out)
        have n4_ := Aside0.mk (below_drew1 HB.out)
        clear HO296
        clear HO300
        clear BK292
        clear BK301
        clear HB
        have HO296 := n0_
        have HO300 := n1_
        have BK292 := n2_
        have BK301 := n3_
        have HB := n4_
        clear n0_ n1_ n2_ n3_ n4_
        refine start_ (n := 5) (S := fun w' => w'.cell? ⟨gb301, 0, none⟩ = some (.slice Ao25 t298.length co25) ∧ w'.cell? ⟨gb292, 0, none⟩ = some (.slice A0_0 l0_0.length c0_0)) (ds := []) #[false, false, false, false, false] (by kernel_rfl) rfl rfl ⟨(blk_cell BK301.out 0).trans rfl, (blk_cell BK292.out 0).trans rfl⟩ (fun hHeld => ?_)
        generalize w28.drew = w29 at HO296 HO300 BK292 BK301 HB hHeld ⊢
        refine take_ (i := 0) (N := some 22) (v := ?_) (a' := ?_) #[true, false, false, false, false] rfl rfl (by kernel_rfl) (fun _ _ _ h => h) (Or.inl ⟨by rfl, ?_⟩) hHeld ?_ ?_
        rotate_left
        · rintro w' ⟨s0, s1⟩
          go_simp
          with_reducible rfl
        rotate_left
        · simp only [Act.put, List.setIfInBounds_toArray, List.set_cons_zero, List.set_cons_succ, i64_w, i32_w]
          rfl
        refine take_ (i := 1) (N := some 23) (v := ?_) (a' := ?_) #[true, true, false, false, false] rfl rfl (by kernel_rfl) (fun _ _ _ h => h) (Or.inl ⟨by rfl, ?_⟩) hHeld ?_ ?_
        rotate_left
        · rintro w' ⟨s0, s1⟩
          go_simp
          with_reducible rfl
        rotate_left
        · simp only [Act.put, List.setIfInBounds_toArray, List.set_cons_zero, List.set_cons_succ, i64_w, i32_w]
          rfl
        refine one_ (i := 2) (N := some 24) #[true, true, true, false, false] rfl rfl (by kernel_rfl) (by decide) (fun K hK => ?_)
        refine goes_ Try.func20 (by kernel_rfl) rfl #[.agg #[.slice A0_0 l0_0.length c0_0]] (by rfl) rfl rfl (by (try simp only [List.map_toArray, List.map_cons, List.map_nil]); first | done | rfl | (simp only [List.length_drop, List.length_take]; rfl)) ?_
        with_reducible refine (laws_toPolicy.calls k _ _ l0_0 t303 _ ?side1 ?side2 A12.out).mono ?_
        (case side1 => repeat (first | exact (Kd.C_below HR0_0.out HB.out) | (with_reducible refine Kd.C_alloc ?_ _) | (with_reducible refine Kd.C_drewN ?_ _) | (with_reducible refine Kd.C_drew ?_)))
        (case side2 => exact HC0_0.out)
        rintro e w30 ⟨v304, rfl, ho0, hb⟩
        refine ⟨_, rfl, ?_⟩
        have n0_ := Aside0.mk (Kd.R_elder' (by (with_reducible repeat (first | apply Kd.R_alloc | apply Kd.R_drewN | apply Kd.R_drew)); exact HO296.out) (Kd.R_base ho0) hb)
        have n1_ := Aside0.mk (Kd.R_elder' (by (with_reducible repeat (first | apply Kd.R_alloc | apply Kd.R_drewN | apply Kd.R_drew)); exact HO300.out) (Kd.R_base ho0) hb)
        have n2_ := Aside0.mk (Kd.R_lower (Kd.R_new' (Kd.R_new' ho0 (Kd.R_lt (by (with_reducible repeat (first | apply Kd.R_alloc | apply Kd.R_drewN | apply Kd.R_drew)); exact HO296.out))) (Kd.R_lt (by (with_reducible repeat (first | apply Kd.R_alloc | apply Kd.R_drewN | apply Kd.R_drew)); exact HO300.out))) bls_)
        have n3_ := Aside0.mk (blk_below (g := gb292) (o := .cells #[.slice A0_0 l0_0.length c0_0] 34 (0, 0)) (blw_ BK292) hb)
        have n4_ := Aside0.mk (blk_below (g := gb301) (o := .cells #[.slice Ao25 t298.length co25] 39 (0, 0)) (blw_ BK301) hb)
        have n5_ := Aside0.mk (below_step bl_ hb)
        clear HO296
        clear HO300
        clear BK292
        clear BK301
        clear HB
        have HO296 := n0_
        have HO300 := n1_
        have HO305 := n2_
        have BK292 := n3_
        have BK301 := n4_
        have HB := n5_
        clear n0_ n1_ n2_ n3_ n4_ n5_
        (try clear hb)
        (try clear hb2)
        (try clear hk)
        (try clear hi)
        (try clear ho0)
        obtain ⟨Ao31, co31, eo31⟩ := Kd.R_slice HO305.out
        (first | subst eo31 | (injection eo31 with f1_ f2_ f3_; have f4_ := f1_.symm; have f5_ := f3_.symm; clear f1_ f2_ f3_; subst f4_; subst f5_))
        refine hK.out _ _ ⟨(blk_cell BK301.out 0).trans rfl, (blk_cell BK292.out 0).trans rfl⟩ (fun hHeld => ?_)
        clear hK K
        refine norm_ (a' := ?_) ?_ ?_
        rotate_left
        · show Act.put _ (some 24) _ = _
          simp only [Act.put, List.setIfInBounds_toArray, List.set_cons_zero, List.set_cons_succ, i64_w, i32_w]
          rfl
        refine one_ (i := 3) (N := some 25) #[true, true, true, true, false] rfl rfl (by kernel_rfl) (by decide) (fun K hK => ?_)
        refine goes_ Try.func22 (by kernel_rfl) rfl #[.agg #[.slice Ao25 t298.length co25], .agg #[.slice Ao31 t303.length co31]] (by rfl) rfl rfl (by (try simp only [List.map_toArray, List.map_cons, List.map_nil]); first | done | rfl | (simp only [List.length_drop, List.length_take]; rfl)) ?_
        with_reducible refine (laws_eqPolicy.calls k _ _ t298 _ _ t303 true _ ?side1 ?side2 ?side3 ?side4 A13.out).mono ?_
        (case side1 => repeat (first | exact (Kd.R_reads' HO300.out).2.2 | (with_reducible refine Kd.C_alloc ?_ _) | (with_reducible refine Kd.C_drewN ?_ _) | (with_reducible refine Kd.C_drew ?_)))
        (case side2 => exact (Kd.R_reads' HO300.out).2.1)
        (case side3 => repeat (first | exact (Kd.R_reads' HO305.out).2.2 | (with_reducible refine Kd.C_alloc ?_ _) | (with_reducible refine Kd.C_drewN ?_ _) | (with_reducible refine Kd.C_drew ?_)))
        (case side4 => exact (Kd.R_reads' HO305.out).2.1)
        rintro e w32 ⟨rfl, hb⟩
        refine ⟨_, rfl, ?_⟩
        have n0_ := Aside0.mk (Kd.R_below (by (with_reducible repeat (first | apply Kd.R_alloc | apply Kd.R_drewN | apply Kd.R_drew)); exact HO296.out) hb)
        have n1_ := Aside0.mk (Kd.R_below (by (with_reducible repeat (first | apply Kd.R_alloc | apply Kd.R_drewN | apply Kd.R_drew)); exact HO300.out) hb)
        have n2_ := Aside0.mk (Kd.R_below (by (with_reducible repeat (first | apply Kd.R_alloc | apply Kd.R_drewN | apply Kd.R_drew)); exact HO305.out) hb)
        have n3_ := Aside0.mk (blk_below (g := gb292) (o := .cells #[.slice A0_0 l0_0.length c0_0] 34 (0, 0)) (blw_ BK292) hb)
        have n4_ := Aside0.mk (blk_below (g := gb301) (o := .cells #[.slice Ao25 t298.length co25] 39 (0, 0)) (blw_ BK301) hb)
        have n5_ := Aside0.mk (below_step bl_ hb)
        clear HO296
        clear HO300
        clear HO305
        clear BK292
        clear BK301
        clear HB
        have HO296 := n0_
        have HO300 := n1_
        have HO305 := n2_
        have BK292 := n3_
        have BK301 := n4_
        have HB := n5_
        clear n0_ n1_ n2_ n3_ n4_ n5_
        (try clear hb)
        (try clear hb2)
        (try clear hk)
        (try clear hi)
        refine hK.out _ _ ⟨(blk_cell BK301.out 0).trans rfl, (blk_cell BK292.out 0).trans rfl⟩ (fun hHeld => ?_)
        clear hK K
        refine norm_ (a' := ?_) ?_ ?_
        rotate_left
        · show Act.put _ (some 25) _ = _
          simp only [Act.put, List.setIfInBounds_toArray, List.set_cons_zero, List.set_cons_succ, i64_w, i32_w]
          rfl
        refine pure_ (i := 4) (N := some 26) (v := ?_) (a' := ?_) #[true, true, true, true, true] rfl rfl (by kernel_rfl) (fun _ _ _ h => h) (Or.inl ⟨by rfl, ?_⟩) ?_ ?_
        rotate_left
        · intro w'
          go_simp
          with_reducible rfl
        rotate_left
        · simp only [Act.put, List.setIfInBounds_toArray, List.set_cons_zero, List.set_cons_succ, i64_w, i32_w]
          rfl
        refine done_ (by kernel_rfl) ?_
        try go_wp2
        go_ret
        exact ⟨by first | rfl | (simp [errW_none, errW_some] <;> rfl) | (simp [*, errW_none, errW_some] <;> rfl), bl_⟩
      · replace c14 := Bool.eq_false_iff.mpr c14
        subst c14
        replace H := ite_f_ H
        obtain rfl := Option.some.inj H
        go_enter Try.func5, Try.ntmps5
        try go_wp2_with (first | ((with_reducible refine gate_dst (N := 1) rfl ?_); refine box_event ?hg (N := 1) ?hd (cs := #[.slice A0_0 l0_0.length c0_0]) (t := 34) ?hr ?_; (case hd => rfl); (case hg => rfl); (case hr => first | (go_simp; done) | (go_simp; rfl)); intro gb292 hg w33 hbox hb; have n0_ := Aside0.mk (below_step bl_ hb); have n1_ := Aside0.mk (hbox); have n2_ := Aside0.mk ((by rw [hg]; exact bls_ : w.heap.size ≤ gb292)); have n3_ := Aside0.mk ((by rw [hg]; exact bls_ : w.heap.size ≤ gb292)); clear HB; have HB := n0_; have BK292 := n1_; have GW292 := n2_; have GE292 := n3_; clear n0_ n1_ n2_ n3_; clear hb hbox hg; have hcz34 := blk_cell BK292.out; have hfz34 := blk_frozen BK292.out) | ((with_reducible refine gate_callee (f := 18) rfl ?_); refine goesL_ (some 9) rfl rfl Try.func18 (by kernel_rfl) rfl #[.agg #[.slice A0_0 l0_0.length c0_0], .int .i64 1048576] rfl (by (try simp only [List.map_toArray, List.map_cons, List.map_nil]); first | done | rfl | (simp only [List.length_drop, List.length_take]; rfl)) ?_; (with_reducible refine (laws_szPolicy.calls _ _ l0_0 1048576 t293 _ ?side1 ?side2 A2.out).mono ?_); (case side1 => repeat (first | exact (Kd.C_below HR0_0.out HB.out) | (with_reducible refine Kd.C_alloc ?_ _) | (with_reducible refine Kd.C_drewN ?_ _) | (with_reducible refine Kd.C_drew ?_))); (case side2 => exact HC0_0.out); rintro e w35 ⟨rfl, hb⟩; refine ⟨_, rfl, ?_⟩; have n0_ := Aside0.mk (blk_below (g := gb292) (o := .cells #[.slice A0_0 l0_0.length c0_0] 34 (0, 0)) (blw_ BK292) hb); have n1_ := Aside0.mk (below_step bl_ hb); clear BK292; clear HB; have BK292 := n0_; have HB := n1_; clear n0_ n1_; (try clear hb); (try clear hb2); (try clear hk); (try clear hi); have hcz36 := blk_cell BK292.out; have hfz36 := blk_frozen BK292.out) | ((with_reducible refine gate_callee (f := 20) rfl ?_); refine goesL_ (some 13) rfl rfl Try.func20 (by kernel_rfl) rfl #[.agg #[.slice A0_0 l0_0.length c0_0]] rfl (by (try simp only [List.map_toArray, List.map_cons, List.map_nil]); first | done | rfl | (simp only [List.length_drop, List.length_take]; rfl)) ?_; (with_reducible refine (laws_toPolicy.calls k _ _ l0_0 t294 _ ?side1 ?side2 A7.out).mono ?_); (case side1 => repeat (first | exact (Kd.C_below HR0_0.out HB.out) | (with_reducible refine Kd.C_alloc ?_ _) | (with_reducible refine Kd.C_drewN ?_ _) | (with_reducible refine Kd.C_drew ?_))); (case side2 => exact HC0_0.out); rintro e w37 ⟨v295, rfl, ho0, hb⟩; refine ⟨_, rfl, ?_⟩; have n0_ := Aside0.mk (Kd.R_lower ho0 bls_); have n1_ := Aside0.mk (blk_below (g := gb292) (o := .cells #[.slice A0_0 l0_0.length c0_0] 34 (0, 0)) (blw_ BK292) hb); have n2_ := Aside0.mk (below_step bl_ hb); clear BK292; clear HB; have HO296 := n0_; have BK292 := n1_; have HB := n2_; clear n0_ n1_ n2_; (try clear hb); (try clear hb2); (try clear hk); (try clear hi); (try clear ho0); obtain ⟨Ao38, co38, eo38⟩ := Kd.R_slice HO296.out; subst eo38) | ((with_reducible refine gate_callee (f := 23) rfl ?_); refine goesL_ (some 14) rfl rfl Try.func23 (by kernel_rfl) rfl #[.agg #[.slice Ao38 t294.length co38]] rfl (by (try simp only [List.map_toArray, List.map_cons, List.map_nil]); first | done | rfl | (simp only [List.length_drop, List.length_take]; rfl)) ?_; (with_reducible refine (spec_PolicyText.calls k _ _ t294 t297 _ ?side1 ?side2 A8.out).mono ?_); (case side1 => repeat (first | exact (Kd.R_reads' HO296.out).2.2 | (with_reducible refine Kd.C_alloc ?_ _) | (with_reducible refine Kd.C_drewN ?_ _) | (with_reducible refine Kd.C_drew ?_))); (case side2 => exact (Kd.R_reads' HO296.out).2.1); rintro e w39 ⟨rfl, hb⟩; refine ⟨_, rfl, ?_⟩; have n0_ := Aside0.mk (Kd.R_below (by (with_reducible repeat (first | apply Kd.R_alloc | apply Kd.R_drewN | apply Kd.R_drew)); exact HO296.out) hb); have n1_ := Aside0.mk (blk_below (g := gb292) (o := .cells #[.slice A0_0 l0_0.length c0_0] 34 (0, 0)) (blw_ BK292) hb); have n2_ := Aside0.mk (below_step bl_ hb); clear HO296; clear BK292; clear HB; have HO296 := n0_; have BK292 := n1_; have HB := n2_; clear n0_ n1_ n2_; (try clear hb); (try clear hb2); (try clear hk); (try clear hi); have hcz40 := blk_cell BK292.out; have hfz40 := blk_frozen BK292.out) | ((with_reducible refine gate_callee (f := 20) rfl ?_); refine goesL_ (some 16) rfl rfl Try.func20 (by kernel_rfl) rfl #[.agg #[.slice A0_0 l0_0.length c0_0]] rfl (by (try simp only [List.map_toArray, List.map_cons, List.map_nil]); first | done | rfl | (simp only [List.length_drop, List.length_take]; rfl)) ?_; (with_reducible refine (laws_toPolicy.calls k _ _ l0_0 t298 _ ?side1 ?side2 A9.out).mono ?_); (case side1 => repeat (first | exact (Kd.C_below HR0_0.out HB.out) | (with_reducible refine Kd.C_alloc ?_ _) | (with_reducible refine Kd.C_drewN ?_ _) | (with_reducible refine Kd.C_drew ?_))); (case side2 => exact HC0_0.out); rintro e w41 ⟨v299, rfl, ho0, hb⟩; refine ⟨_, rfl, ?_⟩; have n0_ := Aside0.mk (Kd.R_elder' (by (with_reducible repeat (first | apply Kd.R_alloc | apply Kd.R_drewN | apply Kd.R_drew)); exact HO296.out) (Kd.R_base ho0) hb); have n1_ := Aside0.mk (Kd.R_lower (Kd.R_new' ho0 (Kd.R_lt (by (with_reducible repeat (first | apply Kd.R_alloc | apply Kd.R_drewN | apply Kd.R_drew)); exact HO296.out))) bls_); have n2_ := Aside0.mk (blk_below (g := gb292) (o := .cells #[.slice A0_0 l0_0.length c0_0] 34 (0, 0)) (blw_ BK292) hb); have n3_ := Aside0.mk (below_step bl_ hb); clear HO296; clear BK292; clear HB; have HO296 := n0_; have HO300 := n1_; have BK292 := n2_; have HB := n3_; clear n0_ n1_ n2_ n3_; (try clear hb); (try clear hb2); (try clear hk); (try clear hi); (try clear ho0)) | ((with_reducible refine gate_dst (N := 5) rfl ?_); refine box_event ?hg (N := 5) ?hd (cs := #[.slice none 0 0]) (t := 39) ?hr ?_; (case hd => rfl); (case hg => rfl); (case hr => first | (go_simp; done) | (go_simp; rfl)); intro gb301 hg w42 hbox hb; have n0_ := Aside0.mk (Kd.R_below (by (with_reducible repeat (first | apply Kd.R_alloc | apply Kd.R_drewN | apply Kd.R_drew)); exact HO296.out) hb); have n1_ := Aside0.mk (Kd.R_below (by (with_reducible repeat (first | apply Kd.R_alloc | apply Kd.R_drewN | apply Kd.R_drew)); exact HO300.out) hb); have n2_ := Aside0.mk (blk_below (g := gb292) (o := .cells #[.slice A0_0 l0_0.length c0_0] 34 (0, 0)) (blw_ BK292) hb); have n3_ := Aside0.mk (below_step bl_ hb); have n4_ := Aside0.mk (hbox); have n5_ := Aside0.mk ((by rw [hg]; exact bls_ : w.heap.size ≤ gb301)); have n6_ := Aside0.mk ((by rw [hg]; exact bls_ : w.heap.size ≤ gb301)); have n7_ := Aside0.mk ((by rw [hg]; exact Nat.ne_of_lt (blk_lt (g := gb292) (o := .cells #[.slice A0_0 l0_0.length c0_0] 34 (0, 0)) (blw_ BK292)) : gb292 ≠ gb301)); have n8_ := Aside0.mk ((by rw [hg]; exact Nat.ne_of_gt (blk_lt (g := gb292) (o := .cells #[.slice A0_0 l0_0.length c0_0] 34 (0, 0)) (blw_ BK292)) : gb301 ≠ gb292)); clear HO296; clear HO300; clear BK292; clear HB; have HO296 := n0_; have HO300 := n1_; have BK292 := n2_; have HB := n3_; have BK301 := n4_; have GW301 := n5_; have GE301 := n6_; have NB292_301 := n7_; have NB301_292 := n8_; clear n0_ n1_ n2_ n3_ n4_ n5_ n6_ n7_ n8_; clear hb hbox hg; obtain ⟨Ao43, co43, eo43⟩ := Kd.R_slice HO300.out; subst eo43; have hnb44 := NB301_292.out; have hnc44 := NB292_301.out; have hcz45 := blk_cell BK301.out; have hfz45 := blk_frozen BK301.out) | ((with_reducible refine gate_callee (f := 24) rfl ?_); refine goesL_ (some 18) rfl rfl Try.func24 (by kernel_rfl) rfl #[.agg #[.slice Ao43 t298.length co43]] rfl (by (try simp only [List.map_toArray, List.map_cons, List.map_nil]); first | done | rfl | (simp only [List.length_drop, List.length_take]; rfl)) ?_; (with_reducible refine (impl_PolicyText.calls k _ _ t298 t302 _ ?side1 ?side2 A10.out).mono ?_); (case side1 => refine (Kd.R_reads' (e := 105) (base := w.heap.size) (ok := fun k_ => (True ∧ some k_ ≠ (.slice Ao38 t294.length co38 : Value).ownBlock)) (n := t298.length) (c := co43) ?_).2.2; exact (by (with_reducible repeat (first | apply Kd.R_alloc | apply Kd.R_drewN | apply Kd.R_drew)); exact (Kd.R_mono (Kd.R_far (p := ⟨gb301, 0, none⟩) (Kd.R_types HO300.out BK301.out (by decide)) (fun _ hk => hk.2) (.slice Ao43 t298.length co43)) (fun _ h_ => h_.1)))); (case side2 => exact (Kd.R_reads' HO300.out).2.1); rintro e w46 ⟨rfl, hb⟩; refine ⟨_, rfl, ?_⟩; have n0_ := Aside0.mk (Kd.R_below (by (with_reducible repeat (first | apply Kd.R_alloc | apply Kd.R_drewN | apply Kd.R_drew)); exact (Kd.R_mono (Kd.R_far (p := ⟨gb301, 0, none⟩) (Kd.R_types HO296.out BK301.out (by decide)) (fun _ hk => hk.2) (.slice Ao43 t298.length co43)) (fun _ h_ => h_.1))) hb); have n1_ := Aside0.mk (Kd.R_below (by (with_reducible repeat (first | apply Kd.R_alloc | apply Kd.R_drewN | apply Kd.R_drew)); exact (Kd.R_mono (Kd.R_far (p := ⟨gb301, 0, none⟩) (Kd.R_types HO300.out BK301.out (by decide)) (fun _ hk => hk.2) (.slice Ao43 t298.length co43)) (fun _ h_ => h_.1))) hb); have n2_ := Aside0.mk (blk_below (g := gb292) (o := .cells #[.slice A0_0 l0_0.length c0_0] 34 (0, 0)) (by (with_reducible repeat (first | refine blk_drewN ?_ _ | refine blk_drew ?_ | refine blk_alloc ?_ _)); refine blk_far ?_ NB292_301.out _; (with_reducible repeat (first | refine blk_drewN ?_ _ | refine blk_drew ?_ | refine blk_alloc ?_ _)); exact BK292.out) hb); have n3_ := Aside0.mk (blk_below (g := gb301) (o := .cells #[.slice Ao43 t298.length co43] 39 (0, 0)) (by (with_reducible repeat (first | refine blk_drewN ?_ _ | refine blk_drew ?_ | refine blk_alloc ?_ _)); refine blk_put (cs := #[.slice none 0 0]) ?_ 0 _ rfl; (with_reducible repeat (first | refine blk_drewN ?_ _ | refine blk_drew ?_ | refine blk_alloc ?_ _)); exact BK301.out) hb); have n4_ := Aside0.mk (below_step bl_ hb); clear HO296; clear HO300; clear BK292; clear BK301; clear HB; have HO296 := n0_; have HO300 := n1_; have BK292 := n2_; have BK301 := n3_; have HB := n4_; clear n0_ n1_ n2_ n3_ n4_; (try clear hb); (try clear hb2); (try clear hk); (try clear hi)))
        have n0_ := Aside0.mk (Kd.R_drew HO296.out)
        have n1_ := Aside0.mk (Kd.R_drew HO300.out)
        have n2_ := Aside0.mk (blk_drew BK292.out)
        have n3_ := Aside0.mk (blk_drew BK301.out)
        have n4_ := Aside0.mk (below_drew1 HB.out)
        clear HO296
        clear HO300
        clear BK292
        clear BK301
        clear HB
        have HO296 := n0_
        have HO300 := n1_
        have BK292 := n2_
        have BK301 := n3_
        have HB := n4_
        clear n0_ n1_ n2_ n3_ n4_
        refine start_ (n := 5) (S := fun w' => w'.cell? ⟨gb301, 0, none⟩ = some (.slice Ao43 t298.length co43) ∧ w'.cell? ⟨gb292, 0, none⟩ = some (.slice A0_0 l0_0.length c0_0)) (ds := []) #[false, false, false, false, false] (by kernel_rfl) rfl rfl ⟨(blk_cell BK301.out 0).trans rfl, (blk_cell BK292.out 0).trans rfl⟩ (fun hHeld => ?_)
        generalize w46.drew = w47 at HO296 HO300 BK292 BK301 HB hHeld ⊢
        refine take_ (i := 0) (N := some 22) (v := ?_) (a' := ?_) #[true, false, false, false, false] rfl rfl (by kernel_rfl) (fun _ _ _ h => h) (Or.inl ⟨by rfl, ?_⟩) hHeld ?_ ?_
        rotate_left
        · rintro w' ⟨s0, s1⟩
          go_simp
          with_reducible rfl
        rotate_left
        · simp only [Act.put, List.setIfInBounds_toArray, List.set_cons_zero, List.set_cons_succ, i64_w, i32_w]
          rfl
        refine take_ (i := 1) (N := some 23) (v := ?_) (a' := ?_) #[true, true, false, false, false] rfl rfl (by kernel_rfl) (fun _ _ _ h => h) (Or.inl ⟨by rfl, ?_⟩) hHeld ?_ ?_
        rotate_left
        · rintro w' ⟨s0, s1⟩
          go_simp
          with_reducible rfl
        rotate_left
        · simp only [Act.put, List.setIfInBounds_toArray, List.set_cons_zero, List.set_cons_succ, i64_w, i32_w]
          rfl
        refine one_ (i := 2) (N := some 24) #[true, true, true, false, false] rfl rfl (by kernel_rfl) (by decide) (fun K hK => ?_)
        refine goes_ Try.func20 (by kernel_rfl) rfl #[.agg #[.slice A0_0 l0_0.length c0_0]] (by rfl) rfl rfl (by (try simp only [List.map_toArray, List.map_cons, List.map_nil]); first | done | rfl | (simp only [List.length_drop, List.length_take]; rfl)) ?_
        with_reducible refine (laws_toPolicy.calls k _ _ l0_0 t303 _ ?side1 ?side2 A12.out).mono ?_
        (case side1 => repeat (first | exact (Kd.C_below HR0_0.out HB.out) | (with_reducible refine Kd.C_alloc ?_ _) | (with_reducible refine Kd.C_drewN ?_ _) | (with_reducible refine Kd.C_drew ?_)))
        (case side2 => exact HC0_0.out)
        rintro e w48 ⟨v304, rfl, ho0, hb⟩
        refine ⟨_, rfl, ?_⟩
        have n0_ := Aside0.mk (Kd.R_elder' (by (with_reducible repeat (first | apply Kd.R_alloc | apply Kd.R_drewN | apply Kd.R_drew)); exact HO296.out) (Kd.R_base ho0) hb)
        have n1_ := Aside0.mk (Kd.R_elder' (by (with_reducible repeat (first | apply Kd.R_alloc | apply Kd.R_drewN | apply Kd.R_drew)); exact HO300.out) (Kd.R_base ho0) hb)
        have n2_ := Aside0.mk (Kd.R_lower (Kd.R_new' (Kd.R_new' ho0 (Kd.R_lt (by (with_reducible repeat (first | apply Kd.R_alloc | apply Kd.R_drewN | apply Kd.R_drew)); exact HO296.out))) (Kd.R_lt (by (with_reducible repeat (first | apply Kd.R_alloc | apply Kd.R_drewN | apply Kd.R_drew)); exact HO300.out))) bls_)
        have n3_ := Aside0.mk (blk_below (g := gb292) (o := .cells #[.slice A0_0 l0_0.length c0_0] 34 (0, 0)) (blw_ BK292) hb)
        have n4_ := Aside0.mk (blk_below (g := gb301) (o := .cells #[.slice Ao43 t298.length co43] 39 (0, 0)) (blw_ BK301) hb)
        have n5_ := Aside0.mk (below_step bl_ hb)
        clear HO296
        clear HO300
        clear BK292
        clear BK301
        clear HB
        have HO296 := n0_
        have HO300 := n1_
        have HO305 := n2_
        have BK292 := n3_
        have BK301 := n4_
        have HB := n5_
        clear n0_ n1_ n2_ n3_ n4_ n5_
        (try clear hb)
        (try clear hb2)
        (try clear hk)
        (try clear hi)
        (try clear ho0)
        obtain ⟨Ao49, co49, eo49⟩ := Kd.R_slice HO305.out
        (first | subst eo49 | (injection eo49 with f1_ f2_ f3_; have f4_ := f1_.symm; have f5_ := f3_.symm; clear f1_ f2_ f3_; subst f4_; subst f5_))
        refine hK.out _ _ ⟨(blk_cell BK301.out 0).trans rfl, (blk_cell BK292.out 0).trans rfl⟩ (fun hHeld => ?_)
        clear hK K
        refine norm_ (a' := ?_) ?_ ?_
        rotate_left
        · show Act.put _ (some 24) _ = _
          simp only [Act.put, List.setIfInBounds_toArray, List.set_cons_zero, List.set_cons_succ, i64_w, i32_w]
          rfl
        refine one_ (i := 3) (N := some 25) #[true, true, true, true, false] rfl rfl (by kernel_rfl) (by decide) (fun K hK => ?_)
        refine goes_ Try.func22 (by kernel_rfl) rfl #[.agg #[.slice Ao43 t298.length co43], .agg #[.slice Ao49 t303.length co49]] (by rfl) rfl rfl (by (try simp only [List.map_toArray, List.map_cons, List.map_nil]); first | done | rfl | (simp only [List.length_drop, List.length_take]; rfl)) ?_
        with_reducible refine (laws_eqPolicy.calls k _ _ t298 _ _ t303 false _ ?side1 ?side2 ?side3 ?side4 A13.out).mono ?_
        (case side1 => repeat (first | exact (Kd.R_reads' HO300.out).2.2 | (with_reducible refine Kd.C_alloc ?_ _) | (with_reducible refine Kd.C_drewN ?_ _) | (with_reducible refine Kd.C_drew ?_)))
        (case side2 => exact (Kd.R_reads' HO300.out).2.1)
        (case side3 => repeat (first | exact (Kd.R_reads' HO305.out).2.2 | (with_reducible refine Kd.C_alloc ?_ _) | (with_reducible refine Kd.C_drewN ?_ _) | (with_reducible refine Kd.C_drew ?_)))
        (case side4 => exact (Kd.R_reads' HO305.out).2.1)
        rintro e w50 ⟨rfl, hb⟩
        refine ⟨_, rfl, ?_⟩
        have n0_ := Aside0.mk (Kd.R_below (by (with_reducible repeat (first | apply Kd.R_alloc | apply Kd.R_drewN | apply Kd.R_drew)); exact HO296.out) hb)
        have n1_ := Aside0.mk (Kd.R_below (by (with_reducible repeat (first | apply Kd.R_alloc | apply Kd.R_drewN | apply Kd.R_drew)); exact HO300.out) hb)
        have n2_ := Aside0.mk (Kd.R_below (by (with_reducible repeat (first | apply Kd.R_alloc | apply Kd.R_drewN | apply Kd.R_drew)); exact HO305.out) hb)
        have n3_ := Aside0.mk (blk_below (g := gb292) (o := .cells #[.slice A0_0 l0_0.length c0_0] 34 (0, 0)) (blw_ BK292) hb)
        have n4_ := Aside0.mk (blk_below (g := gb301) (o := .cells #[.slice Ao43 t298.length co43] 39 (0, 0)) (blw_ BK301) hb)
        have n5_ := Aside0.mk (below_step bl_ hb)
        clear HO296
        clear HO300
        clear HO305
        clear BK292
        clear BK301
        clear HB
        have HO296 := n0_
        have HO300 := n1_
        have HO305 := n2_
        have BK292 := n3_
        have BK301 := n4_
        have HB := n5_
        clear n0_ n1_ n2_ n3_ n4_ n5_
        (try clear hb)
        (try clear hb2)
        (try clear hk)
        (try clear hi)
        refine hK.out _ _ ⟨(blk_cell BK301.out 0).trans rfl, (blk_cell BK292.out 0).trans rfl⟩ (fun hHeld => ?_)
        clear hK K
        refine norm_ (a' := ?_) ?_ ?_
        rotate_left
        · show Act.put _ (some 25) _ = _
          simp only [Act.put, List.setIfInBounds_toArray, List.set_cons_zero, List.set_cons_succ, i64_w, i32_w]
          rfl
        refine pure_ (i := 4) (N := some 26) (v := ?_) (a' := ?_) #[true, true, true, true, true] rfl rfl (by kernel_rfl) (fun _ _ _ h => h) (Or.inl ⟨by rfl, ?_⟩) ?_ ?_
        rotate_left
        · intro w'
          go_simp
          with_reducible rfl
        rotate_left
        · simp only [Act.put, List.setIfInBounds_toArray, List.set_cons_zero, List.set_cons_succ, i64_w, i32_w]
          rfl
        refine done_ (by kernel_rfl) ?_
        try go_wp2
        go_ret
        exact ⟨by first | rfl | (simp [errW_none, errW_some] <;> rfl) | (simp [*, errW_none, errW_some] <;> rfl), bl_⟩
    · rw [if_neg c11] at H
      have c11b0 : (t302.toList == t297.toList) = false := beq_eq_false_iff_ne.mpr c11
      have c11b1 : (t302.toList != t297.toList) = true := bne_iff_ne.mpr c11
      obtain rfl := Option.some.inj H
      go_enter Try.func5, Try.ntmps5
      go_wp2_with (first | ((with_reducible refine gate_dst (N := 1) rfl ?_); refine box_event ?hg (N := 1) ?hd (cs := #[.slice A0_0 l0_0.length c0_0]) (t := 34) ?hr ?_; (case hd => rfl); (case hg => rfl); (case hr => first | (go_simp; done) | (go_simp; rfl)); intro gb292 hg w51 hbox hb; have n0_ := Aside0.mk (below_step bl_ hb); have n1_ := Aside0.mk (hbox); have n2_ := Aside0.mk ((by rw [hg]; exact bls_ : w.heap.size ≤ gb292)); have n3_ := Aside0.mk ((by rw [hg]; exact bls_ : w.heap.size ≤ gb292)); clear HB; have HB := n0_; have BK292 := n1_; have GW292 := n2_; have GE292 := n3_; clear n0_ n1_ n2_ n3_; clear hb hbox hg; have hcz52 := blk_cell BK292.out; have hfz52 := blk_frozen BK292.out) | ((with_reducible refine gate_callee (f := 18) rfl ?_); refine goesL_ (some 9) rfl rfl Try.func18 (by kernel_rfl) rfl #[.agg #[.slice A0_0 l0_0.length c0_0], .int .i64 1048576] rfl (by (try simp only [List.map_toArray, List.map_cons, List.map_nil]); first | done | rfl | (simp only [List.length_drop, List.length_take]; rfl)) ?_; (with_reducible refine (laws_szPolicy.calls _ _ l0_0 1048576 t293 _ ?side1 ?side2 A2.out).mono ?_); (case side1 => repeat (first | exact (Kd.C_below HR0_0.out HB.out) | (with_reducible refine Kd.C_alloc ?_ _) | (with_reducible refine Kd.C_drewN ?_ _) | (with_reducible refine Kd.C_drew ?_))); (case side2 => exact HC0_0.out); rintro e w53 ⟨rfl, hb⟩; refine ⟨_, rfl, ?_⟩; have n0_ := Aside0.mk (blk_below (g := gb292) (o := .cells #[.slice A0_0 l0_0.length c0_0] 34 (0, 0)) (blw_ BK292) hb); have n1_ := Aside0.mk (below_step bl_ hb); clear BK292; clear HB; have BK292 := n0_; have HB := n1_; clear n0_ n1_; (try clear hb); (try clear hb2); (try clear hk); (try clear hi); have hcz54 := blk_cell BK292.out; have hfz54 := blk_frozen BK292.out) | ((with_reducible refine gate_callee (f := 20) rfl ?_); refine goesL_ (some 13) rfl rfl Try.func20 (by kernel_rfl) rfl #[.agg #[.slice A0_0 l0_0.length c0_0]] rfl (by (try simp only [List.map_toArray, List.map_cons, List.map_nil]); first | done | rfl | (simp only [List.length_drop, List.length_take]; rfl)) ?_; (with_reducible refine (laws_toPolicy.calls k _ _ l0_0 t294 _ ?side1 ?side2 A7.out).mono ?_); (case side1 => repeat (first | exact (Kd.C_below HR0_0.out HB.out) | (with_reducible refine Kd.C_alloc ?_ _) | (with_reducible refine Kd.C_drewN ?_ _) | (with_reducible refine Kd.C_drew ?_))); (case side2 => exact HC0_0.out); rintro e w55 ⟨v295, rfl, ho0, hb⟩; refine ⟨_, rfl, ?_⟩; have n0_ := Aside0.mk (Kd.R_lower ho0 bls_); have n1_ := Aside0.mk (blk_below (g := gb292) (o := .cells #[.slice A0_0 l0_0.length c0_0] 34 (0, 0)) (blw_ BK292) hb); have n2_ := Aside0.mk (below_step bl_ hb); clear BK292; clear HB; have HO296 := n0_; have BK292 := n1_; have HB := n2_; clear n0_ n1_ n2_; (try clear hb); (try clear hb2); (try clear hk); (try clear hi); (try clear ho0); obtain ⟨Ao56, co56, eo56⟩ := Kd.R_slice HO296.out; subst eo56) | ((with_reducible refine gate_callee (f := 23) rfl ?_); refine goesL_ (some 14) rfl rfl Try.func23 (by kernel_rfl) rfl #[.agg #[.slice Ao56 t294.length co56]] rfl (by (try simp only [List.map_toArray, List.map_cons, List.map_nil]); first | done | rfl | (simp only [List.length_drop, List.length_take]; rfl)) ?_; (with_reducible refine (spec_PolicyText.calls k _ _ t294 t297 _ ?side1 ?side2 A8.out).mono ?_); (case side1 => repeat (first | exact (Kd.R_reads' HO296.out).2.2 | (with_reducible refine Kd.C_alloc ?_ _) | (with_reducible refine Kd.C_drewN ?_ _) | (with_reducible refine Kd.C_drew ?_))); (case side2 => exact (Kd.R_reads' HO296.out).2.1); rintro e w57 ⟨rfl, hb⟩; refine ⟨_, rfl, ?_⟩; have n0_ := Aside0.mk (Kd.R_below (by (with_reducible repeat (first | apply Kd.R_alloc | apply Kd.R_drewN | apply Kd.R_drew)); exact HO296.out) hb); have n1_ := Aside0.mk (blk_below (g := gb292) (o := .cells #[.slice A0_0 l0_0.length c0_0] 34 (0, 0)) (blw_ BK292) hb); have n2_ := Aside0.mk (below_step bl_ hb); clear HO296; clear BK292; clear HB; have HO296 := n0_; have BK292 := n1_; have HB := n2_; clear n0_ n1_ n2_; (try clear hb); (try clear hb2); (try clear hk); (try clear hi); have hcz58 := blk_cell BK292.out; have hfz58 := blk_frozen BK292.out) | ((with_reducible refine gate_callee (f := 20) rfl ?_); refine goesL_ (some 16) rfl rfl Try.func20 (by kernel_rfl) rfl #[.agg #[.slice A0_0 l0_0.length c0_0]] rfl (by (try simp only [List.map_toArray, List.map_cons, List.map_nil]); first | done | rfl | (simp only [List.length_drop, List.length_take]; rfl)) ?_; (with_reducible refine (laws_toPolicy.calls k _ _ l0_0 t298 _ ?side1 ?side2 A9.out).mono ?_); (case side1 => repeat (first | exact (Kd.C_below HR0_0.out HB.out) | (with_reducible refine Kd.C_alloc ?_ _) | (with_reducible refine Kd.C_drewN ?_ _) | (with_reducible refine Kd.C_drew ?_))); (case side2 => exact HC0_0.out); rintro e w59 ⟨v299, rfl, ho0, hb⟩; refine ⟨_, rfl, ?_⟩; have n0_ := Aside0.mk (Kd.R_elder' (by (with_reducible repeat (first | apply Kd.R_alloc | apply Kd.R_drewN | apply Kd.R_drew)); exact HO296.out) (Kd.R_base ho0) hb); have n1_ := Aside0.mk (Kd.R_lower (Kd.R_new' ho0 (Kd.R_lt (by (with_reducible repeat (first | apply Kd.R_alloc | apply Kd.R_drewN | apply Kd.R_drew)); exact HO296.out))) bls_); have n2_ := Aside0.mk (blk_below (g := gb292) (o := .cells #[.slice A0_0 l0_0.length c0_0] 34 (0, 0)) (blw_ BK292) hb); have n3_ := Aside0.mk (below_step bl_ hb); clear HO296; clear BK292; clear HB; have HO296 := n0_; have HO300 := n1_; have BK292 := n2_; have HB := n3_; clear n0_ n1_ n2_ n3_; (try clear hb); (try clear hb2); (try clear hk); (try clear hi); (try clear ho0)) | ((with_reducible refine gate_dst (N := 5) rfl ?_); refine box_event ?hg (N := 5) ?hd (cs := #[.slice none 0 0]) (t := 39) ?hr ?_; (case hd => rfl); (case hg => rfl); (case hr => first | (go_simp; done) | (go_simp; rfl)); intro gb301 hg w60 hbox hb; have n0_ := Aside0.mk (Kd.R_below (by (with_reducible repeat (first | apply Kd.R_alloc | apply Kd.R_drewN | apply Kd.R_drew)); exact HO296.out) hb); have n1_ := Aside0.mk (Kd.R_below (by (with_reducible repeat (first | apply Kd.R_alloc | apply Kd.R_drewN | apply Kd.R_drew)); exact HO300.out) hb); have n2_ := Aside0.mk (blk_below (g := gb292) (o := .cells #[.slice A0_0 l0_0.length c0_0] 34 (0, 0)) (blw_ BK292) hb); have n3_ := Aside0.mk (below_step bl_ hb); have n4_ := Aside0.mk (hbox); have n5_ := Aside0.mk ((by rw [hg]; exact bls_ : w.heap.size ≤ gb301)); have n6_ := Aside0.mk ((by rw [hg]; exact bls_ : w.heap.size ≤ gb301)); have n7_ := Aside0.mk ((by rw [hg]; exact Nat.ne_of_lt (blk_lt (g := gb292) (o := .cells #[.slice A0_0 l0_0.length c0_0] 34 (0, 0)) (blw_ BK292)) : gb292 ≠ gb301)); have n8_ := Aside0.mk ((by rw [hg]; exact Nat.ne_of_gt (blk_lt (g := gb292) (o := .cells #[.slice A0_0 l0_0.length c0_0] 34 (0, 0)) (blw_ BK292)) : gb301 ≠ gb292)); clear HO296; clear HO300; clear BK292; clear HB; have HO296 := n0_; have HO300 := n1_; have BK292 := n2_; have HB := n3_; have BK301 := n4_; have GW301 := n5_; have GE301 := n6_; have NB292_301 := n7_; have NB301_292 := n8_; clear n0_ n1_ n2_ n3_ n4_ n5_ n6_ n7_ n8_; clear hb hbox hg; obtain ⟨Ao61, co61, eo61⟩ := Kd.R_slice HO300.out; subst eo61; have hnb62 := NB301_292.out; have hnc62 := NB292_301.out; have hcz63 := blk_cell BK301.out; have hfz63 := blk_frozen BK301.out) | ((with_reducible refine gate_callee (f := 24) rfl ?_); refine goesL_ (some 18) rfl rfl Try.func24 (by kernel_rfl) rfl #[.agg #[.slice Ao61 t298.length co61]] rfl (by (try simp only [List.map_toArray, List.map_cons, List.map_nil]); first | done | rfl | (simp only [List.length_drop, List.length_take]; rfl)) ?_; (with_reducible refine (impl_PolicyText.calls k _ _ t298 t302 _ ?side1 ?side2 A10.out).mono ?_); (case side1 => refine (Kd.R_reads' (e := 105) (base := w.heap.size) (ok := fun k_ => (True ∧ some k_ ≠ (.slice Ao56 t294.length co56 : Value).ownBlock)) (n := t298.length) (c := co61) ?_).2.2; exact (by (with_reducible repeat (first | apply Kd.R_alloc | apply Kd.R_drewN | apply Kd.R_drew)); exact (Kd.R_mono (Kd.R_far (p := ⟨gb301, 0, none⟩) (Kd.R_types HO300.out BK301.out (by decide)) (fun _ hk => hk.2) (.slice Ao61 t298.length co61)) (fun _ h_ => h_.1)))); (case side2 => exact (Kd.R_reads' HO300.out).2.1); rintro e w64 ⟨rfl, hb⟩; refine ⟨_, rfl, ?_⟩; have n0_ := Aside0.mk (Kd.R_below (by (with_reducible repeat (first | apply Kd.R_alloc | apply Kd.R_drewN | apply Kd.R_drew)); exact (Kd.R_mono (Kd.R_far (p := ⟨gb301, 0, none⟩) (Kd.R_types HO296.out BK301.out (by decide)) (fun _ hk => hk.2) (.slice Ao61 t298.length co61)) (fun _ h_ => h_.1))) hb); have n1_ := Aside0.mk (Kd.R_below (by (with_reducible repeat (first | apply Kd.R_alloc | apply Kd.R_drewN | apply Kd.R_drew)); exact (Kd.R_mono (Kd.R_far (p := ⟨gb301, 0, none⟩) (Kd.R_types HO300.out BK301.out (by decide)) (fun _ hk => hk.2) (.slice Ao61 t298.length co61)) (fun _ h_ => h_.1))) hb); have n2_ := Aside0.mk (blk_below (g := gb292) (o := .cells #[.slice A0_0 l0_0.length c0_0] 34 (0, 0)) (by (with_reducible repeat (first | refine blk_drewN ?_ _ | refine blk_drew ?_ | refine blk_alloc ?_ _)); refine blk_far ?_ NB292_301.out _; (with_reducible repeat (first | refine blk_drewN ?_ _ | refine blk_drew ?_ | refine blk_alloc ?_ _)); exact BK292.out) hb); have n3_ := Aside0.mk (blk_below (g := gb301) (o := .cells #[.slice Ao61 t298.length co61] 39 (0, 0)) (by (with_reducible repeat (first | refine blk_drewN ?_ _ | refine blk_drew ?_ | refine blk_alloc ?_ _)); refine blk_put (cs := #[.slice none 0 0]) ?_ 0 _ rfl; (with_reducible repeat (first | refine blk_drewN ?_ _ | refine blk_drew ?_ | refine blk_alloc ?_ _)); exact BK301.out) hb); have n4_ := Aside0.mk (below_step bl_ hb); clear HO296; clear HO300; clear BK292; clear BK301; clear HB; have HO296 := n0_; have HO300 := n1_; have BK292 := n2_; have BK301 := n3_; have HB := n4_; clear n0_ n1_ n2_ n3_ n4_; (try clear hb); (try clear hb2); (try clear hk); (try clear hi)))
      go_ret
      exact ⟨by first | rfl | (simp [errW_none, errW_some] <;> rfl) | (simp [*, errW_none, errW_some] <;> rfl), bl_⟩

/-! ### spec_l21Below: function 84 -/
mutual
def spec_l21Below.l0 : Nat → List Bool → Int → List (S105) → Option (List Bool)
  | 0, _, _, _ => none
  | k + 1, x4, x5, x308000 => if x5 ≥ 0 then (if 0 ≤ x5 then (if x5 < (x308000.length : Int) then (if x5 < (x4.length : Int) then (if rdOf false x4 x5 = true then (spec_l21Below.j1 k x4 x5 (((rd_T105 x308000 x5).f0) == 1) x308000 ((rd_T105 x308000 x5).f0) ((rd_T105 x308000 x5).f1.f0) ((rd_T105 x308000 x5).f1.f1) ((rd_T105 x308000 x5).f2) ((rd_T105 x308000 x5).f3)) else (spec_l21Below.j1 k x4 x5 true x308000 ((rd_T105 x308000 x5).f0) ((rd_T105 x308000 x5).f1.f0) ((rd_T105 x308000 x5).f1.f1) ((rd_T105 x308000 x5).f2) ((rd_T105 x308000 x5).f3))) else (none)) else (none)) else (none)) else (some x4)
def spec_l21Below.j1 : Nat → List Bool → Int → Bool → List (S105) → Int → Int → Int → Int → Int → Option (List Bool)
  | 0, _, _, _, _, _, _, _, _, _ => none
  | k + 1, x4, x5, x36, x308000, x314000, x314001, x314002, x314003, x314004 => if x36 = true then (spec_l21Below.l0 k x4 (wrap64 (x5 - 1)) x308000) else (if 0 ≤ x314003 then (if x314003 < (x4.length : Int) then ((some (x4.set (x314003 : Int).toNat true : List Bool)).bind fun y315 => (if x314000 = 4 then (spec_l21Below.l0 k y315 (wrap64 (x5 - 1)) x308000) else (if 0 ≤ x314004 then (if x314004 < (x4.length : Int) then (spec_l21Below.l0 k (y315.set (x314004 : Int).toNat true) (wrap64 (x5 - 1)) x308000) else (none)) else (none)))) else (none)) else (none))
end
def spec_l21Below.f (k : Nat) (l0_0 : List (S105)) : Option (List Bool) := if 0 ≤ (l0_0.length : Int) then (if ((l0_0.length : Int) : Int).toNat ≤ 281474976710656 then ((some (List.replicate ((l0_0.length : Int) : Int).toNat false : List Bool)).bind fun y308 => (if 0 ≤ (wrap64 ((l0_0.length : Int) - 1)) then (if (wrap64 ((l0_0.length : Int) - 1)) < (y308.length : Int) then (spec_l21Below.l0 k (y308.set ((wrap64 ((l0_0.length : Int) - 1)) : Int).toNat true) (wrap64 ((l0_0.length : Int) - 1)) l0_0) else (none)) else (none))) else (none)) else (none)
theorem spec_l21Below.mono_l : ∀ k, (∀ y0 y1 y2, LeO (spec_l21Below.l0 k y0 y1 y2) (spec_l21Below.l0 (k + 1) y0 y1 y2)) ∧ (∀ y0 y1 y2 y3 y4 y5 y6 y7 y8, LeO (spec_l21Below.j1 k y0 y1 y2 y3 y4 y5 y6 y7 y8) (spec_l21Below.j1 (k + 1) y0 y1 y2 y3 y4 y5 y6 y7 y8))
  | 0 => ⟨fun _ _ _ r h => by simp [spec_l21Below.l0] at h, fun _ _ _ _ _ _ _ _ _ r h => by simp [spec_l21Below.j1] at h⟩
  | k + 1 => by
    obtain ⟨ih0, ih1⟩ := spec_l21Below.mono_l k
    refine ⟨?_, ?_⟩
    · intro y0 y1 y2
      unfold spec_l21Below.l0
      repeat' first
      | (with_reducible exact ih0 _ _ _)
      | (with_reducible exact ih1 _ _ _ _ _ _ _ _ _)
      | (with_reducible exact LeO.refl _)
      | (with_reducible exact LeO.none _)
      | (with_reducible refine LeO.ite ?_ ?_)
      | (with_reducible refine LeO.bind ?_ (fun _ => ?_))
      | exact ih0 _ _ _
      | exact ih1 _ _ _ _ _ _ _ _ _
      | exact LeO.none _
      | refine LeO.ite ?_ ?_
      | refine LeO.bind ?_ (fun _ => ?_)
    · intro y0 y1 y2 y3 y4 y5 y6 y7 y8
      unfold spec_l21Below.j1
      repeat' first
      | (with_reducible exact ih0 _ _ _)
      | (with_reducible exact ih1 _ _ _ _ _ _ _ _ _)
      | (with_reducible exact LeO.refl _)
      | (with_reducible exact LeO.none _)
      | (with_reducible refine LeO.ite ?_ ?_)
      | (with_reducible refine LeO.bind ?_ (fun _ => ?_))
      | exact ih0 _ _ _
      | exact ih1 _ _ _ _ _ _ _ _ _
      | exact LeO.none _
      | refine LeO.ite ?_ ?_
      | refine LeO.bind ?_ (fun _ => ?_)
theorem spec_l21Below.mono : ∀ a0 k, LeO (spec_l21Below.f k a0) (spec_l21Below.f (k + 1) a0) := by
  intro a0 k
  obtain ⟨ih0, ih1⟩ := spec_l21Below.mono_l k
  unfold spec_l21Below.f
  repeat' first
      | (with_reducible exact ih0 _ _ _)
      | (with_reducible exact ih1 _ _ _ _ _ _ _ _ _)
      | (with_reducible exact LeO.refl _)
      | (with_reducible exact LeO.none _)
      | (with_reducible refine LeO.ite ?_ ?_)
      | (with_reducible refine LeO.bind ?_ (fun _ => ?_))
      | exact ih0 _ _ _
      | exact ih1 _ _ _ _ _ _ _ _ _
      | exact LeO.none _
      | refine LeO.ite ?_ ?_
      | refine LeO.bind ?_ (fun _ => ?_)
set_option maxHeartbeats 8000000 in
set_option maxRecDepth 100000 in
theorem spec_l21Below.calls (k : Nat) (A0_0 : Option Addr) (c0_0 : Nat) (l0_0 : List (S105)) (r : List Bool) (w : World) (hr0_0 : Kd.C k105 w A0_0 l0_0.length l0_0) (hc0_0 : l0_0.length ≤ c0_0) (h : spec_l21Below.f k l0_0 = some r) :
    Calls Try.prog 84 #[.agg #[.slice A0_0 l0_0.length c0_0]] w fun e w' => ∃ v0_ : Value, e = .returned (v0_) ∧ Kd.R Kd.bool 4 w' w.heap.size (fun _ => True) v0_ r ∧ Below w.heap.size w w' := by
  have hu39 := Try.underlying39
  have hu105 := Try.underlying105
  have HR0_0 := Aside0.mk hr0_0
  have HC0_0 := Aside0.mk hc0_0
  clear hr0_0 hc0_0
  have HB := Aside0.mk (Below.refl w.heap.size w)
  have H : (if 0 ≤ (l0_0.length : Int) then (if ((l0_0.length : Int) : Int).toNat ≤ 281474976710656 then ((some (List.replicate ((l0_0.length : Int) : Int).toNat false : List Bool)).bind fun y308 => (if 0 ≤ (wrap64 ((l0_0.length : Int) - 1)) then (if (wrap64 ((l0_0.length : Int) - 1)) < (y308.length : Int) then (spec_l21Below.l0 k (y308.set ((wrap64 ((l0_0.length : Int) - 1)) : Int).toNat true) (wrap64 ((l0_0.length : Int) - 1)) l0_0) else (none)) else (none))) else (none)) else (none)) = some r := h
  clear h
  by_cases c2 : 0 ≤ (l0_0.length : Int)
  · rw [if_pos c2] at H
    have c2b0 := eq_true c2
    have c2b1 : decide (0 ≤ (l0_0.length : Int)) = true := decide_eq_true c2
    clear c2
    by_cases c3 : ((l0_0.length : Int) : Int).toNat ≤ 281474976710656
    · rw [if_pos c3] at H
      have c3b0 := eq_true c3
      have c3b1 : decide (((l0_0.length : Int) : Int).toNat ≤ 281474976710656) = true := decide_eq_true c3
      clear c3
      obtain ⟨y308, hy308⟩ : ∃ y_ : List Bool, y_ = (List.replicate ((l0_0.length : Int) : Int).toNat false) := ⟨_, rfl⟩
      replace H : (if 0 ≤ (wrap64 ((l0_0.length : Int) - 1)) then (if (wrap64 ((l0_0.length : Int) - 1)) < (y308.length : Int) then (spec_l21Below.l0 k (y308.set ((wrap64 ((l0_0.length : Int) - 1)) : Int).toNat true) (wrap64 ((l0_0.length : Int) - 1)) l0_0) else (none)) else (none)) = some r := by first | (rw [hy308]; with_reducible exact H) | (have H2_ := (Option.bind_some _ _).symm.trans H; rw [hy308]; with_reducible exact H2_) | (have H2_ := (Option.bind_some _ _).symm.trans H; with_reducible exact H2_) | with_reducible exact H | (rw [hy308]; exact H) | exact H
      have Ny308 := Aside0.mk hy308
      clear hy308
      obtain ⟨ji4, hji4⟩ : ∃ j_ : Int, (wrap64 ((l0_0.length : Int) - 1)) = j_ := ⟨_, rfl⟩
      replace H : (if 0 ≤ (ji4) then (if (ji4) < (y308.length : Int) then (spec_l21Below.l0 k (y308.set ((ji4) : Int).toNat true) ji4 l0_0) else (none)) else (none)) = some r := by first | (rw [hji4] at H; exact H) | (simp only [hji4] at H ⊢; exact H)
      have hji4w : (IntKind.i64.wrap ((l0_0.length : Int) - 1)) = ji4 := (i64_w _).trans hji4
      by_cases c5 : 0 ≤ (ji4)
      · rw [if_pos c5] at H
        have c5b0 : decide (0 ≤ (ji4)) = true := decide_eq_true c5
        clear c5
        by_cases c6 : (ji4) < (y308.length : Int)
        · rw [if_pos c6] at H
          have c6b0 : decide ((ji4) < (y308.length : Int)) = true := decide_eq_true c6
          clear c6
          obtain ⟨y311, hy311⟩ : ∃ y_ : List Bool, y_ = (y308.set ((ji4) : Int).toNat true) := ⟨_, rfl⟩
          replace H : (spec_l21Below.l0 k y311 ji4 l0_0) = some r := by first | (rw [hy311]; with_reducible exact H) | (have H2_ := (Option.bind_some _ _).symm.trans H; rw [hy311]; with_reducible exact H2_) | (have H2_ := (Option.bind_some _ _).symm.trans H; with_reducible exact H2_) | with_reducible exact H | (rw [hy311]; exact H) | exact H
          have Ny311 := Aside0.mk hy311
          clear hy311
          have H' := Aside0.mk H
          clear H
          go_enter Try.func84, Try.ntmps84
          go_wp2_with (first | ((with_reducible refine gate_dst (N := 1) rfl ?_); refine box_event ?hg (N := 1) ?hd (cs := #[.slice A0_0 l0_0.length c0_0]) (t := 39) ?hr ?_; (case hd => rfl); (case hg => rfl); (case hr => first | (go_simp; done) | (go_simp; rfl)); intro gb307 hg w8 hbox hb; have n0_ := Aside0.mk (below_step bl_ hb); have n1_ := Aside0.mk (hbox); have n2_ := Aside0.mk ((by rw [hg]; exact bls_ : w.heap.size ≤ gb307)); have n3_ := Aside0.mk ((by rw [hg]; exact bls_ : w.heap.size ≤ gb307)); clear HB; have HB := n0_; have BK307 := n1_; have GW307 := n2_; have GE307 := n3_; clear n0_ n1_ n2_ n3_; clear hb hbox hg; have hcz9 := blk_cell BK307.out; have hfz9 := blk_frozen BK307.out) | ((with_reducible refine gate_dst (N := 11) rfl ?_); refine Kd.R_make Kd.bool _ 4 rfl (N := 11) rfl 109 _ _ rfl (l0_0.length : Int) rfl rfl Try.underlying109 (.bool false) 1 info4 rfl (by decide) (by omega) false (ok := fun _ => True) (okp := fun _ => True) rfl (fun _ hk => hk) trivial (of_decide_eq_true (by first | (with_reducible assumption) | assumption)) (Nat.le_trans (Nat.mul_le_mul_right _ (of_decide_eq_true (by first | (with_reducible assumption) | assumption) : (l0_0.length : Int).toNat ≤ 281474976710656)) (by omega)) (Below.refl _ _) (Nat.le_refl _) ?_; intro v309 w10 ho11 hb hg_ hnew_; clear hg_ hnew_; (first | rw [← Ny308.out] at ho11 | (simp only [Int.reduceToNat] at ho11; rw [← Ny308.out] at ho11)); have n0_ := Aside0.mk (Kd.R_lower ho11 bls_); have n1_ := Aside0.mk (blk_below (g := gb307) (o := .cells #[.slice A0_0 l0_0.length c0_0] 39 (0, 0)) (blw_ BK307) hb); have n2_ := Aside0.mk (below_step bl_ hb); clear BK307; clear HB; have HO310 := n0_; have BK307 := n1_; have HB := n2_; clear n0_ n1_ n2_; clear hb ho11; have p7 : 0 ≤ ((ji4) : Int) := of_decide_eq_true (by first | (with_reducible assumption) | assumption); have q7 : ((ji4) : Int) < ((y308.length : Int) : Int) := of_decide_eq_true (by first | (with_reducible assumption) | assumption); obtain ⟨go7, co7, eo7, gb7, gl7, cl7, HG7⟩ := Kd.R_form HO310.out (by omega); (first | cases eo7 | (injection eo7 with ea_ en_ ec_; (first | subst ea_ | (injection ea_ with ea_; subst ea_)); subst ec_; clear en_)); have GB7 := Aside0.mk gb7; have GG7 := Aside0.mk HG7; clear gb7 gl7 HG7; obtain ⟨hx7_0, hf7_0⟩ := Kd.R_celln false HO310.out ((ji4) : Int) p7 q7; replace p7 := eq_true p7; replace q7 := eq_true q7; obtain ⟨hy12_, hz12_⟩ := Kd.R_celln false HO310.out ((ji4) : Int) (of_decide_eq_true (by first | (with_reducible assumption) | assumption)) (of_decide_eq_true (by first | (with_reducible assumption) | assumption)); have HP12 := Kd.R_putg HO310.out ((ji4) : Int) true) | ((with_reducible refine gate_store (t := 4) (p := 15) rfl ?_); refine store_event (t := 4) (p := 15) (v := ?vo_w13) (w1 := (w10.setCell ⟨go7, ((ji4) : Int).toNat, none⟩ (.bool true))) ?hg ?ho ?hn ?hr ?_; (case ho => rfl); (case hg => rfl); (case hn => rfl); (case hr => first | (go_simp; done) | (go_simp; rfl)); intro w13 hw; have hg : w10.grownBy w13 (some go7) := (by rw [hw]; exact HP12.2); have hp_ : Kd.R Kd.bool 4 w13 w.heap.size (fun _ => True) (.slice (some ⟨go7, 0, none⟩) y308.length co7) y311 := (by rw [hw, Ny311.out]; exact HP12.1); clear HP12; have n0_ := Aside0.mk (blk_grown (g := gb307) (o := .cells #[.slice A0_0 l0_0.length c0_0] 39 (0, 0)) (blw_ BK307) hg (Kd.R_ne HO310.out BK307.out (by decide))); have n1_ := Aside0.mk (hp_); have n2_ := Aside0.mk ((by rw [hw]; exact below_set (HB.out) GB7.out : Below w.heap.size w w13)); clear BK307; clear HO310; clear HB; have BK307 := n0_; have HO310 := n1_; have HB := n2_; clear n0_ n1_ n2_; clear hg hw hp_))
          go_loopg [5] k (fun kq v5 w' => ∃ (x4_1 : List Bool) (x5_1 : Int), v5 = .int .i64 x5_1 ∧ Aside0 (spec_l21Below.l0 kq x4_1 x5_1 l0_0 = some r) ∧ Aside0 (kq ≤ k) ∧ Aside0 (Kd.R Kd.bool 4 w' w.heap.size (fun _ => True) (.slice (some ⟨go7, 0, none⟩) y308.length co7) x4_1) ∧ Aside0 (w'.heap[gb307]? = some (.cells #[(.slice A0_0 l0_0.length c0_0)] 39 (0, 0))) ∧ Aside0 (Below w.heap.size w w'))
          case atStart => exact ⟨(y311), (ji4), (by first | rfl | (simp; done) | (simp only [← hji4] <;> (first | rfl | simp)) | (simp [*]; done)), H', ⟨Nat.le_refl _⟩, ⟨by (with_reducible repeat (first | apply Kd.R_alloc | apply Kd.R_drewN | apply Kd.R_drew)); exact HO310.out⟩, ⟨by (with_reducible repeat (first | refine blk_drewN ?_ _ | refine blk_drew ?_ | refine blk_alloc ?_ _)); exact BK307.out⟩, ⟨bl_⟩⟩
          case round =>
            clear H'
            try clear c2
            try clear c2b0
            try clear c2b1
            try clear p2
            try clear c3
            try clear c3b0
            try clear c3b1
            try clear c5
            try clear c5b0
            try clear c6
            try clear c6b0
            try clear p6
            try clear p7
            try clear q7
            try clear hx7
            try clear hf7
            try clear c8
            try clear hcz9
            try clear hfz9
            try clear hx7_0
            try clear p7
            try clear q7
            obtain ⟨x4_1, x5_1, rfl, HA, HK1, HO_4, BK307, HB⟩ := hrel
            have hl4_1 := (Kd.R_reads' HO_4.out).1
            rw [hl4_1] at HO_4
            (try simp only [hl4_1])
            (try simp only [hl4_1] at BK307)
            cases gk with
            | zero => exact absurd HA.out (by simp [spec_l21Below.l0])
            | succ k1 =>
              have H := HA.out
              clear HA
              simp only [spec_l21Below.l0] at H
              by_cases c14 : x5_1 ≥ 0
              · rw [if_pos c14] at H
                have c14b0 : decide (0 ≤ x5_1) = true := decide_eq_true c14
                clear c14
                by_cases c15 : 0 ≤ x5_1
                · rw [if_pos c15] at H
                  have c15b0 : decide (0 ≤ x5_1) = true := decide_eq_true c15
                  clear c15
                  by_cases c16 : x5_1 < (l0_0.length : Int)
                  · rw [if_pos c16] at H
                    have c16b0 : decide (x5_1 < (l0_0.length : Int)) = true := decide_eq_true c16
                    clear c16
                    have HC17 := Aside0.mk H
                    clear H
                    have hcz18 := blk_cell BK307.out
                    have hfz18 := blk_frozen BK307.out
                    have p312 : 0 ≤ (x5_1 : Int) := of_decide_eq_true (by first | (with_reducible assumption) | assumption)
                    have q312 : x5_1 < (l0_0.length : Int) := of_decide_eq_true (by first | (with_reducible assumption) | assumption)
                    obtain ⟨ad312, e312, hx312_0, hx312_1, hx312_2, hx312_3, hx312_4⟩ := at_T105 HR0_0.out x5_1 p312 q312
                    cases e312
                    replace hx312_0 := cb_ HB hx312_0
                    replace hx312_1 := cb_ HB hx312_1
                    replace hx312_2 := cb_ HB hx312_2
                    replace hx312_3 := cb_ HB hx312_3
                    replace hx312_4 := cb_ HB hx312_4
                    replace p312 := eq_true p312
                    replace q312 := eq_true q312
                    go_upto_region 8 with (first | ((with_reducible refine gate_dst (N := 6) rfl ?_); refine box_event ?hg (N := 6) ?hd (cs := #[.int .i64 0, .int .i64 0, .int .i64 0, .int .i64 0, .int .i64 0]) (t := 105) ?hr ?_; (case hd => rfl); (case hg => rfl); (case hr => first | (go_simp; done) | (go_simp; rfl)); intro gb313 hg w19 hbox hb; have n0_ := Aside0.mk (Kd.R_below (by (with_reducible repeat (first | apply Kd.R_alloc | apply Kd.R_drewN | apply Kd.R_drew)); exact HO_4.out) hb); have n1_ := Aside0.mk (blk_below (g := gb307) (o := .cells #[.slice (some ad312) l0_0.length c0_0] 39 (0, 0)) (blw_ BK307) hb); have n2_ := Aside0.mk (below_step bl_ hb); have n3_ := Aside0.mk (hbox); have n4_ := Aside0.mk ((by rw [hg]; exact bls_ : w.heap.size ≤ gb313)); have n5_ := Aside0.mk ((by rw [hg]; exact bls_ : w.heap.size ≤ gb313)); have n6_ := Aside0.mk ((by rw [hg]; exact Nat.ne_of_lt (blk_lt (g := gb307) (o := .cells #[.slice (some ad312) l0_0.length c0_0] 39 (0, 0)) (blw_ BK307)) : gb307 ≠ gb313)); have n7_ := Aside0.mk ((by rw [hg]; exact Nat.ne_of_gt (blk_lt (g := gb307) (o := .cells #[.slice (some ad312) l0_0.length c0_0] 39 (0, 0)) (blw_ BK307)) : gb313 ≠ gb307)); clear HO_4; clear BK307; clear HB; have HO_4 := n0_; have BK307 := n1_; have HB := n2_; have BK313 := n3_; have GW313 := n4_; have GE313 := n5_; have NB307_313 := n6_; have NB313_307 := n7_; clear n0_ n1_ n2_ n3_ n4_ n5_ n6_ n7_; clear hb hbox hg; have hnb20 := NB313_307.out; have hnc20 := NB307_313.out; have hcz21 := blk_cell BK313.out; have hfz21 := blk_frozen BK313.out))
                    (try simp only [Act.put, List.setIfInBounds_toArray, List.set_cons_zero, List.set_cons_succ])
                    go_cut [36] (fun v36 wc => ∃ (kq : Nat) (x36_16 : Bool), v36 = .bool x36_16 ∧ Aside0 (spec_l21Below.j1 kq x4_1 x5_1 x36_16 l0_0 ((rd_T105 l0_0 x5_1).f0) ((rd_T105 l0_0 x5_1).f1.f0) ((rd_T105 l0_0 x5_1).f1.f1) ((rd_T105 l0_0 x5_1).f2) ((rd_T105 l0_0 x5_1).f3) = some r) ∧ Aside0 (kq ≤ k1) ∧ Aside0 (Kd.R Kd.bool 4 wc w.heap.size (fun _ => True) (.slice (some ⟨go7, 0, none⟩) x4_1.length co7) x4_1) ∧ Aside0 (wc.heap[gb307]? = some (.cells #[(.slice (some ad312) l0_0.length c0_0)] 39 (0, 0))) ∧ Aside0 (wc.heap[gb313]? = some (.cells #[.int .i64 ((rd_T105 l0_0 x5_1).f0), .int .i64 ((rd_T105 l0_0 x5_1).f1.f0), .int .i64 ((rd_T105 l0_0 x5_1).f1.f1), .int .i64 ((rd_T105 l0_0 x5_1).f2), .int .i64 ((rd_T105 l0_0 x5_1).f3)] 105 (0, 0))) ∧ Aside0 (Below w.heap.size w wc))
                    case first =>
                      have H := HC17.out
                      clear HC17
                      by_cases c22 : x5_1 < (x4_1.length : Int)
                      · rw [if_pos c22] at H
                        have c22b0 : decide (x5_1 < (x4_1.length : Int)) = true := decide_eq_true c22
                        clear c22
                        (first | rw [c22b0] | (simp only [i64_w, i32_w]; rw [c22b0]) | skip)
                        obtain ⟨bq23, hbq23⟩ : ∃ b_ : Bool, b_ = (rdOf false x4_1 x5_1) := ⟨_, rfl⟩
                        replace H : (if bq23 = true then (spec_l21Below.j1 k1 x4_1 x5_1 (((rd_T105 l0_0 x5_1).f0) == 1) l0_0 ((rd_T105 l0_0 x5_1).f0) ((rd_T105 l0_0 x5_1).f1.f0) ((rd_T105 l0_0 x5_1).f1.f1) ((rd_T105 l0_0 x5_1).f2) ((rd_T105 l0_0 x5_1).f3)) else (spec_l21Below.j1 k1 x4_1 x5_1 true l0_0 ((rd_T105 l0_0 x5_1).f0) ((rd_T105 l0_0 x5_1).f1.f0) ((rd_T105 l0_0 x5_1).f1.f1) ((rd_T105 l0_0 x5_1).f2) ((rd_T105 l0_0 x5_1).f3))) = some r := by rw [← hbq23] at H; exact H
                        have Nbq23 := Aside0.mk hbq23
                        clear hbq23
                        by_cases c24 : bq23 = true
                        · subst c24
                          replace H := ite_t_ H
                          have H' := Aside0.mk H
                          clear H
                          have p314 : 0 ≤ (x5_1 : Int) := of_decide_eq_true (by first | (with_reducible assumption) | assumption)
                          have q314 : x5_1 < (x4_1.length : Int) := of_decide_eq_true (by first | (with_reducible assumption) | assumption)
                          obtain ⟨ad314, e314, hx314_0⟩ := Kd.at_bool (Kd.R_reads' HO_4.out).2.2 x5_1 p314 q314
                          (try rw [← Nbq23.out] at hx314_0)
                          obtain rfl : (⟨go7, 0, none⟩ : Addr) = ad314 := (by injection e314)
                          (first | simp only [add_plain] at hx314_0 | simp only [add_at] at hx314_0 | simp only [Addr.add, Nat.zero_add] at hx314_0 | skip)
                          have hn314_0 : (⟨go7, 0, none⟩ : Addr).block ≠ gb313 := Kd.own_blk (Kd.R_ne HO_4.out BK313.out (by decide))
                          have hn314_1 : (⟨go7, 0, none⟩ : Addr).block ≠ gb313 := Kd.own_blk (Kd.R_ne HO_4.out BK313.out (by decide))
                          have hn314_2 : (⟨go7, 0, none⟩ : Addr).block ≠ gb313 := Kd.own_blk (Kd.R_ne HO_4.out BK313.out (by decide))
                          have hn314_3 : (⟨go7, 0, none⟩ : Addr).block ≠ gb313 := Kd.own_blk (Kd.R_ne HO_4.out BK313.out (by decide))
                          have hn314_4 : (⟨go7, 0, none⟩ : Addr).block ≠ gb313 := Kd.own_blk (Kd.R_ne HO_4.out BK313.out (by decide))
                          replace hx314_0 := (cell_far (p := ⟨gb313, 0, none⟩) (by first | (rw [add_block]; exact hn314_0) | (show (Addr.add _ _).block ≠ _; rw [add_block]; exact hn314_0) | exact hn314_0) (.int .i64 ((rd_T105 l0_0 x5_1).f0))).trans hx314_0
                          replace hx314_0 := (cell_far (p := ⟨gb313, 1, none⟩) (by first | (rw [add_block]; exact hn314_1) | (show (Addr.add _ _).block ≠ _; rw [add_block]; exact hn314_1) | exact hn314_1) (.int .i64 ((rd_T105 l0_0 x5_1).f1.f0))).trans hx314_0
                          replace hx314_0 := (cell_far (p := ⟨gb313, 2, none⟩) (by first | (rw [add_block]; exact hn314_2) | (show (Addr.add _ _).block ≠ _; rw [add_block]; exact hn314_2) | exact hn314_2) (.int .i64 ((rd_T105 l0_0 x5_1).f1.f1))).trans hx314_0
                          replace hx314_0 := (cell_far (p := ⟨gb313, 3, none⟩) (by first | (rw [add_block]; exact hn314_3) | (show (Addr.add _ _).block ≠ _; rw [add_block]; exact hn314_3) | exact hn314_3) (.int .i64 ((rd_T105 l0_0 x5_1).f2))).trans hx314_0
                          replace hx314_0 := (cell_far (p := ⟨gb313, 4, none⟩) (by first | (rw [add_block]; exact hn314_4) | (show (Addr.add _ _).block ≠ _; rw [add_block]; exact hn314_4) | exact hn314_4) (.int .i64 ((rd_T105 l0_0 x5_1).f3))).trans hx314_0
                          clear hn314_0
                          clear hn314_1
                          clear hn314_2
                          clear hn314_3
                          clear hn314_4
                          replace p314 := eq_true p314
                          replace q314 := eq_true q314
                          have hnb25 := NB313_307.out
                          have hnc25 := NB307_313.out
                          have hcz26 := blk_cell BK313.out
                          have hfz26 := blk_frozen BK313.out
                          go_wp2
                          go_meet
                          case rel => exact ⟨_, ((((rd_T105 l0_0 x5_1).f0) == 1)), (by first | rfl | (simp; done) | (simp [*]; done)), H', ⟨by have := HK1.out; first | omega | exact Nat.le_refl _⟩, ⟨by (try simp only [hl4_1]); (with_reducible repeat (first | apply Kd.R_alloc | apply Kd.R_drewN | apply Kd.R_drew)); exact Kd.R_mono (Kd.R_far (p := ⟨gb313, 4, none⟩) (Kd.R_far (p := ⟨gb313, 3, none⟩) (Kd.R_far (p := ⟨gb313, 2, none⟩) (Kd.R_far (p := ⟨gb313, 1, none⟩) (Kd.R_far (p := ⟨gb313, 0, none⟩) (Kd.R_types HO_4.out BK313.out (by decide)) (fun _ hk => hk.2) (.int .i64 ((rd_T105 l0_0 x5_1).f0))) (fun _ hk => hk.2) (.int .i64 ((rd_T105 l0_0 x5_1).f1.f0))) (fun _ hk => hk.2) (.int .i64 ((rd_T105 l0_0 x5_1).f1.f1))) (fun _ hk => hk.2) (.int .i64 ((rd_T105 l0_0 x5_1).f2))) (fun _ hk => hk.2) (.int .i64 ((rd_T105 l0_0 x5_1).f3))) (fun _ hk => trivial)⟩, ⟨by (try simp only [hl4_1]); (with_reducible repeat (first | refine blk_drewN ?_ _ | refine blk_drew ?_ | refine blk_alloc ?_ _)); refine blk_far ?_ NB307_313.out _; (with_reducible repeat (first | refine blk_drewN ?_ _ | refine blk_drew ?_ | refine blk_alloc ?_ _)); refine blk_far ?_ NB307_313.out _; (with_reducible repeat (first | refine blk_drewN ?_ _ | refine blk_drew ?_ | refine blk_alloc ?_ _)); refine blk_far ?_ NB307_313.out _; (with_reducible repeat (first | refine blk_drewN ?_ _ | refine blk_drew ?_ | refine blk_alloc ?_ _)); refine blk_far ?_ NB307_313.out _; (with_reducible repeat (first | refine blk_drewN ?_ _ | refine blk_drew ?_ | refine blk_alloc ?_ _)); refine blk_far ?_ NB307_313.out _; (with_reducible repeat (first | refine blk_drewN ?_ _ | refine blk_drew ?_ | refine blk_alloc ?_ _)); exact BK307.out⟩, ⟨by (try simp only [hl4_1]); (with_reducible repeat (first | refine blk_drewN ?_ _ | refine blk_drew ?_ | refine blk_alloc ?_ _)); refine blk_put (cs := #[.int .i64 ((rd_T105 l0_0 x5_1).f0), .int .i64 ((rd_T105 l0_0 x5_1).f1.f0), .int .i64 ((rd_T105 l0_0 x5_1).f1.f1), .int .i64 ((rd_T105 l0_0 x5_1).f2), .int .i64 0]) ?_ 4 _ rfl; (with_reducible repeat (first | refine blk_drewN ?_ _ | refine blk_drew ?_ | refine blk_alloc ?_ _)); refine blk_put (cs := #[.int .i64 ((rd_T105 l0_0 x5_1).f0), .int .i64 ((rd_T105 l0_0 x5_1).f1.f0), .int .i64 ((rd_T105 l0_0 x5_1).f1.f1), .int .i64 0, .int .i64 0]) ?_ 3 _ rfl; (with_reducible repeat (first | refine blk_drewN ?_ _ | refine blk_drew ?_ | refine blk_alloc ?_ _)); refine blk_put (cs := #[.int .i64 ((rd_T105 l0_0 x5_1).f0), .int .i64 ((rd_T105 l0_0 x5_1).f1.f0), .int .i64 0, .int .i64 0, .int .i64 0]) ?_ 2 _ rfl; (with_reducible repeat (first | refine blk_drewN ?_ _ | refine blk_drew ?_ | refine blk_alloc ?_ _)); refine blk_put (cs := #[.int .i64 ((rd_T105 l0_0 x5_1).f0), .int .i64 0, .int .i64 0, .int .i64 0, .int .i64 0]) ?_ 1 _ rfl; (with_reducible repeat (first | refine blk_drewN ?_ _ | refine blk_drew ?_ | refine blk_alloc ?_ _)); refine blk_put (cs := #[.int .i64 0, .int .i64 0, .int .i64 0, .int .i64 0, .int .i64 0]) ?_ 0 _ rfl; (with_reducible repeat (first | refine blk_drewN ?_ _ | refine blk_drew ?_ | refine blk_alloc ?_ _)); exact BK313.out⟩, ⟨bl_⟩⟩
                        · replace c24 := Bool.eq_false_iff.mpr c24
                          subst c24
                          replace H := ite_f_ H
                          have H' := Aside0.mk H
                          clear H
                          have p314 : 0 ≤ (x5_1 : Int) := of_decide_eq_true (by first | (with_reducible assumption) | assumption)
                          have q314 : x5_1 < (x4_1.length : Int) := of_decide_eq_true (by first | (with_reducible assumption) | assumption)
                          obtain ⟨ad314, e314, hx314_0⟩ := Kd.at_bool (Kd.R_reads' HO_4.out).2.2 x5_1 p314 q314
                          (try rw [← Nbq23.out] at hx314_0)
                          obtain rfl : (⟨go7, 0, none⟩ : Addr) = ad314 := (by injection e314)
                          (first | simp only [add_plain] at hx314_0 | simp only [add_at] at hx314_0 | simp only [Addr.add, Nat.zero_add] at hx314_0 | skip)
                          have hn314_0 : (⟨go7, 0, none⟩ : Addr).block ≠ gb313 := Kd.own_blk (Kd.R_ne HO_4.out BK313.out (by decide))
                          have hn314_1 : (⟨go7, 0, none⟩ : Addr).block ≠ gb313 := Kd.own_blk (Kd.R_ne HO_4.out BK313.out (by decide))
                          have hn314_2 : (⟨go7, 0, none⟩ : Addr).block ≠ gb313 := Kd.own_blk (Kd.R_ne HO_4.out BK313.out (by decide))
                          have hn314_3 : (⟨go7, 0, none⟩ : Addr).block ≠ gb313 := Kd.own_blk (Kd.R_ne HO_4.out BK313.out (by decide))
                          have hn314_4 : (⟨go7, 0, none⟩ : Addr).block ≠ gb313 := Kd.own_blk (Kd.R_ne HO_4.out BK313.out (by decide))
                          replace hx314_0 := (cell_far (p := ⟨gb313, 0, none⟩) (by first | (rw [add_block]; exact hn314_0) | (show (Addr.add _ _).block ≠ _; rw [add_block]; exact hn314_0) | exact hn314_0) (.int .i64 ((rd_T105 l0_0 x5_1).f0))).trans hx314_0
                          replace hx314_0 := (cell_far (p := ⟨gb313, 1, none⟩) (by first | (rw [add_block]; exact hn314_1) | (show (Addr.add _ _).block ≠ _; rw [add_block]; exact hn314_1) | exact hn314_1) (.int .i64 ((rd_T105 l0_0 x5_1).f1.f0))).trans hx314_0
                          replace hx314_0 := (cell_far (p := ⟨gb313, 2, none⟩) (by first | (rw [add_block]; exact hn314_2) | (show (Addr.add _ _).block ≠ _; rw [add_block]; exact hn314_2) | exact hn314_2) (.int .i64 ((rd_T105 l0_0 x5_1).f1.f1))).trans hx314_0
                          replace hx314_0 := (cell_far (p := ⟨gb313, 3, none⟩) (by first | (rw [add_block]; exact hn314_3) | (show (Addr.add _ _).block ≠ _; rw [add_block]; exact hn314_3) | exact hn314_3) (.int .i64 ((rd_T105 l0_0 x5_1).f2))).trans hx314_0
                          replace hx314_0 := (cell_far (p := ⟨gb313, 4, none⟩) (by first | (rw [add_block]; exact hn314_4) | (show (Addr.add _ _).block ≠ _; rw [add_block]; exact hn314_4) | exact hn314_4) (.int .i64 ((rd_T105 l0_0 x5_1).f3))).trans hx314_0
                          clear hn314_0
                          clear hn314_1
                          clear hn314_2
                          clear hn314_3
                          clear hn314_4
                          replace p314 := eq_true p314
                          replace q314 := eq_true q314
                          go_wp2
                          go_meet
                          case rel => exact ⟨_, (true), (by first | rfl | (simp; done) | (simp [*]; done)), H', ⟨by have := HK1.out; first | omega | exact Nat.le_refl _⟩, ⟨by (try simp only [hl4_1]); (with_reducible repeat (first | apply Kd.R_alloc | apply Kd.R_drewN | apply Kd.R_drew)); exact Kd.R_mono (Kd.R_far (p := ⟨gb313, 4, none⟩) (Kd.R_far (p := ⟨gb313, 3, none⟩) (Kd.R_far (p := ⟨gb313, 2, none⟩) (Kd.R_far (p := ⟨gb313, 1, none⟩) (Kd.R_far (p := ⟨gb313, 0, none⟩) (Kd.R_types HO_4.out BK313.out (by decide)) (fun _ hk => hk.2) (.int .i64 ((rd_T105 l0_0 x5_1).f0))) (fun _ hk => hk.2) (.int .i64 ((rd_T105 l0_0 x5_1).f1.f0))) (fun _ hk => hk.2) (.int .i64 ((rd_T105 l0_0 x5_1).f1.f1))) (fun _ hk => hk.2) (.int .i64 ((rd_T105 l0_0 x5_1).f2))) (fun _ hk => hk.2) (.int .i64 ((rd_T105 l0_0 x5_1).f3))) (fun _ hk => trivial)⟩, ⟨by (try simp only [hl4_1]); (with_reducible repeat (first | refine blk_drewN ?_ _ | refine blk_drew ?_ | refine blk_alloc ?_ _)); refine blk_far ?_ NB307_313.out _; (with_reducible repeat (first | refine blk_drewN ?_ _ | refine blk_drew ?_ | refine blk_alloc ?_ _)); refine blk_far ?_ NB307_313.out _; (with_reducible repeat (first | refine blk_drewN ?_ _ | refine blk_drew ?_ | refine blk_alloc ?_ _)); refine blk_far ?_ NB307_313.out _; (with_reducible repeat (first | refine blk_drewN ?_ _ | refine blk_drew ?_ | refine blk_alloc ?_ _)); refine blk_far ?_ NB307_313.out _; (with_reducible repeat (first | refine blk_drewN ?_ _ | refine blk_drew ?_ | refine blk_alloc ?_ _)); refine blk_far ?_ NB307_313.out _; (with_reducible repeat (first | refine blk_drewN ?_ _ | refine blk_drew ?_ | refine blk_alloc ?_ _)); exact BK307.out⟩, ⟨by (try simp only [hl4_1]); (with_reducible repeat (first | refine blk_drewN ?_ _ | refine blk_drew ?_ | refine blk_alloc ?_ _)); refine blk_put (cs := #[.int .i64 ((rd_T105 l0_0 x5_1).f0), .int .i64 ((rd_T105 l0_0 x5_1).f1.f0), .int .i64 ((rd_T105 l0_0 x5_1).f1.f1), .int .i64 ((rd_T105 l0_0 x5_1).f2), .int .i64 0]) ?_ 4 _ rfl; (with_reducible repeat (first | refine blk_drewN ?_ _ | refine blk_drew ?_ | refine blk_alloc ?_ _)); refine blk_put (cs := #[.int .i64 ((rd_T105 l0_0 x5_1).f0), .int .i64 ((rd_T105 l0_0 x5_1).f1.f0), .int .i64 ((rd_T105 l0_0 x5_1).f1.f1), .int .i64 0, .int .i64 0]) ?_ 3 _ rfl; (with_reducible repeat (first | refine blk_drewN ?_ _ | refine blk_drew ?_ | refine blk_alloc ?_ _)); refine blk_put (cs := #[.int .i64 ((rd_T105 l0_0 x5_1).f0), .int .i64 ((rd_T105 l0_0 x5_1).f1.f0), .int .i64 0, .int .i64 0, .int .i64 0]) ?_ 2 _ rfl; (with_reducible repeat (first | refine blk_drewN ?_ _ | refine blk_drew ?_ | refine blk_alloc ?_ _)); refine blk_put (cs := #[.int .i64 ((rd_T105 l0_0 x5_1).f0), .int .i64 0, .int .i64 0, .int .i64 0, .int .i64 0]) ?_ 1 _ rfl; (with_reducible repeat (first | refine blk_drewN ?_ _ | refine blk_drew ?_ | refine blk_alloc ?_ _)); refine blk_put (cs := #[.int .i64 0, .int .i64 0, .int .i64 0, .int .i64 0, .int .i64 0]) ?_ 0 _ rfl; (with_reducible repeat (first | refine blk_drewN ?_ _ | refine blk_drew ?_ | refine blk_alloc ?_ _)); exact BK313.out⟩, ⟨bl_⟩⟩
                      · rw [if_neg c22] at H
                        exact absurd H (by simp)
                    case rest =>
                      clear HC17
                      try clear c1
                      try clear c2
                      try clear c2b0
                      try clear c2b1
                      try clear p2
                      try clear q2
                      try clear c3
                      try clear c3b0
                      try clear c3b1
                      try clear p3
                      try clear q3
                      try clear hx3
                      try clear c5
                      try clear c5b0
                      try clear c6
                      try clear c6b0
                      try clear p6
                      try clear p7
                      try clear q7
                      try clear hx7
                      try clear hf7
                      try clear c8
                      try clear c14
                      try clear c14b0
                      try clear c15
                      try clear c15b0
                      try clear c16
                      try clear c16b0
                      try clear c20
                      try clear c22
                      try clear c22b0
                      try clear q23
                      try clear c24
                      try clear c25
                      try clear hcz18
                      try clear hcz21
                      try clear hcz26
                      try clear hcz9
                      try clear hfz18
                      try clear hfz21
                      try clear hfz26
                      try clear hfz9
                      try clear hx312_0
                      try clear hx312_1
                      try clear hx312_2
                      try clear hx312_3
                      try clear hx312_4
                      try clear hx314_0
                      try clear hx7_0
                      try clear p2
                      try clear p312
                      try clear p314
                      try clear p6
                      try clear p7
                      try clear q312
                      try clear q314
                      try clear q7
                      obtain ⟨kq, x36_16, rfl, HA, HJ16, HO_4, BK307, BK313, HB⟩ := hcut
                      cases kq with
                      | zero => exact absurd HA.out (by simp [spec_l21Below.j1])
                      | succ kj16 =>
                        have H := HA.out
                        clear HA
                        simp only [spec_l21Below.j1] at H
                        by_cases c27 : x36_16 = true
                        · subst c27
                          replace H := ite_t_ H
                          have H' := Aside0.mk H
                          clear H
                          go_wp2
                          (try simp only [← hl4_1])
                          go_roundg kj16
                          case measure => have := HK1.out; have := HJ16.out; omega
                          case rel => exact ⟨(x4_1), (wrap64 (x5_1 - 1)), (by first | rfl | (simp; done) | (simp [*]; done)), H', ⟨by have := HK1.out; have := HJ16.out; omega⟩, ⟨by (try simp only [hl4_1]); (with_reducible repeat (first | apply Kd.R_alloc | apply Kd.R_drewN | apply Kd.R_drew)); exact HO_4.out⟩, ⟨by (try simp only [hl4_1]); (with_reducible repeat (first | refine blk_drewN ?_ _ | refine blk_drew ?_ | refine blk_alloc ?_ _)); exact BK307.out⟩, ⟨bl_⟩⟩
                        · replace c27 := Bool.eq_false_iff.mpr c27
                          subst c27
                          replace H := ite_f_ H
                          by_cases c28 : 0 ≤ ((rd_T105 l0_0 x5_1).f2)
                          · rw [if_pos c28] at H
                            have c28b0 : decide (0 ≤ ((rd_T105 l0_0 x5_1).f2)) = true := decide_eq_true c28
                            clear c28
                            by_cases c29 : ((rd_T105 l0_0 x5_1).f2) < (x4_1.length : Int)
                            · rw [if_pos c29] at H
                              have c29b0 : decide (((rd_T105 l0_0 x5_1).f2) < (x4_1.length : Int)) = true := decide_eq_true c29
                              clear c29
                              obtain ⟨y315, hy315⟩ : ∃ y_ : List Bool, y_ = (x4_1.set (((rd_T105 l0_0 x5_1).f2) : Int).toNat true) := ⟨_, rfl⟩
                              replace H : (if ((rd_T105 l0_0 x5_1).f0) = 4 then (spec_l21Below.l0 kj16 y315 (wrap64 (x5_1 - 1)) l0_0) else (if 0 ≤ ((rd_T105 l0_0 x5_1).f3) then (if ((rd_T105 l0_0 x5_1).f3) < (x4_1.length : Int) then (spec_l21Below.l0 kj16 (y315.set (((rd_T105 l0_0 x5_1).f3) : Int).toNat true) (wrap64 (x5_1 - 1)) l0_0) else (none)) else (none))) = some r := by first | (rw [hy315]; with_reducible exact H) | (have H2_ := (Option.bind_some _ _).symm.trans H; rw [hy315]; with_reducible exact H2_) | (have H2_ := (Option.bind_some _ _).symm.trans H; with_reducible exact H2_) | with_reducible exact H | (rw [hy315]; exact H) | exact H
                              have Ny315 := Aside0.mk hy315
                              clear hy315
                              by_cases c31 : ((rd_T105 l0_0 x5_1).f0) = 4
                              · rw [if_pos c31] at H
                                have c31b0 : (((rd_T105 l0_0 x5_1).f0) == 4) = true := beq_iff_eq.mpr c31
                                have c31b1 : (((rd_T105 l0_0 x5_1).f0) != 4) = false := bne_eq_false_iff_eq.mpr c31
                                clear c31
                                have H' := Aside0.mk H
                                clear H
                                have hnb32 := NB313_307.out
                                have hnc32 := NB307_313.out
                                have hcz33 := blk_cell BK313.out
                                have hfz33 := blk_frozen BK313.out
                                have p30 : 0 ≤ (((rd_T105 l0_0 x5_1).f2) : Int) := of_decide_eq_true (by first | (with_reducible assumption) | assumption)
                                have q30 : (((rd_T105 l0_0 x5_1).f2) : Int) < ((x4_1.length : Int) : Int) := of_decide_eq_true (by first | (with_reducible assumption) | assumption)
                                obtain ⟨hx30_0, hf30_0⟩ := Kd.R_celln false HO_4.out (((rd_T105 l0_0 x5_1).f2) : Int) p30 q30
                                replace p30 := eq_true p30
                                replace q30 := eq_true q30
                                have HP34 := Kd.R_putg HO_4.out (((rd_T105 l0_0 x5_1).f2) : Int) true
                                go_wp2_with (first | ((with_reducible refine gate_store (t := 4) (p := 40) rfl ?_); refine store_event (t := 4) (p := 40) (v := ?vo_w35) (w1 := (wc.setCell ⟨go7, (((rd_T105 l0_0 x5_1).f2) : Int).toNat, none⟩ (.bool true))) ?hg ?ho ?hn ?hr ?_; (case ho => rfl); (case hg => rfl); (case hn => rfl); (case hr => first | (go_simp; done) | (go_simp; rfl)); intro w35 hw; have hg : wc.grownBy w35 (some go7) := (by rw [hw]; exact HP34.2); have hp_ : Kd.R Kd.bool 4 w35 w.heap.size (fun _ => True) (.slice (some ⟨go7, 0, none⟩) x4_1.length co7) y315 := (by rw [hw, Ny315.out]; exact HP34.1); clear HP34; have n0_ := Aside0.mk (hp_); have n1_ := Aside0.mk (blk_grown (g := gb307) (o := .cells #[.slice (some ad312) l0_0.length c0_0] 39 (0, 0)) (blw_ BK307) hg (Kd.R_ne HO_4.out BK307.out (by decide))); have n2_ := Aside0.mk (blk_grown (g := gb313) (o := .cells #[.int .i64 ((rd_T105 l0_0 x5_1).f0), .int .i64 ((rd_T105 l0_0 x5_1).f1.f0), .int .i64 ((rd_T105 l0_0 x5_1).f1.f1), .int .i64 ((rd_T105 l0_0 x5_1).f2), .int .i64 ((rd_T105 l0_0 x5_1).f3)] 105 (0, 0)) (blw_ BK313) hg (Kd.R_ne HO_4.out BK313.out (by decide))); have n3_ := Aside0.mk ((by rw [hw]; exact below_set (HB.out) GB7.out : Below w.heap.size w w35)); clear HO_4; clear BK307; clear BK313; clear HB; have HO_4 := n0_; have BK307 := n1_; have BK313 := n2_; have HB := n3_; clear n0_ n1_ n2_ n3_; clear hg hw hp_; have hcz36 := blk_cell BK313.out; have hfz36 := blk_frozen BK313.out))
                                (try simp only [← hl4_1])
                                go_roundg kj16
                                case measure => have := HK1.out; have := HJ16.out; omega
                                case rel => exact ⟨(y315), (wrap64 (x5_1 - 1)), (by first | rfl | (simp; done) | (simp [*]; done)), H', ⟨by have := HK1.out; have := HJ16.out; omega⟩, ⟨by (try simp only [hl4_1]); (with_reducible repeat (first | apply Kd.R_alloc | apply Kd.R_drewN | apply Kd.R_drew)); exact HO_4.out⟩, ⟨by (try simp only [hl4_1]); (with_reducible repeat (first | refine blk_drewN ?_ _ | refine blk_drew ?_ | refine blk_alloc ?_ _)); exact BK307.out⟩, ⟨bl_⟩⟩
                              · rw [if_neg c31] at H
                                have c31b0 : (((rd_T105 l0_0 x5_1).f0) == 4) = false := beq_eq_false_iff_ne.mpr c31
                                have c31b1 : (((rd_T105 l0_0 x5_1).f0) != 4) = true := bne_iff_ne.mpr c31
                                by_cases c37 : 0 ≤ ((rd_T105 l0_0 x5_1).f3)
                                · rw [if_pos c37] at H
                                  have c37b0 : decide (0 ≤ ((rd_T105 l0_0 x5_1).f3)) = true := decide_eq_true c37
                                  clear c37
                                  by_cases c38 : ((rd_T105 l0_0 x5_1).f3) < (x4_1.length : Int)
                                  · rw [if_pos c38] at H
                                    have c38b0 : decide (((rd_T105 l0_0 x5_1).f3) < (x4_1.length : Int)) = true := decide_eq_true c38
                                    clear c38
                                    obtain ⟨y316, hy316⟩ : ∃ y_ : List Bool, y_ = (y315.set (((rd_T105 l0_0 x5_1).f3) : Int).toNat true) := ⟨_, rfl⟩
                                    replace H : (spec_l21Below.l0 kj16 y316 (wrap64 (x5_1 - 1)) l0_0) = some r := by first | (rw [hy316]; with_reducible exact H) | (have H2_ := (Option.bind_some _ _).symm.trans H; rw [hy316]; with_reducible exact H2_) | (have H2_ := (Option.bind_some _ _).symm.trans H; with_reducible exact H2_) | with_reducible exact H | (rw [hy316]; exact H) | exact H
                                    have Ny316 := Aside0.mk hy316
                                    clear hy316
                                    have H' := Aside0.mk H
                                    clear H
                                    have hnb40 := NB313_307.out
                                    have hnc40 := NB307_313.out
                                    have hcz41 := blk_cell BK313.out
                                    have hfz41 := blk_frozen BK313.out
                                    have p30 : 0 ≤ (((rd_T105 l0_0 x5_1).f2) : Int) := of_decide_eq_true (by first | (with_reducible assumption) | assumption)
                                    have q30 : (((rd_T105 l0_0 x5_1).f2) : Int) < ((x4_1.length : Int) : Int) := of_decide_eq_true (by first | (with_reducible assumption) | assumption)
                                    obtain ⟨hx30_0, hf30_0⟩ := Kd.R_celln false HO_4.out (((rd_T105 l0_0 x5_1).f2) : Int) p30 q30
                                    replace p30 := eq_true p30
                                    replace q30 := eq_true q30
                                    have HP42 := Kd.R_putg HO_4.out (((rd_T105 l0_0 x5_1).f2) : Int) true
                                    go_wp2_with (first | ((with_reducible refine gate_store (t := 4) (p := 40) rfl ?_); refine store_event (t := 4) (p := 40) (v := ?vo_w43) (w1 := (wc.setCell ⟨go7, (((rd_T105 l0_0 x5_1).f2) : Int).toNat, none⟩ (.bool true))) ?hg ?ho ?hn ?hr ?_; (case ho => rfl); (case hg => rfl); (case hn => rfl); (case hr => first | (go_simp; done) | (go_simp; rfl)); intro w43 hw; have hg : wc.grownBy w43 (some go7) := (by rw [hw]; exact HP42.2); have hp_ : Kd.R Kd.bool 4 w43 w.heap.size (fun _ => True) (.slice (some ⟨go7, 0, none⟩) x4_1.length co7) y315 := (by rw [hw, Ny315.out]; exact HP42.1); clear HP42; have n0_ := Aside0.mk (hp_); have n1_ := Aside0.mk (blk_grown (g := gb307) (o := .cells #[.slice (some ad312) l0_0.length c0_0] 39 (0, 0)) (blw_ BK307) hg (Kd.R_ne HO_4.out BK307.out (by decide))); have n2_ := Aside0.mk (blk_grown (g := gb313) (o := .cells #[.int .i64 ((rd_T105 l0_0 x5_1).f0), .int .i64 ((rd_T105 l0_0 x5_1).f1.f0), .int .i64 ((rd_T105 l0_0 x5_1).f1.f1), .int .i64 ((rd_T105 l0_0 x5_1).f2), .int .i64 ((rd_T105 l0_0 x5_1).f3)] 105 (0, 0)) (blw_ BK313) hg (Kd.R_ne HO_4.out BK313.out (by decide))); have n3_ := Aside0.mk ((by rw [hw]; exact below_set (HB.out) GB7.out : Below w.heap.size w w43)); clear HO_4; clear BK307; clear BK313; clear HB; have HO_4 := n0_; have BK307 := n1_; have BK313 := n2_; have HB := n3_; clear n0_ n1_ n2_ n3_; clear hg hw hp_; have hcz44 := blk_cell BK313.out; have hfz44 := blk_frozen BK313.out; have p39 : 0 ≤ (((rd_T105 l0_0 x5_1).f3) : Int) := of_decide_eq_true (by first | (with_reducible assumption) | assumption); have q39 : (((rd_T105 l0_0 x5_1).f3) : Int) < ((x4_1.length : Int) : Int) := of_decide_eq_true (by first | (with_reducible assumption) | assumption); obtain ⟨hx39_0, hf39_0⟩ := Kd.R_celln false HO_4.out (((rd_T105 l0_0 x5_1).f3) : Int) p39 q39; replace p39 := eq_true p39; replace q39 := eq_true q39; obtain ⟨hy45_, hz45_⟩ := Kd.R_celln false HO_4.out (((rd_T105 l0_0 x5_1).f3) : Int) (of_decide_eq_true (by first | (with_reducible assumption) | assumption)) (of_decide_eq_true (by first | (with_reducible assumption) | assumption)); have HP45 := Kd.R_putg HO_4.out (((rd_T105 l0_0 x5_1).f3) : Int) true) | ((with_reducible refine gate_store (t := 4) (p := 47) rfl ?_); refine store_event (t := 4) (p := 47) (v := ?vo_w46) (w1 := (w43.setCell ⟨go7, (((rd_T105 l0_0 x5_1).f3) : Int).toNat, none⟩ (.bool true))) ?hg ?ho ?hn ?hr ?_; (case ho => rfl); (case hg => rfl); (case hn => rfl); (case hr => first | (go_simp; done) | (go_simp; rfl)); intro w46 hw; have hg : w43.grownBy w46 (some go7) := (by rw [hw]; exact HP45.2); have hp_ : Kd.R Kd.bool 4 w46 w.heap.size (fun _ => True) (.slice (some ⟨go7, 0, none⟩) x4_1.length co7) y316 := (by rw [hw, Ny316.out]; exact HP45.1); clear HP45; have n0_ := Aside0.mk (hp_); have n1_ := Aside0.mk (blk_grown (g := gb307) (o := .cells #[.slice (some ad312) l0_0.length c0_0] 39 (0, 0)) (blw_ BK307) hg (Kd.R_ne HO_4.out BK307.out (by decide))); have n2_ := Aside0.mk (blk_grown (g := gb313) (o := .cells #[.int .i64 ((rd_T105 l0_0 x5_1).f0), .int .i64 ((rd_T105 l0_0 x5_1).f1.f0), .int .i64 ((rd_T105 l0_0 x5_1).f1.f1), .int .i64 ((rd_T105 l0_0 x5_1).f2), .int .i64 ((rd_T105 l0_0 x5_1).f3)] 105 (0, 0)) (blw_ BK313) hg (Kd.R_ne HO_4.out BK313.out (by decide))); have n3_ := Aside0.mk ((by rw [hw]; exact below_set (HB.out) GB7.out : Below w.heap.size w w46)); clear HO_4; clear BK307; clear BK313; clear HB; have HO_4 := n0_; have BK307 := n1_; have BK313 := n2_; have HB := n3_; clear n0_ n1_ n2_ n3_; clear hg hw hp_))
                                    (try simp only [← hl4_1])
                                    go_roundg kj16
                                    case measure => have := HK1.out; have := HJ16.out; omega
                                    case rel => exact ⟨(y316), (wrap64 (x5_1 - 1)), (by first | rfl | (simp; done) | (simp [*]; done)), H', ⟨by have := HK1.out; have := HJ16.out; omega⟩, ⟨by (try simp only [hl4_1]); (with_reducible repeat (first | apply Kd.R_alloc | apply Kd.R_drewN | apply Kd.R_drew)); exact HO_4.out⟩, ⟨by (try simp only [hl4_1]); (with_reducible repeat (first | refine blk_drewN ?_ _ | refine blk_drew ?_ | refine blk_alloc ?_ _)); exact BK307.out⟩, ⟨bl_⟩⟩
                                  · rw [if_neg c38] at H
                                    exact absurd H (by simp)
                                · rw [if_neg c37] at H
                                  exact absurd H (by simp)
                            · rw [if_neg c29] at H
                              exact absurd H (by simp)
                          · rw [if_neg c28] at H
                            exact absurd H (by simp)
                  · rw [if_neg c16] at H
                    exact absurd H (by simp)
                · rw [if_neg c15] at H
                  exact absurd H (by simp)
              · rw [if_neg c14] at H
                have c14b0 : decide (0 ≤ x5_1) = false := decide_eq_false c14
                clear c14
                obtain rfl := Option.some.inj H
                go_wp2
                go_ret
                exact ⟨_, by first | rfl | (simp [errW_none, errW_some] <;> rfl) | (simp only [← hji4]; first | rfl | (simp [errW_none, errW_some] <;> rfl)) | (simp [*, errW_none, errW_some] <;> rfl), by (with_reducible repeat (first | apply Kd.R_alloc | apply Kd.R_drewN | apply Kd.R_drew)); exact HO_4.out, bl_⟩
        · rw [if_neg c6] at H
          exact absurd H (by simp)
      · rw [if_neg c5] at H
        exact absurd H (by simp)
    · rw [if_neg c3] at H
      exact absurd H (by simp)
  · rw [if_neg c2] at H
    exact absurd H (by simp)

/-! ### spec_Rising: function 25 -/
def spec_Rising.l0 : Nat → List Bool → Int → List (S105) → Option (Bool)
  | 0, _, _, _ => none
  | k + 1, x3, x4, x318000 => if x4 < (x318000.length : Int) then (if 0 ≤ x4 then (if x4 < (x3.length : Int) then (if rdOf false x3 x4 = true then (if ((rd_T105 x318000 x4).f0) = 4 then (some false) else (spec_Rising.l0 k x3 (wrap64 (x4 + 1)) x318000)) else (spec_Rising.l0 k x3 (wrap64 (x4 + 1)) x318000)) else (none)) else (none)) else (some true)
def spec_Rising.f (k : Nat) (l0_0 : List (S105)) : Option (Bool) := (spec_PolicyOk.f k l0_0).bind fun t318 => (if t318 = true then ((spec_l21Below.f k l0_0).bind fun t319 => (spec_Rising.l0 k t319 0 l0_0)) else (some false))
theorem spec_Rising.mono_l : ∀ k, (∀ y0 y1 y2, LeO (spec_Rising.l0 k y0 y1 y2) (spec_Rising.l0 (k + 1) y0 y1 y2))
  | 0 => fun _ _ _ r h => by simp [spec_Rising.l0] at h
  | k + 1 => by
    have ih0 := spec_Rising.mono_l k
    · intro y0 y1 y2
      unfold spec_Rising.l0
      repeat' first
      | (with_reducible exact ih0 _ _ _)
      | (with_reducible exact spec_PolicyOk.mono _ _)
      | (with_reducible exact spec_l21Below.mono _ _)
      | (with_reducible exact LeO.refl _)
      | (with_reducible exact LeO.none _)
      | (with_reducible refine LeO.ite ?_ ?_)
      | (with_reducible refine LeO.bind ?_ (fun _ => ?_))
      | exact ih0 _ _ _
      | exact spec_PolicyOk.mono _ _
      | exact spec_l21Below.mono _ _
      | exact LeO.none _
      | refine LeO.ite ?_ ?_
      | refine LeO.bind ?_ (fun _ => ?_)
theorem spec_Rising.mono : ∀ a0 k, LeO (spec_Rising.f k a0) (spec_Rising.f (k + 1) a0) := by
  intro a0 k
  have ih0 := spec_Rising.mono_l k
  unfold spec_Rising.f
  repeat' first
      | (with_reducible exact ih0 _ _ _)
      | (with_reducible exact spec_PolicyOk.mono _ _)
      | (with_reducible exact spec_l21Below.mono _ _)
      | (with_reducible exact LeO.refl _)
      | (with_reducible exact LeO.none _)
      | (with_reducible refine LeO.ite ?_ ?_)
      | (with_reducible refine LeO.bind ?_ (fun _ => ?_))
      | exact ih0 _ _ _
      | exact spec_PolicyOk.mono _ _
      | exact spec_l21Below.mono _ _
      | exact LeO.none _
      | refine LeO.ite ?_ ?_
      | refine LeO.bind ?_ (fun _ => ?_)
set_option maxHeartbeats 8000000 in
set_option maxRecDepth 100000 in
theorem spec_Rising.calls (k : Nat) (A0_0 : Option Addr) (c0_0 : Nat) (l0_0 : List (S105)) (r : Bool) (w : World) (hr0_0 : Kd.C k105 w A0_0 l0_0.length l0_0) (hc0_0 : l0_0.length ≤ c0_0) (h : spec_Rising.f k l0_0 = some r) :
    Calls Try.prog 25 #[.agg #[.slice A0_0 l0_0.length c0_0]] w fun e w' => e = .returned (.bool r) ∧ Below w.heap.size w w' := by
  have hu39 := Try.underlying39
  have HR0_0 := Aside0.mk hr0_0
  have HC0_0 := Aside0.mk hc0_0
  clear hr0_0 hc0_0
  have HB := Aside0.mk (Below.refl w.heap.size w)
  have H : ((spec_PolicyOk.f k l0_0).bind fun t318 => (if t318 = true then ((spec_l21Below.f k l0_0).bind fun t319 => (spec_Rising.l0 k t319 0 l0_0)) else (some false))) = some r := h
  clear h
  obtain ⟨t318, A2, H⟩ := bindE_ H
  by_cases c3 : t318 = true
  · subst c3
    replace H := ite_t_ H
    obtain ⟨t319, A4, H⟩ := bindE_ H
    have H' := Aside0.mk H
    clear H
    go_enter Try.func25, Try.ntmps25
    go_wp2_with (first | ((with_reducible refine gate_dst (N := 1) rfl ?_); refine box_event ?hg (N := 1) ?hd (cs := #[.slice A0_0 l0_0.length c0_0]) (t := 39) ?hr ?_; (case hd => rfl); (case hg => rfl); (case hr => first | (go_simp; done) | (go_simp; rfl)); intro gb317 hg w5 hbox hb; have n0_ := Aside0.mk (below_step bl_ hb); have n1_ := Aside0.mk (hbox); have n2_ := Aside0.mk ((by rw [hg]; exact bls_ : w.heap.size ≤ gb317)); have n3_ := Aside0.mk ((by rw [hg]; exact bls_ : w.heap.size ≤ gb317)); clear HB; have HB := n0_; have BK317 := n1_; have GW317 := n2_; have GE317 := n3_; clear n0_ n1_ n2_ n3_; clear hb hbox hg; have hcz6 := blk_cell BK317.out; have hfz6 := blk_frozen BK317.out) | ((with_reducible refine gate_callee (f := 19) rfl ?_); refine goesL_ (some 6) rfl rfl Try.func19 (by kernel_rfl) rfl #[.agg #[.slice A0_0 l0_0.length c0_0]] rfl (by (try simp only [List.map_toArray, List.map_cons, List.map_nil]); first | done | rfl | (simp only [List.length_drop, List.length_take]; rfl)) ?_; (with_reducible refine (spec_PolicyOk.calls k _ _ l0_0 true _ ?side1 ?side2 A2.out).mono ?_); (case side1 => repeat (first | exact (Kd.C_below HR0_0.out HB.out) | (with_reducible refine Kd.C_alloc ?_ _) | (with_reducible refine Kd.C_drewN ?_ _) | (with_reducible refine Kd.C_drew ?_))); (case side2 => exact HC0_0.out); rintro e w7 ⟨rfl, hb⟩; refine ⟨_, rfl, ?_⟩; have n0_ := Aside0.mk (blk_below (g := gb317) (o := .cells #[.slice A0_0 l0_0.length c0_0] 39 (0, 0)) (blw_ BK317) hb); have n1_ := Aside0.mk (below_step bl_ hb); clear BK317; clear HB; have BK317 := n0_; have HB := n1_; clear n0_ n1_; (try clear hb); (try clear hb2); (try clear hk); (try clear hi); have hcz8 := blk_cell BK317.out; have hfz8 := blk_frozen BK317.out) | ((with_reducible refine gate_callee (f := 84) rfl ?_); refine goesL_ (some 9) rfl rfl Try.func84 (by kernel_rfl) rfl #[.agg #[.slice A0_0 l0_0.length c0_0]] rfl (by (try simp only [List.map_toArray, List.map_cons, List.map_nil]); first | done | rfl | (simp only [List.length_drop, List.length_take]; rfl)) ?_; (with_reducible refine (spec_l21Below.calls k _ _ l0_0 t319 _ ?side1 ?side2 A4.out).mono ?_); (case side1 => repeat (first | exact (Kd.C_below HR0_0.out HB.out) | (with_reducible refine Kd.C_alloc ?_ _) | (with_reducible refine Kd.C_drewN ?_ _) | (with_reducible refine Kd.C_drew ?_))); (case side2 => exact HC0_0.out); rintro e w9 ⟨v320, rfl, ho0, hb⟩; refine ⟨_, rfl, ?_⟩; have n0_ := Aside0.mk (Kd.R_lower ho0 bls_); have n1_ := Aside0.mk (blk_below (g := gb317) (o := .cells #[.slice A0_0 l0_0.length c0_0] 39 (0, 0)) (blw_ BK317) hb); have n2_ := Aside0.mk (below_step bl_ hb); clear BK317; clear HB; have HO321 := n0_; have BK317 := n1_; have HB := n2_; clear n0_ n1_ n2_; (try clear hb); (try clear hb2); (try clear hk); (try clear hi); (try clear ho0)))
    go_loopg [4] k (fun kq v4 w' => ∃ (x4_1 : Int), v4 = .int .i64 x4_1 ∧ Aside0 (spec_Rising.l0 kq t319 x4_1 l0_0 = some r) ∧ Aside0 (kq ≤ k) ∧ Aside0 (Kd.R Kd.bool 4 w' w.heap.size (fun _ => True) v320 t319) ∧ Aside0 (w'.heap[gb317]? = some (.cells #[(.slice A0_0 l0_0.length c0_0)] 39 (0, 0))) ∧ Aside0 (Below w.heap.size w w'))
    case atStart => exact ⟨(0), (by first | rfl | (simp; done) | (simp [*]; done)), H', ⟨Nat.le_refl _⟩, ⟨by (with_reducible repeat (first | apply Kd.R_alloc | apply Kd.R_drewN | apply Kd.R_drew)); exact HO321.out⟩, ⟨by (with_reducible repeat (first | refine blk_drewN ?_ _ | refine blk_drew ?_ | refine blk_alloc ?_ _)); exact BK317.out⟩, ⟨bl_⟩⟩
    case round =>
      clear H'
      try clear c1
      try clear c2
      try clear p2
      try clear c3
      try clear c8
      try clear hcz6
      try clear hcz8
      try clear hfz6
      try clear hfz8
      obtain ⟨x4_1, rfl, HA, HK1, HO_3, BK317, HB⟩ := hrel
      cases gk with
      | zero => exact absurd HA.out (by simp [spec_Rising.l0])
      | succ k1 =>
        have H := HA.out
        clear HA
        simp only [spec_Rising.l0] at H
        by_cases c10 : x4_1 < (l0_0.length : Int)
        · rw [if_pos c10] at H
          have c10b0 : decide (x4_1 < (l0_0.length : Int)) = true := decide_eq_true c10
          clear c10
          by_cases c11 : 0 ≤ x4_1
          · rw [if_pos c11] at H
            have c11b0 : decide (0 ≤ x4_1) = true := decide_eq_true c11
            clear c11
            by_cases c12 : x4_1 < (t319.length : Int)
            · rw [if_pos c12] at H
              have c12b0 : decide (x4_1 < (t319.length : Int)) = true := decide_eq_true c12
              clear c12
              obtain ⟨bq13, hbq13⟩ : ∃ b_ : Bool, b_ = (rdOf false t319 x4_1) := ⟨_, rfl⟩
              replace H : (if bq13 = true then (if ((rd_T105 l0_0 x4_1).f0) = 4 then (some false) else (spec_Rising.l0 k1 t319 (wrap64 (x4_1 + 1)) l0_0)) else (spec_Rising.l0 k1 t319 (wrap64 (x4_1 + 1)) l0_0)) = some r := by rw [← hbq13] at H; exact H
              have Nbq13 := Aside0.mk hbq13
              clear hbq13
              by_cases c14 : bq13 = true
              · subst c14
                replace H := ite_t_ H
                by_cases c15 : ((rd_T105 l0_0 x4_1).f0) = 4
                · rw [if_pos c15] at H
                  have c15b0 : (((rd_T105 l0_0 x4_1).f0) == 4) = true := beq_iff_eq.mpr c15
                  have c15b1 : (((rd_T105 l0_0 x4_1).f0) != 4) = false := bne_eq_false_iff_eq.mpr c15
                  clear c15
                  obtain rfl := Option.some.inj H
                  have hcz16 := blk_cell BK317.out
                  have hfz16 := blk_frozen BK317.out
                  obtain ⟨Ao17, co17, eo17⟩ := Kd.R_slice HO_3.out
                  subst eo17
                  have p322 : 0 ≤ (x4_1 : Int) := of_decide_eq_true (by first | (with_reducible assumption) | assumption)
                  have q322 : x4_1 < (t319.length : Int) := of_decide_eq_true (by first | (with_reducible assumption) | assumption)
                  obtain ⟨ad322, e322, hx322_0⟩ := Kd.at_bool (Kd.R_reads' HO_3.out).2.2 x4_1 p322 q322
                  (try rw [← Nbq13.out] at hx322_0)
                  cases e322
                  replace p322 := eq_true p322
                  replace q322 := eq_true q322
                  have p323 : 0 ≤ (x4_1 : Int) := of_decide_eq_true (by first | (with_reducible assumption) | assumption)
                  have q323 : x4_1 < (l0_0.length : Int) := of_decide_eq_true (by first | (with_reducible assumption) | assumption)
                  obtain ⟨ad323, e323, hx323_0, hx323_1, hx323_2, hx323_3, hx323_4⟩ := at_T105 HR0_0.out x4_1 p323 q323
                  cases e323
                  replace hx323_0 := cb_ HB hx323_0
                  replace hx323_1 := cb_ HB hx323_1
                  replace hx323_2 := cb_ HB hx323_2
                  replace hx323_3 := cb_ HB hx323_3
                  replace hx323_4 := cb_ HB hx323_4
                  replace p323 := eq_true p323
                  replace q323 := eq_true q323
                  go_wp2
                  go_ret
                  exact ⟨by first | rfl | (simp [errW_none, errW_some] <;> rfl) | (simp [*, errW_none, errW_some] <;> rfl), bl_⟩
                · rw [if_neg c15] at H
                  have c15b0 : (((rd_T105 l0_0 x4_1).f0) == 4) = false := beq_eq_false_iff_ne.mpr c15
                  have c15b1 : (((rd_T105 l0_0 x4_1).f0) != 4) = true := bne_iff_ne.mpr c15
                  have H' := Aside0.mk H
                  clear H
                  have hcz18 := blk_cell BK317.out
                  have hfz18 := blk_frozen BK317.out
                  obtain ⟨Ao19, co19, eo19⟩ := Kd.R_slice HO_3.out
                  subst eo19
                  have p322 : 0 ≤ (x4_1 : Int) := of_decide_eq_true (by first | (with_reducible assumption) | assumption)
                  have q322 : x4_1 < (t319.length : Int) := of_decide_eq_true (by first | (with_reducible assumption) | assumption)
                  obtain ⟨ad322, e322, hx322_0⟩ := Kd.at_bool (Kd.R_reads' HO_3.out).2.2 x4_1 p322 q322
                  (try rw [← Nbq13.out] at hx322_0)
                  cases e322
                  replace p322 := eq_true p322
                  replace q322 := eq_true q322
                  have p323 : 0 ≤ (x4_1 : Int) := of_decide_eq_true (by first | (with_reducible assumption) | assumption)
                  have q323 : x4_1 < (l0_0.length : Int) := of_decide_eq_true (by first | (with_reducible assumption) | assumption)
                  obtain ⟨ad323, e323, hx323_0, hx323_1, hx323_2, hx323_3, hx323_4⟩ := at_T105 HR0_0.out x4_1 p323 q323
                  cases e323
                  replace hx323_0 := cb_ HB hx323_0
                  replace hx323_1 := cb_ HB hx323_1
                  replace hx323_2 := cb_ HB hx323_2
                  replace hx323_3 := cb_ HB hx323_3
                  replace hx323_4 := cb_ HB hx323_4
                  replace p323 := eq_true p323
                  replace q323 := eq_true q323
                  go_wp2
                  go_roundg k1
                  case measure => have := HK1.out; omega
                  case rel => exact ⟨(wrap64 (x4_1 + 1)), (by first | rfl | (simp; done) | (simp [*]; done)), H', ⟨by have := HK1.out; omega⟩, ⟨by (with_reducible repeat (first | apply Kd.R_alloc | apply Kd.R_drewN | apply Kd.R_drew)); exact HO_3.out⟩, ⟨by (with_reducible repeat (first | refine blk_drewN ?_ _ | refine blk_drew ?_ | refine blk_alloc ?_ _)); exact BK317.out⟩, ⟨bl_⟩⟩
              · replace c14 := Bool.eq_false_iff.mpr c14
                subst c14
                replace H := ite_f_ H
                have H' := Aside0.mk H
                clear H
                have hcz20 := blk_cell BK317.out
                have hfz20 := blk_frozen BK317.out
                obtain ⟨Ao21, co21, eo21⟩ := Kd.R_slice HO_3.out
                subst eo21
                have p322 : 0 ≤ (x4_1 : Int) := of_decide_eq_true (by first | (with_reducible assumption) | assumption)
                have q322 : x4_1 < (t319.length : Int) := of_decide_eq_true (by first | (with_reducible assumption) | assumption)
                obtain ⟨ad322, e322, hx322_0⟩ := Kd.at_bool (Kd.R_reads' HO_3.out).2.2 x4_1 p322 q322
                (try rw [← Nbq13.out] at hx322_0)
                cases e322
                replace p322 := eq_true p322
                replace q322 := eq_true q322
                go_wp2
                go_roundg k1
                case measure => have := HK1.out; omega
                case rel => exact ⟨(wrap64 (x4_1 + 1)), (by first | rfl | (simp; done) | (simp [*]; done)), H', ⟨by have := HK1.out; omega⟩, ⟨by (with_reducible repeat (first | apply Kd.R_alloc | apply Kd.R_drewN | apply Kd.R_drew)); exact HO_3.out⟩, ⟨by (with_reducible repeat (first | refine blk_drewN ?_ _ | refine blk_drew ?_ | refine blk_alloc ?_ _)); exact BK317.out⟩, ⟨bl_⟩⟩
            · rw [if_neg c12] at H
              exact absurd H (by simp)
          · rw [if_neg c11] at H
            exact absurd H (by simp)
        · rw [if_neg c10] at H
          have c10b0 : decide (x4_1 < (l0_0.length : Int)) = false := decide_eq_false c10
          clear c10
          obtain rfl := Option.some.inj H
          have hcz22 := blk_cell BK317.out
          have hfz22 := blk_frozen BK317.out
          go_wp2
          go_ret
          exact ⟨by first | rfl | (simp [errW_none, errW_some] <;> rfl) | (simp [*, errW_none, errW_some] <;> rfl), bl_⟩
  · replace c3 := Bool.eq_false_iff.mpr c3
    subst c3
    replace H := ite_f_ H
    obtain rfl := Option.some.inj H
    go_enter Try.func25, Try.ntmps25
    go_wp2_with (first | ((with_reducible refine gate_dst (N := 1) rfl ?_); refine box_event ?hg (N := 1) ?hd (cs := #[.slice A0_0 l0_0.length c0_0]) (t := 39) ?hr ?_; (case hd => rfl); (case hg => rfl); (case hr => first | (go_simp; done) | (go_simp; rfl)); intro gb317 hg w23 hbox hb; have n0_ := Aside0.mk (below_step bl_ hb); have n1_ := Aside0.mk (hbox); have n2_ := Aside0.mk ((by rw [hg]; exact bls_ : w.heap.size ≤ gb317)); have n3_ := Aside0.mk ((by rw [hg]; exact bls_ : w.heap.size ≤ gb317)); clear HB; have HB := n0_; have BK317 := n1_; have GW317 := n2_; have GE317 := n3_; clear n0_ n1_ n2_ n3_; clear hb hbox hg; have hcz24 := blk_cell BK317.out; have hfz24 := blk_frozen BK317.out) | ((with_reducible refine gate_callee (f := 19) rfl ?_); refine goesL_ (some 6) rfl rfl Try.func19 (by kernel_rfl) rfl #[.agg #[.slice A0_0 l0_0.length c0_0]] rfl (by (try simp only [List.map_toArray, List.map_cons, List.map_nil]); first | done | rfl | (simp only [List.length_drop, List.length_take]; rfl)) ?_; (with_reducible refine (spec_PolicyOk.calls k _ _ l0_0 false _ ?side1 ?side2 A2.out).mono ?_); (case side1 => repeat (first | exact (Kd.C_below HR0_0.out HB.out) | (with_reducible refine Kd.C_alloc ?_ _) | (with_reducible refine Kd.C_drewN ?_ _) | (with_reducible refine Kd.C_drew ?_))); (case side2 => exact HC0_0.out); rintro e w25 ⟨rfl, hb⟩; refine ⟨_, rfl, ?_⟩; have n0_ := Aside0.mk (blk_below (g := gb317) (o := .cells #[.slice A0_0 l0_0.length c0_0] 39 (0, 0)) (blw_ BK317) hb); have n1_ := Aside0.mk (below_step bl_ hb); clear BK317; clear HB; have BK317 := n0_; have HB := n1_; clear n0_ n1_; (try clear hb); (try clear hb2); (try clear hk); (try clear hi)))
    go_ret
    exact ⟨by first | rfl | (simp [errW_none, errW_some] <;> rfl) | (simp [*, errW_none, errW_some] <;> rfl), bl_⟩

-- NOT PRINTED: function 26 (impl_Rising)

-- NOT PRINTED: function 6 (laws_FnExactRising)

end Go.Proofs.Ytcgnegnljffkmaa.PA
