import Derived.Test.YtppdmcimddhbaaaKFnExactDeepOfProofPAx0
import Derived.Test.YtppdmcimddhbaaaKFnExactDeepOfProofPAx7
-- A text of this claim: written by the session's own program out of the translation (wip/tools). Lean checks it.
namespace Go.Proofs.Ytppdmcimddhbaaa.PA
open Go.RowKit Go.Proofs.YtppdmcimddhbaaaW.PrintWords Go.Proofs.YtppdmcimddhbaaaW.PrintLast Go.Proofs.YtppdmcimddhbaaaW.PrintMore
attribute [local go_sem] max2_int min2_int max_two min_two max_three min_three max_four min_four   -- for this text's walks alone
set_option linter.unusedVariables false
set_option linter.unusedSimpArgs false
mutual
def impl_DeepOfProof.l0 : Nat → List Int → Int → List (S105) → Int → Int → Option (Int)
 | 0, _, _, _, _, _ => none
 | k + 1, x3, x4, x17, x18, x19 => if x19 < x18 then (if 0 ≤ x19 then (if x19 < (x17.length : Int) then (impl_DeepOfProof.l1 k x3 x4 0 x17 x18 x19 ((rd_T105 x17 x19).f2) (((rd_T105 x17 x19).f2).length : Int) 0) else (none)) else (none)) else (some x4)
def impl_DeepOfProof.l1 : Nat → List Int → Int → Int → List (S105) → Int → Int → List Int → Int → Int → Option (Int)
 | 0, _, _, _, _, _, _, _, _, _ => none
 | k + 1, x3, x4, x7, x17, x18, x19, x24, x25, x26 => if x26 < x25 then (if 0 ≤ x26 then (if x26 < (x24.length : Int) then (if 0 ≤ (rd x24 x26) then (if (rd x24 x26) < (x3.length : Int) then (impl_DeepOfProof.l1 k x3 x4 (mx x7 (rd x3 (rd x24 x26))) x17 x18 x19 x24 x25 (wrap64 (x26 + 1))) else (none)) else (none)) else (none)) else (none)) else (if x3.length < 17592186044416 then (impl_DeepOfProof.l0 k (x3 ++ [wrap64 (x7 + 1)]) (mx x4 (wrap64 (x7 + 1))) x17 x18 (wrap64 (x19 + 1))) else (none))
end
def impl_DeepOfProof.f (k : Nat) (l0 : List (S105)) : Option (Int) := (impl_allStepsOk.f k l0 (wrap64 ((l0.length : Int) - 1))).bind fun t260 => (if t260 = true then (impl_DeepOfProof.l0 k (([] : List Int)) 0 l0 (l0.length : Int) 0) else (some 0))
set_option maxHeartbeats 8000000 in
set_option maxRecDepth 100000 in
theorem impl_DeepOfProof.calls (k : Nat) (A0 : Option Addr) (c0 : Nat) (l0 : List (S105)) (r : Int) (w : World) (hr0 : Kd.C k105 w A0 l0.length l0) (hc0 : l0.length ≤ c0) (h : impl_DeepOfProof.f k l0 = some r) :
  Calls Try.prog 32 #[.slice A0 l0.length c0] w fun e w' => e = .returned (.int .i64 r) ∧ Below w.heap.size w w' := by
 have hu105 := Try.underlying105
 have HR0 := Aside0.mk hr0
 have HC0 := Aside0.mk hc0
 clear hr0 hc0
 have HB := Aside0.mk (Below.refl w.heap.size w)
 have H : ((impl_allStepsOk.f k l0 (wrap64 ((l0.length : Int) - 1))).bind fun t260 => (if t260 = true then (impl_DeepOfProof.l0 k (([] : List Int)) 0 l0 (l0.length : Int) 0) else (some 0))) = some r := h
 clear h
 obtain ⟨t260, A2, H⟩ := bindE_ H
 by_cases c3 : t260 = true
 ·subst c3
  replace H := ite_t_ H
  obtain ⟨y261, hy261⟩ : ∃ y_ : List Int, y_ = (([] : List Int)) := ⟨_, rfl⟩
  replace H : (impl_DeepOfProof.l0 k y261 0 l0 (l0.length : Int) 0) = some r := by first | (rw [hy261]; with_reducible exact H) | (have H2_ := (Option.bind_some _ _).symm.trans H; rw [hy261]; with_reducible exact H2_) | (have H2_ := (Option.bind_some _ _).symm.trans H; with_reducible exact H2_) | with_reducible exact H | (rw [hy261]; exact H) | exact H
  have Ny261 := Aside0.mk hy261
  clear hy261
  have H' := Aside0.mk H
  clear H
  go_enter Try.func32, Try.ntmps32
  go_wp2_with (first | ((with_reducible refine gate_callee (f := 88) rfl ?_); refine goesC_ (some 14) Try.func88 #[.slice A0 l0.length c0, .int .i64 (wrap64 ((l0.length : Int) - 1))] ?_; (with_reducible refine (impl_allStepsOk.calls k _ _ l0 (wrap64 ((l0.length : Int) - 1)) true _ ?side1 ?side2 A2.out).mono ?_); (case side1 => repeat (first | exact HR0.out | (with_reducible refine Kd.C_alloc ?_ _) | (with_reducible refine Kd.C_drewN ?_ _) | (with_reducible refine Kd.C_drew ?_))); (case side2 => exact HC0.out); rintro e w4 ⟨rfl, hb⟩; refine ⟨_, rfl, ?_⟩; replace HB := hbs_ hb; clear hb) | ((with_reducible refine gate_dst (N := 16) rfl ?_); refine Kd.R_lit (Kd.int .i64) _ 3 ?hg (N := 16) ?hd (xs := ([] : List Int)) (inner := []) (ok := fun _ => True) (okp := fun _ => True) ?hr ?hp (fun _ hk => hk) trivial (Below.refl _ _) (Nat.le_refl _) (by simp) ?_; (case hd => rfl); (case hg => rfl); (case hr => first | (go_simp; done) | (go_simp; rfl)); (case hp => exact (Reps.none _ _)); intro v262 w5 ho6 hb hg_ hnew_; clear hg_ hnew_; (first | rw [← Ny261.out] at ho6 | (simp only [Int.reduceToNat] at ho6; rw [← Ny261.out] at ho6)); have HO263 := Aside0.mk (Kd.R_lower ho6 bls_); replace HB := hbs_ hb; clear hb ho6))
  go_loopg [3, 4, 19] k (fun kq v3 v4 v19 w' => ∃ (x3_1 : List Int) (x4_1 : Int) (x19_1 : Int), v4 = .int .i64 x4_1 ∧ v19 = .int .i64 x19_1 ∧ Aside0 (impl_DeepOfProof.l0 kq x3_1 x4_1 l0 (l0.length : Int) x19_1 = some r) ∧ Aside0 (kq ≤ k) ∧ Aside0 (Kd.R (Kd.int .i64) 3 w' w.heap.size (fun _ => True) v3 x3_1) ∧ Aside0 (Below w.heap.size w w'))
  case atStart => exact ⟨(y261), (0), (0), (by first | rfl | (simp; done) | (simp [*]; done)), (by first | rfl | (simp; done) | (simp [*]; done)), H', ⟨Nat.le_refl _⟩, ⟨by (with_reducible repeat (first | apply Kd.R_alloc | apply Kd.R_drewN | apply Kd.R_drew)); exact HO263.out⟩, ⟨bl_⟩⟩
  case round =>
   clear H'
   try clear p2
   try clear c3
   try clear p6
   obtain ⟨x3_1, x4_1, x19_1, rfl, rfl, HA, HK1, HO_3, HB⟩ := hrel
   cases gk with
   | zero => exact absurd HA.out (by simp [impl_DeepOfProof.l0])
   | succ k1 =>
    have H := HA.out
    clear HA
    simp only [impl_DeepOfProof.l0] at H
    by_cases c7 : x19_1 < (l0.length : Int)
    ·rw [if_pos c7] at H
     have c7b0 : decide (x19_1 < (l0.length : Int)) = true := decide_eq_true c7
     clear c7
     by_cases c8 : 0 ≤ x19_1
     ·rw [if_pos c8] at H
      have c8b0 : decide (0 ≤ x19_1) = true := decide_eq_true c8
      clear c8
      by_cases c9 : x19_1 < (l0.length : Int)
      ·rw [if_pos c9] at H
       have c9b0 : decide (x19_1 < (l0.length : Int)) = true := decide_eq_true c9
       clear c9
       have H' := Aside0.mk H
       clear H
       have p264 : 0 ≤ (x19_1 : Int) := of_decide_eq_true (by first | (with_reducible assumption) | assumption)
       have q264 : x19_1 < (l0.length : Int) := of_decide_eq_true (by first | (with_reducible assumption) | assumption)
       obtain ⟨ad264, A264_13, c264_13, e264, hx264_0, hx264_1, hx264_2, hx264_3, hx264_4, hx264_5, hx264_6, hx264_7, hx264_8, hx264_9, hx264_10, hx264_11, hx264_12, hx264_13, hl264_13, hi264_13⟩ := at_T105 HR0.out x19_1 p264 q264
       cases e264
       replace hx264_0 := cb_ HB hx264_0
       replace hx264_1 := cb_ HB hx264_1
       replace hx264_2 := cb_ HB hx264_2
       replace hx264_3 := cb_ HB hx264_3
       replace hx264_4 := cb_ HB hx264_4
       replace hx264_5 := cb_ HB hx264_5
       replace hx264_6 := cb_ HB hx264_6
       replace hx264_7 := cb_ HB hx264_7
       replace hx264_8 := cb_ HB hx264_8
       replace hx264_9 := cb_ HB hx264_9
       replace hx264_10 := cb_ HB hx264_10
       replace hx264_11 := cb_ HB hx264_11
       replace hx264_12 := cb_ HB hx264_12
       replace hx264_13 := cb_ HB hx264_13
       have HR264_13 := Aside0.mk hi264_13
       have HC264_13 := Aside0.mk hl264_13
       clear hi264_13 hl264_13
       replace p264 := eq_true p264
       replace q264 := eq_true q264
       go_wp2_with (first | ((with_reducible refine gate_dst (N := 6) rfl ?_); refine box_event ?hg (N := 6) ?hd (cs := #[.int .i64 0, .int .i64 0, .int .i64 0, .int .i64 0, .int .i64 0, .int .i64 0, .int .i64 0, .int .i64 0, .int .i64 0, .int .i64 0, .int .i64 0, .int .i64 0, .int .i64 0, .slice none 0 0]) (t := 105) ?hr ?_; (case hd => rfl); (case hg => rfl); (case hr => first | (go_simp; done) | (go_simp; rfl)); intro gb265 hg w10 hbox hb; replace HO_3 := Aside0.mk (Kd.R_below (by (with_reducible repeat (first | apply Kd.R_alloc | apply Kd.R_drewN | apply Kd.R_drew)); exact HO_3.out) hb); have BK265 := Aside0.mk (hbox); have GW265 := gs_ hg; have GE265 := gs_ hg; replace HB := hbs_ hb; clear hb hbox hg; have hcz11 := blk_cell BK265.out; have hfz11 := blk_frozen BK265.out))
       go_loopg [7, 26] k1 (fun kq v7 v26 w' => ∃ (x7_2 : Int) (x26_2 : Int), v7 = .int .i64 x7_2 ∧ v26 = .int .i64 x26_2 ∧ Aside0 (impl_DeepOfProof.l1 kq x3_1 x4_1 x7_2 l0 (l0.length : Int) x19_1 ((rd_T105 l0 x19_1).f2) (((rd_T105 l0 x19_1).f2).length : Int) x26_2 = some r) ∧ Aside0 (kq ≤ k1) ∧ Aside0 (Kd.R (Kd.int .i64) 3 w' w.heap.size (fun _ => True) u3 x3_1) ∧ Aside0 (w'.heap[gb265]? = some (.cells #[.int .i64 ((rd_T105 l0 x19_1).f0.f0), .int .i64 ((rd_T105 l0 x19_1).f0.f1.f0), .int .i64 ((rd_T105 l0 x19_1).f0.f1.f1), .int .i64 ((rd_T105 l0 x19_1).f0.f2), .int .i64 ((rd_T105 l0 x19_1).f0.f3.f0), .int .i64 ((rd_T105 l0 x19_1).f0.f3.f1), .int .i64 ((rd_T105 l0 x19_1).f0.f4.f0), .int .i64 ((rd_T105 l0 x19_1).f0.f4.f1), .int .i64 ((rd_T105 l0 x19_1).f0.f5), .int .i64 ((rd_T105 l0 x19_1).f0.f6), .int .i64 ((rd_T105 l0 x19_1).f1.f0.f0), .int .i64 ((rd_T105 l0 x19_1).f1.f0.f1), .int .i64 ((rd_T105 l0 x19_1).f1.f1), (.slice A264_13 ((rd_T105 l0 x19_1).f2).length c264_13)] 105 (0, 0))) ∧ Aside0 (Below w.heap.size w w'))
       case atStart => exact ⟨(0), (0), (by first | rfl | (simp; done) | (simp [*]; done)), (by first | rfl | (simp; done) | (simp [*]; done)), H', ⟨Nat.le_refl _⟩, ⟨by (with_reducible repeat (first | apply Kd.R_alloc | apply Kd.R_drewN | apply Kd.R_drew)); exact Kd.R_mono (Kd.R_far (p := ⟨gb265, 13, none⟩) (Kd.R_far (p := ⟨gb265, 12, none⟩) (Kd.R_far (p := ⟨gb265, 11, none⟩) (Kd.R_far (p := ⟨gb265, 10, none⟩) (Kd.R_far (p := ⟨gb265, 9, none⟩) (Kd.R_far (p := ⟨gb265, 8, none⟩) (Kd.R_far (p := ⟨gb265, 7, none⟩) (Kd.R_far (p := ⟨gb265, 6, none⟩) (Kd.R_far (p := ⟨gb265, 5, none⟩) (Kd.R_far (p := ⟨gb265, 4, none⟩) (Kd.R_far (p := ⟨gb265, 3, none⟩) (Kd.R_far (p := ⟨gb265, 2, none⟩) (Kd.R_far (p := ⟨gb265, 1, none⟩) (Kd.R_far (p := ⟨gb265, 0, none⟩) (Kd.R_types HO_3.out BK265.out (by decide)) (fun _ hk => hk.2) (.int .i64 ((rd_T105 l0 x19_1).f0.f0))) (fun _ hk => hk.2) (.int .i64 ((rd_T105 l0 x19_1).f0.f1.f0))) (fun _ hk => hk.2) (.int .i64 ((rd_T105 l0 x19_1).f0.f1.f1))) (fun _ hk => hk.2) (.int .i64 ((rd_T105 l0 x19_1).f0.f2))) (fun _ hk => hk.2) (.int .i64 ((rd_T105 l0 x19_1).f0.f3.f0))) (fun _ hk => hk.2) (.int .i64 ((rd_T105 l0 x19_1).f0.f3.f1))) (fun _ hk => hk.2) (.int .i64 ((rd_T105 l0 x19_1).f0.f4.f0))) (fun _ hk => hk.2) (.int .i64 ((rd_T105 l0 x19_1).f0.f4.f1))) (fun _ hk => hk.2) (.int .i64 ((rd_T105 l0 x19_1).f0.f5))) (fun _ hk => hk.2) (.int .i64 ((rd_T105 l0 x19_1).f0.f6))) (fun _ hk => hk.2) (.int .i64 ((rd_T105 l0 x19_1).f1.f0.f0))) (fun _ hk => hk.2) (.int .i64 ((rd_T105 l0 x19_1).f1.f0.f1))) (fun _ hk => hk.2) (.int .i64 ((rd_T105 l0 x19_1).f1.f1))) (fun _ hk => hk.2) (.slice A264_13 ((rd_T105 l0 x19_1).f2).length c264_13)) (fun _ hk => trivial)⟩, ⟨bk_ BK265⟩, ⟨bl_⟩⟩
       case round =>
        clear H'
        try clear c2
        try clear p2
        try clear q2
        try clear hx2
        try clear c3
        try clear p6
        try clear c7
        try clear c7b0
        try clear c8
        try clear c8b0
        try clear c9
        try clear c9b0
        try clear hcz11
        try clear hfz11
        try clear hx264_0
        try clear hx264_1
        try clear hx264_10
        try clear hx264_11
        try clear hx264_12
        try clear hx264_13
        try clear hx264_2
        try clear hx264_3
        try clear hx264_4
        try clear hx264_5
        try clear hx264_6
        try clear hx264_7
        try clear hx264_8
        try clear hx264_9
        try clear p2
        try clear p264
        try clear p6
        try clear q264
        obtain ⟨x7_2, x26_2, rfl, rfl, HA, HK2, HO_3, BK265, HB⟩ := hrel
        cases gk with
        | zero => exact absurd HA.out (by simp [impl_DeepOfProof.l1])
        | succ k2 =>
         have H := HA.out
         clear HA
         simp only [impl_DeepOfProof.l1] at H
         by_cases c12 : x26_2 < (((rd_T105 l0 x19_1).f2).length : Int)
         ·rw [if_pos c12] at H
          have c12b0 : decide (x26_2 < (((rd_T105 l0 x19_1).f2).length : Int)) = true := decide_eq_true c12
          clear c12
          by_cases c13 : 0 ≤ x26_2
          ·rw [if_pos c13] at H
           have c13b0 : decide (0 ≤ x26_2) = true := decide_eq_true c13
           clear c13
           by_cases c14 : x26_2 < (((rd_T105 l0 x19_1).f2).length : Int)
           ·rw [if_pos c14] at H
            have c14b0 : decide (x26_2 < (((rd_T105 l0 x19_1).f2).length : Int)) = true := decide_eq_true c14
            clear c14
            by_cases c15 : 0 ≤ (rd ((rd_T105 l0 x19_1).f2) x26_2)
            ·rw [if_pos c15] at H
             have c15b0 : decide (0 ≤ (rd ((rd_T105 l0 x19_1).f2) x26_2)) = true := decide_eq_true c15
             clear c15
             by_cases c16 : (rd ((rd_T105 l0 x19_1).f2) x26_2) < (x3_1.length : Int)
             ·rw [if_pos c16] at H
              have c16b0 : decide ((rd ((rd_T105 l0 x19_1).f2) x26_2) < (x3_1.length : Int)) = true := decide_eq_true c16
              clear c16
              obtain ⟨ji17, hji17⟩ : ∃ j_ : Int, (mx x7_2 (rd x3_1 (rd ((rd_T105 l0 x19_1).f2) x26_2))) = j_ := ⟨_, rfl⟩
              replace H : (impl_DeepOfProof.l1 k2 x3_1 x4_1 ji17 l0 (l0.length : Int) x19_1 ((rd_T105 l0 x19_1).f2) (((rd_T105 l0 x19_1).f2).length : Int) (wrap64 (x26_2 + 1))) = some r := by first | (rw [hji17] at H; exact H) | (simp only [hji17] at H ⊢; exact H)
              have hji17_ : (if x7_2 < (rd x3_1 (rd ((rd_T105 l0 x19_1).f2) x26_2)) then (rd x3_1 (rd ((rd_T105 l0 x19_1).f2) x26_2)) else x7_2) = ji17 := hji17
              have H' := Aside0.mk H
              clear H
              have p266 : 0 ≤ (x26_2 : Int) := of_decide_eq_true (by first | (with_reducible assumption) | assumption)
              have q266 : x26_2 < (((rd_T105 l0 x19_1).f2).length : Int) := of_decide_eq_true (by first | (with_reducible assumption) | assumption)
              obtain ⟨ad266, e266, hx266_0⟩ := Kd.at_int (Kd.C_below HR264_13.out HB.out) x26_2 p266 q266
              cases e266
              replace p266 := eq_true p266
              replace q266 := eq_true q266
              obtain ⟨Ao18, co18, eo18⟩ := Kd.R_slice HO_3.out
              subst eo18
              have p267 : 0 ≤ ((rd ((rd_T105 l0 x19_1).f2) x26_2) : Int) := of_decide_eq_true (by first | (with_reducible assumption) | assumption)
              have q267 : (rd ((rd_T105 l0 x19_1).f2) x26_2) < (x3_1.length : Int) := of_decide_eq_true (by first | (with_reducible assumption) | assumption)
              obtain ⟨ad267, e267, hx267_0⟩ := Kd.at_int (Kd.R_reads' HO_3.out).2.2 (rd ((rd_T105 l0 x19_1).f2) x26_2) p267 q267
              cases e267
              replace p267 := eq_true p267
              replace q267 := eq_true q267
              go_wp2
              go_roundg k2
              case measure => have := HK1.out; have := HK2.out; omega
              case rel => exact ⟨(ji17), (wrap64 (x26_2 + 1)), (by first | rfl | (simp; done) | (simp only [← hji17] <;> (first | rfl | simp)) | (simp [*]; done)), (by first | rfl | (simp; done) | (simp [*]; done)), H', ⟨by have := HK1.out; have := HK2.out; omega⟩, ⟨by (with_reducible repeat (first | apply Kd.R_alloc | apply Kd.R_drewN | apply Kd.R_drew)); exact HO_3.out⟩, ⟨bk_ BK265⟩, ⟨bl_⟩⟩
             ·rw [if_neg c16] at H
              exact absurd H (by simp)
            ·rw [if_neg c15] at H
             exact absurd H (by simp)
           ·rw [if_neg c14] at H
            exact absurd H (by simp)
          ·rw [if_neg c13] at H
           exact absurd H (by simp)
         ·rw [if_neg c12] at H
          have c12b0 : decide (x26_2 < (((rd_T105 l0 x19_1).f2).length : Int)) = false := decide_eq_false c12
          clear c12
          by_cases c19 : x3_1.length < 17592186044416
          ·rw [if_pos c19] at H
           have LMc19 := Aside0.mk c19
           clear c19
           obtain ⟨y268, hy268⟩ : ∃ y_ : List Int, y_ = (x3_1 ++ [wrap64 (x7_2 + 1)]) := ⟨_, rfl⟩
           replace H : (impl_DeepOfProof.l0 k2 y268 (mx x4_1 (wrap64 (x7_2 + 1))) l0 (l0.length : Int) (wrap64 (x19_1 + 1))) = some r := by first | (rw [hy268]; with_reducible exact H) | (have H2_ := (Option.bind_some _ _).symm.trans H; rw [hy268]; with_reducible exact H2_) | (have H2_ := (Option.bind_some _ _).symm.trans H; with_reducible exact H2_) | with_reducible exact H | (rw [hy268]; exact H) | exact H
           have Ny268 := Aside0.mk hy268
           clear hy268
           obtain ⟨ji20, hji20⟩ : ∃ j_ : Int, (mx x4_1 (wrap64 (x7_2 + 1))) = j_ := ⟨_, rfl⟩
           replace H : (impl_DeepOfProof.l0 k2 y268 ji20 l0 (l0.length : Int) (wrap64 (x19_1 + 1))) = some r := by first | (rw [hji20] at H; exact H) | (simp only [hji20] at H ⊢; exact H)
           have hji20_ : (if x4_1 < (wrap64 (x7_2 + 1)) then (wrap64 (x7_2 + 1)) else x4_1) = ji20 := hji20
           have H' := Aside0.mk H
           clear H
           go_wp2_with (first | ((with_reducible refine gate_builtin (b := .append) (xs := #[.tmp 37, .tmp 40]) rfl ?_); at_builtin; refine Kd.R_append (Kd.int .i64) (w0 := w) w.heap.size rfl (.tmp 37) (.tmp 40) 32 3 (.int .i64 0) 8 rfl Try.underlying32 info3 rfl (by decide) (by omega) u3 x3_1 (wrap64 (x7_2 + 1)) [.int .i64 (wrap64 (x7_2 + 1))] (fun _ => True) (fun _ => False) rfl rfl ?aP (fun _ hk => hk.elim) ?aF ?aO ?aB ?aS ?aL ?_; (case aP => exact rfl); (case aB => exact bl_); (case aF => exact (fun _ _ => trivial)); (case aO => exact (by (with_reducible repeat (first | apply Kd.R_alloc | apply Kd.R_drewN | apply Kd.R_drew)); exact HO_3.out)); (case aS => exact bls_); (case aL => have := LMc19.out; omega); intro v269 w21 ho hb hg hat; rw [← Ny268.out] at ho; replace BK265 := Aside0.mk (blk_grown (g := gb265) (o := .cells #[.int .i64 ((rd_T105 l0 x19_1).f0.f0), .int .i64 ((rd_T105 l0 x19_1).f0.f1.f0), .int .i64 ((rd_T105 l0 x19_1).f0.f1.f1), .int .i64 ((rd_T105 l0 x19_1).f0.f2), .int .i64 ((rd_T105 l0 x19_1).f0.f3.f0), .int .i64 ((rd_T105 l0 x19_1).f0.f3.f1), .int .i64 ((rd_T105 l0 x19_1).f0.f4.f0), .int .i64 ((rd_T105 l0 x19_1).f0.f4.f1), .int .i64 ((rd_T105 l0 x19_1).f0.f5), .int .i64 ((rd_T105 l0 x19_1).f0.f6), .int .i64 ((rd_T105 l0 x19_1).f1.f0.f0), .int .i64 ((rd_T105 l0 x19_1).f1.f0.f1), .int .i64 ((rd_T105 l0 x19_1).f1.f1), .slice A264_13 ((rd_T105 l0 x19_1).f2).length c264_13] 105 (0, 0)) (bk_ BK265) hg (Kd.R_ne HO_3.out BK265.out (by decide))); replace HB := Aside0.mk (hb); have HO270 := Aside0.mk (ho); clear HO_3; clear ho hb hg hat))
           go_roundg k2
           case measure => have := HK1.out; have := HK2.out; omega
           case rel => exact ⟨(y268), (ji20), (wrap64 (x19_1 + 1)), (by first | rfl | (simp; done) | (simp only [← hji20] <;> (first | rfl | simp)) | (simp [*]; done)), (by first | rfl | (simp; done) | (simp [*]; done)), H', ⟨by have := HK1.out; have := HK2.out; omega⟩, ⟨by (with_reducible repeat (first | apply Kd.R_alloc | apply Kd.R_drewN | apply Kd.R_drew)); exact HO270.out⟩, ⟨bl_⟩⟩
          ·rw [if_neg c19] at H
           exact absurd H (by simp)
      ·rw [if_neg c9] at H
       exact absurd H (by simp)
     ·rw [if_neg c8] at H
      exact absurd H (by simp)
    ·rw [if_neg c7] at H
     have c7b0 : decide (x19_1 < (l0.length : Int)) = false := decide_eq_false c7
     clear c7
     obtain rfl := Option.some.inj H
     go_wp2
     go_ret
     exact ⟨eq_, bl_⟩
 ·replace c3 := Bool.eq_false_iff.mpr c3
  subst c3
  replace H := ite_f_ H
  obtain rfl := Option.some.inj H
  go_enter Try.func32, Try.ntmps32
  go_wp2_with (first | ((with_reducible refine gate_callee (f := 88) rfl ?_); refine goesC_ (some 14) Try.func88 #[.slice A0 l0.length c0, .int .i64 (wrap64 ((l0.length : Int) - 1))] ?_; (with_reducible refine (impl_allStepsOk.calls k _ _ l0 (wrap64 ((l0.length : Int) - 1)) false _ ?side1 ?side2 A2.out).mono ?_); (case side1 => repeat (first | exact HR0.out | (with_reducible refine Kd.C_alloc ?_ _) | (with_reducible refine Kd.C_drewN ?_ _) | (with_reducible refine Kd.C_drew ?_))); (case side2 => exact HC0.out); rintro e w22 ⟨rfl, hb⟩; refine ⟨_, rfl, ?_⟩; replace HB := hbs_ hb; clear hb))
  go_ret
  exact ⟨eq_, bl_⟩
def laws_eqIntS.l0 : Nat → List Int → List Int → Int → Option (Bool)
 | 0, _, _, _ => none
 | k + 1, x0, x1, x5 => if x5 < (x0.length : Int) then (if 0 ≤ x5 then (if x5 < (x1.length : Int) then (if (rd x0 x5) = (rd x1 x5) then (laws_eqIntS.l0 k x0 x1 (wrap64 (x5 + 1))) else (some false)) else (none)) else (none)) else (some true)
def laws_eqIntS.f (k : Nat) (l0 : List Int) (l1 : List Int) : Option (Bool) := if (l0.length : Int) = (l1.length : Int) then (laws_eqIntS.l0 k l0 l1 0) else (some false)
set_option maxHeartbeats 8000000 in
set_option maxRecDepth 100000 in
theorem laws_eqIntS.calls (k : Nat) (A0 : Option Addr) (c0 : Nat) (l0 : List Int) (A1 : Option Addr) (c1 : Nat) (l1 : List Int) (r : Bool) (w : World) (hr0 : Kd.C (Kd.int .i64) w A0 l0.length l0) (hc0 : l0.length ≤ c0) (hr1 : Kd.C (Kd.int .i64) w A1 l1.length l1) (hc1 : l1.length ≤ c1) (h : laws_eqIntS.f k l0 l1 = some r) :
  Calls Try.prog 58 #[.slice A0 l0.length c0, .slice A1 l1.length c1] w fun e w' => e = .returned (.bool r) ∧ Drawn0 w w' := by
 have HR0 := Aside0.mk hr0
 have HC0 := Aside0.mk hc0
 clear hr0 hc0
 have HR1 := Aside0.mk hr1
 have HC1 := Aside0.mk hc1
 clear hr1 hc1
 have H : (if (l0.length : Int) = (l1.length : Int) then (laws_eqIntS.l0 k l0 l1 0) else (some false)) = some r := h
 clear h
 by_cases c3 : (l0.length : Int) = (l1.length : Int)
 ·rw [if_pos c3] at H
  have c3b0 : ((l0.length : Int) == (l1.length : Int)) = true := beq_iff_eq.mpr c3
  have c3b1 : ((l0.length : Int) != (l1.length : Int)) = false := bne_eq_false_iff_eq.mpr c3
  have c3b2 : (l0.length == l1.length) = true := by first | simpa using c3 | (simp at c3 ⊢; omega)
  clear c3
  have H' := Aside0.mk H
  clear H
  go_enter Try.func58, Try.ntmps58
  go_wp2
  repeat (go_quiet (fail); try go_wp2)
  go_loopg [5] k (fun kq v5 w' => ∃ (x5_1 : Int), v5 = .int .i64 x5_1 ∧ Aside0 (laws_eqIntS.l0 kq l0 l1 x5_1 = some r) ∧ Aside0 (kq ≤ k) ∧ Drawn0 w w')
  case atStart => exact ⟨(0), (by first | rfl | (simp; done) | (simp [*]; done)), H', ⟨Nat.le_refl _⟩, by repeat (first | exact Drawn0.refl _ | apply Drawn0.step)⟩
  case round =>
   clear H'
   try clear c1
   try clear p2
   try clear c3
   try clear c3b0
   try clear c3b1
   try clear c3b2
   obtain ⟨x5_1, rfl, HA, HK1, ⟨m1, rfl⟩⟩ := hrel
   cases gk with
   | zero => exact absurd HA.out (by simp [laws_eqIntS.l0])
   | succ k1 =>
    have H := HA.out
    clear HA
    simp only [laws_eqIntS.l0] at H
    by_cases c4 : x5_1 < (l0.length : Int)
    ·rw [if_pos c4] at H
     have c4b0 : decide (x5_1 < (l0.length : Int)) = true := decide_eq_true c4
     clear c4
     by_cases c5 : 0 ≤ x5_1
     ·rw [if_pos c5] at H
      have c5b0 : decide (0 ≤ x5_1) = true := decide_eq_true c5
      clear c5
      by_cases c6 : x5_1 < (l1.length : Int)
      ·rw [if_pos c6] at H
       have c6b0 : decide (x5_1 < (l1.length : Int)) = true := decide_eq_true c6
       clear c6
       by_cases c7 : (rd l0 x5_1) = (rd l1 x5_1)
       ·rw [if_pos c7] at H
        have c7b0 : ((rd l0 x5_1) == (rd l1 x5_1)) = true := beq_iff_eq.mpr c7
        have c7b1 : ((rd l0 x5_1) != (rd l1 x5_1)) = false := bne_eq_false_iff_eq.mpr c7
        clear c7
        have H' := Aside0.mk H
        clear H
        have p271 : 0 ≤ (x5_1 : Int) := of_decide_eq_true (by first | (with_reducible assumption) | assumption)
        have q271 : x5_1 < (l0.length : Int) := of_decide_eq_true (by first | (with_reducible assumption) | assumption)
        obtain ⟨ad271, e271, hx271_0⟩ := Kd.at_int HR0.out x5_1 p271 q271
        cases e271
        replace p271 := eq_true p271
        replace q271 := eq_true q271
        have p272 : 0 ≤ (x5_1 : Int) := of_decide_eq_true (by first | (with_reducible assumption) | assumption)
        have q272 : x5_1 < (l1.length : Int) := of_decide_eq_true (by first | (with_reducible assumption) | assumption)
        obtain ⟨ad272, e272, hx272_0⟩ := Kd.at_int HR1.out x5_1 p272 q272
        cases e272
        replace p272 := eq_true p272
        replace q272 := eq_true q272
        go_wp2
        repeat (go_quiet (fail); try go_wp2)
        go_roundg k1
        case measure => have := HK1.out; omega
        case rel => exact ⟨(wrap64 (x5_1 + 1)), (by first | rfl | (simp; done) | (simp [*]; done)), H', ⟨by have := HK1.out; omega⟩, by repeat (first | exact Drawn0.refl _ | apply Drawn0.step)⟩
       ·rw [if_neg c7] at H
        have c7b0 : ((rd l0 x5_1) == (rd l1 x5_1)) = false := beq_eq_false_iff_ne.mpr c7
        have c7b1 : ((rd l0 x5_1) != (rd l1 x5_1)) = true := bne_iff_ne.mpr c7
        obtain rfl := Option.some.inj H
        have p271 : 0 ≤ (x5_1 : Int) := of_decide_eq_true (by first | (with_reducible assumption) | assumption)
        have q271 : x5_1 < (l0.length : Int) := of_decide_eq_true (by first | (with_reducible assumption) | assumption)
        obtain ⟨ad271, e271, hx271_0⟩ := Kd.at_int HR0.out x5_1 p271 q271
        cases e271
        replace p271 := eq_true p271
        replace q271 := eq_true q271
        have p272 : 0 ≤ (x5_1 : Int) := of_decide_eq_true (by first | (with_reducible assumption) | assumption)
        have q272 : x5_1 < (l1.length : Int) := of_decide_eq_true (by first | (with_reducible assumption) | assumption)
        obtain ⟨ad272, e272, hx272_0⟩ := Kd.at_int HR1.out x5_1 p272 q272
        cases e272
        replace p272 := eq_true p272
        replace q272 := eq_true q272
        go_wp2
        repeat (go_quiet (fail); try go_wp2)
        go_ret
        exact ⟨by first | rfl | (simp; done) | (simp [*]; done), by repeat (first | exact Drawn0.refl _ | apply Drawn0.step)⟩
      ·rw [if_neg c6] at H
       exact absurd H (by simp)
     ·rw [if_neg c5] at H
      exact absurd H (by simp)
    ·rw [if_neg c4] at H
     have c4b0 : decide (x5_1 < (l0.length : Int)) = false := decide_eq_false c4
     clear c4
     obtain rfl := Option.some.inj H
     go_wp2
     repeat (go_quiet (fail); try go_wp2)
     go_ret
     exact ⟨by first | rfl | (simp; done) | (simp [*]; done), by repeat (first | exact Drawn0.refl _ | apply Drawn0.step)⟩
 ·rw [if_neg c3] at H
  have c3b0 : ((l0.length : Int) == (l1.length : Int)) = false := beq_eq_false_iff_ne.mpr c3
  have c3b1 : ((l0.length : Int) != (l1.length : Int)) = true := bne_iff_ne.mpr c3
  have c3b2 : (l0.length == l1.length) = false := by first | simpa using c3 | (simp at c3 ⊢; omega)
  obtain rfl := Option.some.inj H
  go_enter Try.func58, Try.ntmps58
  go_wp2
  repeat (go_quiet (fail); try go_wp2)
  go_ret
  exact ⟨by first | rfl | (simp; done) | (simp [*]; done), by repeat (first | exact Drawn0.refl _ | apply Drawn0.step)⟩
def laws_eqRole.f (a0_0 : Int) (a0_1 : Int) (a1_0 : Int) (a1_1 : Int) : Option (Bool) := if a0_0 = a1_0 then (if a0_1 = a1_1 then (some true) else (some false)) else (some false)
set_option maxHeartbeats 8000000 in
set_option maxRecDepth 100000 in
theorem laws_eqRole.calls (a0_0 : Int) (a0_1 : Int) (a1_0 : Int) (a1_1 : Int) (r : Bool) (w : World) (h : laws_eqRole.f a0_0 a0_1 a1_0 a1_1 = some r) :
  Calls Try.prog 130 #[.agg #[.int .i64 a0_0, .int .i64 a0_1], .agg #[.int .i64 a1_0, .int .i64 a1_1]] w fun e w' => e = .returned (.bool r) ∧ Below w.heap.size w w' := by
 have hu27 := Try.underlying27
 have HB := Aside0.mk (Below.refl w.heap.size w)
 have H : (if a0_0 = a1_0 then (if a0_1 = a1_1 then (some true) else (some false)) else (some false)) = some r := h
 clear h
 by_cases c3 : a0_0 = a1_0
 ·rw [if_pos c3] at H
  have c3b0 : (a0_0 == a1_0) = true := beq_iff_eq.mpr c3
  have c3b1 : (a0_0 != a1_0) = false := bne_eq_false_iff_eq.mpr c3
  clear c3
  by_cases c4 : a0_1 = a1_1
  ·rw [if_pos c4] at H
   have c4b0 : (a0_1 == a1_1) = true := beq_iff_eq.mpr c4
   have c4b1 : (a0_1 != a1_1) = false := bne_eq_false_iff_eq.mpr c4
   clear c4
   obtain rfl := Option.some.inj H
   go_enter Try.func130, Try.ntmps130
   go_wp2_with (first | ((with_reducible refine gate_dst (N := 2) rfl ?_); refine box_event ?hg (N := 2) ?hd (cs := #[.int .i64 a0_0, .int .i64 a0_1]) (t := 27) ?hr ?_; (case hd => rfl); (case hg => rfl); (case hr => first | (go_simp; done) | (go_simp; rfl)); intro gb273 hg w5 hbox hb; have BK273 := Aside0.mk (hbox); have GW273 := gs_ hg; have GE273 := gs_ hg; replace HB := hbs_ hb; clear hb hbox hg) | ((with_reducible refine gate_dst (N := 3) rfl ?_); refine box_event ?hg (N := 3) ?hd (cs := #[.int .i64 a1_0, .int .i64 a1_1]) (t := 27) ?hr ?_; (case hd => rfl); (case hg => rfl); (case hr => first | (go_simp; done) | (go_simp; rfl)); intro gb274 hg w6 hbox hb; have BK274 := Aside0.mk (hbox); have GW274 := gs_ hg; have GE274 := gs_ hg; replace HB := hbs_ hb; have NB273_274 := Aside0.mk ((by rw [hg]; exact Nat.ne_of_lt (blk_lt (g := gb273) (o := .cells #[.int .i64 a0_0, .int .i64 a0_1] 27 (0, 0)) (bk_ BK273)) : gb273 ≠ gb274)); have NB274_273 := Aside0.mk ((by rw [hg]; exact Nat.ne_of_gt (blk_lt (g := gb273) (o := .cells #[.int .i64 a0_0, .int .i64 a0_1] 27 (0, 0)) (bk_ BK273)) : gb274 ≠ gb273)); replace BK273 := bkb_ BK273 hb; clear hb hbox hg; have hnb7 := NB273_274.out; have hnc7 := NB274_273.out; have hcz8 := blk_cell BK273.out; have hfz8 := blk_frozen BK273.out; have hcz9 := blk_cell BK274.out; have hfz9 := blk_frozen BK274.out))
   go_ret
   exact ⟨eq_, bl_⟩
  ·rw [if_neg c4] at H
   have c4b0 : (a0_1 == a1_1) = false := beq_eq_false_iff_ne.mpr c4
   have c4b1 : (a0_1 != a1_1) = true := bne_iff_ne.mpr c4
   obtain rfl := Option.some.inj H
   go_enter Try.func130, Try.ntmps130
   go_wp2_with (first | ((with_reducible refine gate_dst (N := 2) rfl ?_); refine box_event ?hg (N := 2) ?hd (cs := #[.int .i64 a0_0, .int .i64 a0_1]) (t := 27) ?hr ?_; (case hd => rfl); (case hg => rfl); (case hr => first | (go_simp; done) | (go_simp; rfl)); intro gb273 hg w10 hbox hb; have BK273 := Aside0.mk (hbox); have GW273 := gs_ hg; have GE273 := gs_ hg; replace HB := hbs_ hb; clear hb hbox hg) | ((with_reducible refine gate_dst (N := 3) rfl ?_); refine box_event ?hg (N := 3) ?hd (cs := #[.int .i64 a1_0, .int .i64 a1_1]) (t := 27) ?hr ?_; (case hd => rfl); (case hg => rfl); (case hr => first | (go_simp; done) | (go_simp; rfl)); intro gb274 hg w11 hbox hb; have BK274 := Aside0.mk (hbox); have GW274 := gs_ hg; have GE274 := gs_ hg; replace HB := hbs_ hb; have NB273_274 := Aside0.mk ((by rw [hg]; exact Nat.ne_of_lt (blk_lt (g := gb273) (o := .cells #[.int .i64 a0_0, .int .i64 a0_1] 27 (0, 0)) (bk_ BK273)) : gb273 ≠ gb274)); have NB274_273 := Aside0.mk ((by rw [hg]; exact Nat.ne_of_gt (blk_lt (g := gb273) (o := .cells #[.int .i64 a0_0, .int .i64 a0_1] 27 (0, 0)) (bk_ BK273)) : gb274 ≠ gb273)); replace BK273 := bkb_ BK273 hb; clear hb hbox hg; have hnb12 := NB273_274.out; have hnc12 := NB274_273.out; have hcz13 := blk_cell BK273.out; have hfz13 := blk_frozen BK273.out; have hcz14 := blk_cell BK274.out; have hfz14 := blk_frozen BK274.out))
   go_ret
   exact ⟨eq_, bl_⟩
 ·rw [if_neg c3] at H
  have c3b0 : (a0_0 == a1_0) = false := beq_eq_false_iff_ne.mpr c3
  have c3b1 : (a0_0 != a1_0) = true := bne_iff_ne.mpr c3
  obtain rfl := Option.some.inj H
  go_enter Try.func130, Try.ntmps130
  go_wp2_with (first | ((with_reducible refine gate_dst (N := 2) rfl ?_); refine box_event ?hg (N := 2) ?hd (cs := #[.int .i64 a0_0, .int .i64 a0_1]) (t := 27) ?hr ?_; (case hd => rfl); (case hg => rfl); (case hr => first | (go_simp; done) | (go_simp; rfl)); intro gb273 hg w15 hbox hb; have BK273 := Aside0.mk (hbox); have GW273 := gs_ hg; have GE273 := gs_ hg; replace HB := hbs_ hb; clear hb hbox hg) | ((with_reducible refine gate_dst (N := 3) rfl ?_); refine box_event ?hg (N := 3) ?hd (cs := #[.int .i64 a1_0, .int .i64 a1_1]) (t := 27) ?hr ?_; (case hd => rfl); (case hg => rfl); (case hr => first | (go_simp; done) | (go_simp; rfl)); intro gb274 hg w16 hbox hb; have BK274 := Aside0.mk (hbox); have GW274 := gs_ hg; have GE274 := gs_ hg; replace HB := hbs_ hb; have NB273_274 := Aside0.mk ((by rw [hg]; exact Nat.ne_of_lt (blk_lt (g := gb273) (o := .cells #[.int .i64 a0_0, .int .i64 a0_1] 27 (0, 0)) (bk_ BK273)) : gb273 ≠ gb274)); have NB274_273 := Aside0.mk ((by rw [hg]; exact Nat.ne_of_gt (blk_lt (g := gb273) (o := .cells #[.int .i64 a0_0, .int .i64 a0_1] 27 (0, 0)) (bk_ BK273)) : gb274 ≠ gb273)); replace BK273 := bkb_ BK273 hb; clear hb hbox hg; have hnb17 := NB273_274.out; have hnc17 := NB274_273.out; have hcz18 := blk_cell BK273.out; have hfz18 := blk_frozen BK273.out; have hcz19 := blk_cell BK274.out; have hfz19 := blk_frozen BK274.out))
  go_ret
  exact ⟨eq_, bl_⟩
def laws_eqCred.f (a0_0 : Int) (a0_1 : Int) (a0_2 : Int) (a0_3 : Int) (a0_4 : Int) (a0_5 : Int) (a0_6 : Int) (a0_7 : Int) (a0_8 : Int) (a0_9 : Int) (a1_0 : Int) (a1_1 : Int) (a1_2 : Int) (a1_3 : Int) (a1_4 : Int) (a1_5 : Int) (a1_6 : Int) (a1_7 : Int) (a1_8 : Int) (a1_9 : Int) : Option (Bool) := if a0_0 = a1_0 then ((laws_eqRole.f a0_1 a0_2 a1_1 a1_2).bind fun t277 => (if t277 = true then (if a0_3 = a1_3 then ((laws_eqRole.f a0_4 a0_5 a1_4 a1_5).bind fun t278 => (if t278 = true then ((laws_eqRole.f a0_6 a0_7 a1_6 a1_7).bind fun t279 => (if t279 = true then (if a0_8 = a1_8 then (if a0_9 = a1_9 then (some true) else (some false)) else (some false)) else (some false))) else (some false))) else (some false)) else (some false))) else (some false)
set_option maxHeartbeats 8000000 in
set_option maxRecDepth 100000 in
theorem laws_eqCred.calls (a0_0 : Int) (a0_1 : Int) (a0_2 : Int) (a0_3 : Int) (a0_4 : Int) (a0_5 : Int) (a0_6 : Int) (a0_7 : Int) (a0_8 : Int) (a0_9 : Int) (a1_0 : Int) (a1_1 : Int) (a1_2 : Int) (a1_3 : Int) (a1_4 : Int) (a1_5 : Int) (a1_6 : Int) (a1_7 : Int) (a1_8 : Int) (a1_9 : Int) (r : Bool) (w : World) (h : laws_eqCred.f a0_0 a0_1 a0_2 a0_3 a0_4 a0_5 a0_6 a0_7 a0_8 a0_9 a1_0 a1_1 a1_2 a1_3 a1_4 a1_5 a1_6 a1_7 a1_8 a1_9 = some r) :
  Calls Try.prog 95 #[.agg #[.int .i64 a0_0, .int .i64 a0_1, .int .i64 a0_2, .int .i64 a0_3, .int .i64 a0_4, .int .i64 a0_5, .int .i64 a0_6, .int .i64 a0_7, .int .i64 a0_8, .int .i64 a0_9], .agg #[.int .i64 a1_0, .int .i64 a1_1, .int .i64 a1_2, .int .i64 a1_3, .int .i64 a1_4, .int .i64 a1_5, .int .i64 a1_6, .int .i64 a1_7, .int .i64 a1_8, .int .i64 a1_9]] w fun e w' => e = .returned (.bool r) ∧ Below w.heap.size w w' := by
 have hu46 := Try.underlying46
 have hu27 := Try.underlying27
 have HB := Aside0.mk (Below.refl w.heap.size w)
 have H : (if a0_0 = a1_0 then ((laws_eqRole.f a0_1 a0_2 a1_1 a1_2).bind fun t277 => (if t277 = true then (if a0_3 = a1_3 then ((laws_eqRole.f a0_4 a0_5 a1_4 a1_5).bind fun t278 => (if t278 = true then ((laws_eqRole.f a0_6 a0_7 a1_6 a1_7).bind fun t279 => (if t279 = true then (if a0_8 = a1_8 then (if a0_9 = a1_9 then (some true) else (some false)) else (some false)) else (some false))) else (some false))) else (some false)) else (some false))) else (some false)) = some r := h
 clear h
 by_cases c3 : a0_0 = a1_0
 ·rw [if_pos c3] at H
  have c3b0 : (a0_0 == a1_0) = true := beq_iff_eq.mpr c3
  have c3b1 : (a0_0 != a1_0) = false := bne_eq_false_iff_eq.mpr c3
  clear c3
  obtain ⟨t277, A4, H⟩ := bindE_ H
  by_cases c5 : t277 = true
  ·subst c5
   replace H := ite_t_ H
   by_cases c6 : a0_3 = a1_3
   ·rw [if_pos c6] at H
    have c6b0 : (a0_3 == a1_3) = true := beq_iff_eq.mpr c6
    have c6b1 : (a0_3 != a1_3) = false := bne_eq_false_iff_eq.mpr c6
    clear c6
    obtain ⟨t278, A7, H⟩ := bindE_ H
    by_cases c8 : t278 = true
    ·subst c8
     replace H := ite_t_ H
     obtain ⟨t279, A9, H⟩ := bindE_ H
     by_cases c10 : t279 = true
     ·subst c10
      replace H := ite_t_ H
      by_cases c11 : a0_8 = a1_8
      ·rw [if_pos c11] at H
       have c11b0 : (a0_8 == a1_8) = true := beq_iff_eq.mpr c11
       have c11b1 : (a0_8 != a1_8) = false := bne_eq_false_iff_eq.mpr c11
       clear c11
       by_cases c12 : a0_9 = a1_9
       ·rw [if_pos c12] at H
        have c12b0 : (a0_9 == a1_9) = true := beq_iff_eq.mpr c12
        have c12b1 : (a0_9 != a1_9) = false := bne_eq_false_iff_eq.mpr c12
        clear c12
        obtain rfl := Option.some.inj H
        go_enter Try.func95, Try.ntmps95
        go_wp2_with (first | ((with_reducible refine gate_dst (N := 2) rfl ?_); refine box_event ?hg (N := 2) ?hd (cs := #[.int .i64 a0_0, .int .i64 a0_1, .int .i64 a0_2, .int .i64 a0_3, .int .i64 a0_4, .int .i64 a0_5, .int .i64 a0_6, .int .i64 a0_7, .int .i64 a0_8, .int .i64 a0_9]) (t := 46) ?hr ?_; (case hd => rfl); (case hg => rfl); (case hr => first | (go_simp; done) | (go_simp; rfl)); intro gb275 hg w13 hbox hb; have BK275 := Aside0.mk (hbox); have GW275 := gs_ hg; have GE275 := gs_ hg; replace HB := hbs_ hb; clear hb hbox hg) | ((with_reducible refine gate_dst (N := 3) rfl ?_); refine box_event ?hg (N := 3) ?hd (cs := #[.int .i64 a1_0, .int .i64 a1_1, .int .i64 a1_2, .int .i64 a1_3, .int .i64 a1_4, .int .i64 a1_5, .int .i64 a1_6, .int .i64 a1_7, .int .i64 a1_8, .int .i64 a1_9]) (t := 46) ?hr ?_; (case hd => rfl); (case hg => rfl); (case hr => first | (go_simp; done) | (go_simp; rfl)); intro gb276 hg w14 hbox hb; have BK276 := Aside0.mk (hbox); have GW276 := gs_ hg; have GE276 := gs_ hg; replace HB := hbs_ hb; have NB275_276 := Aside0.mk ((by rw [hg]; exact Nat.ne_of_lt (blk_lt (g := gb275) (o := .cells #[.int .i64 a0_0, .int .i64 a0_1, .int .i64 a0_2, .int .i64 a0_3, .int .i64 a0_4, .int .i64 a0_5, .int .i64 a0_6, .int .i64 a0_7, .int .i64 a0_8, .int .i64 a0_9] 46 (0, 0)) (bk_ BK275)) : gb275 ≠ gb276)); have NB276_275 := Aside0.mk ((by rw [hg]; exact Nat.ne_of_gt (blk_lt (g := gb275) (o := .cells #[.int .i64 a0_0, .int .i64 a0_1, .int .i64 a0_2, .int .i64 a0_3, .int .i64 a0_4, .int .i64 a0_5, .int .i64 a0_6, .int .i64 a0_7, .int .i64 a0_8, .int .i64 a0_9] 46 (0, 0)) (bk_ BK275)) : gb276 ≠ gb275)); replace BK275 := bkb_ BK275 hb; clear hb hbox hg; have hnb15 := NB275_276.out; have hnc15 := NB276_275.out; have hcz16 := blk_cell BK275.out; have hfz16 := blk_frozen BK275.out; have hcz17 := blk_cell BK276.out; have hfz17 := blk_frozen BK276.out) | ((with_reducible refine gate_callee (f := 130) rfl ?_); refine goesC_ (some 14) Try.func130 #[.agg #[.int .i64 a0_1, .int .i64 a0_2], .agg #[.int .i64 a1_1, .int .i64 a1_2]] ?_; (with_reducible refine (laws_eqRole.calls a0_1 a0_2 a1_1 a1_2 true _ A4.out).mono ?_); rintro e w18 ⟨rfl, hb⟩; refine ⟨_, rfl, ?_⟩; replace BK275 := bkb_ BK275 hb; replace BK276 := bkb_ BK276 hb; replace HB := hbs_ hb; clear hb; have hcz19 := blk_cell BK275.out; have hfz19 := blk_frozen BK275.out; have hcz20 := blk_cell BK276.out; have hfz20 := blk_frozen BK276.out) | ((with_reducible refine gate_callee (f := 130) rfl ?_); refine goesC_ (some 25) Try.func130 #[.agg #[.int .i64 a0_4, .int .i64 a0_5], .agg #[.int .i64 a1_4, .int .i64 a1_5]] ?_; (with_reducible refine (laws_eqRole.calls a0_4 a0_5 a1_4 a1_5 true _ A7.out).mono ?_); rintro e w21 ⟨rfl, hb⟩; refine ⟨_, rfl, ?_⟩; replace BK275 := bkb_ BK275 hb; replace BK276 := bkb_ BK276 hb; replace HB := hbs_ hb; clear hb; have hcz22 := blk_cell BK275.out; have hfz22 := blk_frozen BK275.out; have hcz23 := blk_cell BK276.out; have hfz23 := blk_frozen BK276.out) | ((with_reducible refine gate_callee (f := 130) rfl ?_); refine goesC_ (some 31) Try.func130 #[.agg #[.int .i64 a0_6, .int .i64 a0_7], .agg #[.int .i64 a1_6, .int .i64 a1_7]] ?_; (with_reducible refine (laws_eqRole.calls a0_6 a0_7 a1_6 a1_7 true _ A9.out).mono ?_); rintro e w24 ⟨rfl, hb⟩; refine ⟨_, rfl, ?_⟩; replace BK275 := bkb_ BK275 hb; replace BK276 := bkb_ BK276 hb; replace HB := hbs_ hb; clear hb; have hcz25 := blk_cell BK275.out; have hfz25 := blk_frozen BK275.out; have hcz26 := blk_cell BK276.out; have hfz26 := blk_frozen BK276.out))
        go_ret
        exact ⟨eq_, bl_⟩
       ·rw [if_neg c12] at H
        have c12b0 : (a0_9 == a1_9) = false := beq_eq_false_iff_ne.mpr c12
        have c12b1 : (a0_9 != a1_9) = true := bne_iff_ne.mpr c12
        obtain rfl := Option.some.inj H
        go_enter Try.func95, Try.ntmps95
        go_wp2_with (first | ((with_reducible refine gate_dst (N := 2) rfl ?_); refine box_event ?hg (N := 2) ?hd (cs := #[.int .i64 a0_0, .int .i64 a0_1, .int .i64 a0_2, .int .i64 a0_3, .int .i64 a0_4, .int .i64 a0_5, .int .i64 a0_6, .int .i64 a0_7, .int .i64 a0_8, .int .i64 a0_9]) (t := 46) ?hr ?_; (case hd => rfl); (case hg => rfl); (case hr => first | (go_simp; done) | (go_simp; rfl)); intro gb275 hg w27 hbox hb; have BK275 := Aside0.mk (hbox); have GW275 := gs_ hg; have GE275 := gs_ hg; replace HB := hbs_ hb; clear hb hbox hg) | ((with_reducible refine gate_dst (N := 3) rfl ?_); refine box_event ?hg (N := 3) ?hd (cs := #[.int .i64 a1_0, .int .i64 a1_1, .int .i64 a1_2, .int .i64 a1_3, .int .i64 a1_4, .int .i64 a1_5, .int .i64 a1_6, .int .i64 a1_7, .int .i64 a1_8, .int .i64 a1_9]) (t := 46) ?hr ?_; (case hd => rfl); (case hg => rfl); (case hr => first | (go_simp; done) | (go_simp; rfl)); intro gb276 hg w28 hbox hb; have BK276 := Aside0.mk (hbox); have GW276 := gs_ hg; have GE276 := gs_ hg; replace HB := hbs_ hb; have NB275_276 := Aside0.mk ((by rw [hg]; exact Nat.ne_of_lt (blk_lt (g := gb275) (o := .cells #[.int .i64 a0_0, .int .i64 a0_1, .int .i64 a0_2, .int .i64 a0_3, .int .i64 a0_4, .int .i64 a0_5, .int .i64 a0_6, .int .i64 a0_7, .int .i64 a0_8, .int .i64 a0_9] 46 (0, 0)) (bk_ BK275)) : gb275 ≠ gb276)); have NB276_275 := Aside0.mk ((by rw [hg]; exact Nat.ne_of_gt (blk_lt (g := gb275) (o := .cells #[.int .i64 a0_0, .int .i64 a0_1, .int .i64 a0_2, .int .i64 a0_3, .int .i64 a0_4, .int .i64 a0_5, .int .i64 a0_6, .int .i64 a0_7, .int .i64 a0_8, .int .i64 a0_9] 46 (0, 0)) (bk_ BK275)) : gb276 ≠ gb275)); replace BK275 := bkb_ BK275 hb; clear hb hbox hg; have hnb29 := NB275_276.out; have hnc29 := NB276_275.out; have hcz30 := blk_cell BK275.out; have hfz30 := blk_frozen BK275.out; have hcz31 := blk_cell BK276.out; have hfz31 := blk_frozen BK276.out) | ((with_reducible refine gate_callee (f := 130) rfl ?_); refine goesC_ (some 14) Try.func130 #[.agg #[.int .i64 a0_1, .int .i64 a0_2], .agg #[.int .i64 a1_1, .int .i64 a1_2]] ?_; (with_reducible refine (laws_eqRole.calls a0_1 a0_2 a1_1 a1_2 true _ A4.out).mono ?_); rintro e w32 ⟨rfl, hb⟩; refine ⟨_, rfl, ?_⟩; replace BK275 := bkb_ BK275 hb; replace BK276 := bkb_ BK276 hb; replace HB := hbs_ hb; clear hb; have hcz33 := blk_cell BK275.out; have hfz33 := blk_frozen BK275.out; have hcz34 := blk_cell BK276.out; have hfz34 := blk_frozen BK276.out) | ((with_reducible refine gate_callee (f := 130) rfl ?_); refine goesC_ (some 25) Try.func130 #[.agg #[.int .i64 a0_4, .int .i64 a0_5], .agg #[.int .i64 a1_4, .int .i64 a1_5]] ?_; (with_reducible refine (laws_eqRole.calls a0_4 a0_5 a1_4 a1_5 true _ A7.out).mono ?_); rintro e w35 ⟨rfl, hb⟩; refine ⟨_, rfl, ?_⟩; replace BK275 := bkb_ BK275 hb; replace BK276 := bkb_ BK276 hb; replace HB := hbs_ hb; clear hb; have hcz36 := blk_cell BK275.out; have hfz36 := blk_frozen BK275.out; have hcz37 := blk_cell BK276.out; have hfz37 := blk_frozen BK276.out) | ((with_reducible refine gate_callee (f := 130) rfl ?_); refine goesC_ (some 31) Try.func130 #[.agg #[.int .i64 a0_6, .int .i64 a0_7], .agg #[.int .i64 a1_6, .int .i64 a1_7]] ?_; (with_reducible refine (laws_eqRole.calls a0_6 a0_7 a1_6 a1_7 true _ A9.out).mono ?_); rintro e w38 ⟨rfl, hb⟩; refine ⟨_, rfl, ?_⟩; replace BK275 := bkb_ BK275 hb; replace BK276 := bkb_ BK276 hb; replace HB := hbs_ hb; clear hb; have hcz39 := blk_cell BK275.out; have hfz39 := blk_frozen BK275.out; have hcz40 := blk_cell BK276.out; have hfz40 := blk_frozen BK276.out))
        go_ret
        exact ⟨eq_, bl_⟩
      ·rw [if_neg c11] at H
       have c11b0 : (a0_8 == a1_8) = false := beq_eq_false_iff_ne.mpr c11
       have c11b1 : (a0_8 != a1_8) = true := bne_iff_ne.mpr c11
       obtain rfl := Option.some.inj H
       go_enter Try.func95, Try.ntmps95
       go_wp2_with (first | ((with_reducible refine gate_dst (N := 2) rfl ?_); refine box_event ?hg (N := 2) ?hd (cs := #[.int .i64 a0_0, .int .i64 a0_1, .int .i64 a0_2, .int .i64 a0_3, .int .i64 a0_4, .int .i64 a0_5, .int .i64 a0_6, .int .i64 a0_7, .int .i64 a0_8, .int .i64 a0_9]) (t := 46) ?hr ?_; (case hd => rfl); (case hg => rfl); (case hr => first | (go_simp; done) | (go_simp; rfl)); intro gb275 hg w41 hbox hb; have BK275 := Aside0.mk (hbox); have GW275 := gs_ hg; have GE275 := gs_ hg; replace HB := hbs_ hb; clear hb hbox hg) | ((with_reducible refine gate_dst (N := 3) rfl ?_); refine box_event ?hg (N := 3) ?hd (cs := #[.int .i64 a1_0, .int .i64 a1_1, .int .i64 a1_2, .int .i64 a1_3, .int .i64 a1_4, .int .i64 a1_5, .int .i64 a1_6, .int .i64 a1_7, .int .i64 a1_8, .int .i64 a1_9]) (t := 46) ?hr ?_; (case hd => rfl); (case hg => rfl); (case hr => first | (go_simp; done) | (go_simp; rfl)); intro gb276 hg w42 hbox hb; have BK276 := Aside0.mk (hbox); have GW276 := gs_ hg; have GE276 := gs_ hg; replace HB := hbs_ hb; have NB275_276 := Aside0.mk ((by rw [hg]; exact Nat.ne_of_lt (blk_lt (g := gb275) (o := .cells #[.int .i64 a0_0, .int .i64 a0_1, .int .i64 a0_2, .int .i64 a0_3, .int .i64 a0_4, .int .i64 a0_5, .int .i64 a0_6, .int .i64 a0_7, .int .i64 a0_8, .int .i64 a0_9] 46 (0, 0)) (bk_ BK275)) : gb275 ≠ gb276)); have NB276_275 := Aside0.mk ((by rw [hg]; exact Nat.ne_of_gt (blk_lt (g := gb275) (o := .cells #[.int .i64 a0_0, .int .i64 a0_1, .int .i64 a0_2, .int .i64 a0_3, .int .i64 a0_4, .int .i64 a0_5, .int .i64 a0_6, .int .i64 a0_7, .int .i64 a0_8, .int .i64 a0_9] 46 (0, 0)) (bk_ BK275)) : gb276 ≠ gb275)); replace BK275 := bkb_ BK275 hb; clear hb hbox hg; have hnb43 := NB275_276.out; have hnc43 := NB276_275.out; have hcz44 := blk_cell BK275.out; have hfz44 := blk_frozen BK275.out; have hcz45 := blk_cell BK276.out; have hfz45 := blk_frozen BK276.out) | ((with_reducible refine gate_callee (f := 130) rfl ?_); refine goesC_ (some 14) Try.func130 #[.agg #[.int .i64 a0_1, .int .i64 a0_2], .agg #[.int .i64 a1_1, .int .i64 a1_2]] ?_; (with_reducible refine (laws_eqRole.calls a0_1 a0_2 a1_1 a1_2 true _ A4.out).mono ?_); rintro e w46 ⟨rfl, hb⟩; refine ⟨_, rfl, ?_⟩; replace BK275 := bkb_ BK275 hb; replace BK276 := bkb_ BK276 hb; replace HB := hbs_ hb; clear hb; have hcz47 := blk_cell BK275.out; have hfz47 := blk_frozen BK275.out; have hcz48 := blk_cell BK276.out; have hfz48 := blk_frozen BK276.out) | ((with_reducible refine gate_callee (f := 130) rfl ?_); refine goesC_ (some 25) Try.func130 #[.agg #[.int .i64 a0_4, .int .i64 a0_5], .agg #[.int .i64 a1_4, .int .i64 a1_5]] ?_; (with_reducible refine (laws_eqRole.calls a0_4 a0_5 a1_4 a1_5 true _ A7.out).mono ?_); rintro e w49 ⟨rfl, hb⟩; refine ⟨_, rfl, ?_⟩; replace BK275 := bkb_ BK275 hb; replace BK276 := bkb_ BK276 hb; replace HB := hbs_ hb; clear hb; have hcz50 := blk_cell BK275.out; have hfz50 := blk_frozen BK275.out; have hcz51 := blk_cell BK276.out; have hfz51 := blk_frozen BK276.out) | ((with_reducible refine gate_callee (f := 130) rfl ?_); refine goesC_ (some 31) Try.func130 #[.agg #[.int .i64 a0_6, .int .i64 a0_7], .agg #[.int .i64 a1_6, .int .i64 a1_7]] ?_; (with_reducible refine (laws_eqRole.calls a0_6 a0_7 a1_6 a1_7 true _ A9.out).mono ?_); rintro e w52 ⟨rfl, hb⟩; refine ⟨_, rfl, ?_⟩; replace BK275 := bkb_ BK275 hb; replace BK276 := bkb_ BK276 hb; replace HB := hbs_ hb; clear hb; have hcz53 := blk_cell BK275.out; have hfz53 := blk_frozen BK275.out; have hcz54 := blk_cell BK276.out; have hfz54 := blk_frozen BK276.out))
       go_ret
       exact ⟨eq_, bl_⟩
     ·replace c10 := Bool.eq_false_iff.mpr c10
      subst c10
      replace H := ite_f_ H
      obtain rfl := Option.some.inj H
      go_enter Try.func95, Try.ntmps95
      go_wp2_with (first | ((with_reducible refine gate_dst (N := 2) rfl ?_); refine box_event ?hg (N := 2) ?hd (cs := #[.int .i64 a0_0, .int .i64 a0_1, .int .i64 a0_2, .int .i64 a0_3, .int .i64 a0_4, .int .i64 a0_5, .int .i64 a0_6, .int .i64 a0_7, .int .i64 a0_8, .int .i64 a0_9]) (t := 46) ?hr ?_; (case hd => rfl); (case hg => rfl); (case hr => first | (go_simp; done) | (go_simp; rfl)); intro gb275 hg w55 hbox hb; have BK275 := Aside0.mk (hbox); have GW275 := gs_ hg; have GE275 := gs_ hg; replace HB := hbs_ hb; clear hb hbox hg) | ((with_reducible refine gate_dst (N := 3) rfl ?_); refine box_event ?hg (N := 3) ?hd (cs := #[.int .i64 a1_0, .int .i64 a1_1, .int .i64 a1_2, .int .i64 a1_3, .int .i64 a1_4, .int .i64 a1_5, .int .i64 a1_6, .int .i64 a1_7, .int .i64 a1_8, .int .i64 a1_9]) (t := 46) ?hr ?_; (case hd => rfl); (case hg => rfl); (case hr => first | (go_simp; done) | (go_simp; rfl)); intro gb276 hg w56 hbox hb; have BK276 := Aside0.mk (hbox); have GW276 := gs_ hg; have GE276 := gs_ hg; replace HB := hbs_ hb; have NB275_276 := Aside0.mk ((by rw [hg]; exact Nat.ne_of_lt (blk_lt (g := gb275) (o := .cells #[.int .i64 a0_0, .int .i64 a0_1, .int .i64 a0_2, .int .i64 a0_3, .int .i64 a0_4, .int .i64 a0_5, .int .i64 a0_6, .int .i64 a0_7, .int .i64 a0_8, .int .i64 a0_9] 46 (0, 0)) (bk_ BK275)) : gb275 ≠ gb276)); have NB276_275 := Aside0.mk ((by rw [hg]; exact Nat.ne_of_gt (blk_lt (g := gb275) (o := .cells #[.int .i64 a0_0, .int .i64 a0_1, .int .i64 a0_2, .int .i64 a0_3, .int .i64 a0_4, .int .i64 a0_5, .int .i64 a0_6, .int .i64 a0_7, .int .i64 a0_8, .int .i64 a0_9] 46 (0, 0)) (bk_ BK275)) : gb276 ≠ gb275)); replace BK275 := bkb_ BK275 hb; clear hb hbox hg; have hnb57 := NB275_276.out; have hnc57 := NB276_275.out; have hcz58 := blk_cell BK275.out; have hfz58 := blk_frozen BK275.out; have hcz59 := blk_cell BK276.out; have hfz59 := blk_frozen BK276.out) | ((with_reducible refine gate_callee (f := 130) rfl ?_); refine goesC_ (some 14) Try.func130 #[.agg #[.int .i64 a0_1, .int .i64 a0_2], .agg #[.int .i64 a1_1, .int .i64 a1_2]] ?_; (with_reducible refine (laws_eqRole.calls a0_1 a0_2 a1_1 a1_2 true _ A4.out).mono ?_); rintro e w60 ⟨rfl, hb⟩; refine ⟨_, rfl, ?_⟩; replace BK275 := bkb_ BK275 hb; replace BK276 := bkb_ BK276 hb; replace HB := hbs_ hb; clear hb; have hcz61 := blk_cell BK275.out; have hfz61 := blk_frozen BK275.out; have hcz62 := blk_cell BK276.out; have hfz62 := blk_frozen BK276.out) | ((with_reducible refine gate_callee (f := 130) rfl ?_); refine goesC_ (some 25) Try.func130 #[.agg #[.int .i64 a0_4, .int .i64 a0_5], .agg #[.int .i64 a1_4, .int .i64 a1_5]] ?_; (with_reducible refine (laws_eqRole.calls a0_4 a0_5 a1_4 a1_5 true _ A7.out).mono ?_); rintro e w63 ⟨rfl, hb⟩; refine ⟨_, rfl, ?_⟩; replace BK275 := bkb_ BK275 hb; replace BK276 := bkb_ BK276 hb; replace HB := hbs_ hb; clear hb; have hcz64 := blk_cell BK275.out; have hfz64 := blk_frozen BK275.out; have hcz65 := blk_cell BK276.out; have hfz65 := blk_frozen BK276.out) | ((with_reducible refine gate_callee (f := 130) rfl ?_); refine goesC_ (some 31) Try.func130 #[.agg #[.int .i64 a0_6, .int .i64 a0_7], .agg #[.int .i64 a1_6, .int .i64 a1_7]] ?_; (with_reducible refine (laws_eqRole.calls a0_6 a0_7 a1_6 a1_7 false _ A9.out).mono ?_); rintro e w66 ⟨rfl, hb⟩; refine ⟨_, rfl, ?_⟩; replace BK275 := bkb_ BK275 hb; replace BK276 := bkb_ BK276 hb; replace HB := hbs_ hb; clear hb))
      go_ret
      exact ⟨eq_, bl_⟩
    ·replace c8 := Bool.eq_false_iff.mpr c8
     subst c8
     replace H := ite_f_ H
     obtain rfl := Option.some.inj H
     go_enter Try.func95, Try.ntmps95
     go_wp2_with (first | ((with_reducible refine gate_dst (N := 2) rfl ?_); refine box_event ?hg (N := 2) ?hd (cs := #[.int .i64 a0_0, .int .i64 a0_1, .int .i64 a0_2, .int .i64 a0_3, .int .i64 a0_4, .int .i64 a0_5, .int .i64 a0_6, .int .i64 a0_7, .int .i64 a0_8, .int .i64 a0_9]) (t := 46) ?hr ?_; (case hd => rfl); (case hg => rfl); (case hr => first | (go_simp; done) | (go_simp; rfl)); intro gb275 hg w67 hbox hb; have BK275 := Aside0.mk (hbox); have GW275 := gs_ hg; have GE275 := gs_ hg; replace HB := hbs_ hb; clear hb hbox hg) | ((with_reducible refine gate_dst (N := 3) rfl ?_); refine box_event ?hg (N := 3) ?hd (cs := #[.int .i64 a1_0, .int .i64 a1_1, .int .i64 a1_2, .int .i64 a1_3, .int .i64 a1_4, .int .i64 a1_5, .int .i64 a1_6, .int .i64 a1_7, .int .i64 a1_8, .int .i64 a1_9]) (t := 46) ?hr ?_; (case hd => rfl); (case hg => rfl); (case hr => first | (go_simp; done) | (go_simp; rfl)); intro gb276 hg w68 hbox hb; have BK276 := Aside0.mk (hbox); have GW276 := gs_ hg; have GE276 := gs_ hg; replace HB := hbs_ hb; have NB275_276 := Aside0.mk ((by rw [hg]; exact Nat.ne_of_lt (blk_lt (g := gb275) (o := .cells #[.int .i64 a0_0, .int .i64 a0_1, .int .i64 a0_2, .int .i64 a0_3, .int .i64 a0_4, .int .i64 a0_5, .int .i64 a0_6, .int .i64 a0_7, .int .i64 a0_8, .int .i64 a0_9] 46 (0, 0)) (bk_ BK275)) : gb275 ≠ gb276)); have NB276_275 := Aside0.mk ((by rw [hg]; exact Nat.ne_of_gt (blk_lt (g := gb275) (o := .cells #[.int .i64 a0_0, .int .i64 a0_1, .int .i64 a0_2, .int .i64 a0_3, .int .i64 a0_4, .int .i64 a0_5, .int .i64 a0_6, .int .i64 a0_7, .int .i64 a0_8, .int .i64 a0_9] 46 (0, 0)) (bk_ BK275)) : gb276 ≠ gb275)); replace BK275 := bkb_ BK275 hb; clear hb hbox hg; have hnb69 := NB275_276.out; have hnc69 := NB276_275.out; have hcz70 := blk_cell BK275.out; have hfz70 := blk_frozen BK275.out; have hcz71 := blk_cell BK276.out; have hfz71 := blk_frozen BK276.out) | ((with_reducible refine gate_callee (f := 130) rfl ?_); refine goesC_ (some 14) Try.func130 #[.agg #[.int .i64 a0_1, .int .i64 a0_2], .agg #[.int .i64 a1_1, .int .i64 a1_2]] ?_; (with_reducible refine (laws_eqRole.calls a0_1 a0_2 a1_1 a1_2 true _ A4.out).mono ?_); rintro e w72 ⟨rfl, hb⟩; refine ⟨_, rfl, ?_⟩; replace BK275 := bkb_ BK275 hb; replace BK276 := bkb_ BK276 hb; replace HB := hbs_ hb; clear hb; have hcz73 := blk_cell BK275.out; have hfz73 := blk_frozen BK275.out; have hcz74 := blk_cell BK276.out; have hfz74 := blk_frozen BK276.out) | ((with_reducible refine gate_callee (f := 130) rfl ?_); refine goesC_ (some 25) Try.func130 #[.agg #[.int .i64 a0_4, .int .i64 a0_5], .agg #[.int .i64 a1_4, .int .i64 a1_5]] ?_; (with_reducible refine (laws_eqRole.calls a0_4 a0_5 a1_4 a1_5 false _ A7.out).mono ?_); rintro e w75 ⟨rfl, hb⟩; refine ⟨_, rfl, ?_⟩; replace BK275 := bkb_ BK275 hb; replace BK276 := bkb_ BK276 hb; replace HB := hbs_ hb; clear hb))
     go_ret
     exact ⟨eq_, bl_⟩
   ·rw [if_neg c6] at H
    have c6b0 : (a0_3 == a1_3) = false := beq_eq_false_iff_ne.mpr c6
    have c6b1 : (a0_3 != a1_3) = true := bne_iff_ne.mpr c6
    obtain rfl := Option.some.inj H
    go_enter Try.func95, Try.ntmps95
    go_wp2_with (first | ((with_reducible refine gate_dst (N := 2) rfl ?_); refine box_event ?hg (N := 2) ?hd (cs := #[.int .i64 a0_0, .int .i64 a0_1, .int .i64 a0_2, .int .i64 a0_3, .int .i64 a0_4, .int .i64 a0_5, .int .i64 a0_6, .int .i64 a0_7, .int .i64 a0_8, .int .i64 a0_9]) (t := 46) ?hr ?_; (case hd => rfl); (case hg => rfl); (case hr => first | (go_simp; done) | (go_simp; rfl)); intro gb275 hg w76 hbox hb; have BK275 := Aside0.mk (hbox); have GW275 := gs_ hg; have GE275 := gs_ hg; replace HB := hbs_ hb; clear hb hbox hg) | ((with_reducible refine gate_dst (N := 3) rfl ?_); refine box_event ?hg (N := 3) ?hd (cs := #[.int .i64 a1_0, .int .i64 a1_1, .int .i64 a1_2, .int .i64 a1_3, .int .i64 a1_4, .int .i64 a1_5, .int .i64 a1_6, .int .i64 a1_7, .int .i64 a1_8, .int .i64 a1_9]) (t := 46) ?hr ?_; (case hd => rfl); (case hg => rfl); (case hr => first | (go_simp; done) | (go_simp; rfl)); intro gb276 hg w77 hbox hb; have BK276 := Aside0.mk (hbox); have GW276 := gs_ hg; have GE276 := gs_ hg; replace HB := hbs_ hb; have NB275_276 := Aside0.mk ((by rw [hg]; exact Nat.ne_of_lt (blk_lt (g := gb275) (o := .cells #[.int .i64 a0_0, .int .i64 a0_1, .int .i64 a0_2, .int .i64 a0_3, .int .i64 a0_4, .int .i64 a0_5, .int .i64 a0_6, .int .i64 a0_7, .int .i64 a0_8, .int .i64 a0_9] 46 (0, 0)) (bk_ BK275)) : gb275 ≠ gb276)); have NB276_275 := Aside0.mk ((by rw [hg]; exact Nat.ne_of_gt (blk_lt (g := gb275) (o := .cells #[.int .i64 a0_0, .int .i64 a0_1, .int .i64 a0_2, .int .i64 a0_3, .int .i64 a0_4, .int .i64 a0_5, .int .i64 a0_6, .int .i64 a0_7, .int .i64 a0_8, .int .i64 a0_9] 46 (0, 0)) (bk_ BK275)) : gb276 ≠ gb275)); replace BK275 := bkb_ BK275 hb; clear hb hbox hg; have hnb78 := NB275_276.out; have hnc78 := NB276_275.out; have hcz79 := blk_cell BK275.out; have hfz79 := blk_frozen BK275.out; have hcz80 := blk_cell BK276.out; have hfz80 := blk_frozen BK276.out) | ((with_reducible refine gate_callee (f := 130) rfl ?_); refine goesC_ (some 14) Try.func130 #[.agg #[.int .i64 a0_1, .int .i64 a0_2], .agg #[.int .i64 a1_1, .int .i64 a1_2]] ?_; (with_reducible refine (laws_eqRole.calls a0_1 a0_2 a1_1 a1_2 true _ A4.out).mono ?_); rintro e w81 ⟨rfl, hb⟩; refine ⟨_, rfl, ?_⟩; replace BK275 := bkb_ BK275 hb; replace BK276 := bkb_ BK276 hb; replace HB := hbs_ hb; clear hb; have hcz82 := blk_cell BK275.out; have hfz82 := blk_frozen BK275.out; have hcz83 := blk_cell BK276.out; have hfz83 := blk_frozen BK276.out))
    go_ret
    exact ⟨eq_, bl_⟩
  ·replace c5 := Bool.eq_false_iff.mpr c5
   subst c5
   replace H := ite_f_ H
   obtain rfl := Option.some.inj H
   go_enter Try.func95, Try.ntmps95
   go_wp2_with (first | ((with_reducible refine gate_dst (N := 2) rfl ?_); refine box_event ?hg (N := 2) ?hd (cs := #[.int .i64 a0_0, .int .i64 a0_1, .int .i64 a0_2, .int .i64 a0_3, .int .i64 a0_4, .int .i64 a0_5, .int .i64 a0_6, .int .i64 a0_7, .int .i64 a0_8, .int .i64 a0_9]) (t := 46) ?hr ?_; (case hd => rfl); (case hg => rfl); (case hr => first | (go_simp; done) | (go_simp; rfl)); intro gb275 hg w84 hbox hb; have BK275 := Aside0.mk (hbox); have GW275 := gs_ hg; have GE275 := gs_ hg; replace HB := hbs_ hb; clear hb hbox hg) | ((with_reducible refine gate_dst (N := 3) rfl ?_); refine box_event ?hg (N := 3) ?hd (cs := #[.int .i64 a1_0, .int .i64 a1_1, .int .i64 a1_2, .int .i64 a1_3, .int .i64 a1_4, .int .i64 a1_5, .int .i64 a1_6, .int .i64 a1_7, .int .i64 a1_8, .int .i64 a1_9]) (t := 46) ?hr ?_; (case hd => rfl); (case hg => rfl); (case hr => first | (go_simp; done) | (go_simp; rfl)); intro gb276 hg w85 hbox hb; have BK276 := Aside0.mk (hbox); have GW276 := gs_ hg; have GE276 := gs_ hg; replace HB := hbs_ hb; have NB275_276 := Aside0.mk ((by rw [hg]; exact Nat.ne_of_lt (blk_lt (g := gb275) (o := .cells #[.int .i64 a0_0, .int .i64 a0_1, .int .i64 a0_2, .int .i64 a0_3, .int .i64 a0_4, .int .i64 a0_5, .int .i64 a0_6, .int .i64 a0_7, .int .i64 a0_8, .int .i64 a0_9] 46 (0, 0)) (bk_ BK275)) : gb275 ≠ gb276)); have NB276_275 := Aside0.mk ((by rw [hg]; exact Nat.ne_of_gt (blk_lt (g := gb275) (o := .cells #[.int .i64 a0_0, .int .i64 a0_1, .int .i64 a0_2, .int .i64 a0_3, .int .i64 a0_4, .int .i64 a0_5, .int .i64 a0_6, .int .i64 a0_7, .int .i64 a0_8, .int .i64 a0_9] 46 (0, 0)) (bk_ BK275)) : gb276 ≠ gb275)); replace BK275 := bkb_ BK275 hb; clear hb hbox hg; have hnb86 := NB275_276.out; have hnc86 := NB276_275.out; have hcz87 := blk_cell BK275.out; have hfz87 := blk_frozen BK275.out; have hcz88 := blk_cell BK276.out; have hfz88 := blk_frozen BK276.out) | ((with_reducible refine gate_callee (f := 130) rfl ?_); refine goesC_ (some 14) Try.func130 #[.agg #[.int .i64 a0_1, .int .i64 a0_2], .agg #[.int .i64 a1_1, .int .i64 a1_2]] ?_; (with_reducible refine (laws_eqRole.calls a0_1 a0_2 a1_1 a1_2 false _ A4.out).mono ?_); rintro e w89 ⟨rfl, hb⟩; refine ⟨_, rfl, ?_⟩; replace BK275 := bkb_ BK275 hb; replace BK276 := bkb_ BK276 hb; replace HB := hbs_ hb; clear hb))
   go_ret
   exact ⟨eq_, bl_⟩
 ·rw [if_neg c3] at H
  have c3b0 : (a0_0 == a1_0) = false := beq_eq_false_iff_ne.mpr c3
  have c3b1 : (a0_0 != a1_0) = true := bne_iff_ne.mpr c3
  obtain rfl := Option.some.inj H
  go_enter Try.func95, Try.ntmps95
  go_wp2_with (first | ((with_reducible refine gate_dst (N := 2) rfl ?_); refine box_event ?hg (N := 2) ?hd (cs := #[.int .i64 a0_0, .int .i64 a0_1, .int .i64 a0_2, .int .i64 a0_3, .int .i64 a0_4, .int .i64 a0_5, .int .i64 a0_6, .int .i64 a0_7, .int .i64 a0_8, .int .i64 a0_9]) (t := 46) ?hr ?_; (case hd => rfl); (case hg => rfl); (case hr => first | (go_simp; done) | (go_simp; rfl)); intro gb275 hg w90 hbox hb; have BK275 := Aside0.mk (hbox); have GW275 := gs_ hg; have GE275 := gs_ hg; replace HB := hbs_ hb; clear hb hbox hg) | ((with_reducible refine gate_dst (N := 3) rfl ?_); refine box_event ?hg (N := 3) ?hd (cs := #[.int .i64 a1_0, .int .i64 a1_1, .int .i64 a1_2, .int .i64 a1_3, .int .i64 a1_4, .int .i64 a1_5, .int .i64 a1_6, .int .i64 a1_7, .int .i64 a1_8, .int .i64 a1_9]) (t := 46) ?hr ?_; (case hd => rfl); (case hg => rfl); (case hr => first | (go_simp; done) | (go_simp; rfl)); intro gb276 hg w91 hbox hb; have BK276 := Aside0.mk (hbox); have GW276 := gs_ hg; have GE276 := gs_ hg; replace HB := hbs_ hb; have NB275_276 := Aside0.mk ((by rw [hg]; exact Nat.ne_of_lt (blk_lt (g := gb275) (o := .cells #[.int .i64 a0_0, .int .i64 a0_1, .int .i64 a0_2, .int .i64 a0_3, .int .i64 a0_4, .int .i64 a0_5, .int .i64 a0_6, .int .i64 a0_7, .int .i64 a0_8, .int .i64 a0_9] 46 (0, 0)) (bk_ BK275)) : gb275 ≠ gb276)); have NB276_275 := Aside0.mk ((by rw [hg]; exact Nat.ne_of_gt (blk_lt (g := gb275) (o := .cells #[.int .i64 a0_0, .int .i64 a0_1, .int .i64 a0_2, .int .i64 a0_3, .int .i64 a0_4, .int .i64 a0_5, .int .i64 a0_6, .int .i64 a0_7, .int .i64 a0_8, .int .i64 a0_9] 46 (0, 0)) (bk_ BK275)) : gb276 ≠ gb275)); replace BK275 := bkb_ BK275 hb; clear hb hbox hg; have hnb92 := NB275_276.out; have hnc92 := NB276_275.out; have hcz93 := blk_cell BK275.out; have hfz93 := blk_frozen BK275.out; have hcz94 := blk_cell BK276.out; have hfz94 := blk_frozen BK276.out))
  go_ret
  exact ⟨eq_, bl_⟩
def laws_eqFact.f (a0_0 : Int) (a0_1 : Int) (a0_2 : Int) (a1_0 : Int) (a1_1 : Int) (a1_2 : Int) : Option (Bool) := (laws_eqRole.f a0_0 a0_1 a1_0 a1_1).bind fun t282 => (if t282 = true then (if a0_2 = a1_2 then (some true) else (some false)) else (some false))
set_option maxHeartbeats 8000000 in
set_option maxRecDepth 100000 in
theorem laws_eqFact.calls (a0_0 : Int) (a0_1 : Int) (a0_2 : Int) (a1_0 : Int) (a1_1 : Int) (a1_2 : Int) (r : Bool) (w : World) (h : laws_eqFact.f a0_0 a0_1 a0_2 a1_0 a1_1 a1_2 = some r) :
  Calls Try.prog 106 #[.agg #[.int .i64 a0_0, .int .i64 a0_1, .int .i64 a0_2], .agg #[.int .i64 a1_0, .int .i64 a1_1, .int .i64 a1_2]] w fun e w' => e = .returned (.bool r) ∧ Below w.heap.size w w' := by
 have hu29 := Try.underlying29
 have hu27 := Try.underlying27
 have HB := Aside0.mk (Below.refl w.heap.size w)
 have H : ((laws_eqRole.f a0_0 a0_1 a1_0 a1_1).bind fun t282 => (if t282 = true then (if a0_2 = a1_2 then (some true) else (some false)) else (some false))) = some r := h
 clear h
 obtain ⟨t282, A3, H⟩ := bindE_ H
 by_cases c4 : t282 = true
 ·subst c4
  replace H := ite_t_ H
  by_cases c5 : a0_2 = a1_2
  ·rw [if_pos c5] at H
   have c5b0 : (a0_2 == a1_2) = true := beq_iff_eq.mpr c5
   have c5b1 : (a0_2 != a1_2) = false := bne_eq_false_iff_eq.mpr c5
   clear c5
   obtain rfl := Option.some.inj H
   go_enter Try.func106, Try.ntmps106
   go_wp2_with (first | ((with_reducible refine gate_dst (N := 2) rfl ?_); refine box_event ?hg (N := 2) ?hd (cs := #[.int .i64 a0_0, .int .i64 a0_1, .int .i64 a0_2]) (t := 29) ?hr ?_; (case hd => rfl); (case hg => rfl); (case hr => first | (go_simp; done) | (go_simp; rfl)); intro gb280 hg w6 hbox hb; have BK280 := Aside0.mk (hbox); have GW280 := gs_ hg; have GE280 := gs_ hg; replace HB := hbs_ hb; clear hb hbox hg) | ((with_reducible refine gate_dst (N := 3) rfl ?_); refine box_event ?hg (N := 3) ?hd (cs := #[.int .i64 a1_0, .int .i64 a1_1, .int .i64 a1_2]) (t := 29) ?hr ?_; (case hd => rfl); (case hg => rfl); (case hr => first | (go_simp; done) | (go_simp; rfl)); intro gb281 hg w7 hbox hb; have BK281 := Aside0.mk (hbox); have GW281 := gs_ hg; have GE281 := gs_ hg; replace HB := hbs_ hb; have NB280_281 := Aside0.mk ((by rw [hg]; exact Nat.ne_of_lt (blk_lt (g := gb280) (o := .cells #[.int .i64 a0_0, .int .i64 a0_1, .int .i64 a0_2] 29 (0, 0)) (bk_ BK280)) : gb280 ≠ gb281)); have NB281_280 := Aside0.mk ((by rw [hg]; exact Nat.ne_of_gt (blk_lt (g := gb280) (o := .cells #[.int .i64 a0_0, .int .i64 a0_1, .int .i64 a0_2] 29 (0, 0)) (bk_ BK280)) : gb281 ≠ gb280)); replace BK280 := bkb_ BK280 hb; clear hb hbox hg; have hnb8 := NB280_281.out; have hnc8 := NB281_280.out; have hcz9 := blk_cell BK280.out; have hfz9 := blk_frozen BK280.out; have hcz10 := blk_cell BK281.out; have hfz10 := blk_frozen BK281.out) | ((with_reducible refine gate_callee (f := 130) rfl ?_); refine goesC_ (some 9) Try.func130 #[.agg #[.int .i64 a0_0, .int .i64 a0_1], .agg #[.int .i64 a1_0, .int .i64 a1_1]] ?_; (with_reducible refine (laws_eqRole.calls a0_0 a0_1 a1_0 a1_1 true _ A3.out).mono ?_); rintro e w11 ⟨rfl, hb⟩; refine ⟨_, rfl, ?_⟩; replace BK280 := bkb_ BK280 hb; replace BK281 := bkb_ BK281 hb; replace HB := hbs_ hb; clear hb; have hcz12 := blk_cell BK280.out; have hfz12 := blk_frozen BK280.out; have hcz13 := blk_cell BK281.out; have hfz13 := blk_frozen BK281.out))
   go_ret
   exact ⟨eq_, bl_⟩
  ·rw [if_neg c5] at H
   have c5b0 : (a0_2 == a1_2) = false := beq_eq_false_iff_ne.mpr c5
   have c5b1 : (a0_2 != a1_2) = true := bne_iff_ne.mpr c5
   obtain rfl := Option.some.inj H
   go_enter Try.func106, Try.ntmps106
   go_wp2_with (first | ((with_reducible refine gate_dst (N := 2) rfl ?_); refine box_event ?hg (N := 2) ?hd (cs := #[.int .i64 a0_0, .int .i64 a0_1, .int .i64 a0_2]) (t := 29) ?hr ?_; (case hd => rfl); (case hg => rfl); (case hr => first | (go_simp; done) | (go_simp; rfl)); intro gb280 hg w14 hbox hb; have BK280 := Aside0.mk (hbox); have GW280 := gs_ hg; have GE280 := gs_ hg; replace HB := hbs_ hb; clear hb hbox hg) | ((with_reducible refine gate_dst (N := 3) rfl ?_); refine box_event ?hg (N := 3) ?hd (cs := #[.int .i64 a1_0, .int .i64 a1_1, .int .i64 a1_2]) (t := 29) ?hr ?_; (case hd => rfl); (case hg => rfl); (case hr => first | (go_simp; done) | (go_simp; rfl)); intro gb281 hg w15 hbox hb; have BK281 := Aside0.mk (hbox); have GW281 := gs_ hg; have GE281 := gs_ hg; replace HB := hbs_ hb; have NB280_281 := Aside0.mk ((by rw [hg]; exact Nat.ne_of_lt (blk_lt (g := gb280) (o := .cells #[.int .i64 a0_0, .int .i64 a0_1, .int .i64 a0_2] 29 (0, 0)) (bk_ BK280)) : gb280 ≠ gb281)); have NB281_280 := Aside0.mk ((by rw [hg]; exact Nat.ne_of_gt (blk_lt (g := gb280) (o := .cells #[.int .i64 a0_0, .int .i64 a0_1, .int .i64 a0_2] 29 (0, 0)) (bk_ BK280)) : gb281 ≠ gb280)); replace BK280 := bkb_ BK280 hb; clear hb hbox hg; have hnb16 := NB280_281.out; have hnc16 := NB281_280.out; have hcz17 := blk_cell BK280.out; have hfz17 := blk_frozen BK280.out; have hcz18 := blk_cell BK281.out; have hfz18 := blk_frozen BK281.out) | ((with_reducible refine gate_callee (f := 130) rfl ?_); refine goesC_ (some 9) Try.func130 #[.agg #[.int .i64 a0_0, .int .i64 a0_1], .agg #[.int .i64 a1_0, .int .i64 a1_1]] ?_; (with_reducible refine (laws_eqRole.calls a0_0 a0_1 a1_0 a1_1 true _ A3.out).mono ?_); rintro e w19 ⟨rfl, hb⟩; refine ⟨_, rfl, ?_⟩; replace BK280 := bkb_ BK280 hb; replace BK281 := bkb_ BK281 hb; replace HB := hbs_ hb; clear hb; have hcz20 := blk_cell BK280.out; have hfz20 := blk_frozen BK280.out; have hcz21 := blk_cell BK281.out; have hfz21 := blk_frozen BK281.out))
   go_ret
   exact ⟨eq_, bl_⟩
 ·replace c4 := Bool.eq_false_iff.mpr c4
  subst c4
  replace H := ite_f_ H
  obtain rfl := Option.some.inj H
  go_enter Try.func106, Try.ntmps106
  go_wp2_with (first | ((with_reducible refine gate_dst (N := 2) rfl ?_); refine box_event ?hg (N := 2) ?hd (cs := #[.int .i64 a0_0, .int .i64 a0_1, .int .i64 a0_2]) (t := 29) ?hr ?_; (case hd => rfl); (case hg => rfl); (case hr => first | (go_simp; done) | (go_simp; rfl)); intro gb280 hg w22 hbox hb; have BK280 := Aside0.mk (hbox); have GW280 := gs_ hg; have GE280 := gs_ hg; replace HB := hbs_ hb; clear hb hbox hg) | ((with_reducible refine gate_dst (N := 3) rfl ?_); refine box_event ?hg (N := 3) ?hd (cs := #[.int .i64 a1_0, .int .i64 a1_1, .int .i64 a1_2]) (t := 29) ?hr ?_; (case hd => rfl); (case hg => rfl); (case hr => first | (go_simp; done) | (go_simp; rfl)); intro gb281 hg w23 hbox hb; have BK281 := Aside0.mk (hbox); have GW281 := gs_ hg; have GE281 := gs_ hg; replace HB := hbs_ hb; have NB280_281 := Aside0.mk ((by rw [hg]; exact Nat.ne_of_lt (blk_lt (g := gb280) (o := .cells #[.int .i64 a0_0, .int .i64 a0_1, .int .i64 a0_2] 29 (0, 0)) (bk_ BK280)) : gb280 ≠ gb281)); have NB281_280 := Aside0.mk ((by rw [hg]; exact Nat.ne_of_gt (blk_lt (g := gb280) (o := .cells #[.int .i64 a0_0, .int .i64 a0_1, .int .i64 a0_2] 29 (0, 0)) (bk_ BK280)) : gb281 ≠ gb280)); replace BK280 := bkb_ BK280 hb; clear hb hbox hg; have hnb24 := NB280_281.out; have hnc24 := NB281_280.out; have hcz25 := blk_cell BK280.out; have hfz25 := blk_frozen BK280.out; have hcz26 := blk_cell BK281.out; have hfz26 := blk_frozen BK281.out) | ((with_reducible refine gate_callee (f := 130) rfl ?_); refine goesC_ (some 9) Try.func130 #[.agg #[.int .i64 a0_0, .int .i64 a0_1], .agg #[.int .i64 a1_0, .int .i64 a1_1]] ?_; (with_reducible refine (laws_eqRole.calls a0_0 a0_1 a1_0 a1_1 false _ A3.out).mono ?_); rintro e w27 ⟨rfl, hb⟩; refine ⟨_, rfl, ?_⟩; replace BK280 := bkb_ BK280 hb; replace BK281 := bkb_ BK281 hb; replace HB := hbs_ hb; clear hb))
  go_ret
  exact ⟨eq_, bl_⟩
def laws_eqStep.f (k : Nat) (a0_0 : Int) (a0_1 : Int) (a0_2 : Int) (a0_3 : Int) (a0_4 : Int) (a0_5 : Int) (a0_6 : Int) (a0_7 : Int) (a0_8 : Int) (a0_9 : Int) (a0_10 : Int) (a0_11 : Int) (a0_12 : Int) (l0_13 : List Int) (a1_0 : Int) (a1_1 : Int) (a1_2 : Int) (a1_3 : Int) (a1_4 : Int) (a1_5 : Int) (a1_6 : Int) (a1_7 : Int) (a1_8 : Int) (a1_9 : Int) (a1_10 : Int) (a1_11 : Int) (a1_12 : Int) (l1_13 : List Int) : Option (Bool) := (laws_eqCred.f a0_0 a0_1 a0_2 a0_3 a0_4 a0_5 a0_6 a0_7 a0_8 a0_9 a1_0 a1_1 a1_2 a1_3 a1_4 a1_5 a1_6 a1_7 a1_8 a1_9).bind fun t285 => (if t285 = true then ((laws_eqFact.f a0_10 a0_11 a0_12 a1_10 a1_11 a1_12).bind fun t286 => (if t286 = true then ((laws_eqIntS.f k l0_13 l1_13).bind fun t287 => (if t287 = true then (some true) else (some false))) else (some false))) else (some false))
set_option maxHeartbeats 8000000 in
set_option maxRecDepth 100000 in
theorem laws_eqStep.calls (k : Nat) (a0_0 : Int) (a0_1 : Int) (a0_2 : Int) (a0_3 : Int) (a0_4 : Int) (a0_5 : Int) (a0_6 : Int) (a0_7 : Int) (a0_8 : Int) (a0_9 : Int) (a0_10 : Int) (a0_11 : Int) (a0_12 : Int) (A0_13 : Option Addr) (c0_13 : Nat) (l0_13 : List Int) (a1_0 : Int) (a1_1 : Int) (a1_2 : Int) (a1_3 : Int) (a1_4 : Int) (a1_5 : Int) (a1_6 : Int) (a1_7 : Int) (a1_8 : Int) (a1_9 : Int) (a1_10 : Int) (a1_11 : Int) (a1_12 : Int) (A1_13 : Option Addr) (c1_13 : Nat) (l1_13 : List Int) (r : Bool) (w : World) (hr0_13 : Kd.C (Kd.int .i64) w A0_13 l0_13.length l0_13) (hc0_13 : l0_13.length ≤ c0_13) (hr1_13 : Kd.C (Kd.int .i64) w A1_13 l1_13.length l1_13) (hc1_13 : l1_13.length ≤ c1_13) (h : laws_eqStep.f k a0_0 a0_1 a0_2 a0_3 a0_4 a0_5 a0_6 a0_7 a0_8 a0_9 a0_10 a0_11 a0_12 l0_13 a1_0 a1_1 a1_2 a1_3 a1_4 a1_5 a1_6 a1_7 a1_8 a1_9 a1_10 a1_11 a1_12 l1_13 = some r) :
  Calls Try.prog 89 #[.agg #[.int .i64 a0_0, .int .i64 a0_1, .int .i64 a0_2, .int .i64 a0_3, .int .i64 a0_4, .int .i64 a0_5, .int .i64 a0_6, .int .i64 a0_7, .int .i64 a0_8, .int .i64 a0_9, .int .i64 a0_10, .int .i64 a0_11, .int .i64 a0_12, .slice A0_13 l0_13.length c0_13], .agg #[.int .i64 a1_0, .int .i64 a1_1, .int .i64 a1_2, .int .i64 a1_3, .int .i64 a1_4, .int .i64 a1_5, .int .i64 a1_6, .int .i64 a1_7, .int .i64 a1_8, .int .i64 a1_9, .int .i64 a1_10, .int .i64 a1_11, .int .i64 a1_12, .slice A1_13 l1_13.length c1_13]] w fun e w' => e = .returned (.bool r) ∧ Below w.heap.size w w' := by
 have hu105 := Try.underlying105
 have hu46 := Try.underlying46
 have hu29 := Try.underlying29
 have HR0_13 := Aside0.mk hr0_13
 have HC0_13 := Aside0.mk hc0_13
 clear hr0_13 hc0_13
 have HR1_13 := Aside0.mk hr1_13
 have HC1_13 := Aside0.mk hc1_13
 clear hr1_13 hc1_13
 have HB := Aside0.mk (Below.refl w.heap.size w)
 have H : ((laws_eqCred.f a0_0 a0_1 a0_2 a0_3 a0_4 a0_5 a0_6 a0_7 a0_8 a0_9 a1_0 a1_1 a1_2 a1_3 a1_4 a1_5 a1_6 a1_7 a1_8 a1_9).bind fun t285 => (if t285 = true then ((laws_eqFact.f a0_10 a0_11 a0_12 a1_10 a1_11 a1_12).bind fun t286 => (if t286 = true then ((laws_eqIntS.f k l0_13 l1_13).bind fun t287 => (if t287 = true then (some true) else (some false))) else (some false))) else (some false))) = some r := h
 clear h
 obtain ⟨t285, A3, H⟩ := bindE_ H
 by_cases c4 : t285 = true
 ·subst c4
  replace H := ite_t_ H
  obtain ⟨t286, A5, H⟩ := bindE_ H
  by_cases c6 : t286 = true
  ·subst c6
   replace H := ite_t_ H
   obtain ⟨t287, A7, H⟩ := bindE_ H
   by_cases c8 : t287 = true
   ·subst c8
    replace H := ite_t_ H
    obtain rfl := Option.some.inj H
    go_enter Try.func89, Try.ntmps89
    go_wp2_with (first | ((with_reducible refine gate_dst (N := 2) rfl ?_); refine box_event ?hg (N := 2) ?hd (cs := #[.int .i64 a0_0, .int .i64 a0_1, .int .i64 a0_2, .int .i64 a0_3, .int .i64 a0_4, .int .i64 a0_5, .int .i64 a0_6, .int .i64 a0_7, .int .i64 a0_8, .int .i64 a0_9, .int .i64 a0_10, .int .i64 a0_11, .int .i64 a0_12, .slice A0_13 l0_13.length c0_13]) (t := 105) ?hr ?_; (case hd => rfl); (case hg => rfl); (case hr => first | (go_simp; done) | (go_simp; rfl)); intro gb283 hg w9 hbox hb; have BK283 := Aside0.mk (hbox); have GW283 := gs_ hg; have GE283 := gs_ hg; replace HB := hbs_ hb; clear hb hbox hg) | ((with_reducible refine gate_dst (N := 3) rfl ?_); refine box_event ?hg (N := 3) ?hd (cs := #[.int .i64 a1_0, .int .i64 a1_1, .int .i64 a1_2, .int .i64 a1_3, .int .i64 a1_4, .int .i64 a1_5, .int .i64 a1_6, .int .i64 a1_7, .int .i64 a1_8, .int .i64 a1_9, .int .i64 a1_10, .int .i64 a1_11, .int .i64 a1_12, .slice A1_13 l1_13.length c1_13]) (t := 105) ?hr ?_; (case hd => rfl); (case hg => rfl); (case hr => first | (go_simp; done) | (go_simp; rfl)); intro gb284 hg w10 hbox hb; have BK284 := Aside0.mk (hbox); have GW284 := gs_ hg; have GE284 := gs_ hg; replace HB := hbs_ hb; have NB283_284 := Aside0.mk ((by rw [hg]; exact Nat.ne_of_lt (blk_lt (g := gb283) (o := .cells #[.int .i64 a0_0, .int .i64 a0_1, .int .i64 a0_2, .int .i64 a0_3, .int .i64 a0_4, .int .i64 a0_5, .int .i64 a0_6, .int .i64 a0_7, .int .i64 a0_8, .int .i64 a0_9, .int .i64 a0_10, .int .i64 a0_11, .int .i64 a0_12, .slice A0_13 l0_13.length c0_13] 105 (0, 0)) (bk_ BK283)) : gb283 ≠ gb284)); have NB284_283 := Aside0.mk ((by rw [hg]; exact Nat.ne_of_gt (blk_lt (g := gb283) (o := .cells #[.int .i64 a0_0, .int .i64 a0_1, .int .i64 a0_2, .int .i64 a0_3, .int .i64 a0_4, .int .i64 a0_5, .int .i64 a0_6, .int .i64 a0_7, .int .i64 a0_8, .int .i64 a0_9, .int .i64 a0_10, .int .i64 a0_11, .int .i64 a0_12, .slice A0_13 l0_13.length c0_13] 105 (0, 0)) (bk_ BK283)) : gb284 ≠ gb283)); replace BK283 := bkb_ BK283 hb; clear hb hbox hg; have hnb11 := NB283_284.out; have hnc11 := NB284_283.out; have hcz12 := blk_cell BK283.out; have hfz12 := blk_frozen BK283.out; have hcz13 := blk_cell BK284.out; have hfz13 := blk_frozen BK284.out) | ((with_reducible refine gate_callee (f := 95) rfl ?_); refine goesC_ (some 9) Try.func95 #[.agg #[.int .i64 a0_0, .int .i64 a0_1, .int .i64 a0_2, .int .i64 a0_3, .int .i64 a0_4, .int .i64 a0_5, .int .i64 a0_6, .int .i64 a0_7, .int .i64 a0_8, .int .i64 a0_9], .agg #[.int .i64 a1_0, .int .i64 a1_1, .int .i64 a1_2, .int .i64 a1_3, .int .i64 a1_4, .int .i64 a1_5, .int .i64 a1_6, .int .i64 a1_7, .int .i64 a1_8, .int .i64 a1_9]] ?_; (with_reducible refine (laws_eqCred.calls a0_0 a0_1 a0_2 a0_3 a0_4 a0_5 a0_6 a0_7 a0_8 a0_9 a1_0 a1_1 a1_2 a1_3 a1_4 a1_5 a1_6 a1_7 a1_8 a1_9 true _ A3.out).mono ?_); rintro e w14 ⟨rfl, hb⟩; refine ⟨_, rfl, ?_⟩; replace BK283 := bkb_ BK283 hb; replace BK284 := bkb_ BK284 hb; replace HB := hbs_ hb; clear hb; have hcz15 := blk_cell BK283.out; have hfz15 := blk_frozen BK283.out; have hcz16 := blk_cell BK284.out; have hfz16 := blk_frozen BK284.out) | ((with_reducible refine gate_callee (f := 106) rfl ?_); refine goesC_ (some 15) Try.func106 #[.agg #[.int .i64 a0_10, .int .i64 a0_11, .int .i64 a0_12], .agg #[.int .i64 a1_10, .int .i64 a1_11, .int .i64 a1_12]] ?_; (with_reducible refine (laws_eqFact.calls a0_10 a0_11 a0_12 a1_10 a1_11 a1_12 true _ A5.out).mono ?_); rintro e w17 ⟨rfl, hb⟩; refine ⟨_, rfl, ?_⟩; replace BK283 := bkb_ BK283 hb; replace BK284 := bkb_ BK284 hb; replace HB := hbs_ hb; clear hb; have hcz18 := blk_cell BK283.out; have hfz18 := blk_frozen BK283.out; have hcz19 := blk_cell BK284.out; have hfz19 := blk_frozen BK284.out) | ((with_reducible refine gate_callee (f := 58) rfl ?_); refine goesC_ (some 21) Try.func58 #[.slice A0_13 l0_13.length c0_13, .slice A1_13 l1_13.length c1_13] ?_; (with_reducible refine (laws_eqIntS.calls k _ _ l0_13 _ _ l1_13 true _ ?side1 ?side2 ?side3 ?side4 A7.out).mono ?_); (case side1 => repeat (first | exact (Kd.C_below HR0_13.out HB.out) | (with_reducible refine Kd.C_alloc ?_ _) | (with_reducible refine Kd.C_drewN ?_ _) | (with_reducible refine Kd.C_drew ?_))); (case side2 => exact HC0_13.out); (case side3 => repeat (first | exact (Kd.C_below HR1_13.out HB.out) | (with_reducible refine Kd.C_alloc ?_ _) | (with_reducible refine Kd.C_drewN ?_ _) | (with_reducible refine Kd.C_drew ?_))); (case side4 => exact HC1_13.out); rintro e w' ⟨rfl, ⟨nd, rfl⟩⟩; refine ⟨_, rfl, ?_⟩))
    go_ret
    exact ⟨eq_, bl_⟩
   ·replace c8 := Bool.eq_false_iff.mpr c8
    subst c8
    replace H := ite_f_ H
    obtain rfl := Option.some.inj H
    go_enter Try.func89, Try.ntmps89
    go_wp2_with (first | ((with_reducible refine gate_dst (N := 2) rfl ?_); refine box_event ?hg (N := 2) ?hd (cs := #[.int .i64 a0_0, .int .i64 a0_1, .int .i64 a0_2, .int .i64 a0_3, .int .i64 a0_4, .int .i64 a0_5, .int .i64 a0_6, .int .i64 a0_7, .int .i64 a0_8, .int .i64 a0_9, .int .i64 a0_10, .int .i64 a0_11, .int .i64 a0_12, .slice A0_13 l0_13.length c0_13]) (t := 105) ?hr ?_; (case hd => rfl); (case hg => rfl); (case hr => first | (go_simp; done) | (go_simp; rfl)); intro gb283 hg w20 hbox hb; have BK283 := Aside0.mk (hbox); have GW283 := gs_ hg; have GE283 := gs_ hg; replace HB := hbs_ hb; clear hb hbox hg) | ((with_reducible refine gate_dst (N := 3) rfl ?_); refine box_event ?hg (N := 3) ?hd (cs := #[.int .i64 a1_0, .int .i64 a1_1, .int .i64 a1_2, .int .i64 a1_3, .int .i64 a1_4, .int .i64 a1_5, .int .i64 a1_6, .int .i64 a1_7, .int .i64 a1_8, .int .i64 a1_9, .int .i64 a1_10, .int .i64 a1_11, .int .i64 a1_12, .slice A1_13 l1_13.length c1_13]) (t := 105) ?hr ?_; (case hd => rfl); (case hg => rfl); (case hr => first | (go_simp; done) | (go_simp; rfl)); intro gb284 hg w21 hbox hb; have BK284 := Aside0.mk (hbox); have GW284 := gs_ hg; have GE284 := gs_ hg; replace HB := hbs_ hb; have NB283_284 := Aside0.mk ((by rw [hg]; exact Nat.ne_of_lt (blk_lt (g := gb283) (o := .cells #[.int .i64 a0_0, .int .i64 a0_1, .int .i64 a0_2, .int .i64 a0_3, .int .i64 a0_4, .int .i64 a0_5, .int .i64 a0_6, .int .i64 a0_7, .int .i64 a0_8, .int .i64 a0_9, .int .i64 a0_10, .int .i64 a0_11, .int .i64 a0_12, .slice A0_13 l0_13.length c0_13] 105 (0, 0)) (bk_ BK283)) : gb283 ≠ gb284)); have NB284_283 := Aside0.mk ((by rw [hg]; exact Nat.ne_of_gt (blk_lt (g := gb283) (o := .cells #[.int .i64 a0_0, .int .i64 a0_1, .int .i64 a0_2, .int .i64 a0_3, .int .i64 a0_4, .int .i64 a0_5, .int .i64 a0_6, .int .i64 a0_7, .int .i64 a0_8, .int .i64 a0_9, .int .i64 a0_10, .int .i64 a0_11, .int .i64 a0_12, .slice A0_13 l0_13.length c0_13] 105 (0, 0)) (bk_ BK283)) : gb284 ≠ gb283)); replace BK283 := bkb_ BK283 hb; clear hb hbox hg; have hnb22 := NB283_284.out; have hnc22 := NB284_283.out; have hcz23 := blk_cell BK283.out; have hfz23 := blk_frozen BK283.out; have hcz24 := blk_cell BK284.out; have hfz24 := blk_frozen BK284.out) | ((with_reducible refine gate_callee (f := 95) rfl ?_); refine goesC_ (some 9) Try.func95 #[.agg #[.int .i64 a0_0, .int .i64 a0_1, .int .i64 a0_2, .int .i64 a0_3, .int .i64 a0_4, .int .i64 a0_5, .int .i64 a0_6, .int .i64 a0_7, .int .i64 a0_8, .int .i64 a0_9], .agg #[.int .i64 a1_0, .int .i64 a1_1, .int .i64 a1_2, .int .i64 a1_3, .int .i64 a1_4, .int .i64 a1_5, .int .i64 a1_6, .int .i64 a1_7, .int .i64 a1_8, .int .i64 a1_9]] ?_; (with_reducible refine (laws_eqCred.calls a0_0 a0_1 a0_2 a0_3 a0_4 a0_5 a0_6 a0_7 a0_8 a0_9 a1_0 a1_1 a1_2 a1_3 a1_4 a1_5 a1_6 a1_7 a1_8 a1_9 true _ A3.out).mono ?_); rintro e w25 ⟨rfl, hb⟩; refine ⟨_, rfl, ?_⟩; replace BK283 := bkb_ BK283 hb; replace BK284 := bkb_ BK284 hb; replace HB := hbs_ hb; clear hb; have hcz26 := blk_cell BK283.out; have hfz26 := blk_frozen BK283.out; have hcz27 := blk_cell BK284.out; have hfz27 := blk_frozen BK284.out) | ((with_reducible refine gate_callee (f := 106) rfl ?_); refine goesC_ (some 15) Try.func106 #[.agg #[.int .i64 a0_10, .int .i64 a0_11, .int .i64 a0_12], .agg #[.int .i64 a1_10, .int .i64 a1_11, .int .i64 a1_12]] ?_; (with_reducible refine (laws_eqFact.calls a0_10 a0_11 a0_12 a1_10 a1_11 a1_12 true _ A5.out).mono ?_); rintro e w28 ⟨rfl, hb⟩; refine ⟨_, rfl, ?_⟩; replace BK283 := bkb_ BK283 hb; replace BK284 := bkb_ BK284 hb; replace HB := hbs_ hb; clear hb; have hcz29 := blk_cell BK283.out; have hfz29 := blk_frozen BK283.out; have hcz30 := blk_cell BK284.out; have hfz30 := blk_frozen BK284.out) | ((with_reducible refine gate_callee (f := 58) rfl ?_); refine goesC_ (some 21) Try.func58 #[.slice A0_13 l0_13.length c0_13, .slice A1_13 l1_13.length c1_13] ?_; (with_reducible refine (laws_eqIntS.calls k _ _ l0_13 _ _ l1_13 false _ ?side1 ?side2 ?side3 ?side4 A7.out).mono ?_); (case side1 => repeat (first | exact (Kd.C_below HR0_13.out HB.out) | (with_reducible refine Kd.C_alloc ?_ _) | (with_reducible refine Kd.C_drewN ?_ _) | (with_reducible refine Kd.C_drew ?_))); (case side2 => exact HC0_13.out); (case side3 => repeat (first | exact (Kd.C_below HR1_13.out HB.out) | (with_reducible refine Kd.C_alloc ?_ _) | (with_reducible refine Kd.C_drewN ?_ _) | (with_reducible refine Kd.C_drew ?_))); (case side4 => exact HC1_13.out); rintro e w' ⟨rfl, ⟨nd, rfl⟩⟩; refine ⟨_, rfl, ?_⟩))
    go_ret
    exact ⟨eq_, bl_⟩
  ·replace c6 := Bool.eq_false_iff.mpr c6
   subst c6
   replace H := ite_f_ H
   obtain rfl := Option.some.inj H
   go_enter Try.func89, Try.ntmps89
   go_wp2_with (first | ((with_reducible refine gate_dst (N := 2) rfl ?_); refine box_event ?hg (N := 2) ?hd (cs := #[.int .i64 a0_0, .int .i64 a0_1, .int .i64 a0_2, .int .i64 a0_3, .int .i64 a0_4, .int .i64 a0_5, .int .i64 a0_6, .int .i64 a0_7, .int .i64 a0_8, .int .i64 a0_9, .int .i64 a0_10, .int .i64 a0_11, .int .i64 a0_12, .slice A0_13 l0_13.length c0_13]) (t := 105) ?hr ?_; (case hd => rfl); (case hg => rfl); (case hr => first | (go_simp; done) | (go_simp; rfl)); intro gb283 hg w31 hbox hb; have BK283 := Aside0.mk (hbox); have GW283 := gs_ hg; have GE283 := gs_ hg; replace HB := hbs_ hb; clear hb hbox hg) | ((with_reducible refine gate_dst (N := 3) rfl ?_); refine box_event ?hg (N := 3) ?hd (cs := #[.int .i64 a1_0, .int .i64 a1_1, .int .i64 a1_2, .int .i64 a1_3, .int .i64 a1_4, .int .i64 a1_5, .int .i64 a1_6, .int .i64 a1_7, .int .i64 a1_8, .int .i64 a1_9, .int .i64 a1_10, .int .i64 a1_11, .int .i64 a1_12, .slice A1_13 l1_13.length c1_13]) (t := 105) ?hr ?_; (case hd => rfl); (case hg => rfl); (case hr => first | (go_simp; done) | (go_simp; rfl)); intro gb284 hg w32 hbox hb; have BK284 := Aside0.mk (hbox); have GW284 := gs_ hg; have GE284 := gs_ hg; replace HB := hbs_ hb; have NB283_284 := Aside0.mk ((by rw [hg]; exact Nat.ne_of_lt (blk_lt (g := gb283) (o := .cells #[.int .i64 a0_0, .int .i64 a0_1, .int .i64 a0_2, .int .i64 a0_3, .int .i64 a0_4, .int .i64 a0_5, .int .i64 a0_6, .int .i64 a0_7, .int .i64 a0_8, .int .i64 a0_9, .int .i64 a0_10, .int .i64 a0_11, .int .i64 a0_12, .slice A0_13 l0_13.length c0_13] 105 (0, 0)) (bk_ BK283)) : gb283 ≠ gb284)); have NB284_283 := Aside0.mk ((by rw [hg]; exact Nat.ne_of_gt (blk_lt (g := gb283) (o := .cells #[.int .i64 a0_0, .int .i64 a0_1, .int .i64 a0_2, .int .i64 a0_3, .int .i64 a0_4, .int .i64 a0_5, .int .i64 a0_6, .int .i64 a0_7, .int .i64 a0_8, .int .i64 a0_9, .int .i64 a0_10, .int .i64 a0_11, .int .i64 a0_12, .slice A0_13 l0_13.length c0_13] 105 (0, 0)) (bk_ BK283)) : gb284 ≠ gb283)); replace BK283 := bkb_ BK283 hb; clear hb hbox hg; have hnb33 := NB283_284.out; have hnc33 := NB284_283.out; have hcz34 := blk_cell BK283.out; have hfz34 := blk_frozen BK283.out; have hcz35 := blk_cell BK284.out; have hfz35 := blk_frozen BK284.out) | ((with_reducible refine gate_callee (f := 95) rfl ?_); refine goesC_ (some 9) Try.func95 #[.agg #[.int .i64 a0_0, .int .i64 a0_1, .int .i64 a0_2, .int .i64 a0_3, .int .i64 a0_4, .int .i64 a0_5, .int .i64 a0_6, .int .i64 a0_7, .int .i64 a0_8, .int .i64 a0_9], .agg #[.int .i64 a1_0, .int .i64 a1_1, .int .i64 a1_2, .int .i64 a1_3, .int .i64 a1_4, .int .i64 a1_5, .int .i64 a1_6, .int .i64 a1_7, .int .i64 a1_8, .int .i64 a1_9]] ?_; (with_reducible refine (laws_eqCred.calls a0_0 a0_1 a0_2 a0_3 a0_4 a0_5 a0_6 a0_7 a0_8 a0_9 a1_0 a1_1 a1_2 a1_3 a1_4 a1_5 a1_6 a1_7 a1_8 a1_9 true _ A3.out).mono ?_); rintro e w36 ⟨rfl, hb⟩; refine ⟨_, rfl, ?_⟩; replace BK283 := bkb_ BK283 hb; replace BK284 := bkb_ BK284 hb; replace HB := hbs_ hb; clear hb; have hcz37 := blk_cell BK283.out; have hfz37 := blk_frozen BK283.out; have hcz38 := blk_cell BK284.out; have hfz38 := blk_frozen BK284.out) | ((with_reducible refine gate_callee (f := 106) rfl ?_); refine goesC_ (some 15) Try.func106 #[.agg #[.int .i64 a0_10, .int .i64 a0_11, .int .i64 a0_12], .agg #[.int .i64 a1_10, .int .i64 a1_11, .int .i64 a1_12]] ?_; (with_reducible refine (laws_eqFact.calls a0_10 a0_11 a0_12 a1_10 a1_11 a1_12 false _ A5.out).mono ?_); rintro e w39 ⟨rfl, hb⟩; refine ⟨_, rfl, ?_⟩; replace BK283 := bkb_ BK283 hb; replace BK284 := bkb_ BK284 hb; replace HB := hbs_ hb; clear hb))
   go_ret
   exact ⟨eq_, bl_⟩
 ·replace c4 := Bool.eq_false_iff.mpr c4
  subst c4
  replace H := ite_f_ H
  obtain rfl := Option.some.inj H
  go_enter Try.func89, Try.ntmps89
  go_wp2_with (first | ((with_reducible refine gate_dst (N := 2) rfl ?_); refine box_event ?hg (N := 2) ?hd (cs := #[.int .i64 a0_0, .int .i64 a0_1, .int .i64 a0_2, .int .i64 a0_3, .int .i64 a0_4, .int .i64 a0_5, .int .i64 a0_6, .int .i64 a0_7, .int .i64 a0_8, .int .i64 a0_9, .int .i64 a0_10, .int .i64 a0_11, .int .i64 a0_12, .slice A0_13 l0_13.length c0_13]) (t := 105) ?hr ?_; (case hd => rfl); (case hg => rfl); (case hr => first | (go_simp; done) | (go_simp; rfl)); intro gb283 hg w40 hbox hb; have BK283 := Aside0.mk (hbox); have GW283 := gs_ hg; have GE283 := gs_ hg; replace HB := hbs_ hb; clear hb hbox hg) | ((with_reducible refine gate_dst (N := 3) rfl ?_); refine box_event ?hg (N := 3) ?hd (cs := #[.int .i64 a1_0, .int .i64 a1_1, .int .i64 a1_2, .int .i64 a1_3, .int .i64 a1_4, .int .i64 a1_5, .int .i64 a1_6, .int .i64 a1_7, .int .i64 a1_8, .int .i64 a1_9, .int .i64 a1_10, .int .i64 a1_11, .int .i64 a1_12, .slice A1_13 l1_13.length c1_13]) (t := 105) ?hr ?_; (case hd => rfl); (case hg => rfl); (case hr => first | (go_simp; done) | (go_simp; rfl)); intro gb284 hg w41 hbox hb; have BK284 := Aside0.mk (hbox); have GW284 := gs_ hg; have GE284 := gs_ hg; replace HB := hbs_ hb; have NB283_284 := Aside0.mk ((by rw [hg]; exact Nat.ne_of_lt (blk_lt (g := gb283) (o := .cells #[.int .i64 a0_0, .int .i64 a0_1, .int .i64 a0_2, .int .i64 a0_3, .int .i64 a0_4, .int .i64 a0_5, .int .i64 a0_6, .int .i64 a0_7, .int .i64 a0_8, .int .i64 a0_9, .int .i64 a0_10, .int .i64 a0_11, .int .i64 a0_12, .slice A0_13 l0_13.length c0_13] 105 (0, 0)) (bk_ BK283)) : gb283 ≠ gb284)); have NB284_283 := Aside0.mk ((by rw [hg]; exact Nat.ne_of_gt (blk_lt (g := gb283) (o := .cells #[.int .i64 a0_0, .int .i64 a0_1, .int .i64 a0_2, .int .i64 a0_3, .int .i64 a0_4, .int .i64 a0_5, .int .i64 a0_6, .int .i64 a0_7, .int .i64 a0_8, .int .i64 a0_9, .int .i64 a0_10, .int .i64 a0_11, .int .i64 a0_12, .slice A0_13 l0_13.length c0_13] 105 (0, 0)) (bk_ BK283)) : gb284 ≠ gb283)); replace BK283 := bkb_ BK283 hb; clear hb hbox hg; have hnb42 := NB283_284.out; have hnc42 := NB284_283.out; have hcz43 := blk_cell BK283.out; have hfz43 := blk_frozen BK283.out; have hcz44 := blk_cell BK284.out; have hfz44 := blk_frozen BK284.out) | ((with_reducible refine gate_callee (f := 95) rfl ?_); refine goesC_ (some 9) Try.func95 #[.agg #[.int .i64 a0_0, .int .i64 a0_1, .int .i64 a0_2, .int .i64 a0_3, .int .i64 a0_4, .int .i64 a0_5, .int .i64 a0_6, .int .i64 a0_7, .int .i64 a0_8, .int .i64 a0_9], .agg #[.int .i64 a1_0, .int .i64 a1_1, .int .i64 a1_2, .int .i64 a1_3, .int .i64 a1_4, .int .i64 a1_5, .int .i64 a1_6, .int .i64 a1_7, .int .i64 a1_8, .int .i64 a1_9]] ?_; (with_reducible refine (laws_eqCred.calls a0_0 a0_1 a0_2 a0_3 a0_4 a0_5 a0_6 a0_7 a0_8 a0_9 a1_0 a1_1 a1_2 a1_3 a1_4 a1_5 a1_6 a1_7 a1_8 a1_9 false _ A3.out).mono ?_); rintro e w45 ⟨rfl, hb⟩; refine ⟨_, rfl, ?_⟩; replace BK283 := bkb_ BK283 hb; replace BK284 := bkb_ BK284 hb; replace HB := hbs_ hb; clear hb))
  go_ret
  exact ⟨eq_, bl_⟩
end Go.Proofs.Ytppdmcimddhbaaa.PA
