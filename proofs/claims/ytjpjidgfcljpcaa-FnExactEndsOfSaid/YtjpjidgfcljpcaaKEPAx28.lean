import Derived.Test.YtjpjidgfcljpcaaKEPAx27
-- printed by wip/tools
namespace Go.Proofs.Ytjpjidgfcljpcaa.PA
open Go.RowKit Go.Proofs.YtjpjidgfcljpcaaW.PrintWords Go.Proofs.YtjpjidgfcljpcaaW.PrintLast Go.Proofs.YtjpjidgfcljpcaaW.PrintMore
attribute [local go_sem] max2_int min2_int max_two min_two max_three min_three max_four min_four
set_option linter.unusedVariables false
set_option linter.unusedSimpArgs false
mutual
def spec_EndsOf.l0 : Nat → List (S56) → List Int → Int → Option (List Int)
 | 0, _, _, _ => none
 | k + 1, x0, x3, x4 => if x4 < (x0.length : Int) then (if 0 ≤ x4 then ((spec_CredOk.f k ((rd_T56 x0 x4).f0) ((rd_T56 x0 x4).f1.f0) ((rd_T56 x0 x4).f1.f1) ((rd_T56 x0 x4).f2) ((rd_T56 x0 x4).f3.f0) ((rd_T56 x0 x4).f3.f1) ((rd_T56 x0 x4).f4.f0) ((rd_T56 x0 x4).f4.f1) ((rd_T56 x0 x4).f5) ((rd_T56 x0 x4).f6)).bind fun t798 => (if t798 = true then ((spec_l08Has.f k x3 (wrap64 (((rd_T56 x0 x4).f5) + 1))).bind fun t799 => (spec_EndsOf.j1 k x0 x3 x4 (wrap64 (((rd_T56 x0 x4).f5) + 1)) t799)) else (spec_EndsOf.j1 k x0 x3 x4 (wrap64 (((rd_T56 x0 x4).f5) + 1)) true))) else (none)) else (some x3)
def spec_EndsOf.j1 : Nat → List (S56) → List Int → Int → Int → Bool → Option (List Int)
 | 0, _, _, _, _, _ => none
 | k + 1, x0, x3, x4, x5, x32 => if x32 = true then (spec_EndsOf.l0 k x0 x3 (wrap64 (x4 + 1))) else (spec_EndsOf.l1 k x0 x3 x4 x5 (([] : List Int)) false 0)
def spec_EndsOf.l1 : Nat → List (S56) → List Int → Int → Int → List Int → Bool → Int → Option (List Int)
 | 0, _, _, _, _, _, _, _ => none
 | k + 1, x0, x3, x4, x5, x6, x7, x8 => if x8 < (x3.length : Int) then (if x7 = true then (if 0 ≤ x8 then (if x6.length < 17592186044416 then (spec_EndsOf.l1 k x0 x3 x4 x5 (x6 ++ [rd x3 x8]) x7 (wrap64 (x8 + 1))) else (none)) else (none)) else (if 0 ≤ x8 then (if x5 < (rd x3 x8) then (if x6.length < 17592186044416 then ((some (x6 ++ [x5] : List Int)).bind fun y808 => (if y808.length < 17592186044416 then (spec_EndsOf.l1 k x0 x3 x4 x5 (y808 ++ [rd x3 x8]) true (wrap64 (x8 + 1))) else (none))) else (none)) else (if x6.length < 17592186044416 then (spec_EndsOf.l1 k x0 x3 x4 x5 (x6 ++ [rd x3 x8]) x7 (wrap64 (x8 + 1))) else (none))) else (none))) else (if x7 = true then (spec_EndsOf.l0 k x0 x6 (wrap64 (x4 + 1))) else (if x6.length < 17592186044416 then (spec_EndsOf.l0 k x0 (x6 ++ [x5]) (wrap64 (x4 + 1))) else (none)))
end
def spec_EndsOf.f (k : Nat) (l0 : List (S56)) : Option (List Int) := spec_EndsOf.l0 k l0 (([] : List Int)) 0
set_option maxHeartbeats 8000000 in
set_option maxRecDepth 100000 in
theorem spec_EndsOf.calls (k : Nat) (A0 : Option Addr) (c0 : Nat) (l0 : List (S56)) (r : List Int) (w : World) (hr0 : Kd.C k56 w A0 l0.length l0) (hc0 : l0.length ≤ c0) (h : spec_EndsOf.f k l0 = some r) :
  Calls Try.prog 29 #[.slice A0 l0.length c0] w fun e w' => ∃ v0_ : Value, e = .returned (v0_) ∧ Kd.R (Kd.int .i64) 3 w' w.heap.size (fun _ => True) v0_ r ∧ Below w.heap.size w w' := by
 have hu56 := Try.underlying56
 have HR0 := Aside0.mk hr0
 have HC0 := Aside0.mk hc0
 clear hr0 hc0
 have HB := Aside0.mk (Below.refl w.heap.size w)
 have H : (spec_EndsOf.l0 k l0 (([] : List Int)) 0) = some r := h
 clear h
 obtain ⟨y793, hy793⟩ : ∃ y_ : List Int, y_ = (([] : List Int)) := ⟨_, rfl⟩
 replace H : (spec_EndsOf.l0 k l0 y793 0) = some r := by first | (rw [hy793]; with_reducible exact H) | (have H2_ := (Option.bind_some _ _).symm.trans H; rw [hy793]; with_reducible exact H2_) | (have H2_ := (Option.bind_some _ _).symm.trans H; with_reducible exact H2_) | with_reducible exact H | (rw [hy793]; exact H) | exact H
 have Ny793 := Aside0.mk hy793
 clear hy793
 have H' := Aside0.mk H
 clear H
 go_enter Try.func29, Try.ntmps29
 go_wp2_with (first | ((with_reducible refine gate_dst (N := 9) rfl ?_); refine Kd.R_lit (Kd.int .i64) _ 3 ?hg (N := 9) ?hd (xs := ([] : List Int)) (inner := []) (ok := fun _ => True) (okp := fun _ => True) ?hr ?hp (fun _ hk => hk) trivial (Below.refl _ _) (Nat.le_refl _) (by simp) ?_; (case hd => rfl); (case hg => rfl); (case hr => first | (go_simp; done) | (go_simp; rfl)); (case hp => exact (Reps.none _ _)); intro v794 w2 ho3 hb hg_ hnew_; clear hg_ hnew_; (first | rw [← Ny793.out] at ho3 | (simp only [Int.reduceToNat] at ho3; rw [← Ny793.out] at ho3)); have HO795 := Aside0.mk (Kd.R_lower ho3 bls_); replace HB := hbs_ hb; clear hb ho3))
 go_loopg [3, 4] k (fun kq v3 v4 w' => ∃ (x3_1 : List Int) (x4_1 : Int), v4 = .int .i64 x4_1 ∧ Aside0 (spec_EndsOf.l0 kq l0 x3_1 x4_1 = some r) ∧ Aside0 (kq ≤ k) ∧ Aside0 (Kd.R (Kd.int .i64) 3 w' w.heap.size (fun _ => True) v3 x3_1) ∧ Aside0 (Below w.heap.size w w'))
 case atStart => exact ⟨(y793), (0), rf_, H', ⟨Nat.le_refl _⟩, ⟨by (with_reducible repeat (first | apply Kd.R_alloc | apply Kd.R_drewN | apply Kd.R_drew)); exact HO795.out⟩, ⟨bl_⟩⟩
 case round =>
  clear H'
  try clear c2
  try clear p2
  obtain ⟨x3_1, x4_1, rfl, HA, HK1, HO_3, HB⟩ := hrel
  cases gk with
  | zero => exact absurd HA.out (by simp [spec_EndsOf.l0])
  | succ k1 =>
   have H := HA.out
   clear HA
   simp only [spec_EndsOf.l0] at H
   by_cases c4 : x4_1 < (l0.length : Int)
   ·rw [if_pos c4] at H
    have c4b0 : decide (x4_1 < (l0.length : Int)) = true := decide_eq_true c4
    clear c4
    obtain ⟨c5b0, H⟩ := ifd_ H
    have HC6 := Aside0.mk H
    clear H
    have p796 : 0 ≤ (x4_1 : Int) := od_
    have q796 : x4_1 < (l0.length : Int) := od_
    obtain ⟨ad796, e796, hx796_0, hx796_1, hx796_2, hx796_3, hx796_4, hx796_5, hx796_6, hx796_7, hx796_8, hx796_9⟩ := at_T56 (Kd.C_below HR0.out HB.out) x4_1 p796 q796
    cases e796
    replace p796 := eq_true p796
    replace q796 := eq_true q796
    go_upto_region 6 with (fail)
    go_cut [32] (fun v32 wc => ∃ (kq : Nat) (x32_5 : Bool), v32 = .bool x32_5 ∧ Aside0 (spec_EndsOf.j1 kq l0 x3_1 x4_1 (wrap64 (((rd_T56 l0 x4_1).f5) + 1)) x32_5 = some r) ∧ Aside0 (kq ≤ k1) ∧ Aside0 (Kd.R (Kd.int .i64) 3 wc w.heap.size (fun _ => True) u3 x3_1) ∧ Aside0 (Below w.heap.size w wc))
    case first =>
     have H := HC6.out
     clear HC6
     obtain ⟨t798, A7, H⟩ := bindE_ H
     by_cases c8 : t798 = true
     ·subst c8
      replace H := ite_t_ H
      obtain ⟨t799, A9, H⟩ := bindE_ H
      have H' := Aside0.mk H
      clear H
      have p797 : 0 ≤ (x4_1 : Int) := od_
      have q797 : x4_1 < (l0.length : Int) := od_
      obtain ⟨ad797, e797, hx797_0, hx797_1, hx797_2, hx797_3, hx797_4, hx797_5, hx797_6, hx797_7, hx797_8, hx797_9⟩ := at_T56 HR0.out x4_1 p797 q797
      obtain rfl : ad796 = ad797 := (by injection e797)
      replace hx797_0 := cb_ HB hx797_0
      replace hx797_1 := cb_ HB hx797_1
      replace hx797_2 := cb_ HB hx797_2
      replace hx797_3 := cb_ HB hx797_3
      replace hx797_4 := cb_ HB hx797_4
      replace hx797_5 := cb_ HB hx797_5
      replace hx797_6 := cb_ HB hx797_6
      replace hx797_7 := cb_ HB hx797_7
      replace hx797_8 := cb_ HB hx797_8
      replace hx797_9 := cb_ HB hx797_9
      replace p797 := eq_true p797
      replace q797 := eq_true q797
      go_wp2_with (first | ((with_reducible refine gate_callee (f := 94) rfl ?_); refine goesC_ (some 26) Try.func94 #[.agg #[.int .i64 ((rd_T56 l0 x4_1).f0), .int .i64 ((rd_T56 l0 x4_1).f1.f0), .int .i64 ((rd_T56 l0 x4_1).f1.f1), .int .i64 ((rd_T56 l0 x4_1).f2), .int .i64 ((rd_T56 l0 x4_1).f3.f0), .int .i64 ((rd_T56 l0 x4_1).f3.f1), .int .i64 ((rd_T56 l0 x4_1).f4.f0), .int .i64 ((rd_T56 l0 x4_1).f4.f1), .int .i64 ((rd_T56 l0 x4_1).f5), .int .i64 ((rd_T56 l0 x4_1).f6)]] ?_; (with_reducible refine (spec_CredOk.calls k1 ((rd_T56 l0 x4_1).f0) ((rd_T56 l0 x4_1).f1.f0) ((rd_T56 l0 x4_1).f1.f1) ((rd_T56 l0 x4_1).f2) ((rd_T56 l0 x4_1).f3.f0) ((rd_T56 l0 x4_1).f3.f1) ((rd_T56 l0 x4_1).f4.f0) ((rd_T56 l0 x4_1).f4.f1) ((rd_T56 l0 x4_1).f5) ((rd_T56 l0 x4_1).f6) true _ A7.out).mono ?_); rintro e w10 ⟨rfl, hb⟩; refine ⟨_, rfl, ?_⟩; replace HO_3 := hob_ HO_3 hb; replace HB := hbs_ hb; clear hb; obtain ⟨Ao11, co11, eo11⟩ := Kd.R_slice HO_3.out; subst eo11) | (go_at_call 95; (with_reducible refine (spec_l08Has.calls k1 _ _ x3_1 (wrap64 (((rd_T56 l0 x4_1).f5) + 1)) t799 _ ?side1 ?side2 A9.out).mono ?_); (case side1 => repeat (first | exact (Kd.R_reads' HO_3.out).2.2 | (with_reducible refine Kd.C_alloc ?_ _) | (with_reducible refine Kd.C_drewN ?_ _) | (with_reducible refine Kd.C_drew ?_))); (case side2 => exact (Kd.R_reads' HO_3.out).2.1); rintro e w' ⟨rfl, ⟨nd, rfl⟩⟩))
      go_meet
      case rel => exact ⟨_, (t799), rf_, H', ⟨by have := HK1.out; first | omega | exact Nat.le_refl _⟩, ⟨by (with_reducible repeat (first | apply Kd.R_alloc | apply Kd.R_drewN | apply Kd.R_drew)); exact HO_3.out⟩, ⟨bl_⟩⟩
     ·replace c8 := Bool.eq_false_iff.mpr c8
      subst c8
      replace H := ite_f_ H
      have H' := Aside0.mk H
      clear H
      have p797 : 0 ≤ (x4_1 : Int) := od_
      have q797 : x4_1 < (l0.length : Int) := od_
      obtain ⟨ad797, e797, hx797_0, hx797_1, hx797_2, hx797_3, hx797_4, hx797_5, hx797_6, hx797_7, hx797_8, hx797_9⟩ := at_T56 HR0.out x4_1 p797 q797
      obtain rfl : ad796 = ad797 := (by injection e797)
      replace hx797_0 := cb_ HB hx797_0
      replace hx797_1 := cb_ HB hx797_1
      replace hx797_2 := cb_ HB hx797_2
      replace hx797_3 := cb_ HB hx797_3
      replace hx797_4 := cb_ HB hx797_4
      replace hx797_5 := cb_ HB hx797_5
      replace hx797_6 := cb_ HB hx797_6
      replace hx797_7 := cb_ HB hx797_7
      replace hx797_8 := cb_ HB hx797_8
      replace hx797_9 := cb_ HB hx797_9
      replace p797 := eq_true p797
      replace q797 := eq_true q797
      go_wp2_with (first | ((with_reducible refine gate_callee (f := 94) rfl ?_); refine goesC_ (some 26) Try.func94 #[.agg #[.int .i64 ((rd_T56 l0 x4_1).f0), .int .i64 ((rd_T56 l0 x4_1).f1.f0), .int .i64 ((rd_T56 l0 x4_1).f1.f1), .int .i64 ((rd_T56 l0 x4_1).f2), .int .i64 ((rd_T56 l0 x4_1).f3.f0), .int .i64 ((rd_T56 l0 x4_1).f3.f1), .int .i64 ((rd_T56 l0 x4_1).f4.f0), .int .i64 ((rd_T56 l0 x4_1).f4.f1), .int .i64 ((rd_T56 l0 x4_1).f5), .int .i64 ((rd_T56 l0 x4_1).f6)]] ?_; (with_reducible refine (spec_CredOk.calls k1 ((rd_T56 l0 x4_1).f0) ((rd_T56 l0 x4_1).f1.f0) ((rd_T56 l0 x4_1).f1.f1) ((rd_T56 l0 x4_1).f2) ((rd_T56 l0 x4_1).f3.f0) ((rd_T56 l0 x4_1).f3.f1) ((rd_T56 l0 x4_1).f4.f0) ((rd_T56 l0 x4_1).f4.f1) ((rd_T56 l0 x4_1).f5) ((rd_T56 l0 x4_1).f6) false _ A7.out).mono ?_); rintro e w12 ⟨rfl, hb⟩; refine ⟨_, rfl, ?_⟩; replace HO_3 := hob_ HO_3 hb; replace HB := hbs_ hb; clear hb))
      go_meet
      case rel => exact ⟨_, (true), rf_, H', ⟨by have := HK1.out; first | omega | exact Nat.le_refl _⟩, ⟨by (with_reducible repeat (first | apply Kd.R_alloc | apply Kd.R_drewN | apply Kd.R_drew)); exact HO_3.out⟩, ⟨bl_⟩⟩
    case rest =>
     clear HC6
     try clear c2
     try clear p2
     try clear c4
     try clear c4b0
     try clear c5
     try clear c5b0
     try clear p6
     try clear p7
     try clear q7
     try clear hx7
     try clear c8
     try clear c9
     try clear hx796_0
     try clear hx796_1
     try clear hx796_2
     try clear hx796_3
     try clear hx796_4
     try clear hx796_5
     try clear hx796_6
     try clear hx796_7
     try clear hx796_8
     try clear hx796_9
     try clear hx797_0
     try clear hx797_1
     try clear hx797_2
     try clear hx797_3
     try clear hx797_4
     try clear hx797_5
     try clear hx797_6
     try clear hx797_7
     try clear hx797_8
     try clear hx797_9
     try clear p2
     try clear p796
     try clear p797
     try clear q796
     try clear q797
     obtain ⟨kq, x32_5, rfl, HA, HJ5, HO_3, HB⟩ := hcut
     cases kq with
     | zero => exact absurd HA.out (by simp [spec_EndsOf.j1])
     | succ kj5 =>
      have H := HA.out
      clear HA
      simp only [spec_EndsOf.j1] at H
      by_cases c13 : x32_5 = true
      ·subst c13
       replace H := ite_t_ H
       have H' := Aside0.mk H
       clear H
       go_wp2
       go_roundg kj5
       case measure => have := HK1.out; have := HJ5.out; omega
       case rel => exact ⟨(x3_1), (wrap64 (x4_1 + 1)), rf_, H', ⟨by have := HK1.out; have := HJ5.out; omega⟩, ⟨by (with_reducible repeat (first | apply Kd.R_alloc | apply Kd.R_drewN | apply Kd.R_drew)); exact HO_3.out⟩, ⟨bl_⟩⟩
      ·replace c13 := Bool.eq_false_iff.mpr c13
       subst c13
       replace H := ite_f_ H
       obtain ⟨y800, hy800⟩ : ∃ y_ : List Int, y_ = (([] : List Int)) := ⟨_, rfl⟩
       replace H : (spec_EndsOf.l1 kj5 l0 x3_1 x4_1 (wrap64 (((rd_T56 l0 x4_1).f5) + 1)) y800 false 0) = some r := by first | (rw [hy800]; with_reducible exact H) | (have H2_ := (Option.bind_some _ _).symm.trans H; rw [hy800]; with_reducible exact H2_) | (have H2_ := (Option.bind_some _ _).symm.trans H; with_reducible exact H2_) | with_reducible exact H | (rw [hy800]; exact H) | exact H
       have Ny800 := Aside0.mk hy800
       clear hy800
       have H' := Aside0.mk H
       clear H
       go_wp2_with (first | ((with_reducible refine gate_dst (N := 33) rfl ?_); refine Kd.R_lit (Kd.int .i64) _ 3 ?hg (N := 33) ?hd (xs := ([] : List Int)) (inner := []) (ok := fun _ => True) (okp := fun _ => True) ?hr ?hp (fun _ hk => hk) trivial (Below.refl _ _) (Nat.le_refl _) (by simp) ?_; (case hd => rfl); (case hg => rfl); (case hr => first | (go_simp; done) | (go_simp; rfl)); (case hp => exact (Reps.none _ _)); intro v801 w14 ho15 hb hg_ hnew_; clear hg_ hnew_; (first | rw [← Ny800.out] at ho15 | (simp only [Int.reduceToNat] at ho15; rw [← Ny800.out] at ho15)); have HO802 := Aside0.mk (Kd.R_lower (Kd.R_new' ho15 (Kd.R_lt (by (with_reducible repeat (first | apply Kd.R_alloc | apply Kd.R_drewN | apply Kd.R_drew)); exact HO_3.out))) bls_); replace HO_3 := Aside0.mk (Kd.R_elder' (by (with_reducible repeat (first | apply Kd.R_alloc | apply Kd.R_drewN | apply Kd.R_drew)); exact HO_3.out) (Kd.R_base ho15) hb); replace HB := hbs_ hb; clear hb ho15))
       go_loopg [6, 7, 8] kj5 (fun kq v6 v7 v8 w' => ∃ (x6_3 : List Int) (x7_3 : Bool) (x8_3 : Int), v7 = .bool x7_3 ∧ v8 = .int .i64 x8_3 ∧ Aside0 (spec_EndsOf.l1 kq l0 x3_1 x4_1 (wrap64 (((rd_T56 l0 x4_1).f5) + 1)) x6_3 x7_3 x8_3 = some r) ∧ Aside0 (kq ≤ kj5) ∧ Aside0 (Kd.R (Kd.int .i64) 3 w' w.heap.size (fun k_ => some k_ ≠ (v6 : Value).ownBlock) u3 x3_1) ∧ Aside0 (Kd.R (Kd.int .i64) 3 w' w.heap.size (fun k_ => some k_ ≠ (u3 : Value).ownBlock) v6 x6_3) ∧ Aside0 (Below w.heap.size w w'))
       case atStart => exact ⟨(y800), (false), (0), rf_, rf_, H', ⟨Nat.le_refl _⟩, ⟨by (with_reducible repeat (first | apply Kd.R_alloc | apply Kd.R_drewN | apply Kd.R_drew)); exact Kd.R_mono HO_3.out (fun _ hk => hk.2)⟩, ⟨by (with_reducible repeat (first | apply Kd.R_alloc | apply Kd.R_drewN | apply Kd.R_drew)); exact Kd.R_mono HO802.out (fun _ hk => hk.2)⟩, ⟨bl_⟩⟩
       case round =>
        clear H'
        try clear c1
        try clear c2
        try clear p2
        try clear c4
        try clear c4b0
        try clear c5
        try clear c5b0
        try clear p6
        try clear p7
        try clear q7
        try clear hx7
        try clear c8
        try clear c9
        try clear c13
        try clear hx796_0
        try clear hx796_1
        try clear hx796_2
        try clear hx796_3
        try clear hx796_4
        try clear hx796_5
        try clear hx796_6
        try clear hx796_7
        try clear hx796_8
        try clear hx796_9
        try clear hx797_0
        try clear hx797_1
        try clear hx797_2
        try clear hx797_3
        try clear hx797_4
        try clear hx797_5
        try clear hx797_6
        try clear hx797_7
        try clear hx797_8
        try clear hx797_9
        try clear p2
        try clear p6
        try clear p7
        try clear p796
        try clear p797
        try clear q7
        try clear q796
        try clear q797
        obtain ⟨x6_3, x7_3, x8_3, rfl, rfl, HA, HK3, HO_3, HO_6, HB⟩ := hrel
        cases gk with
        | zero => exact absurd HA.out (by simp [spec_EndsOf.l1])
        | succ k3 =>
         have H := HA.out
         clear HA
         simp only [spec_EndsOf.l1] at H
         by_cases c16 : x8_3 < (x3_1.length : Int)
         ·rw [if_pos c16] at H
          have c16b0 : decide (x8_3 < (x3_1.length : Int)) = true := decide_eq_true c16
          clear c16
          by_cases c17 : x7_3 = true
          ·subst c17
           replace H := ite_t_ H
           obtain ⟨c18b0, H⟩ := ifd_ H
           obtain ⟨c19, H⟩ := ifn_ H
           have LMc19 := Aside0.mk c19
           clear c19
           obtain ⟨y804, hy804⟩ : ∃ y_ : List Int, y_ = (x6_3 ++ [rd x3_1 x8_3]) := ⟨_, rfl⟩
           replace H : (spec_EndsOf.l1 k3 l0 x3_1 x4_1 (wrap64 (((rd_T56 l0 x4_1).f5) + 1)) y804 true (wrap64 (x8_3 + 1))) = some r := by first | (rw [hy804]; with_reducible exact H) | (have H2_ := (Option.bind_some _ _).symm.trans H; rw [hy804]; with_reducible exact H2_) | (have H2_ := (Option.bind_some _ _).symm.trans H; with_reducible exact H2_) | with_reducible exact H | (rw [hy804]; exact H) | exact H
           have Ny804 := Aside0.mk hy804
           clear hy804
           have H' := Aside0.mk H
           clear H
           obtain ⟨Ao20, co20, eo20⟩ := Kd.R_slice HO_3.out
           subst eo20
           have p803 : 0 ≤ (x8_3 : Int) := od_
           have q803 : x8_3 < (x3_1.length : Int) := od_
           obtain ⟨ad803, e803, hx803_0⟩ := Kd.at_int (Kd.R_reads' HO_3.out).2.2 x8_3 p803 q803
           cases e803
           replace p803 := eq_true p803
           replace q803 := eq_true q803
           go_wp2_with (first | ((with_reducible refine gate_builtin (b := .append) (xs := #[.tmp 54, .tmp 59]) rfl ?_); at_builtin; refine Kd.R_append (Kd.int .i64) (w0 := w) w.heap.size rfl (.tmp 54) (.tmp 59) 39 3 (.int .i64 0) 8 rfl Try.underlying39 info3 rfl (by decide) (by omega) u6 x6_3 (rd x3_1 x8_3) [.int .i64 (rd x3_1 x8_3)] (fun k_ => some k_ ≠ (.slice (some ad803) x3_1.length co20 : Value).ownBlock) (fun _ => False) rfl rfl ?aP (fun _ hk => hk.elim) ?aF ?aO ?aB ?aS ?aL ?_; (case aP => exact rfl); (case aB => exact bl_); (case aF => exact (fun k_ hk => Kd.fresh' (Kd.R_lt (by (with_reducible repeat (first | apply Kd.R_alloc | apply Kd.R_drewN | apply Kd.R_drew)); exact HO_3.out)) k_ hk)); (case aO => exact (by (with_reducible repeat (first | apply Kd.R_alloc | apply Kd.R_drewN | apply Kd.R_drew)); exact HO_6.out)); (case aS => exact bls_); (case aL => have := LMc19.out; omega); intro v805 w21 ho hb hg hat; rw [← Ny804.out] at ho; replace HO_3 := Aside0.mk (Kd.R_after (ok := (fun _ => True)) (by (with_reducible repeat (first | apply Kd.R_alloc | apply Kd.R_drewN | apply Kd.R_drew)); exact Kd.R_mono HO_3.out (fun _ hk => ⟨trivial, hk⟩)) hg hat); replace HB := Aside0.mk (hb); have HO806 := Aside0.mk (ho); clear HO_6; clear ho hb hg hat))
           go_roundg k3
           case measure => have := HK1.out; have := HJ5.out; have := HK3.out; omega
           case rel => exact ⟨(y804), (true), (wrap64 (x8_3 + 1)), rf_, rf_, H', ⟨by have := HK1.out; have := HJ5.out; have := HK3.out; omega⟩, ⟨by (with_reducible repeat (first | apply Kd.R_alloc | apply Kd.R_drewN | apply Kd.R_drew)); exact Kd.R_mono HO_3.out (fun _ hk => hk.2)⟩, ⟨by (with_reducible repeat (first | apply Kd.R_alloc | apply Kd.R_drewN | apply Kd.R_drew)); exact HO806.out⟩, ⟨bl_⟩⟩
          ·replace c17 := Bool.eq_false_iff.mpr c17
           subst c17
           replace H := ite_f_ H
           obtain ⟨c22b0, H⟩ := ifd_ H
           by_cases c23 : (wrap64 (((rd_T56 l0 x4_1).f5) + 1)) < (rd x3_1 x8_3)
           ·rw [if_pos c23] at H
            have c23b0 : decide ((wrap64 (((rd_T56 l0 x4_1).f5) + 1)) < (rd x3_1 x8_3)) = true := decide_eq_true c23
            clear c23
            obtain ⟨c24, H⟩ := ifn_ H
            have LMc24 := Aside0.mk c24
            clear c24
            obtain ⟨y808, hy808⟩ : ∃ y_ : List Int, y_ = (x6_3 ++ [(wrap64 (((rd_T56 l0 x4_1).f5) + 1))]) := ⟨_, rfl⟩
            replace H : (if y808.length < 17592186044416 then (spec_EndsOf.l1 k3 l0 x3_1 x4_1 (wrap64 (((rd_T56 l0 x4_1).f5) + 1)) (y808 ++ [rd x3_1 x8_3]) true (wrap64 (x8_3 + 1))) else (none)) = some r := by first | (rw [hy808]; with_reducible exact H) | (have H2_ := (Option.bind_some _ _).symm.trans H; rw [hy808]; with_reducible exact H2_) | (have H2_ := (Option.bind_some _ _).symm.trans H; with_reducible exact H2_) | with_reducible exact H | (rw [hy808]; exact H) | exact H
            have Ny808 := Aside0.mk hy808
            clear hy808
            obtain ⟨c25, H⟩ := ifn_ H
            have LMc25 := Aside0.mk c25
            clear c25
            obtain ⟨y812, hy812⟩ : ∃ y_ : List Int, y_ = (y808 ++ [rd x3_1 x8_3]) := ⟨_, rfl⟩
            replace H : (spec_EndsOf.l1 k3 l0 x3_1 x4_1 (wrap64 (((rd_T56 l0 x4_1).f5) + 1)) y812 true (wrap64 (x8_3 + 1))) = some r := by first | (rw [hy812]; with_reducible exact H) | (have H2_ := (Option.bind_some _ _).symm.trans H; rw [hy812]; with_reducible exact H2_) | (have H2_ := (Option.bind_some _ _).symm.trans H; with_reducible exact H2_) | with_reducible exact H | (rw [hy812]; exact H) | exact H
            have Ny812 := Aside0.mk hy812
            clear hy812
            have H' := Aside0.mk H
            clear H
            obtain ⟨Ao26, co26, eo26⟩ := Kd.R_slice HO_3.out
            subst eo26
            have p807 : 0 ≤ (x8_3 : Int) := od_
            have q807 : x8_3 < (x3_1.length : Int) := od_
            obtain ⟨ad807, e807, hx807_0⟩ := Kd.at_int (Kd.R_reads' HO_3.out).2.2 x8_3 p807 q807
            cases e807
            replace p807 := eq_true p807
            replace q807 := eq_true q807
            go_wp2_with (first | ((with_reducible refine gate_builtin (b := .append) (xs := #[.tmp 50, .tmp 52]) rfl ?_); at_builtin; refine Kd.R_append (Kd.int .i64) (w0 := w) w.heap.size rfl (.tmp 50) (.tmp 52) 39 3 (.int .i64 0) 8 rfl Try.underlying39 info3 rfl (by decide) (by omega) u6 x6_3 (wrap64 (((rd_T56 l0 x4_1).f5) + 1)) [.int .i64 (wrap64 (((rd_T56 l0 x4_1).f5) + 1))] (fun k_ => some k_ ≠ (.slice (some ad807) x3_1.length co26 : Value).ownBlock) (fun _ => False) rfl rfl ?aP (fun _ hk => hk.elim) ?aF ?aO ?aB ?aS ?aL ?_; (case aP => exact rfl); (case aB => exact bl_); (case aF => exact (fun k_ hk => Kd.fresh' (Kd.R_lt (by (with_reducible repeat (first | apply Kd.R_alloc | apply Kd.R_drewN | apply Kd.R_drew)); exact HO_3.out)) k_ hk)); (case aO => exact (by (with_reducible repeat (first | apply Kd.R_alloc | apply Kd.R_drewN | apply Kd.R_drew)); exact HO_6.out)); (case aS => exact bls_); (case aL => have := LMc24.out; omega); intro v809 w27 ho hb hg hat; rw [← Ny808.out] at ho; replace HO_3 := Aside0.mk (Kd.R_after (ok := (fun _ => True)) (by (with_reducible repeat (first | apply Kd.R_alloc | apply Kd.R_drewN | apply Kd.R_drew)); exact Kd.R_mono HO_3.out (fun _ hk => ⟨trivial, hk⟩)) hg hat); replace HB := Aside0.mk (hb); have HO810 := Aside0.mk (ho); clear HO_6; clear ho hb hg hat; have p811 : 0 ≤ (x8_3 : Int) := od_; have q811 : x8_3 < (x3_1.length : Int) := od_; obtain ⟨ad811, e811, hx811_0⟩ := Kd.at_int (Kd.R_reads' HO_3.out).2.2 x8_3 p811 q811; obtain rfl : ad807 = ad811 := (by injection e811); replace p811 := eq_true p811; replace q811 := eq_true q811) | ((with_reducible refine gate_builtin (b := .append) (xs := #[.tmp 54, .tmp 59]) rfl ?_); at_builtin; refine Kd.R_append (Kd.int .i64) (w0 := w) w.heap.size rfl (.tmp 54) (.tmp 59) 39 3 (.int .i64 0) 8 rfl Try.underlying39 info3 rfl (by decide) (by omega) v809 y808 (rd x3_1 x8_3) [.int .i64 (rd x3_1 x8_3)] (fun k_ => some k_ ≠ (.slice (some ad807) x3_1.length co26 : Value).ownBlock) (fun _ => False) rfl rfl ?aP (fun _ hk => hk.elim) ?aF ?aO ?aB ?aS ?aL ?_; (case aP => exact rfl); (case aB => exact bl_); (case aF => exact (fun k_ hk => Kd.fresh' (Kd.R_lt (by (with_reducible repeat (first | apply Kd.R_alloc | apply Kd.R_drewN | apply Kd.R_drew)); exact HO_3.out)) k_ hk)); (case aO => exact (by (with_reducible repeat (first | apply Kd.R_alloc | apply Kd.R_drewN | apply Kd.R_drew)); exact HO810.out)); (case aS => exact bls_); (case aL => have := LMc25.out; omega); intro v813 w28 ho hb hg hat; rw [← Ny812.out] at ho; replace HO_3 := Aside0.mk (Kd.R_after (ok := (fun _ => True)) (by (with_reducible repeat (first | apply Kd.R_alloc | apply Kd.R_drewN | apply Kd.R_drew)); exact HO_3.out) hg hat); replace HB := Aside0.mk (hb); have HO814 := Aside0.mk (ho); clear HO810; clear ho hb hg hat))
            go_roundg k3
            case measure => have := HK1.out; have := HJ5.out; have := HK3.out; omega
            case rel => exact ⟨(y812), (true), (wrap64 (x8_3 + 1)), rf_, rf_, H', ⟨by have := HK1.out; have := HJ5.out; have := HK3.out; omega⟩, ⟨by (with_reducible repeat (first | apply Kd.R_alloc | apply Kd.R_drewN | apply Kd.R_drew)); exact Kd.R_mono HO_3.out (fun _ hk => hk.2)⟩, ⟨by (with_reducible repeat (first | apply Kd.R_alloc | apply Kd.R_drewN | apply Kd.R_drew)); exact HO814.out⟩, ⟨bl_⟩⟩
           ·rw [if_neg c23] at H
            have c23b0 : decide ((wrap64 (((rd_T56 l0 x4_1).f5) + 1)) < (rd x3_1 x8_3)) = false := decide_eq_false c23
            clear c23
            obtain ⟨c29, H⟩ := ifn_ H
            have LMc29 := Aside0.mk c29
            clear c29
            obtain ⟨y816, hy816⟩ : ∃ y_ : List Int, y_ = (x6_3 ++ [rd x3_1 x8_3]) := ⟨_, rfl⟩
            replace H : (spec_EndsOf.l1 k3 l0 x3_1 x4_1 (wrap64 (((rd_T56 l0 x4_1).f5) + 1)) y816 false (wrap64 (x8_3 + 1))) = some r := by first | (rw [hy816]; with_reducible exact H) | (have H2_ := (Option.bind_some _ _).symm.trans H; rw [hy816]; with_reducible exact H2_) | (have H2_ := (Option.bind_some _ _).symm.trans H; with_reducible exact H2_) | with_reducible exact H | (rw [hy816]; exact H) | exact H
            have Ny816 := Aside0.mk hy816
            clear hy816
            have H' := Aside0.mk H
            clear H
            obtain ⟨Ao30, co30, eo30⟩ := Kd.R_slice HO_3.out
            subst eo30
            have p807 : 0 ≤ (x8_3 : Int) := od_
            have q807 : x8_3 < (x3_1.length : Int) := od_
            obtain ⟨ad807, e807, hx807_0⟩ := Kd.at_int (Kd.R_reads' HO_3.out).2.2 x8_3 p807 q807
            cases e807
            replace p807 := eq_true p807
            replace q807 := eq_true q807
            have p815 : 0 ≤ (x8_3 : Int) := od_
            have q815 : x8_3 < (x3_1.length : Int) := od_
            obtain ⟨ad815, e815, hx815_0⟩ := Kd.at_int (Kd.R_reads' HO_3.out).2.2 x8_3 p815 q815
            obtain rfl : ad807 = ad815 := (by injection e815)
            replace p815 := eq_true p815
            replace q815 := eq_true q815
            go_wp2_with (first | ((with_reducible refine gate_builtin (b := .append) (xs := #[.tmp 54, .tmp 59]) rfl ?_); at_builtin; refine Kd.R_append (Kd.int .i64) (w0 := w) w.heap.size rfl (.tmp 54) (.tmp 59) 39 3 (.int .i64 0) 8 rfl Try.underlying39 info3 rfl (by decide) (by omega) u6 x6_3 (rd x3_1 x8_3) [.int .i64 (rd x3_1 x8_3)] (fun k_ => some k_ ≠ (.slice (some ad807) x3_1.length co30 : Value).ownBlock) (fun _ => False) rfl rfl ?aP (fun _ hk => hk.elim) ?aF ?aO ?aB ?aS ?aL ?_; (case aP => exact rfl); (case aB => exact bl_); (case aF => exact (fun k_ hk => Kd.fresh' (Kd.R_lt (by (with_reducible repeat (first | apply Kd.R_alloc | apply Kd.R_drewN | apply Kd.R_drew)); exact HO_3.out)) k_ hk)); (case aO => exact (by (with_reducible repeat (first | apply Kd.R_alloc | apply Kd.R_drewN | apply Kd.R_drew)); exact HO_6.out)); (case aS => exact bls_); (case aL => have := LMc29.out; omega); intro v817 w31 ho hb hg hat; rw [← Ny816.out] at ho; replace HO_3 := Aside0.mk (Kd.R_after (ok := (fun _ => True)) (by (with_reducible repeat (first | apply Kd.R_alloc | apply Kd.R_drewN | apply Kd.R_drew)); exact Kd.R_mono HO_3.out (fun _ hk => ⟨trivial, hk⟩)) hg hat); replace HB := Aside0.mk (hb); have HO818 := Aside0.mk (ho); clear HO_6; clear ho hb hg hat))
            go_roundg k3
            case measure => have := HK1.out; have := HJ5.out; have := HK3.out; omega
            case rel => exact ⟨(y816), (false), (wrap64 (x8_3 + 1)), rf_, rf_, H', ⟨by have := HK1.out; have := HJ5.out; have := HK3.out; omega⟩, ⟨by (with_reducible repeat (first | apply Kd.R_alloc | apply Kd.R_drewN | apply Kd.R_drew)); exact Kd.R_mono HO_3.out (fun _ hk => hk.2)⟩, ⟨by (with_reducible repeat (first | apply Kd.R_alloc | apply Kd.R_drewN | apply Kd.R_drew)); exact HO818.out⟩, ⟨bl_⟩⟩
         ·rw [if_neg c16] at H
          have c16b0 : decide (x8_3 < (x3_1.length : Int)) = false := decide_eq_false c16
          clear c16
          by_cases c32 : x7_3 = true
          ·subst c32
           replace H := ite_t_ H
           have H' := Aside0.mk H
           clear H
           obtain ⟨Ao33, co33, eo33⟩ := Kd.R_slice HO_3.out
           subst eo33
           go_wp2
           go_roundg k3
           case measure => have := HK1.out; have := HJ5.out; have := HK3.out; omega
           case rel => exact ⟨(x6_3), (wrap64 (x4_1 + 1)), rf_, H', ⟨by have := HK1.out; have := HJ5.out; have := HK3.out; omega⟩, ⟨by (with_reducible repeat (first | apply Kd.R_alloc | apply Kd.R_drewN | apply Kd.R_drew)); exact Kd.R_mono HO_6.out (fun _ hk => trivial)⟩, ⟨bl_⟩⟩
          ·replace c32 := Bool.eq_false_iff.mpr c32
           subst c32
           replace H := ite_f_ H
           obtain ⟨c34, H⟩ := ifn_ H
           have LMc34 := Aside0.mk c34
           clear c34
           obtain ⟨y819, hy819⟩ : ∃ y_ : List Int, y_ = (x6_3 ++ [(wrap64 (((rd_T56 l0 x4_1).f5) + 1))]) := ⟨_, rfl⟩
           replace H : (spec_EndsOf.l0 k3 l0 y819 (wrap64 (x4_1 + 1))) = some r := by first | (rw [hy819]; with_reducible exact H) | (have H2_ := (Option.bind_some _ _).symm.trans H; rw [hy819]; with_reducible exact H2_) | (have H2_ := (Option.bind_some _ _).symm.trans H; with_reducible exact H2_) | with_reducible exact H | (rw [hy819]; exact H) | exact H
           have Ny819 := Aside0.mk hy819
           clear hy819
           have H' := Aside0.mk H
           clear H
           obtain ⟨Ao35, co35, eo35⟩ := Kd.R_slice HO_3.out
           subst eo35
           go_wp2_with (first | ((with_reducible refine gate_builtin (b := .append) (xs := #[.tmp 63, .tmp 65]) rfl ?_); at_builtin; refine Kd.R_append (Kd.int .i64) (w0 := w) w.heap.size rfl (.tmp 63) (.tmp 65) 39 3 (.int .i64 0) 8 rfl Try.underlying39 info3 rfl (by decide) (by omega) u6 x6_3 (wrap64 (((rd_T56 l0 x4_1).f5) + 1)) [.int .i64 (wrap64 (((rd_T56 l0 x4_1).f5) + 1))] (fun k_ => some k_ ≠ (.slice Ao35 x3_1.length co35 : Value).ownBlock) (fun _ => False) rfl rfl ?aP (fun _ hk => hk.elim) ?aF ?aO ?aB ?aS ?aL ?_; (case aP => exact rfl); (case aB => exact bl_); (case aF => exact (fun k_ hk => Kd.fresh' (Kd.R_lt (by (with_reducible repeat (first | apply Kd.R_alloc | apply Kd.R_drewN | apply Kd.R_drew)); exact HO_3.out)) k_ hk)); (case aO => exact (by (with_reducible repeat (first | apply Kd.R_alloc | apply Kd.R_drewN | apply Kd.R_drew)); exact HO_6.out)); (case aS => exact bls_); (case aL => have := LMc34.out; omega); intro v820 w36 ho hb hg hat; rw [← Ny819.out] at ho; replace HO_3 := Aside0.mk (Kd.R_after (ok := (fun _ => True)) (by (with_reducible repeat (first | apply Kd.R_alloc | apply Kd.R_drewN | apply Kd.R_drew)); exact Kd.R_mono HO_3.out (fun _ hk => ⟨trivial, hk⟩)) hg hat); replace HB := Aside0.mk (hb); have HO821 := Aside0.mk (ho); clear HO_6; clear ho hb hg hat))
           go_roundg k3
           case measure => have := HK1.out; have := HJ5.out; have := HK3.out; omega
           case rel => exact ⟨(y819), (wrap64 (x4_1 + 1)), rf_, H', ⟨by have := HK1.out; have := HJ5.out; have := HK3.out; omega⟩, ⟨by (with_reducible repeat (first | apply Kd.R_alloc | apply Kd.R_drewN | apply Kd.R_drew)); exact Kd.R_mono HO821.out (fun _ hk => trivial)⟩, ⟨bl_⟩⟩
   ·rw [if_neg c4] at H
    have c4b0 : decide (x4_1 < (l0.length : Int)) = false := decide_eq_false c4
    clear c4
    obtain rfl := Option.some.inj H
    go_wp2
    go_ret
    exact ⟨_, eq_, by (with_reducible repeat (first | apply Kd.R_alloc | apply Kd.R_drewN | apply Kd.R_drew)); exact HO_3.out, bl_⟩
def slices_Compact_int_int.f (l0 : List (Int)) : Option (List (Int)) := if l0.length < 4611686018427387904 then some (Lib.compact l0) else none
theorem slices_Compact_int_int.len (l : List Int) : (Lib.compact l).length ≤ l.length := by
 unfold Lib.compact Lib.compactUpTo
 rw [List.length_map]
 exact Nat.le_trans (List.length_filter_le _ _) (by simp)
open Go.Sort in
theorem slices_Compact_int_int.calls (P0_ : Nat → Prop) (u9000_ : Value) (l0 : List (Int)) (r : List (Int)) (w0 w : World) (hB : Below w0.heap.size w0 w) (ho0 : Kd.R (Kd.int .i64) 3 w w0.heap.size P0_ u9000_ l0) (h : slices_Compact_int_int.f l0 = some r) :
  Calls Try.prog 98 #[u9000_] w fun e w' => ∃ v0_ : Value, e = .returned (v0_) ∧ Kd.R (Kd.int .i64) 3 w' w0.heap.size (fun k_ => (P0_ k_ ∨ w.heap.size ≤ k_)) v0_ r ∧ Below w0.heap.size w0 w' ∧ Kept w w' (fun k_ => P0_ k_) := by
 unfold slices_Compact_int_int.f at h
 by_cases hl : l0.length < 4611686018427387904
 ·rw [if_pos hl] at h
  obtain rfl := Option.some.inj h
  have hml := slices_Compact_int_int.len l0
  have hown := Kd.own_of_R (enc := Value.int .i64) ho0
  obtain ⟨e1, hf⟩ := hown
  rcases hf with ⟨rfl, hn⟩ | ⟨g, cap, cur, rfl, hg, hb, hn, hc, hs, ht⟩
  ·have e0 : l0 = [] := List.length_eq_zero_iff.1 hn
   subst e0
   have hcon := Any.slices_Compact_int_empty Try.lays20 none 0 w
   change Calls Try.prog 98 _ _ _ at hcon
   refine hcon.mono ?_
   rintro e w' ⟨rfl, rfl⟩
   have e1 : Lib.compact ([] : List Int) = [] := rfl
   rw [e1]
   exact ⟨_, rfl, Kd.R_nil _ _ _ _ _, hB, Kept.refl _ _⟩
  ·have hcon := Any.slices_Compact_int Try.lays20 g 0 cap l0 w (holds_of_blockI hb (by rw [Nat.mul_one] at ht; exact ht)) (by omega) hn
   change Calls Try.prog 98 _ _ _ at hcon
   refine hcon.mono ?_
   rintro e w' ⟨rfl, n, rfl⟩
   obtain ⟨ts, hts⟩ : ∃ ts : List Int, ts = Lib.compact l0 ++ List.replicate (l0.length - (Lib.compact l0).length) 0 := ⟨_, rfl⟩
   rw [← hts]
   have htl : ts.length = l0.length := by rw [hts]; simp; omega
   have hg0 : w.grownBy (putRow (Value.int .i64) (Sort.ahead w n) g 0 ts.toArray) (some g) := by
    have := grownBy_sortedI (w := w) (g := g) (n := n) (os := #[]) ts.toArray
    rw [grow_empty] at this; exact this
   have hh : (putRow (Value.int .i64) (Sort.ahead w n) g 0 ts.toArray).heap[g]? = some (.cells (putCells (Value.int .i64) 0 ts.toArray cur) 3 (0, 0)) := by
    have := heap_sortedI (w := w) (g := g) (n := n) (os := #[]) ts.toArray hb
    rw [grow_empty] at this; exact this
   refine ⟨_, rfl, ?_, hB.grown hg0 hB.size (fun k hk => by injection hk with hk; omega), Kept.of_grown hg0 (Kept.refl _ _) (fun k hk => .inl (ho0.1 k hk))⟩
   have htake := take_putCellsI cur ts (by omega)
   refine Kd.R_of_own ⟨by simp [encs], .inr ⟨g, cap, _, rfl, hg, hh, by omega, hc, by simp [putCells, hs], ?_⟩⟩ (fun k hk => .inl (ho0.1 k hk))
   have h2 := congrArg (List.take (Lib.compact l0).length) htake
   rw [List.take_take, Nat.min_eq_left (by omega)] at h2
   rw [Nat.mul_one, h2, ← List.map_take, hts, List.take_left]
   rfl
 ·rw [if_neg hl] at h
  exact absurd h (by simp)
def impl_EndsOf.l0 : Nat → List Int → List (S56) → Int → Int → Option (List Int)
 | 0, _, _, _, _ => none
 | k + 1, x3, x7, x8, x9 => if x9 < x8 then (if 0 ≤ x9 then (if x9 < (x7.length : Int) then ((impl_CredOk.f k ((rd_T56 x7 x9).f0) ((rd_T56 x7 x9).f1.f0) ((rd_T56 x7 x9).f1.f1) ((rd_T56 x7 x9).f2) ((rd_T56 x7 x9).f3.f0) ((rd_T56 x7 x9).f3.f1) ((rd_T56 x7 x9).f4.f0) ((rd_T56 x7 x9).f4.f1) ((rd_T56 x7 x9).f5) ((rd_T56 x7 x9).f6)).bind fun t827 => (if t827 = true then (if x3.length < 17592186044416 then (impl_EndsOf.l0 k (x3 ++ [wrap64 (((rd_T56 x7 x9).f5) + 1)]) x7 x8 (wrap64 (x9 + 1))) else (none)) else (impl_EndsOf.l0 k x3 x7 x8 (wrap64 (x9 + 1))))) else (none)) else (none)) else ((slices_Sort_int_int.f x3).bind fun t831 => ((slices_Compact_int_int.f t831).bind fun t832 => (some t832)))
def impl_EndsOf.f (k : Nat) (l0 : List (S56)) : Option (List Int) := impl_EndsOf.l0 k (([] : List Int)) l0 (l0.length : Int) 0
set_option maxHeartbeats 8000000 in
set_option maxRecDepth 100000 in
theorem impl_EndsOf.calls (k : Nat) (A0 : Option Addr) (c0 : Nat) (l0 : List (S56)) (r : List Int) (w : World) (hr0 : Kd.C k56 w A0 l0.length l0) (hc0 : l0.length ≤ c0) (h : impl_EndsOf.f k l0 = some r) :
  Calls Try.prog 30 #[.slice A0 l0.length c0] w fun e w' => ∃ v0_ : Value, e = .returned (v0_) ∧ Kd.R (Kd.int .i64) 3 w' w.heap.size (fun _ => True) v0_ r ∧ Below w.heap.size w w' := by
 have hu56 := Try.underlying56
 have HR0 := Aside0.mk hr0
 have HC0 := Aside0.mk hc0
 clear hr0 hc0
 have HB := Aside0.mk (Below.refl w.heap.size w)
 have H : (impl_EndsOf.l0 k (([] : List Int)) l0 (l0.length : Int) 0) = some r := h
 clear h
 obtain ⟨y822, hy822⟩ : ∃ y_ : List Int, y_ = (([] : List Int)) := ⟨_, rfl⟩
 replace H : (impl_EndsOf.l0 k y822 l0 (l0.length : Int) 0) = some r := by first | (rw [hy822]; with_reducible exact H) | (have H2_ := (Option.bind_some _ _).symm.trans H; rw [hy822]; with_reducible exact H2_) | (have H2_ := (Option.bind_some _ _).symm.trans H; with_reducible exact H2_) | with_reducible exact H | (rw [hy822]; exact H) | exact H
 have Ny822 := Aside0.mk hy822
 clear hy822
 have H' := Aside0.mk H
 clear H
 go_enter Try.func30, Try.ntmps30
 go_wp2_with (first | ((with_reducible refine gate_dst (N := 6) rfl ?_); refine Kd.R_lit (Kd.int .i64) _ 3 ?hg (N := 6) ?hd (xs := ([] : List Int)) (inner := []) (ok := fun _ => True) (okp := fun _ => True) ?hr ?hp (fun _ hk => hk) trivial (Below.refl _ _) (Nat.le_refl _) (by simp) ?_; (case hd => rfl); (case hg => rfl); (case hr => first | (go_simp; done) | (go_simp; rfl)); (case hp => exact (Reps.none _ _)); intro v823 w2 ho3 hb hg_ hnew_; clear hg_ hnew_; (first | rw [← Ny822.out] at ho3 | (simp only [Int.reduceToNat] at ho3; rw [← Ny822.out] at ho3)); have HO824 := Aside0.mk (Kd.R_lower ho3 bls_); replace HB := hbs_ hb; clear hb ho3))
 go_loopg [3, 9] k (fun kq v3 v9 w' => ∃ (x3_1 : List Int) (x9_1 : Int), v9 = .int .i64 x9_1 ∧ Aside0 (impl_EndsOf.l0 kq x3_1 l0 (l0.length : Int) x9_1 = some r) ∧ Aside0 (kq ≤ k) ∧ Aside0 (Kd.R (Kd.int .i64) 3 w' w.heap.size (fun _ => True) v3 x3_1) ∧ Aside0 (Below w.heap.size w w'))
 case atStart => exact ⟨(y822), (0), rf_, H', ⟨Nat.le_refl _⟩, ⟨by (with_reducible repeat (first | apply Kd.R_alloc | apply Kd.R_drewN | apply Kd.R_drew)); exact HO824.out⟩, ⟨bl_⟩⟩
 case round =>
  clear H'
  try clear p2
  try clear c3
  obtain ⟨x3_1, x9_1, rfl, HA, HK1, HO_3, HB⟩ := hrel
  cases gk with
  | zero => exact absurd HA.out (by simp [impl_EndsOf.l0])
  | succ k1 =>
   have H := HA.out
   clear HA
   simp only [impl_EndsOf.l0] at H
   by_cases c4 : x9_1 < (l0.length : Int)
   ·rw [if_pos c4] at H
    have c4b0 : decide (x9_1 < (l0.length : Int)) = true := decide_eq_true c4
    clear c4
    obtain ⟨c5b0, H⟩ := ifd_ H
    obtain ⟨c6b0, H⟩ := ifd_ H
    obtain ⟨t827, A7, H⟩ := bindE_ H
    by_cases c8 : t827 = true
    ·subst c8
     replace H := ite_t_ H
     obtain ⟨c9, H⟩ := ifn_ H
     have LMc9 := Aside0.mk c9
     clear c9
     obtain ⟨y828, hy828⟩ : ∃ y_ : List Int, y_ = (x3_1 ++ [wrap64 (((rd_T56 l0 x9_1).f5) + 1)]) := ⟨_, rfl⟩
     replace H : (impl_EndsOf.l0 k1 y828 l0 (l0.length : Int) (wrap64 (x9_1 + 1))) = some r := by first | (rw [hy828]; with_reducible exact H) | (have H2_ := (Option.bind_some _ _).symm.trans H; rw [hy828]; with_reducible exact H2_) | (have H2_ := (Option.bind_some _ _).symm.trans H; with_reducible exact H2_) | with_reducible exact H | (rw [hy828]; exact H) | exact H
     have Ny828 := Aside0.mk hy828
     clear hy828
     have H' := Aside0.mk H
     clear H
     have p825 : 0 ≤ (x9_1 : Int) := od_
     have q825 : x9_1 < (l0.length : Int) := od_
     obtain ⟨ad825, e825, hx825_0, hx825_1, hx825_2, hx825_3, hx825_4, hx825_5, hx825_6, hx825_7, hx825_8, hx825_9⟩ := at_T56 (Kd.C_below HR0.out HB.out) x9_1 p825 q825
     cases e825
     replace p825 := eq_true p825
     replace q825 := eq_true q825
     go_wp2_with (first | ((with_reducible refine gate_dst (N := 5) rfl ?_); refine box_event ?hg (N := 5) ?hd (cs := #[.int .i64 0, .int .i64 0, .int .i64 0, .int .i64 0, .int .i64 0, .int .i64 0, .int .i64 0, .int .i64 0, .int .i64 0, .int .i64 0]) (t := 56) ?hr ?_; (case hd => rfl); (case hg => rfl); (case hr => first | (go_simp; done) | (go_simp; rfl)); intro gb826 hg w10 hbox hb; replace HO_3 := hob_ HO_3 hb; have BK826 := Aside0.mk (hbox); have GW826 := gs_ hg; have GE826 := gs_ hg; replace HB := hbs_ hb; clear hb hbox hg; have hcz11 := blk_cell BK826.out; have hfz11 := blk_frozen BK826.out) | ((with_reducible refine gate_callee (f := 96) rfl ?_); refine goesC_ (some 14) Try.func96 #[.agg #[.int .i64 ((rd_T56 l0 x9_1).f0), .int .i64 ((rd_T56 l0 x9_1).f1.f0), .int .i64 ((rd_T56 l0 x9_1).f1.f1), .int .i64 ((rd_T56 l0 x9_1).f2), .int .i64 ((rd_T56 l0 x9_1).f3.f0), .int .i64 ((rd_T56 l0 x9_1).f3.f1), .int .i64 ((rd_T56 l0 x9_1).f4.f0), .int .i64 ((rd_T56 l0 x9_1).f4.f1), .int .i64 ((rd_T56 l0 x9_1).f5), .int .i64 ((rd_T56 l0 x9_1).f6)]] ?_; (with_reducible refine (impl_CredOk.calls k1 ((rd_T56 l0 x9_1).f0) ((rd_T56 l0 x9_1).f1.f0) ((rd_T56 l0 x9_1).f1.f1) ((rd_T56 l0 x9_1).f2) ((rd_T56 l0 x9_1).f3.f0) ((rd_T56 l0 x9_1).f3.f1) ((rd_T56 l0 x9_1).f4.f0) ((rd_T56 l0 x9_1).f4.f1) ((rd_T56 l0 x9_1).f5) ((rd_T56 l0 x9_1).f6) true _ A7.out).mono ?_); rintro e w12 ⟨rfl, hb⟩; refine ⟨_, rfl, ?_⟩; replace HO_3 := Aside0.mk (Kd.R_below (by (with_reducible repeat (first | apply Kd.R_alloc | apply Kd.R_drewN | apply Kd.R_drew)); exact (Kd.R_mono (Kd.R_far (p := ⟨gb826, 9, none⟩) (Kd.R_far (p := ⟨gb826, 8, none⟩) (Kd.R_far (p := ⟨gb826, 7, none⟩) (Kd.R_far (p := ⟨gb826, 6, none⟩) (Kd.R_far (p := ⟨gb826, 5, none⟩) (Kd.R_far (p := ⟨gb826, 4, none⟩) (Kd.R_far (p := ⟨gb826, 3, none⟩) (Kd.R_far (p := ⟨gb826, 2, none⟩) (Kd.R_far (p := ⟨gb826, 1, none⟩) (Kd.R_far (p := ⟨gb826, 0, none⟩) (Kd.R_types HO_3.out BK826.out (by decide)) (fun _ hk => hk.2) (.int .i64 ((rd_T56 l0 x9_1).f0))) (fun _ hk => hk.2) (.int .i64 ((rd_T56 l0 x9_1).f1.f0))) (fun _ hk => hk.2) (.int .i64 ((rd_T56 l0 x9_1).f1.f1))) (fun _ hk => hk.2) (.int .i64 ((rd_T56 l0 x9_1).f2))) (fun _ hk => hk.2) (.int .i64 ((rd_T56 l0 x9_1).f3.f0))) (fun _ hk => hk.2) (.int .i64 ((rd_T56 l0 x9_1).f3.f1))) (fun _ hk => hk.2) (.int .i64 ((rd_T56 l0 x9_1).f4.f0))) (fun _ hk => hk.2) (.int .i64 ((rd_T56 l0 x9_1).f4.f1))) (fun _ hk => hk.2) (.int .i64 ((rd_T56 l0 x9_1).f5))) (fun _ hk => hk.2) (.int .i64 ((rd_T56 l0 x9_1).f6))) (fun _ h_ => h_.1))) hb); replace BK826 := Aside0.mk (blk_below (g := gb826) (o := .cells #[.int .i64 ((rd_T56 l0 x9_1).f0), .int .i64 ((rd_T56 l0 x9_1).f1.f0), .int .i64 ((rd_T56 l0 x9_1).f1.f1), .int .i64 ((rd_T56 l0 x9_1).f2), .int .i64 ((rd_T56 l0 x9_1).f3.f0), .int .i64 ((rd_T56 l0 x9_1).f3.f1), .int .i64 ((rd_T56 l0 x9_1).f4.f0), .int .i64 ((rd_T56 l0 x9_1).f4.f1), .int .i64 ((rd_T56 l0 x9_1).f5), .int .i64 ((rd_T56 l0 x9_1).f6)] 56 (0, 0)) (bk_ BK826) hb); replace HB := hbs_ hb; clear hb; have hcz13 := blk_cell BK826.out; have hfz13 := blk_frozen BK826.out) | ((with_reducible refine gate_builtin (b := .append) (xs := #[.tmp 15, .tmp 19]) rfl ?_); at_builtin; refine Kd.R_append (Kd.int .i64) (w0 := w) w.heap.size rfl (.tmp 15) (.tmp 19) 39 3 (.int .i64 0) 8 rfl Try.underlying39 info3 rfl (by decide) (by omega) u3 x3_1 (wrap64 (((rd_T56 l0 x9_1).f5) + 1)) [.int .i64 (wrap64 (((rd_T56 l0 x9_1).f5) + 1))] (fun _ => True) (fun _ => False) rfl rfl ?aP (fun _ hk => hk.elim) ?aF ?aO ?aB ?aS ?aL ?_; (case aP => exact rfl); (case aB => exact bl_); (case aF => exact (fun _ _ => trivial)); (case aO => exact (by (with_reducible repeat (first | apply Kd.R_alloc | apply Kd.R_drewN | apply Kd.R_drew)); exact HO_3.out)); (case aS => exact bls_); (case aL => have := LMc9.out; omega); intro v829 w14 ho hb hg hat; rw [← Ny828.out] at ho; replace BK826 := Aside0.mk (blk_grown (g := gb826) (o := .cells #[.int .i64 ((rd_T56 l0 x9_1).f0), .int .i64 ((rd_T56 l0 x9_1).f1.f0), .int .i64 ((rd_T56 l0 x9_1).f1.f1), .int .i64 ((rd_T56 l0 x9_1).f2), .int .i64 ((rd_T56 l0 x9_1).f3.f0), .int .i64 ((rd_T56 l0 x9_1).f3.f1), .int .i64 ((rd_T56 l0 x9_1).f4.f0), .int .i64 ((rd_T56 l0 x9_1).f4.f1), .int .i64 ((rd_T56 l0 x9_1).f5), .int .i64 ((rd_T56 l0 x9_1).f6)] 56 (0, 0)) (bk_ BK826) hg (Kd.R_ne HO_3.out BK826.out (by decide))); replace HB := Aside0.mk (hb); have HO830 := Aside0.mk (ho); clear HO_3; clear ho hb hg hat))
     go_roundg k1
     case measure => have := HK1.out; omega
     case rel => exact ⟨(y828), (wrap64 (x9_1 + 1)), rf_, H', ⟨by have := HK1.out; omega⟩, ⟨by (with_reducible repeat (first | apply Kd.R_alloc | apply Kd.R_drewN | apply Kd.R_drew)); exact HO830.out⟩, ⟨bl_⟩⟩
    ·replace c8 := Bool.eq_false_iff.mpr c8
     subst c8
     replace H := ite_f_ H
     have H' := Aside0.mk H
     clear H
     have p825 : 0 ≤ (x9_1 : Int) := od_
     have q825 : x9_1 < (l0.length : Int) := od_
     obtain ⟨ad825, e825, hx825_0, hx825_1, hx825_2, hx825_3, hx825_4, hx825_5, hx825_6, hx825_7, hx825_8, hx825_9⟩ := at_T56 (Kd.C_below HR0.out HB.out) x9_1 p825 q825
     cases e825
     replace p825 := eq_true p825
     replace q825 := eq_true q825
     go_wp2_with (first | ((with_reducible refine gate_dst (N := 5) rfl ?_); refine box_event ?hg (N := 5) ?hd (cs := #[.int .i64 0, .int .i64 0, .int .i64 0, .int .i64 0, .int .i64 0, .int .i64 0, .int .i64 0, .int .i64 0, .int .i64 0, .int .i64 0]) (t := 56) ?hr ?_; (case hd => rfl); (case hg => rfl); (case hr => first | (go_simp; done) | (go_simp; rfl)); intro gb826 hg w15 hbox hb; replace HO_3 := hob_ HO_3 hb; have BK826 := Aside0.mk (hbox); have GW826 := gs_ hg; have GE826 := gs_ hg; replace HB := hbs_ hb; clear hb hbox hg; have hcz16 := blk_cell BK826.out; have hfz16 := blk_frozen BK826.out) | ((with_reducible refine gate_callee (f := 96) rfl ?_); refine goesC_ (some 14) Try.func96 #[.agg #[.int .i64 ((rd_T56 l0 x9_1).f0), .int .i64 ((rd_T56 l0 x9_1).f1.f0), .int .i64 ((rd_T56 l0 x9_1).f1.f1), .int .i64 ((rd_T56 l0 x9_1).f2), .int .i64 ((rd_T56 l0 x9_1).f3.f0), .int .i64 ((rd_T56 l0 x9_1).f3.f1), .int .i64 ((rd_T56 l0 x9_1).f4.f0), .int .i64 ((rd_T56 l0 x9_1).f4.f1), .int .i64 ((rd_T56 l0 x9_1).f5), .int .i64 ((rd_T56 l0 x9_1).f6)]] ?_; (with_reducible refine (impl_CredOk.calls k1 ((rd_T56 l0 x9_1).f0) ((rd_T56 l0 x9_1).f1.f0) ((rd_T56 l0 x9_1).f1.f1) ((rd_T56 l0 x9_1).f2) ((rd_T56 l0 x9_1).f3.f0) ((rd_T56 l0 x9_1).f3.f1) ((rd_T56 l0 x9_1).f4.f0) ((rd_T56 l0 x9_1).f4.f1) ((rd_T56 l0 x9_1).f5) ((rd_T56 l0 x9_1).f6) false _ A7.out).mono ?_); rintro e w17 ⟨rfl, hb⟩; refine ⟨_, rfl, ?_⟩; replace HO_3 := Aside0.mk (Kd.R_below (by (with_reducible repeat (first | apply Kd.R_alloc | apply Kd.R_drewN | apply Kd.R_drew)); exact (Kd.R_mono (Kd.R_far (p := ⟨gb826, 9, none⟩) (Kd.R_far (p := ⟨gb826, 8, none⟩) (Kd.R_far (p := ⟨gb826, 7, none⟩) (Kd.R_far (p := ⟨gb826, 6, none⟩) (Kd.R_far (p := ⟨gb826, 5, none⟩) (Kd.R_far (p := ⟨gb826, 4, none⟩) (Kd.R_far (p := ⟨gb826, 3, none⟩) (Kd.R_far (p := ⟨gb826, 2, none⟩) (Kd.R_far (p := ⟨gb826, 1, none⟩) (Kd.R_far (p := ⟨gb826, 0, none⟩) (Kd.R_types HO_3.out BK826.out (by decide)) (fun _ hk => hk.2) (.int .i64 ((rd_T56 l0 x9_1).f0))) (fun _ hk => hk.2) (.int .i64 ((rd_T56 l0 x9_1).f1.f0))) (fun _ hk => hk.2) (.int .i64 ((rd_T56 l0 x9_1).f1.f1))) (fun _ hk => hk.2) (.int .i64 ((rd_T56 l0 x9_1).f2))) (fun _ hk => hk.2) (.int .i64 ((rd_T56 l0 x9_1).f3.f0))) (fun _ hk => hk.2) (.int .i64 ((rd_T56 l0 x9_1).f3.f1))) (fun _ hk => hk.2) (.int .i64 ((rd_T56 l0 x9_1).f4.f0))) (fun _ hk => hk.2) (.int .i64 ((rd_T56 l0 x9_1).f4.f1))) (fun _ hk => hk.2) (.int .i64 ((rd_T56 l0 x9_1).f5))) (fun _ hk => hk.2) (.int .i64 ((rd_T56 l0 x9_1).f6))) (fun _ h_ => h_.1))) hb); replace BK826 := Aside0.mk (blk_below (g := gb826) (o := .cells #[.int .i64 ((rd_T56 l0 x9_1).f0), .int .i64 ((rd_T56 l0 x9_1).f1.f0), .int .i64 ((rd_T56 l0 x9_1).f1.f1), .int .i64 ((rd_T56 l0 x9_1).f2), .int .i64 ((rd_T56 l0 x9_1).f3.f0), .int .i64 ((rd_T56 l0 x9_1).f3.f1), .int .i64 ((rd_T56 l0 x9_1).f4.f0), .int .i64 ((rd_T56 l0 x9_1).f4.f1), .int .i64 ((rd_T56 l0 x9_1).f5), .int .i64 ((rd_T56 l0 x9_1).f6)] 56 (0, 0)) (bk_ BK826) hb); replace HB := hbs_ hb; clear hb))
     go_roundg k1
     case measure => have := HK1.out; omega
     case rel => exact ⟨(x3_1), (wrap64 (x9_1 + 1)), rf_, H', ⟨by have := HK1.out; omega⟩, ⟨by (with_reducible repeat (first | apply Kd.R_alloc | apply Kd.R_drewN | apply Kd.R_drew)); exact HO_3.out⟩, ⟨bl_⟩⟩
   ·rw [if_neg c4] at H
    have c4b0 : decide (x9_1 < (l0.length : Int)) = false := decide_eq_false c4
    clear c4
    obtain ⟨t831, A18, H⟩ := bindE_ H
    obtain ⟨t832, A19, H⟩ := bindE_ H
    obtain rfl := Option.some.inj H
    obtain ⟨Ao20, co20, eo20⟩ := Kd.R_slice HO_3.out
    subst eo20
    go_wp2_with (first | ((with_reducible refine gate_callee (f := 97) rfl ?_); refine goesC_ (some 23) Try.func97 #[.slice Ao20 x3_1.length co20] ?_; (with_reducible refine (slices_Sort_int_int.calls (fun k_ => some k_ = (.slice Ao20 x3_1.length co20 : Value).ownBlock) (.slice Ao20 x3_1.length co20) x3_1 t831 w _ ?side1 ?side2 A18.out).mono ?_); (case side1 => repeat (first | (with_reducible first | exact HB.out | apply below_alloc | apply pw_below_drewN | apply below_drew1) | exact HB.out)); (case side2 => exact Kd.R_tight rfl HO_3.out); rintro e w21 ⟨rfl, hy0, hb, hkp⟩; refine ⟨_, rfl, ?_⟩; replace HO_3 := Aside0.mk (Kd.R_reok rfl hy0 (fun k_ e_ => HO_3.out.1 k_ e_)); replace HB := Aside0.mk (hb); (try clear hb); (try clear hkp); (try clear hy0)) | ((with_reducible refine gate_callee (f := 98) rfl ?_); refine goesC_ (some 25) Try.func98 #[.slice Ao20 x3_1.length co20] ?_; (with_reducible refine (slices_Compact_int_int.calls (fun k_ => some k_ = (.slice Ao20 x3_1.length co20 : Value).ownBlock) (.slice Ao20 x3_1.length co20) t831 t832 w _ ?side1 ?side2 A19.out).mono ?_); (case side1 => repeat (first | (with_reducible first | exact HB.out | apply below_alloc | apply pw_below_drewN | apply below_drew1) | exact HB.out)); (case side2 => exact Kd.R_tight rfl HO_3.out); rintro e w22 ⟨v833, rfl, ho0, hb, hkp⟩; refine ⟨_, rfl, ?_⟩; have HO834 := Aside0.mk (Kd.R_mono (ok' := fun k_ => True) ho0 (fun k_ hk_ => trivial)); replace HB := Aside0.mk (hb); clear HO_3; (try clear hb); (try clear hkp); (try clear ho0)))
    go_ret
    exact ⟨_, eq_, by (with_reducible repeat (first | apply Kd.R_alloc | apply Kd.R_drewN | apply Kd.R_drew)); exact HO834.out, bl_⟩
def laws_eqIntS.l0 : Nat → List Int → List Int → Int → Option (Bool)
 | 0, _, _, _ => none
 | k + 1, x0, x1, x5 => if x5 < (x0.length : Int) then (if 0 ≤ x5 then (if x5 < (x1.length : Int) then (if (rd x0 x5) = (rd x1 x5) then (laws_eqIntS.l0 k x0 x1 (wrap64 (x5 + 1))) else (some false)) else (none)) else (none)) else (some true)
def laws_eqIntS.f (k : Nat) (l0 : List Int) (l1 : List Int) : Option (Bool) := if (l0.length : Int) = (l1.length : Int) then (laws_eqIntS.l0 k l0 l1 0) else (some false)
set_option maxHeartbeats 8000000 in
set_option maxRecDepth 100000 in
theorem laws_eqIntS.calls (k : Nat) (A0 : Option Addr) (c0 : Nat) (l0 : List Int) (A1 : Option Addr) (c1 : Nat) (l1 : List Int) (r : Bool) (w : World) (hr0 : Kd.C (Kd.int .i64) w A0 l0.length l0) (hc0 : l0.length ≤ c0) (hr1 : Kd.C (Kd.int .i64) w A1 l1.length l1) (hc1 : l1.length ≤ c1) (h : laws_eqIntS.f k l0 l1 = some r) :
  Calls Try.prog 31 #[.slice A0 l0.length c0, .slice A1 l1.length c1] w fun e w' => e = .returned (.bool r) ∧ Drawn0 w w' := by
 have HR0 := Aside0.mk hr0
 have HC0 := Aside0.mk hc0
 clear hr0 hc0
 have HR1 := Aside0.mk hr1
 have HC1 := Aside0.mk hc1
 clear hr1 hc1
 have H : (if (l0.length : Int) = (l1.length : Int) then (laws_eqIntS.l0 k l0 l1 0) else (some false)) = some r := h
 clear h
 by_cases c3 : (l0.length : Int) = (l1.length : Int)
 ·rw [if_pos c3] at H
  have c3b0 : ((l0.length : Int) == (l1.length : Int)) = true := beq_iff_eq.mpr c3
  have c3b1 : ((l0.length : Int) != (l1.length : Int)) = false := bne_eq_false_iff_eq.mpr c3
  have c3b2 : (l0.length == l1.length) = true := by first | simpa using c3 | (simp at c3 ⊢; omega)
  clear c3
  have H' := Aside0.mk H
  clear H
  go_enter Try.func31, Try.ntmps31
  go_wp2
  repeat (go_quiet (fail); try go_wp2)
  go_loopg [5] k (fun kq v5 w' => ∃ (x5_1 : Int), v5 = .int .i64 x5_1 ∧ Aside0 (laws_eqIntS.l0 kq l0 l1 x5_1 = some r) ∧ Aside0 (kq ≤ k) ∧ Drawn0 w w')
  case atStart => exact ⟨(0), rf_, H', ⟨Nat.le_refl _⟩, by repeat (first | exact Drawn0.refl _ | apply Drawn0.step)⟩
  case round =>
   clear H'
   try clear c1
   try clear p2
   try clear c3
   try clear c3b0
   try clear c3b1
   try clear c3b2
   obtain ⟨x5_1, rfl, HA, HK1, ⟨m1, rfl⟩⟩ := hrel
   cases gk with
   | zero => exact absurd HA.out (by simp [laws_eqIntS.l0])
   | succ k1 =>
    have H := HA.out
    clear HA
    simp only [laws_eqIntS.l0] at H
    by_cases c4 : x5_1 < (l0.length : Int)
    ·rw [if_pos c4] at H
     have c4b0 : decide (x5_1 < (l0.length : Int)) = true := decide_eq_true c4
     clear c4
     obtain ⟨c5b0, H⟩ := ifd_ H
     obtain ⟨c6b0, H⟩ := ifd_ H
     by_cases c7 : (rd l0 x5_1) = (rd l1 x5_1)
     ·rw [if_pos c7] at H
      have c7b0 : ((rd l0 x5_1) == (rd l1 x5_1)) = true := beq_iff_eq.mpr c7
      have c7b1 : ((rd l0 x5_1) != (rd l1 x5_1)) = false := bne_eq_false_iff_eq.mpr c7
      clear c7
      have H' := Aside0.mk H
      clear H
      have p835 : 0 ≤ (x5_1 : Int) := od_
      have q835 : x5_1 < (l0.length : Int) := od_
      obtain ⟨ad835, e835, hx835_0⟩ := Kd.at_int HR0.out x5_1 p835 q835
      cases e835
      replace p835 := eq_true p835
      replace q835 := eq_true q835
      have p836 : 0 ≤ (x5_1 : Int) := od_
      have q836 : x5_1 < (l1.length : Int) := od_
      obtain ⟨ad836, e836, hx836_0⟩ := Kd.at_int HR1.out x5_1 p836 q836
      cases e836
      replace p836 := eq_true p836
      replace q836 := eq_true q836
      go_wp2
      repeat (go_quiet (fail); try go_wp2)
      go_roundg k1
      case measure => have := HK1.out; omega
      case rel => exact ⟨(wrap64 (x5_1 + 1)), rf_, H', ⟨by have := HK1.out; omega⟩, by repeat (first | exact Drawn0.refl _ | apply Drawn0.step)⟩
     ·rw [if_neg c7] at H
      have c7b0 : ((rd l0 x5_1) == (rd l1 x5_1)) = false := beq_eq_false_iff_ne.mpr c7
      have c7b1 : ((rd l0 x5_1) != (rd l1 x5_1)) = true := bne_iff_ne.mpr c7
      obtain rfl := Option.some.inj H
      have p835 : 0 ≤ (x5_1 : Int) := od_
      have q835 : x5_1 < (l0.length : Int) := od_
      obtain ⟨ad835, e835, hx835_0⟩ := Kd.at_int HR0.out x5_1 p835 q835
      cases e835
      replace p835 := eq_true p835
      replace q835 := eq_true q835
      have p836 : 0 ≤ (x5_1 : Int) := od_
      have q836 : x5_1 < (l1.length : Int) := od_
      obtain ⟨ad836, e836, hx836_0⟩ := Kd.at_int HR1.out x5_1 p836 q836
      cases e836
      replace p836 := eq_true p836
      replace q836 := eq_true q836
      go_wp2
      repeat (go_quiet (fail); try go_wp2)
      go_ret
      exact ⟨by first | rfl | (simp; done) | (simp [*]; done), by repeat (first | exact Drawn0.refl _ | apply Drawn0.step)⟩
    ·rw [if_neg c4] at H
     have c4b0 : decide (x5_1 < (l0.length : Int)) = false := decide_eq_false c4
     clear c4
     obtain rfl := Option.some.inj H
     go_wp2
     repeat (go_quiet (fail); try go_wp2)
     go_ret
     exact ⟨by first | rfl | (simp; done) | (simp [*]; done), by repeat (first | exact Drawn0.refl _ | apply Drawn0.step)⟩
 ·rw [if_neg c3] at H
  have c3b0 : ((l0.length : Int) == (l1.length : Int)) = false := beq_eq_false_iff_ne.mpr c3
  have c3b1 : ((l0.length : Int) != (l1.length : Int)) = true := bne_iff_ne.mpr c3
  have c3b2 : (l0.length == l1.length) = false := by first | simpa using c3 | (simp at c3 ⊢; omega)
  obtain rfl := Option.some.inj H
  go_enter Try.func31, Try.ntmps31
  go_wp2
  repeat (go_quiet (fail); try go_wp2)
  go_ret
  exact ⟨by first | rfl | (simp; done) | (simp [*]; done), by repeat (first | exact Drawn0.refl _ | apply Drawn0.step)⟩
def laws_markIntS.l0 : Nat → List Int → Int → Int → Option (Int × List Int)
 | 0, _, _, _ => none
 | k + 1, x0, x1, x5 => if x5 < (x0.length : Int) then (if 0 ≤ x5 then (laws_markIntS.l0 k (x0.set (x5 : Int).toNat x1) (wrap64 (x1 + 1)) (wrap64 (x5 + 1))) else (none)) else (some (x1, x0))
def laws_markIntS.f (k : Nat) (l0 : List Int) (a1 : Int) : Option (Int × List Int) := laws_markIntS.l0 k l0 a1 0
set_option maxHeartbeats 8000000 in
set_option maxRecDepth 100000 in
theorem laws_markIntS.calls (k : Nat) (P0_ : Nat → Prop) (u9000_ : Value) (l0 : List Int) (a1 : Int) (r1 : Int) (r2 : List Int) (w0 w : World) (hB : Below w0.heap.size w0 w) (ho0 : Kd.R (Kd.int .i64) 3 w w0.heap.size P0_ u9000_ l0) (h : laws_markIntS.f k l0 a1 = some (r1, r2)) :
  Calls Try.prog 32 #[u9000_, .int .i64 a1] w fun e w' => e = .returned (.int .i64 r1) ∧ Kd.R (Kd.int .i64) 3 w' w0.heap.size (fun k_ => (P0_ k_ ∨ w.heap.size ≤ k_)) u9000_ r2 ∧ Below w0.heap.size w0 w' ∧ Kept w w' (fun k_ => P0_ k_) := by
 have HO0 := Aside0.mk (show Kd.R (Kd.int .i64) 3 w w0.heap.size (fun k_ => (P0_ k_ ∨ w.heap.size ≤ k_)) u9000_ l0 from Kd.R_mono ho0 (fun k_ hk => (.inl hk)))
 have HK := Aside0.mk (Kept.refl w (fun k_ => P0_ k_))
 have HW0 := Aside0.mk hB.size
 have HB := Aside0.mk hB
 clear hB
 have H : (laws_markIntS.l0 k l0 a1 0) = some (r1, r2) := h
 clear h
 have H' := Aside0.mk H
 clear H
 go_enter Try.func32, Try.ntmps32
 go_wp2
 go_loopg [1, 5] k (fun kq v1 v5 w' => ∃ (x0_1 : List Int) (x1_1 : Int) (x5_1 : Int), v1 = .int .i64 x1_1 ∧ v5 = .int .i64 x5_1 ∧ Aside0 (laws_markIntS.l0 kq x0_1 x1_1 x5_1 = some (r1, r2)) ∧ Aside0 (kq ≤ k) ∧ Aside0 (Kd.R (Kd.int .i64) 3 w' w0.heap.size (fun k_ => (P0_ k_ ∨ w.heap.size ≤ k_)) u9000_ x0_1) ∧ Aside0 (Kept w w' (fun k_ => P0_ k_)) ∧ Aside0 (Below w0.heap.size w0 w'))
 case atStart => exact ⟨(l0), (a1), (0), rf_, rf_, H', ⟨Nat.le_refl _⟩, ⟨by (with_reducible repeat (first | apply Kd.R_alloc | apply Kd.R_drewN | apply Kd.R_drew)); exact HO0.out⟩, ⟨by repeat (first | (with_reducible first | exact HK.out | apply Kept.alloc | apply Kept.drewN | apply Kept.drew) | exact HK.out)⟩, ⟨bl_⟩⟩
 case round =>
  clear H'
  try clear p2
  obtain ⟨x0_1, x1_1, x5_1, rfl, rfl, HA, HK1, HO_0, HK, HB⟩ := hrel
  cases gk with
  | zero => exact absurd HA.out (by simp [laws_markIntS.l0])
  | succ k1 =>
   have H := HA.out
   clear HA
   simp only [laws_markIntS.l0] at H
   by_cases c3 : x5_1 < (x0_1.length : Int)
   ·rw [if_pos c3] at H
    have c3b0 : decide (x5_1 < (x0_1.length : Int)) = true := decide_eq_true c3
    clear c3
    obtain ⟨c4b0, H⟩ := ifd_ H
    obtain ⟨y837, hy837⟩ : ∃ y_ : List Int, y_ = (x0_1.set (x5_1 : Int).toNat x1_1) := ⟨_, rfl⟩
    replace H : (laws_markIntS.l0 k1 y837 (wrap64 (x1_1 + 1)) (wrap64 (x5_1 + 1))) = some (r1, r2) := by first | (rw [hy837]; with_reducible exact H) | (have H2_ := (Option.bind_some _ _).symm.trans H; rw [hy837]; with_reducible exact H2_) | (have H2_ := (Option.bind_some _ _).symm.trans H; with_reducible exact H2_) | with_reducible exact H | (rw [hy837]; exact H) | exact H
    have Ny837 := Aside0.mk hy837
    clear hy837
    have H' := Aside0.mk H
    clear H
    obtain ⟨Ao6, co6, eo6⟩ := Kd.R_slice HO_0.out
    subst eo6
    have p5 : 0 ≤ (x5_1 : Int) := od_
    have q5 : (x5_1 : Int) < ((x0_1.length : Int) : Int) := od_
    obtain ⟨go5, co5, eo5, gb5, gl5, cl5, HG5⟩ := Kd.R_form HO_0.out (by omega)
    (first | cases eo5 | (injection eo5 with ea_ en_ ec_; (first | subst ea_ | (injection ea_ with ea_; subst ea_)); subst ec_; clear en_))
    have GB5 := Aside0.mk gb5
    have GG5 := Aside0.mk HG5
    clear gb5 gl5 HG5
    have HMgo5 := Aside0.mk (show (P0_ go5 ∨ w.heap.size ≤ go5) from (HO_0.out.1 _ rfl))
    obtain ⟨hx5_0, hf5_0⟩ := Kd.R_celln 0 HO_0.out (x5_1 : Int) p5 q5
    replace p5 := eq_true p5
    replace q5 := eq_true q5
    have HP7 := Kd.R_putg HO_0.out (x5_1 : Int) x1_1
    go_wp2_with (first | ((with_reducible refine gate_store (t := 3) (p := 15) rfl ?_); refine store_event (t := 3) (p := 15) (v := ?vo_w8) (w1 := (wr.setCell ⟨go5, (x5_1 : Int).toNat, none⟩ (.int .i64 x1_1))) ?hg ?ho ?hn ?hr ?_; (case ho => rfl); (case hg => rfl); (case hn => rfl); (case hr => first | (go_simp; done) | (go_simp; rfl)); intro w8 hw; have hg : wr.grownBy w8 (some go5) := (by rw [hw]; exact HP7.2); have hp_ : Kd.R (Kd.int .i64) 3 w8 w0.heap.size (fun k_ => (P0_ k_ ∨ w.heap.size ≤ k_)) (.slice (some ⟨go5, 0, none⟩) x0_1.length co6) y837 := (by rw [hw, Ny837.out]; exact HP7.1); clear HP7; replace HB := Aside0.mk ((by rw [hw]; exact below_set (HB.out) GB5.out : Below w0.heap.size w0 w8)); replace HK := Aside0.mk (Kept.of_grown (S := (fun k_ => P0_ k_)) hg (by repeat (first | (with_reducible first | exact HK.out | apply Kept.alloc | apply Kept.drewN | apply Kept.drew) | exact HK.out)) (fun k_ e_ => (HO_0.out.1 k_ e_))); replace HO_0 := Aside0.mk (hp_); clear hg hw hp_))
    go_roundg k1
    case measure => have := HK1.out; omega
    case rel => exact ⟨(y837), (wrap64 (x1_1 + 1)), (wrap64 (x5_1 + 1)), rf_, rf_, H', ⟨by have := HK1.out; omega⟩, ⟨by (with_reducible repeat (first | apply Kd.R_alloc | apply Kd.R_drewN | apply Kd.R_drew)); exact HO_0.out⟩, ⟨by repeat (first | (with_reducible first | exact HK.out | apply Kept.alloc | apply Kept.drewN | apply Kept.drew) | exact HK.out)⟩, ⟨bl_⟩⟩
   ·rw [if_neg c3] at H
    have c3b0 : decide (x5_1 < (x0_1.length : Int)) = false := decide_eq_false c3
    clear c3
    simp only [Option.some.injEq, Prod.mk.injEq] at H
    obtain ⟨rfl, rfl⟩ := H
    obtain ⟨Ao9, co9, eo9⟩ := Kd.R_slice HO_0.out
    subst eo9
    go_wp2
    go_ret
    exact ⟨eq_, by (with_reducible repeat (first | apply Kd.R_alloc | apply Kd.R_drewN | apply Kd.R_drew)); exact HO_0.out, bl_, by repeat (first | (with_reducible first | exact HK.out | apply Kept.alloc | apply Kept.drewN | apply Kept.drew) | exact HK.out)⟩
def laws_heldIntS.l0 : Nat → List Int → Int → Int → Option (Int)
 | 0, _, _, _ => none
 | k + 1, x0, x1, x5 => if x5 < (x0.length : Int) then (if 0 ≤ x5 then (if (rd x0 x5) = x1 then (laws_heldIntS.l0 k x0 (wrap64 (x1 + 1)) (wrap64 (x5 + 1))) else (some (-1))) else (none)) else (some x1)
def laws_heldIntS.f (k : Nat) (l0 : List Int) (a1 : Int) : Option (Int) := laws_heldIntS.l0 k l0 a1 0
set_option maxHeartbeats 8000000 in
set_option maxRecDepth 100000 in
theorem laws_heldIntS.calls (k : Nat) (A0 : Option Addr) (c0 : Nat) (l0 : List Int) (a1 : Int) (r : Int) (w : World) (hr0 : Kd.C (Kd.int .i64) w A0 l0.length l0) (hc0 : l0.length ≤ c0) (h : laws_heldIntS.f k l0 a1 = some r) :
  Calls Try.prog 33 #[.slice A0 l0.length c0, .int .i64 a1] w fun e w' => e = .returned (.int .i64 r) ∧ Drawn0 w w' := by
 have HR0 := Aside0.mk hr0
 have HC0 := Aside0.mk hc0
 clear hr0 hc0
 have H : (laws_heldIntS.l0 k l0 a1 0) = some r := h
 clear h
 have H' := Aside0.mk H
 clear H
 go_enter Try.func33, Try.ntmps33
 go_wp2
 go_loopg [1, 5] k (fun kq v1 v5 w' => ∃ (x1_1 : Int) (x5_1 : Int), v1 = .int .i64 x1_1 ∧ v5 = .int .i64 x5_1 ∧ Aside0 (laws_heldIntS.l0 kq l0 x1_1 x5_1 = some r) ∧ Aside0 (kq ≤ k) ∧ Drawn0 w w')
 case atStart => exact ⟨(a1), (0), rf_, rf_, H', ⟨Nat.le_refl _⟩, by repeat (first | exact Drawn0.refl _ | apply Drawn0.step)⟩
 case round =>
  clear H'
  try clear p2
  obtain ⟨x1_1, x5_1, rfl, rfl, HA, HK1, ⟨m1, rfl⟩⟩ := hrel
  cases gk with
  | zero => exact absurd HA.out (by simp [laws_heldIntS.l0])
  | succ k1 =>
   have H := HA.out
   clear HA
   simp only [laws_heldIntS.l0] at H
   by_cases c3 : x5_1 < (l0.length : Int)
   ·rw [if_pos c3] at H
    have c3b0 : decide (x5_1 < (l0.length : Int)) = true := decide_eq_true c3
    clear c3
    obtain ⟨c4b0, H⟩ := ifd_ H
    by_cases c5 : (rd l0 x5_1) = x1_1
    ·rw [if_pos c5] at H
     have c5b0 : ((rd l0 x5_1) == x1_1) = true := beq_iff_eq.mpr c5
     have c5b1 : ((rd l0 x5_1) != x1_1) = false := bne_eq_false_iff_eq.mpr c5
     clear c5
     have H' := Aside0.mk H
     clear H
     have p838 : 0 ≤ (x5_1 : Int) := od_
     have q838 : x5_1 < (l0.length : Int) := od_
     obtain ⟨ad838, e838, hx838_0⟩ := Kd.at_int HR0.out x5_1 p838 q838
     cases e838
     replace p838 := eq_true p838
     replace q838 := eq_true q838
     go_wp2
     go_roundg k1
     case measure => have := HK1.out; omega
     case rel => exact ⟨(wrap64 (x1_1 + 1)), (wrap64 (x5_1 + 1)), rf_, rf_, H', ⟨by have := HK1.out; omega⟩, by repeat (first | exact Drawn0.refl _ | apply Drawn0.step)⟩
    ·rw [if_neg c5] at H
     have c5b0 : ((rd l0 x5_1) == x1_1) = false := beq_eq_false_iff_ne.mpr c5
     have c5b1 : ((rd l0 x5_1) != x1_1) = true := bne_iff_ne.mpr c5
     obtain rfl := Option.some.inj H
     have p838 : 0 ≤ (x5_1 : Int) := od_
     have q838 : x5_1 < (l0.length : Int) := od_
     obtain ⟨ad838, e838, hx838_0⟩ := Kd.at_int HR0.out x5_1 p838 q838
     cases e838
     replace p838 := eq_true p838
     replace q838 := eq_true q838
     go_wp2
     go_ret
     exact ⟨by first | rfl | (simp; done) | (simp [*]; done), by repeat (first | exact Drawn0.refl _ | apply Drawn0.step)⟩
   ·rw [if_neg c3] at H
    have c3b0 : decide (x5_1 < (l0.length : Int)) = false := decide_eq_false c3
    clear c3
    obtain rfl := Option.some.inj H
    go_wp2
    go_ret
    exact ⟨by first | rfl | (simp; done) | (simp [*]; done), by repeat (first | exact Drawn0.refl _ | apply Drawn0.step)⟩
end Go.Proofs.Ytjpjidgfcljpcaa.PA
