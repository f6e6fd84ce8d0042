import Derived.Test.YtcbhmcpdnokbiaaKLPAx15
-- printed by wip/tools
namespace Go.Proofs.Ytcbhmcpdnokbiaa.PA
open Go.RowKit Go.Proofs.YtcbhmcpdnokbiaaW.PrintWords Go.Proofs.YtcbhmcpdnokbiaaW.PrintLast Go.Proofs.YtcbhmcpdnokbiaaW.PrintMore
attribute [local go_sem] max2_int min2_int max_two min_two max_three min_three max_four min_four
set_option linter.unusedVariables false
set_option linter.unusedSimpArgs false
mutual
def spec_l07All.l0 : Nat → List (S46) → List (S63) → List (S29) → Bool → Option ((List (S63)))
 | 0, _, _, _, _ => none
 | k + 1, x0, x3, x4, x5 => if x5 = true then (spec_l07All.l1 k x0 x3 x4 false 0) else (some x3)
def spec_l07All.l1 : Nat → List (S46) → List (S63) → List (S29) → Bool → Int → Option ((List (S63)))
 | 0, _, _, _, _, _ => none
 | k + 1, x0, x3, x4, x5, x6 => if x6 < (x0.length : Int) then (if 0 ≤ x6 then ((spec_Follows.f k x4 ((rd_T46 x0 x6).f0) ((rd_T46 x0 x6).f1.f0) ((rd_T46 x0 x6).f1.f1) ((rd_T46 x0 x6).f2) ((rd_T46 x0 x6).f3.f0) ((rd_T46 x0 x6).f3.f1) ((rd_T46 x0 x6).f4.f0) ((rd_T46 x0 x6).f4.f1) ((rd_T46 x0 x6).f5) ((rd_T46 x0 x6).f6)).bind fun t558 => (spec_l07All.l2 k x0 x3 x5 x6 t558 x3 (x4.length : Int))) else (none)) else (spec_l07All.l0 k x0 x3 x4 x5)
def spec_l07All.l2 : Nat → List (S46) → List (S63) → Bool → Int → List (S29) → List (S63) → Int → Option ((List (S63)))
 | 0, _, _, _, _, _, _, _ => none
 | k + 1, x0, x3, x5, x6, x7, x8, x9 => if x9 < (x7.length : Int) then (if 0 ≤ x6 then (if x6 < (x0.length : Int) then (if 0 ≤ x9 then ((spec_l07From.f k x8 ((rd_T46 x0 x6).f0) ((rd_T46 x0 x6).f1.f0) ((rd_T46 x0 x6).f1.f1) ((rd_T46 x0 x6).f2) ((rd_T46 x0 x6).f3.f0) ((rd_T46 x0 x6).f3.f1) ((rd_T46 x0 x6).f4.f0) ((rd_T46 x0 x6).f4.f1) ((rd_T46 x0 x6).f5) ((rd_T46 x0 x6).f6) ((rd_T29 x7 x9).f1)).bind fun t565 => (if x3.length < 1099511627776 then (if x8.length ≤ x3.length then (spec_l07All.l2 k x0 (x3 ++ [(⟨(⟨(rd_T46 x0 x6).f0, (⟨(rd_T46 x0 x6).f1.f0, (rd_T46 x0 x6).f1.f1⟩ : S27), (rd_T46 x0 x6).f2, (⟨(rd_T46 x0 x6).f3.f0, (rd_T46 x0 x6).f3.f1⟩ : S27), (⟨(rd_T46 x0 x6).f4.f0, (rd_T46 x0 x6).f4.f1⟩ : S27), (rd_T46 x0 x6).f5, (rd_T46 x0 x6).f6⟩ : S46), (⟨(⟨(rd_T29 x7 x9).f0.f0, (rd_T29 x7 x9).f0.f1⟩ : S27), (rd_T29 x7 x9).f1⟩ : S29), t565⟩ : S63)]) true x6 x7 x8 (wrap64 (x9 + 1))) else (none)) else (none))) else (none)) else (none)) else (none)) else (spec_l07All.l1 k x0 x3 x7 x5 (wrap64 (x6 + 1)))
end
def spec_l07All.f (k : Nat) (l0 : List (S46)) : Option ((List (S63))) := spec_l07All.l0 k l0 (([] : List (S63))) (([] : List (S29))) true
def spec_l07All.T14 : Bool × List (List Nat × List Nat) := (true, [([], []), ([], []), ([], []), ([1, 2], [1, 2]), ([3], [3]), ([], []), ([], []), ([5, 6], [5, 6]), ([7], [7]), ([], []), ([], []), ([], []), ([10, 11], [10, 11]), ([12], [12]), ([], []), ([], []), ([14, 15], [14, 15]), ([16], [16]), ([17], [17]), ([9, 13, 18], [9, 13, 18]), ([4, 8, 19], [4, 8, 19]), ([20], [20]), ([0, 21, 19], [0, 21]), ([22, 22, 0, 1, 2, 3, 4, 5, 6, 7, 8, 9, 10, 11, 12, 13, 14, 15, 16, 17, 18, 19, 20, 21, 22], [0, 22])])
def spec_l07All.B14 : List Nat := [0, 0, 0, 6, 14, 0, 0, 96, 224, 0, 0, 0, 3072, 7168, 0, 0, 49152, 114688, 245760, 523776, 1048574, 2097150, 4194303, 8388607]
theorem spec_l07All.tab14 : rtab .any (opsOf Try.f29 14) = spec_l07All.T14 := by kernel_rfl
theorem spec_l07All.bits14 : waitsOk spec_l07All.T14.2 spec_l07All.B14 = true := by kernel_rfl
set_option maxHeartbeats 8000000 in
set_option maxRecDepth 100000 in
theorem spec_l07All.calls (k : Nat) (A0 : Option Addr) (c0 : Nat) (l0 : List (S46)) (r : List (S63)) (w : World) (hr0 : Kd.C k46 w A0 l0.length l0) (hc0 : l0.length ≤ c0) (h : spec_l07All.f k l0 = some r) :
  Calls Try.prog 29 #[.slice A0 l0.length c0] w fun e w' => ∃ v0_ : Value, e = .returned (v0_) ∧ Kd.S k63 63 w' w.heap.size (fun _ => True) v0_ r ∧ Below w.heap.size w w' := by
 have hu46 := Try.underlying46
 have hu29 := Try.underlying29
 have hu63 := Try.underlying63
 have HR0 := aa_ hr0
 have HC0 := aa_ hc0
 clear hr0 hc0
 have HB := aa_ (Below.refl w.heap.size w)
 have H : (spec_l07All.l0 k l0 (([] : List (S63))) (([] : List (S29))) true) = some r := h
 clear h
 obtain ⟨y551, hy551⟩ : ∃ y_ : List (S63), y_ = (([] : List (S63))) := ⟨_, rfl⟩
 replace H : (spec_l07All.l0 k l0 y551 (([] : List (S29))) true) = some r := rh_ hy551 H
 have Ny551 := aa_ hy551
 clear hy551
 obtain ⟨y554, hy554⟩ : ∃ y_ : List (S29), y_ = (([] : List (S29))) := ⟨_, rfl⟩
 replace H : (spec_l07All.l0 k l0 y551 y554 true) = some r := rh_ hy554 H
 have Ny554 := aa_ hy554
 clear hy554
 have H' := aa_ H
 clear H
 go_enter Try.func29, Try.ntmps29
 go_wp2_with (first | ((with_reducible refine gD_ 10 rfl ?_); refine Kd.S_lit k63 _ 63 ?hg (N := 10) ?hd (xs := ([] : List (S63))) (inner := []) (ok := fun _ => True) (okp := fun _ => True) ?hr ?hp (fun _ hk => hk) trivial (Below.refl _ _) (Nat.le_refl _) (by simp) ?_; (case hd => rfl); (case hg => rfl); (case hr => first | (go_simp; done) | (go_simp; rfl)); (case hp => exact (Reps.none _ _)); intro v552 w2 ho3 hb hg_ hnew_; clear hg_ hnew_; (first | rw [← Ny551.out] at ho3 | (simp only [Int.reduceToNat] at ho3; rw [← Ny551.out] at ho3)); have HO553 := aa_ (Kd.S_lower ho3 bls_); replace HB := hbs_ hb; clear hb ho3) | ((with_reducible refine gD_ 11 rfl ?_); refine Kd.R_lit k29 _ 29 ?hg (N := 11) ?hd (xs := ([] : List (S29))) (inner := []) (ok := fun _ => True) (okp := fun _ => True) ?hr ?hp (fun _ hk => hk) trivial (Below.refl _ _) (Nat.le_refl _) (by simp) ?_; (case hd => rfl); (case hg => rfl); (case hr => first | (go_simp; done) | (go_simp; rfl)); (case hp => exact (Reps.none _ _)); intro v555 w4 ho5 hb hg_ hnew_; clear hg_ hnew_; (first | rw [← Ny554.out] at ho5 | (simp only [Int.reduceToNat] at ho5; rw [← Ny554.out] at ho5)); replace HO553 := aa_ (Kd.S_below (rs_ HO553) hb); have HO556 := aa_ (Kd.R_lower ho5 bls_); replace HB := hbs_ hb; clear hb ho5))
 go_loopg [3, 4, 5] k (fun kq v3 v4 v5 w' => ∃ (x3_1 : List (S63)) (x4_1 : List (S29)) (x5_1 : Bool), v5 = .bool x5_1 ∧ Aside0 (spec_l07All.l0 kq l0 x3_1 x4_1 x5_1 = some r) ∧ Aside0 (kq ≤ k) ∧ Aside0 (Kd.S k63 63 w' w.heap.size (fun _ => True) v3 x3_1) ∧ Aside0 (Kd.R k29 29 w' w.heap.size (fun _ => True) v4 x4_1) ∧ Aside0 (Below w.heap.size w w'))
 case atStart => exact ⟨(y551), (y554), (true), rf_, H', ⟨Nat.le_refl _⟩, ⟨rs_ HO553⟩, ⟨rr_ HO556⟩, ⟨bl_⟩⟩
 case round =>
  clear H'
  try clear c2
  try clear p2
  (try clear HO_3)
  (try clear HO_4)
  obtain ⟨x3_1, x4_1, x5_1, rfl, HA, HK1, HO_3, HO_4, HB⟩ := hrel
  cases gk with
  | zero => exact absurd HA.out (by simp [spec_l07All.l0])
  | succ k1 =>
   have H := HA.out
   clear HA
   simp only [spec_l07All.l0] at H
   by_cases c6 : x5_1 = true
   ·subst c6
    replace H := ite_t_ H
    have H' := aa_ H
    clear H
    go_wp2
    go_loopg [3, 4, 5, 6] k1 (fun kq v3 v4 v5 v6 w' => ∃ (x3_2 : List (S63)) (x4_2 : List (S29)) (x5_2 : Bool) (x6_2 : Int), v5 = .bool x5_2 ∧ v6 = .int .i64 x6_2 ∧ Aside0 (spec_l07All.l1 kq l0 x3_2 x4_2 x5_2 x6_2 = some r) ∧ Aside0 (kq ≤ k1) ∧ Aside0 (Kd.S k63 63 w' w.heap.size (fun _ => True) v3 x3_2) ∧ Aside0 (Kd.R k29 29 w' w.heap.size (fun _ => True) v4 x4_2) ∧ Aside0 (Below w.heap.size w w'))
    case atStart => exact ⟨(x3_1), (x4_1), (false), (0), rf_, rf_, H', ⟨Nat.le_refl _⟩, ⟨rs_ HO_3⟩, ⟨rr_ HO_4⟩, ⟨bl_⟩⟩
    case round =>
     clear H'
     try clear c2
     try clear p2
     try clear c6
     try clear p2
     (try clear HO_3)
     (try clear HO_4)
     obtain ⟨x3_2, x4_2, x5_2, x6_2, rfl, rfl, HA, HK2, HO_3, HO_4, HB⟩ := hrel
     cases gk with
     | zero => exact absurd HA.out (by simp [spec_l07All.l1])
     | succ k2 =>
      have H := HA.out
      clear HA
      simp only [spec_l07All.l1] at H
      by_cases c7 : x6_2 < (l0.length : Int)
      ·rw [if_pos c7] at H
       have c7b0 : decide (x6_2 < (l0.length : Int)) = true := decide_eq_true c7
       clear c7
       obtain ⟨c8b0, H⟩ := ifd_ H
       obtain ⟨t558, A9, H⟩ := bindE_ H
       have H' := aa_ H
       clear H
       have p557 : 0 ≤ (x6_2 : Int) := od_
       have q557 : x6_2 < (l0.length : Int) := od_
       obtain ⟨ad557, e557, hx557_0, hx557_1, hx557_2, hx557_3, hx557_4, hx557_5, hx557_6, hx557_7, hx557_8, hx557_9⟩ := at_T46 (Kd.C_below HR0.out HB.out) x6_2 p557 q557
       cases e557
       replace p557 := eq_true p557
       replace q557 := eq_true q557
       obtain ⟨Ao10, co10, eo10⟩ := Kd.R_slice HO_4.out
       subst eo10
       go_wp2_with (first | ((with_reducible refine gC_ 35 rfl ?_); refine goesC_ (some 24) Try.func35 #[.slice Ao10 x4_2.length co10, .agg #[.int .i64 ((rd_T46 l0 x6_2).f0), .int .i64 ((rd_T46 l0 x6_2).f1.f0), .int .i64 ((rd_T46 l0 x6_2).f1.f1), .int .i64 ((rd_T46 l0 x6_2).f2), .int .i64 ((rd_T46 l0 x6_2).f3.f0), .int .i64 ((rd_T46 l0 x6_2).f3.f1), .int .i64 ((rd_T46 l0 x6_2).f4.f0), .int .i64 ((rd_T46 l0 x6_2).f4.f1), .int .i64 ((rd_T46 l0 x6_2).f5), .int .i64 ((rd_T46 l0 x6_2).f6)]] ?_; (with_reducible refine (spec_Follows.calls k2 _ _ x4_2 ((rd_T46 l0 x6_2).f0) ((rd_T46 l0 x6_2).f1.f0) ((rd_T46 l0 x6_2).f1.f1) ((rd_T46 l0 x6_2).f2) ((rd_T46 l0 x6_2).f3.f0) ((rd_T46 l0 x6_2).f3.f1) ((rd_T46 l0 x6_2).f4.f0) ((rd_T46 l0 x6_2).f4.f1) ((rd_T46 l0 x6_2).f5) ((rd_T46 l0 x6_2).f6) t558 _ ?side1 ?side2 A9.out).mono ?_); (case side1 => repeat (first | exact (Kd.R_reads' HO_4.out).2.2 | (with_reducible refine Kd.C_alloc ?_ _) | (with_reducible refine Kd.C_drewN ?_ _) | (with_reducible refine Kd.C_drew ?_))); (case side2 => exact (Kd.R_reads' HO_4.out).2.1); rintro e w11 ⟨v559, rfl, ho0, hb⟩; refine ⟨_, rfl, ?_⟩; replace HO_3 := aa_ (Kd.S_below (rs_ HO_3) hb); have HO560 := aa_ (Kd.R_lower (Kd.R_new' ho0 (Kd.R_lt (rr_ HO_4))) bls_); replace HO_4 := aa_ (Kd.R_elder' (rr_ HO_4) (Kd.R_base ho0) hb); replace HB := hbs_ hb; (try clear hb ho0); obtain ⟨Ao12, co12, eo12⟩ := Kd.S_slice HO_3.out; subst eo12))
       go_loopg [3, 5, 9] k2 (fun kq v3 v5 v9 w' => ∃ (x3_3 : List (S63)) (x5_3 : Bool) (x9_3 : Int), v5 = .bool x5_3 ∧ v9 = .int .i64 x9_3 ∧ Aside0 (spec_l07All.l2 kq l0 x3_3 x5_3 x6_2 t558 x3_2 x9_3 = some r) ∧ Aside0 (kq ≤ k2) ∧ Aside0 (Kd.S k63 63 w' w.heap.size (fun _ => True) v3 x3_3) ∧ Aside0 (Kd.R k29 29 w' w.heap.size (fun _ => True) v559 t558) ∧ Aside0 (Kd.S k63 63 w' w.heap.size (fun _ => True) (.slice Ao12 x3_2.length co12) x3_2) ∧ Aside0 (Below w.heap.size w w'))
       case atStart => exact ⟨(x3_2), (x5_2), ((x4_2.length : Int)), rf_, rf_, H', ⟨Nat.le_refl _⟩, ⟨rs_ HO_3⟩, ⟨by (with_reducible repeat (first | apply Kd.R_alloc | apply Kd.R_drewN | apply Kd.R_drew)); exact Kd.R_mono HO560.out (fun _ hk => trivial)⟩, ⟨rs_ HO_3⟩, ⟨bl_⟩⟩
       case round =>
        clear H'
        try clear c2
        try clear p2
        try clear c3
        try clear p5
        try clear q5
        try clear hx5
        try clear c6
        try clear c7
        try clear c7b0
        try clear c8
        try clear c8b0
        try clear hx557_0
        try clear hx557_1
        try clear hx557_2
        try clear hx557_3
        try clear hx557_4
        try clear hx557_5
        try clear hx557_6
        try clear hx557_7
        try clear hx557_8
        try clear hx557_9
        try clear p2
        try clear p557
        try clear q557
        (try clear HO_3)
        (try clear HO_7)
        (try clear HO_8)
        obtain ⟨x3_3, x5_3, x9_3, rfl, rfl, HA, HK3, HO_3, HO_7, HO_8, HB⟩ := hrel
        cases gk with
        | zero => exact absurd HA.out (by simp [spec_l07All.l2])
        | succ k3 =>
         have H := HA.out
         clear HA
         simp only [spec_l07All.l2] at H
         by_cases c13 : x9_3 < (t558.length : Int)
         ·rw [if_pos c13] at H
          have c13b0 : decide (x9_3 < (t558.length : Int)) = true := decide_eq_true c13
          clear c13
          obtain ⟨c14b0, H⟩ := ifd_ H
          obtain ⟨c15b0, H⟩ := ifd_ H
          obtain ⟨c16b0, H⟩ := ifd_ H
          obtain ⟨t565, A17, H⟩ := bindE_ H
          obtain ⟨c18, H⟩ := ifn_ H
          have LMc18 := aa_ c18
          clear c18
          obtain ⟨c19, H⟩ := ifn_ H
          have LMc19 := aa_ c19
          clear c19
          obtain ⟨y568, hy568⟩ : ∃ y_ : List (S63), y_ = (x3_3 ++ [(⟨(⟨(rd_T46 l0 x6_2).f0, (⟨(rd_T46 l0 x6_2).f1.f0, (rd_T46 l0 x6_2).f1.f1⟩ : S27), (rd_T46 l0 x6_2).f2, (⟨(rd_T46 l0 x6_2).f3.f0, (rd_T46 l0 x6_2).f3.f1⟩ : S27), (⟨(rd_T46 l0 x6_2).f4.f0, (rd_T46 l0 x6_2).f4.f1⟩ : S27), (rd_T46 l0 x6_2).f5, (rd_T46 l0 x6_2).f6⟩ : S46), (⟨(⟨(rd_T29 t558 x9_3).f0.f0, (rd_T29 t558 x9_3).f0.f1⟩ : S27), (rd_T29 t558 x9_3).f1⟩ : S29), t565⟩ : S63)]) := ⟨_, rfl⟩
          replace H : (spec_l07All.l2 k3 l0 y568 true x6_2 t558 x3_2 (wrap64 (x9_3 + 1))) = some r := rh_ hy568 H
          have Ny568 := aa_ hy568
          clear hy568
          have H' := aa_ H
          clear H
          obtain ⟨Ao20, co20, eo20⟩ := Kd.R_slice HO_7.out
          subst eo20
          try go_wp2
          replace HO_3 := aa_ (Kd.S_drew HO_3.out)
          replace HO_7 := aa_ (Kd.R_drew HO_7.out)
          replace HO_8 := aa_ (Kd.S_drew HO_8.out)
          replace HB := aa_ (below_drew1 HB.out)
          have p561 : 0 ≤ (x6_2 : Int) := od_
          have q561 : x6_2 < (l0.length : Int) := od_
          obtain ⟨ad561, e561, hx561_0, hx561_1, hx561_2, hx561_3, hx561_4, hx561_5, hx561_6, hx561_7, hx561_8, hx561_9⟩ := at_T46 HR0.out x6_2 p561 q561
          have hw561_9 := hx561_9
          have hw561_8 := hx561_8
          have hw561_7 := hx561_7
          have hw561_6 := hx561_6
          have hw561_5 := hx561_5
          have hw561_4 := hx561_4
          have hw561_3 := hx561_3
          have hw561_2 := hx561_2
          have hw561_1 := hx561_1
          have hw561_0 := hx561_0
          obtain rfl : ad557 = ad561 := (by injection e561)
          replace hx561_0 := cb_ HB hx561_0
          replace hx561_1 := cb_ HB hx561_1
          replace hx561_2 := cb_ HB hx561_2
          replace hx561_3 := cb_ HB hx561_3
          replace hx561_4 := cb_ HB hx561_4
          replace hx561_5 := cb_ HB hx561_5
          replace hx561_6 := cb_ HB hx561_6
          replace hx561_7 := cb_ HB hx561_7
          replace hx561_8 := cb_ HB hx561_8
          replace hx561_9 := cb_ HB hx561_9
          replace p561 := eq_true p561
          replace q561 := eq_true q561
          have p562 : 0 ≤ (x9_3 : Int) := od_
          have q562 : x9_3 < (t558.length : Int) := od_
          obtain ⟨ad562, e562, hx562_0, hx562_1, hx562_2⟩ := at_T29 (Kd.R_reads' HO_7.out).2.2 x9_3 p562 q562
          cases e562
          replace p562 := eq_true p562
          replace q562 := eq_true q562
          have p563 : 0 ≤ (x6_2 : Int) := od_
          have q563 : x6_2 < (l0.length : Int) := od_
          obtain ⟨ad563, e563, hx563_0, hx563_1, hx563_2, hx563_3, hx563_4, hx563_5, hx563_6, hx563_7, hx563_8, hx563_9⟩ := at_T46 HR0.out x6_2 p563 q563
          have hw563_9 := hx563_9
          have hw563_8 := hx563_8
          have hw563_7 := hx563_7
          have hw563_6 := hx563_6
          have hw563_5 := hx563_5
          have hw563_4 := hx563_4
          have hw563_3 := hx563_3
          have hw563_2 := hx563_2
          have hw563_1 := hx563_1
          have hw563_0 := hx563_0
          obtain rfl : ad557 = ad563 := (by injection e563)
          replace hx563_0 := cb_ HB hx563_0
          replace hx563_1 := cb_ HB hx563_1
          replace hx563_2 := cb_ HB hx563_2
          replace hx563_3 := cb_ HB hx563_3
          replace hx563_4 := cb_ HB hx563_4
          replace hx563_5 := cb_ HB hx563_5
          replace hx563_6 := cb_ HB hx563_6
          replace hx563_7 := cb_ HB hx563_7
          replace hx563_8 := cb_ HB hx563_8
          replace hx563_9 := cb_ HB hx563_9
          replace p563 := eq_true p563
          replace q563 := eq_true q563
          have p564 : 0 ≤ (x9_3 : Int) := od_
          have q564 : x9_3 < (t558.length : Int) := od_
          obtain ⟨ad564, e564, hx564_0, hx564_1, hx564_2⟩ := at_T29 (Kd.R_reads' HO_7.out).2.2 x9_3 p564 q564
          obtain rfl : ad562 = ad564 := (by injection e564)
          replace p564 := eq_true p564
          replace q564 := eq_true q564
          refine start_ (n := 24) (S := fun w' => w'.cell? (ad557.add ((x6_2).toNat * 10)) = some (.int .i64 ((rd_T46 l0 x6_2).f0)) ∧ w'.cell? ⟨(ad557.add ((x6_2).toNat * 10)).block, (ad557.add ((x6_2).toNat * 10)).off + 1, none⟩ = some (.int .i64 ((rd_T46 l0 x6_2).f1.f0)) ∧ w'.cell? ⟨(ad557.add ((x6_2).toNat * 10)).block, (ad557.add ((x6_2).toNat * 10)).off + 2, none⟩ = some (.int .i64 ((rd_T46 l0 x6_2).f1.f1)) ∧ w'.cell? ⟨(ad557.add ((x6_2).toNat * 10)).block, (ad557.add ((x6_2).toNat * 10)).off + 3, none⟩ = some (.int .i64 ((rd_T46 l0 x6_2).f2)) ∧ w'.cell? ⟨(ad557.add ((x6_2).toNat * 10)).block, (ad557.add ((x6_2).toNat * 10)).off + 4, none⟩ = some (.int .i64 ((rd_T46 l0 x6_2).f3.f0)) ∧ w'.cell? ⟨(ad557.add ((x6_2).toNat * 10)).block, (ad557.add ((x6_2).toNat * 10)).off + 5, none⟩ = some (.int .i64 ((rd_T46 l0 x6_2).f3.f1)) ∧ w'.cell? ⟨(ad557.add ((x6_2).toNat * 10)).block, (ad557.add ((x6_2).toNat * 10)).off + 6, none⟩ = some (.int .i64 ((rd_T46 l0 x6_2).f4.f0)) ∧ w'.cell? ⟨(ad557.add ((x6_2).toNat * 10)).block, (ad557.add ((x6_2).toNat * 10)).off + 7, none⟩ = some (.int .i64 ((rd_T46 l0 x6_2).f4.f1)) ∧ w'.cell? ⟨(ad557.add ((x6_2).toNat * 10)).block, (ad557.add ((x6_2).toNat * 10)).off + 8, none⟩ = some (.int .i64 ((rd_T46 l0 x6_2).f5)) ∧ w'.cell? ⟨(ad557.add ((x6_2).toNat * 10)).block, (ad557.add ((x6_2).toNat * 10)).off + 9, none⟩ = some (.int .i64 ((rd_T46 l0 x6_2).f6)) ∧ w'.cell? (ad562.add ((x9_3).toNat * 3)) = some (.int .i64 ((rd_T29 t558 x9_3).f0.f0)) ∧ w'.cell? ⟨(ad562.add ((x9_3).toNat * 3)).block, (ad562.add ((x9_3).toNat * 3)).off + 1, none⟩ = some (.int .i64 ((rd_T29 t558 x9_3).f0.f1)) ∧ w'.cell? ⟨(ad562.add ((x9_3).toNat * 3)).block, (ad562.add ((x9_3).toNat * 3)).off + 2, none⟩ = some (.int .i64 ((rd_T29 t558 x9_3).f1)) ∧ w'.cell? (ad557.add ((x6_2).toNat * 10)) = some (.int .i64 ((rd_T46 l0 x6_2).f0)) ∧ w'.cell? ⟨(ad557.add ((x6_2).toNat * 10)).block, (ad557.add ((x6_2).toNat * 10)).off + 1, none⟩ = some (.int .i64 ((rd_T46 l0 x6_2).f1.f0)) ∧ w'.cell? ⟨(ad557.add ((x6_2).toNat * 10)).block, (ad557.add ((x6_2).toNat * 10)).off + 2, none⟩ = some (.int .i64 ((rd_T46 l0 x6_2).f1.f1)) ∧ w'.cell? ⟨(ad557.add ((x6_2).toNat * 10)).block, (ad557.add ((x6_2).toNat * 10)).off + 3, none⟩ = some (.int .i64 ((rd_T46 l0 x6_2).f2)) ∧ w'.cell? ⟨(ad557.add ((x6_2).toNat * 10)).block, (ad557.add ((x6_2).toNat * 10)).off + 4, none⟩ = some (.int .i64 ((rd_T46 l0 x6_2).f3.f0)) ∧ w'.cell? ⟨(ad557.add ((x6_2).toNat * 10)).block, (ad557.add ((x6_2).toNat * 10)).off + 5, none⟩ = some (.int .i64 ((rd_T46 l0 x6_2).f3.f1)) ∧ w'.cell? ⟨(ad557.add ((x6_2).toNat * 10)).block, (ad557.add ((x6_2).toNat * 10)).off + 6, none⟩ = some (.int .i64 ((rd_T46 l0 x6_2).f4.f0)) ∧ w'.cell? ⟨(ad557.add ((x6_2).toNat * 10)).block, (ad557.add ((x6_2).toNat * 10)).off + 7, none⟩ = some (.int .i64 ((rd_T46 l0 x6_2).f4.f1)) ∧ w'.cell? ⟨(ad557.add ((x6_2).toNat * 10)).block, (ad557.add ((x6_2).toNat * 10)).off + 8, none⟩ = some (.int .i64 ((rd_T46 l0 x6_2).f5)) ∧ w'.cell? ⟨(ad557.add ((x6_2).toNat * 10)).block, (ad557.add ((x6_2).toNat * 10)).off + 9, none⟩ = some (.int .i64 ((rd_T46 l0 x6_2).f6)) ∧ w'.cell? (ad562.add ((x9_3).toNat * 3)) = some (.int .i64 ((rd_T29 t558 x9_3).f0.f0)) ∧ w'.cell? ⟨(ad562.add ((x9_3).toNat * 3)).block, (ad562.add ((x9_3).toNat * 3)).off + 1, none⟩ = some (.int .i64 ((rd_T29 t558 x9_3).f0.f1)) ∧ w'.cell? ⟨(ad562.add ((x9_3).toNat * 3)).block, (ad562.add ((x9_3).toNat * 3)).off + 2, none⟩ = some (.int .i64 ((rd_T29 t558 x9_3).f1))) (ds := [21, 22]) #[false, false, false, false, false, false, false, false, false, false, false, false, false, false, false, false, false, false, false, false, false, false, false, false] (by kernel_rfl) rfl rfl ⟨(cb_ HB hw561_0 :), (cb_ HB hw561_1 :), (cb_ HB hw561_2 :), (cb_ HB hw561_3 :), (cb_ HB hw561_4 :), (cb_ HB hw561_5 :), (cb_ HB hw561_6 :), (cb_ HB hw561_7 :), (cb_ HB hw561_8 :), (cb_ HB hw561_9 :), hx562_0, hx562_1, hx562_2, (cb_ HB hw563_0 :), (cb_ HB hw563_1 :), (cb_ HB hw563_2 :), (cb_ HB hw563_3 :), (cb_ HB hw563_4 :), (cb_ HB hw563_5 :), (cb_ HB hw563_6 :), (cb_ HB hw563_7 :), (cb_ HB hw563_8 :), (cb_ HB hw563_9 :), hx564_0, hx564_1, hx564_2⟩ (fun hHeld => ?_); refine with_tabW spec_l07All.tab14 spec_l07All.bits14 (fun HT_ HW_ => ?_)
          generalize wr.drew = w21 at HO_3 HO_7 HO_8 HB hx561_0 hx561_1 hx561_2 hx561_3 hx561_4 hx561_5 hx561_6 hx561_7 hx561_8 hx561_9 hx562_0 hx562_1 hx562_2 hx563_0 hx563_1 hx563_2 hx563_3 hx563_4 hx563_5 hx563_6 hx563_7 hx563_8 hx563_9 hx564_0 hx564_1 hx564_2 hHeld ⊢
          refine pureZ_ (i := 0) (some 34) #[true, false, false, false, false, false, false, false, false, false, false, false, false, false, false, false, false, false, false, false, false, false, false, false] (ao_ HT_) ?_
          refine pureZ_ (i := 1) (some 35) #[true, true, false, false, false, false, false, false, false, false, false, false, false, false, false, false, false, false, false, false, false, false, false, false] (ao_ HT_) ?_
          refine pureZ_ (i := 2) (some 36) #[true, true, true, false, false, false, false, false, false, false, false, false, false, false, false, false, false, false, false, false, false, false, false, false] (ao_ HT_) ?_
          refine pureZ_ (i := 3) (some 37) #[true, true, true, true, false, false, false, false, false, false, false, false, false, false, false, false, false, false, false, false, false, false, false, false] (ao_ HT_) ?_
          refine pureZ_ (i := 5) (some 39) #[true, true, true, true, false, true, false, false, false, false, false, false, false, false, false, false, false, false, false, false, false, false, false, false] (ao_ HT_) ?_
          refine pureZ_ (i := 6) (some 40) #[true, true, true, true, false, true, true, false, false, false, false, false, false, false, false, false, false, false, false, false, false, false, false, false] (ao_ HT_) ?_
          refine pureZ_ (i := 7) (some 41) #[true, true, true, true, false, true, true, true, false, false, false, false, false, false, false, false, false, false, false, false, false, false, false, false] (ao_ HT_) ?_
          refine pureZ_ (i := 9) (some 43) #[true, true, true, true, false, true, true, true, false, true, false, false, false, false, false, false, false, false, false, false, false, false, false, false] (ao_ HT_) ?_
          refine pureZ_ (i := 10) (some 44) #[true, true, true, true, false, true, true, true, false, true, true, false, false, false, false, false, false, false, false, false, false, false, false, false] (ao_ HT_) ?_
          refine pureZ_ (i := 11) (some 45) #[true, true, true, true, false, true, true, true, false, true, true, true, false, false, false, false, false, false, false, false, false, false, false, false] (ao_ HT_) ?_
          refine pureZ_ (i := 12) (some 46) #[true, true, true, true, false, true, true, true, false, true, true, true, true, false, false, false, false, false, false, false, false, false, false, false] (ao_ HT_) ?_
          refine pureZ_ (i := 14) (some 48) #[true, true, true, true, false, true, true, true, false, true, true, true, true, false, true, false, false, false, false, false, false, false, false, false] (ao_ HT_) ?_
          refine pureZ_ (i := 15) (some 49) #[true, true, true, true, false, true, true, true, false, true, true, true, true, false, true, true, false, false, false, false, false, false, false, false] (ao_ HT_) ?_
          refine pureZ_ (i := 16) (some 50) #[true, true, true, true, false, true, true, true, false, true, true, true, true, false, true, true, true, false, false, false, false, false, false, false] (ao_ HT_) ?_
          refine pureZ_ (i := 17) (some 51) #[true, true, true, true, false, true, true, true, false, true, true, true, true, false, true, true, true, true, false, false, false, false, false, false] (ao_ HT_) ?_
          refine takeZ_ (i := 4) (some 38) #[true, true, true, true, true, true, true, true, false, true, true, true, true, false, true, true, true, true, false, false, false, false, false, false] (take_ofW HT_.out HW_.out (by kernel_rfl)) hHeld ?_
          refine takeZ_ (i := 8) (some 42) #[true, true, true, true, true, true, true, true, true, true, true, true, true, false, true, true, true, true, false, false, false, false, false, false] (take_ofW HT_.out HW_.out (by kernel_rfl)) hHeld ?_
          refine takeZ_ (i := 13) (some 47) #[true, true, true, true, true, true, true, true, true, true, true, true, true, true, true, true, true, true, false, false, false, false, false, false] (take_ofW HT_.out HW_.out (by kernel_rfl)) hHeld ?_
          refine takeZ_ (i := 18) (some 52) #[true, true, true, true, true, true, true, true, true, true, true, true, true, true, true, true, true, true, true, false, false, false, false, false] (take_ofW HT_.out HW_.out (by kernel_rfl)) hHeld ?_
          refine one_ (i := 19) (N := some 53) #[true, true, true, true, true, true, true, true, true, true, true, true, true, true, true, true, true, true, true, true, false, false, false, false] rfl rfl (one_of HT_.out (by kernel_rfl)) (by decide) (fun K hK => ?_)
          refine goes_ Try.func42 (by kernel_rfl) rfl #[.slice Ao12 x3_2.length co12, .agg #[.int .i64 ((rd_T46 l0 x6_2).f0), .int .i64 ((rd_T46 l0 x6_2).f1.f0), .int .i64 ((rd_T46 l0 x6_2).f1.f1), .int .i64 ((rd_T46 l0 x6_2).f2), .int .i64 ((rd_T46 l0 x6_2).f3.f0), .int .i64 ((rd_T46 l0 x6_2).f3.f1), .int .i64 ((rd_T46 l0 x6_2).f4.f0), .int .i64 ((rd_T46 l0 x6_2).f4.f1), .int .i64 ((rd_T46 l0 x6_2).f5), .int .i64 ((rd_T46 l0 x6_2).f6)], .int .i64 ((rd_T29 t558 x9_3).f1)] (by rfl) rfl rfl (by (try simp only [List.map_toArray, List.map_cons, List.map_nil]); first | done | rfl | (simp only [List.length_drop, List.length_take]; rfl)) ?_
          with_reducible refine (spec_l07From.calls k3 _ _ x3_2 ((rd_T46 l0 x6_2).f0) ((rd_T46 l0 x6_2).f1.f0) ((rd_T46 l0 x6_2).f1.f1) ((rd_T46 l0 x6_2).f2) ((rd_T46 l0 x6_2).f3.f0) ((rd_T46 l0 x6_2).f3.f1) ((rd_T46 l0 x6_2).f4.f0) ((rd_T46 l0 x6_2).f4.f1) ((rd_T46 l0 x6_2).f5) ((rd_T46 l0 x6_2).f6) ((rd_T29 t558 x9_3).f1) t565 _ ?side1 ?side2 A17.out).mono ?_
          (case side1 => repeat (first | exact (Kd.S_reads' HO_8.out).2.2 | (with_reducible refine Kd.C_alloc ?_ _) | (with_reducible refine Kd.C_drewN ?_ _) | (with_reducible refine Kd.C_drew ?_)))
          (case side2 => exact (Kd.S_reads' HO_8.out).2.1)
          rintro e w22 ⟨v566, rfl, ho0, hb⟩
          have HS10_ := (hb.cell (World.block_lt_of_cell? _ _ (hHeld.2.2.2.2.2.2.2.2.2.2.1))).trans (hHeld.2.2.2.2.2.2.2.2.2.2.1)
          have HS11_ := (hb.cell (World.block_lt_of_cell? _ _ (hHeld.2.2.2.2.2.2.2.2.2.2.2.1))).trans (hHeld.2.2.2.2.2.2.2.2.2.2.2.1)
          have HS12_ := (hb.cell (World.block_lt_of_cell? _ _ (hHeld.2.2.2.2.2.2.2.2.2.2.2.2.1))).trans (hHeld.2.2.2.2.2.2.2.2.2.2.2.2.1)
          have HS23_ := (hb.cell (World.block_lt_of_cell? _ _ (hHeld.2.2.2.2.2.2.2.2.2.2.2.2.2.2.2.2.2.2.2.2.2.2.2.1))).trans (hHeld.2.2.2.2.2.2.2.2.2.2.2.2.2.2.2.2.2.2.2.2.2.2.2.1)
          have HS24_ := (hb.cell (World.block_lt_of_cell? _ _ (hHeld.2.2.2.2.2.2.2.2.2.2.2.2.2.2.2.2.2.2.2.2.2.2.2.2.1))).trans (hHeld.2.2.2.2.2.2.2.2.2.2.2.2.2.2.2.2.2.2.2.2.2.2.2.2.1)
          have HS25_ := (hb.cell (World.block_lt_of_cell? _ _ (hHeld.2.2.2.2.2.2.2.2.2.2.2.2.2.2.2.2.2.2.2.2.2.2.2.2.2))).trans (hHeld.2.2.2.2.2.2.2.2.2.2.2.2.2.2.2.2.2.2.2.2.2.2.2.2.2)
          refine ⟨_, rfl, ?_⟩
          replace HO_3 := aa_ (Kd.S_elder' (rs_ HO_3) (Kd.R_base ho0) hb)
          replace HO_7 := hob_ HO_7 hb
          replace HO_8 := aa_ (Kd.S_elder' (rs_ HO_8) (Kd.R_base ho0) hb)
          have HO567 := aa_ (Kd.R_lower ho0 bls_)
          replace HB := hbs_ hb
          (try clear hb)
          (try clear hb2)
          (try clear hk)
          (try clear hi)
          (try clear ho0)
          obtain ⟨Ao23, co23, eo23⟩ := Kd.R_slice HO567.out
          (first | subst eo23 | (injection eo23 with f1_ f2_ f3_; have f4_ := f1_.symm; have f5_ := f3_.symm; clear f1_ f2_ f3_; subst f4_; subst f5_))
          refine hK.out _ _ ⟨(cb_ HB hw561_0 :), (cb_ HB hw561_1 :), (cb_ HB hw561_2 :), (cb_ HB hw561_3 :), (cb_ HB hw561_4 :), (cb_ HB hw561_5 :), (cb_ HB hw561_6 :), (cb_ HB hw561_7 :), (cb_ HB hw561_8 :), (cb_ HB hw561_9 :), HS10_, HS11_, HS12_, (cb_ HB hw563_0 :), (cb_ HB hw563_1 :), (cb_ HB hw563_2 :), (cb_ HB hw563_3 :), (cb_ HB hw563_4 :), (cb_ HB hw563_5 :), (cb_ HB hw563_6 :), (cb_ HB hw563_7 :), (cb_ HB hw563_8 :), (cb_ HB hw563_9 :), HS23_, HS24_, HS25_⟩ (fun hHeld => ?_)
          clear hK K
          refine norm_ (a' := ?_) ?_ ?_
          rotate_left
          ·show Act.put _ (some 53) _ = _
           simp only [Act.put, List.setIfInBounds_toArray, List.set_cons_zero, List.set_cons_succ, i64_w, i32_w]
           rfl
          refine pureZ_ (i := 20) (some 54) #[true, true, true, true, true, true, true, true, true, true, true, true, true, true, true, true, true, true, true, true, true, false, false, false] (ao_ HT_) ?_
          refine last_ (i := 21) (N := some 55) #[true, true, true, true, true, true, true, true, true, true, true, true, true, true, true, true, true, true, true, true, true, true, false, false] rfl rfl (one_of HT_.out (by kernel_rfl)) (by decide) (fun K hK => ?_)
          refine value_ (w1 := ?_) (v := ?_) (by rfl) rfl ?_ ?_
          rotate_left 2
          ·go_simp
           constructor
           ·rfl
           ·rfl
          refine hK.out _ _ ?_
          clear hK K
          refine norm_ (a' := ?_) ?_ ?_
          rotate_left
          ·show Act.put _ (some 55) _ = _
           simp only [Act.put, List.setIfInBounds_toArray, List.set_cons_zero, List.set_cons_succ, i64_w, i32_w]
           rfl
          refine last_ (i := 22) (N := some 56) #[true, true, true, true, true, true, true, true, true, true, true, true, true, true, true, true, true, true, true, true, true, true, true, false] rfl rfl (one_of HT_.out (by kernel_rfl)) (by decide) (fun K hK => ?_)
          refine av_S_step k63 (w0 := w) w.heap.size (by rfl) (.tmp 34) (.tmp 55) 41 63 (.agg #[(.int .i64 0), (.int .i64 0), (.int .i64 0), (.int .i64 0), (.int .i64 0), (.int .i64 0), (.int .i64 0), (.int .i64 0), (.int .i64 0), (.int .i64 0), (.int .i64 0), (.int .i64 0), (.int .i64 0), (.slice none 0 0)]) 128 rfl Try.underlying41 info63 rfl (by decide) (by omega) (by decide) u3 x3_3 (⟨(⟨(rd_T46 l0 x6_2).f0, (⟨(rd_T46 l0 x6_2).f1.f0, (rd_T46 l0 x6_2).f1.f1⟩ : S27), (rd_T46 l0 x6_2).f2, (⟨(rd_T46 l0 x6_2).f3.f0, (rd_T46 l0 x6_2).f3.f1⟩ : S27), (⟨(rd_T46 l0 x6_2).f4.f0, (rd_T46 l0 x6_2).f4.f1⟩ : S27), (rd_T46 l0 x6_2).f5, (rd_T46 l0 x6_2).f6⟩ : S46), (⟨(⟨(rd_T29 t558 x9_3).f0.f0, (rd_T29 t558 x9_3).f0.f1⟩ : S27), (rd_T29 t558 x9_3).f1⟩ : S29), t565⟩ : S63) [.int .i64 ((rd_T46 l0 x6_2).f0), .int .i64 ((rd_T46 l0 x6_2).f1.f0), .int .i64 ((rd_T46 l0 x6_2).f1.f1), .int .i64 ((rd_T46 l0 x6_2).f2), .int .i64 ((rd_T46 l0 x6_2).f3.f0), .int .i64 ((rd_T46 l0 x6_2).f3.f1), .int .i64 ((rd_T46 l0 x6_2).f4.f0), .int .i64 ((rd_T46 l0 x6_2).f4.f1), .int .i64 ((rd_T46 l0 x6_2).f5), .int .i64 ((rd_T46 l0 x6_2).f6), .int .i64 ((rd_T29 t558 x9_3).f0.f0), .int .i64 ((rd_T29 t558 x9_3).f0.f1), .int .i64 ((rd_T29 t558 x9_3).f1), .slice Ao23 t565.length co23] (fun _ => True) (fun k_ => some k_ = (.slice Ao23 t565.length co23 : Value).ownBlock) rfl rfl ?aP (fun k_ hk_ => ((Kd.R_mono (ok' := fun k_ => ((fun _ => True)) k_ ∧ some k_ ≠ (u3 : Value).ownBlock) (Kd.R_apart' (HO567.out) (Kd.S_typed HO_3.out) (by decide)) (fun k_ hk => ⟨trivial, hk.2⟩))).1 k_ hk_.symm) ?aF ?aO ?aB ?aS ?aL ?_
          (case aP => exact k63_mkM _ _ _ (⟨(⟨(rd_T46 l0 x6_2).f0, (⟨(rd_T46 l0 x6_2).f1.f0, (rd_T46 l0 x6_2).f1.f1⟩ : S27), (rd_T46 l0 x6_2).f2, (⟨(rd_T46 l0 x6_2).f3.f0, (rd_T46 l0 x6_2).f3.f1⟩ : S27), (⟨(rd_T46 l0 x6_2).f4.f0, (rd_T46 l0 x6_2).f4.f1⟩ : S27), (rd_T46 l0 x6_2).f5, (rd_T46 l0 x6_2).f6⟩ : S46), (⟨(⟨(rd_T29 t558 x9_3).f0.f0, (rd_T29 t558 x9_3).f0.f1⟩ : S27), (rd_T29 t558 x9_3).f1⟩ : S29), t565⟩ : S63) (Kd.R_mono (Kd.R_tight rfl (Kd.R_mono (ok' := fun k_ => ((fun _ => True)) k_ ∧ some k_ ≠ (u3 : Value).ownBlock) (Kd.R_apart' (HO567.out) (Kd.S_typed HO_3.out) (by decide)) (fun k_ hk => ⟨trivial, hk.2⟩))) (fun _ h_ => h_)))
          (case aB => exact bl_)
          (case aF => exact (fun _ _ => trivial))
          (case aO => exact (by (with_reducible repeat (first | apply Kd.S_alloc | apply Kd.S_drewN | apply Kd.S_drew)); exact Kd.S_mono HO_3.out (fun k_ hk => ⟨trivial, fun e_ => hk.2 e_⟩)))
          (case aS => exact bls_)
          (case aL => have := LMc18.out; omega)
          intro v569 w24 ho hb hg hat hold
          rw [← Ny568.out] at ho
          replace HO_7 := aa_ (Kd.R_over' (rr_ HO_7) (Kd.S_typed (rs_ HO_3)) (by decide) hg)
          replace HO_8 := aa_ (hold _ _ _ (rs_ HO_8) (by have := LMc19.out; omega))
          replace HB := aa_ (hb)
          have HO570 := aa_ (ho)
          clear HO_3
          clear HO567
          clear ho hb hg hat hold
          refine hK.out _ _ ?_
          clear hK K
          refine norm_ (a' := ?_) ?_ ?_
          rotate_left
          ·show Act.put _ (some 56) _ = _
           simp only [Act.put, List.setIfInBounds_toArray, List.set_cons_zero, List.set_cons_succ, i64_w, i32_w]
           rfl
          refine pureZ_ (i := 23) (some 3) #[true, true, true, true, true, true, true, true, true, true, true, true, true, true, true, true, true, true, true, true, true, true, true, true] (ao_ HT_) ?_
          refine done_ (done_of HT_.out (by kernel_rfl)) ?_
          try go_wp2
          go_roundg k3
          case measure => have := HK1.out; have := HK2.out; have := HK3.out; omega
          case rel => exact ⟨(y568), (true), (wrap64 (x9_3 + 1)), rf_, rf_, H', ⟨by have := HK1.out; have := HK2.out; have := HK3.out; omega⟩, ⟨rs_ HO570⟩, ⟨rr_ HO_7⟩, ⟨by (with_reducible repeat (first | apply Kd.S_alloc | apply Kd.S_drewN | apply Kd.S_drew)); exact Kd.S_mono HO_8.out (fun _ hk => trivial)⟩, ⟨bl_⟩⟩
         ·rw [if_neg c13] at H
          have c13b0 : decide (x9_3 < (t558.length : Int)) = false := decide_eq_false c13
          clear c13
          have H' := aa_ H
          clear H
          obtain ⟨Ao25, co25, eo25⟩ := Kd.R_slice HO_7.out
          subst eo25
          go_wp2
          go_roundg k3
          case measure => have := HK1.out; have := HK2.out; have := HK3.out; omega
          case rel => exact ⟨(x3_3), (t558), (x5_3), (wrap64 (x6_2 + 1)), rf_, rf_, H', ⟨by have := HK1.out; have := HK2.out; have := HK3.out; omega⟩, ⟨rs_ HO_3⟩, ⟨rr_ HO_7⟩, ⟨bl_⟩⟩
      ·rw [if_neg c7] at H
       have c7b0 : decide (x6_2 < (l0.length : Int)) = false := decide_eq_false c7
       clear c7
       have H' := aa_ H
       clear H
       go_wp2
       go_roundg k2
       case measure => have := HK1.out; have := HK2.out; omega
       case rel => exact ⟨(x3_2), (x4_2), (x5_2), rf_, H', ⟨by have := HK1.out; have := HK2.out; omega⟩, ⟨rs_ HO_3⟩, ⟨rr_ HO_4⟩, ⟨bl_⟩⟩
   ·replace c6 := Bool.eq_false_iff.mpr c6
    subst c6
    replace H := ite_f_ H
    obtain rfl := Option.some.inj H
    go_wp2
    go_ret
    exact ⟨_, eq_, by (with_reducible repeat (first | apply Kd.S_alloc | apply Kd.S_drewN | apply Kd.S_drew)); exact HO_3.out, bl_⟩
end Go.Proofs.Ytcbhmcpdnokbiaa.PA
