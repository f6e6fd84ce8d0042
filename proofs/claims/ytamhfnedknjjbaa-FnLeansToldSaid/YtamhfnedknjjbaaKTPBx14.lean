import Derived.Test.YtamhfnedknjjbaaKTPBx13
-- printed by wip/tools
namespace Go.Proofs.Ytamhfnedknjjbaa.PB
open Go.RowKit Go.Proofs.YtamhfnedknjjbaaW.PrintWords Go.Proofs.YtamhfnedknjjbaaW.PrintLast Go.Proofs.YtamhfnedknjjbaaW.PrintMore
attribute [local go_sem] max2_int min2_int max_two min_two max_three min_three max_four min_four
set_option linter.unusedVariables false
set_option linter.unusedSimpArgs false
attribute [local go_sem high] eqA26
mutual
def spec_FactsOf.l0 : Nat → List (S49) → List (S58) → Bool → Option ((List (S58)))
 | 0, _, _, _ => none
 | k + 1, x0, x3, x4 => if x4 = true then (spec_FactsOf.l1 k x0 x3 false 0) else (some x3)
def spec_FactsOf.l1 : Nat → List (S49) → List (S58) → Bool → Int → Option ((List (S58)))
 | 0, _, _, _, _ => none
 | k + 1, x0, x3, x4, x5 => if x5 < (x0.length : Int) then (if 0 ≤ x5 then ((spec_Follows.f k x3 ((rd_T49 x0 x5).f0) ((rd_T49 x0 x5).f1.f0) ((rd_T49 x0 x5).f1.f1) ((rd_T49 x0 x5).f2) ((rd_T49 x0 x5).f3.f0) ((rd_T49 x0 x5).f3.f1) ((rd_T49 x0 x5).f4.f0) ((rd_T49 x0 x5).f4.f1) ((rd_T49 x0 x5).f5) ((rd_T49 x0 x5).f6)).bind fun t549 => (if (t549.length : Int) > (x3.length : Int) then (spec_FactsOf.l1 k x0 t549 true (wrap64 (x5 + 1))) else (spec_FactsOf.l1 k x0 t549 x4 (wrap64 (x5 + 1))))) else (none)) else (spec_FactsOf.l0 k x0 x3 x4)
end
def spec_FactsOf.f (k : Nat) (l0 : List (S49)) : Option ((List (S58))) := spec_FactsOf.l0 k l0 (([] : List (S58))) true
set_option maxHeartbeats 8000000 in
set_option maxRecDepth 100000 in
theorem spec_FactsOf.calls (k : Nat) (A0 : Option Addr) (c0 : Nat) (l0 : List (S49)) (r : List (S58)) (w : World) (hr0 : Kd.C k49 w A0 l0.length l0) (hc0 : l0.length ≤ c0) (h : spec_FactsOf.f k l0 = some r) :
  Calls Try.prog 33 #[.slice A0 l0.length c0] w fun e w' => ∃ v0_ : Value, e = .returned (v0_) ∧ Kd.R k58 58 w' w.heap.size (fun _ => True) v0_ r ∧ Below w.heap.size w w' := by
 have hu49 := Try.underlying49
 have HR0 := Aside0.mk hr0
 have HC0 := Aside0.mk hc0
 clear hr0 hc0
 have HB := Aside0.mk (Below.refl w.heap.size w)
 have H : (spec_FactsOf.l0 k l0 (([] : List (S58))) true) = some r := h
 clear h
 obtain ⟨y545, hy545⟩ : ∃ y_ : List (S58), y_ = (([] : List (S58))) := ⟨_, rfl⟩
 replace H : (spec_FactsOf.l0 k l0 y545 true) = some r := rh_ hy545 H
 have Ny545 := Aside0.mk hy545
 clear hy545
 have H' := Aside0.mk H
 clear H
 go_enter Try.func33, Try.ntmps33
 go_wp2_with (first | ((with_reducible refine gate_dst (N := 7) rfl ?_); refine Kd.R_lit k58 _ 58 ?hg (N := 7) ?hd (xs := ([] : List (S58))) (inner := []) (ok := fun _ => True) (okp := fun _ => True) ?hr ?hp (fun _ hk => hk) trivial (Below.refl _ _) (Nat.le_refl _) (by simp) ?_; (case hd => rfl); (case hg => rfl); (case hr => first | (go_simp; done) | (go_simp; rfl)); (case hp => exact (Reps.none _ _)); intro v546 w2 ho3 hb hg_ hnew_; clear hg_ hnew_; (first | rw [← Ny545.out] at ho3 | (simp only [Int.reduceToNat] at ho3; rw [← Ny545.out] at ho3)); have HO547 := Aside0.mk (Kd.R_lower ho3 bls_); replace HB := hbs_ hb; clear hb ho3))
 go_loopg [3, 4] k (fun kq v3 v4 w' => ∃ (x3_1 : List (S58)) (x4_1 : Bool), v4 = .bool x4_1 ∧ Aside0 (spec_FactsOf.l0 kq l0 x3_1 x4_1 = some r) ∧ Aside0 (kq ≤ k) ∧ Aside0 (Kd.R k58 58 w' w.heap.size (fun _ => True) v3 x3_1) ∧ Aside0 (Below w.heap.size w w'))
 case atStart => exact ⟨(y545), (true), rf_, H', ⟨Nat.le_refl _⟩, ⟨rr_ HO547⟩, ⟨bl_⟩⟩
 case round =>
  clear H'
  try clear p2
  try clear c3
  obtain ⟨x3_1, x4_1, rfl, HA, HK1, HO_3, HB⟩ := hrel
  cases gk with
  | zero => exact absurd HA.out (by simp [spec_FactsOf.l0])
  | succ k1 =>
   have H := HA.out
   clear HA
   simp only [spec_FactsOf.l0] at H
   by_cases c4 : x4_1 = true
   ·subst c4
    replace H := ite_t_ H
    have H' := Aside0.mk H
    clear H
    go_wp2
    go_loopg [3, 4, 5] k1 (fun kq v3 v4 v5 w' => ∃ (x3_2 : List (S58)) (x4_2 : Bool) (x5_2 : Int), v4 = .bool x4_2 ∧ v5 = .int .i64 x5_2 ∧ Aside0 (spec_FactsOf.l1 kq l0 x3_2 x4_2 x5_2 = some r) ∧ Aside0 (kq ≤ k1) ∧ Aside0 (Kd.R k58 58 w' w.heap.size (fun _ => True) v3 x3_2) ∧ Aside0 (Below w.heap.size w w'))
    case atStart => exact ⟨(x3_1), (false), (0), rf_, rf_, H', ⟨Nat.le_refl _⟩, ⟨rr_ HO_3⟩, ⟨bl_⟩⟩
    case round =>
     clear H'
     try clear p2
     try clear c3
     try clear c4
     try clear p2
     obtain ⟨x3_2, x4_2, x5_2, rfl, rfl, HA, HK2, HO_3, HB⟩ := hrel
     cases gk with
     | zero => exact absurd HA.out (by simp [spec_FactsOf.l1])
     | succ k2 =>
      have H := HA.out
      clear HA
      simp only [spec_FactsOf.l1] at H
      by_cases c5 : x5_2 < (l0.length : Int)
      ·rw [if_pos c5] at H
       have c5b0 : decide (x5_2 < (l0.length : Int)) = true := decide_eq_true c5
       clear c5
       obtain ⟨c6b0, H⟩ := ifd_ H
       obtain ⟨t549, A7, H⟩ := bindE_ H
       have HC8 := Aside0.mk H
       clear H
       have p548 : 0 ≤ (x5_2 : Int) := od_
       have q548 : x5_2 < (l0.length : Int) := od_
       obtain ⟨ad548, e548, hx548_0, hx548_1, hx548_2, hx548_3, hx548_4, hx548_5, hx548_6, hx548_7, hx548_8, hx548_9⟩ := at_T49 (Kd.C_below HR0.out HB.out) x5_2 p548 q548
       cases e548
       replace p548 := eq_true p548
       replace q548 := eq_true q548
       obtain ⟨Ao9, co9, eo9⟩ := Kd.R_slice HO_3.out
       subst eo9
       go_upto_if 25 with (first | ((with_reducible refine gate_callee (f := 52) rfl ?_); refine goesC_ (some 20) Try.func52 #[.slice Ao9 x3_2.length co9, .agg #[.int .i64 ((rd_T49 l0 x5_2).f0), .int .i64 ((rd_T49 l0 x5_2).f1.f0), .int .i64 ((rd_T49 l0 x5_2).f1.f1), .int .i64 ((rd_T49 l0 x5_2).f2), .int .i64 ((rd_T49 l0 x5_2).f3.f0), .int .i64 ((rd_T49 l0 x5_2).f3.f1), .int .i64 ((rd_T49 l0 x5_2).f4.f0), .int .i64 ((rd_T49 l0 x5_2).f4.f1), .int .i64 ((rd_T49 l0 x5_2).f5), .int .i64 ((rd_T49 l0 x5_2).f6)]] ?_; (with_reducible refine (spec_Follows.calls k2 _ _ x3_2 ((rd_T49 l0 x5_2).f0) ((rd_T49 l0 x5_2).f1.f0) ((rd_T49 l0 x5_2).f1.f1) ((rd_T49 l0 x5_2).f2) ((rd_T49 l0 x5_2).f3.f0) ((rd_T49 l0 x5_2).f3.f1) ((rd_T49 l0 x5_2).f4.f0) ((rd_T49 l0 x5_2).f4.f1) ((rd_T49 l0 x5_2).f5) ((rd_T49 l0 x5_2).f6) t549 _ ?side1 ?side2 A7.out).mono ?_); (case side1 => repeat (first | exact (Kd.R_reads' HO_3.out).2.2 | (with_reducible refine Kd.C_alloc ?_ _) | (with_reducible refine Kd.C_drewN ?_ _) | (with_reducible refine Kd.C_drew ?_))); (case side2 => exact (Kd.R_reads' HO_3.out).2.1); rintro e w10 ⟨v550, rfl, ho0, hb⟩; refine ⟨_, rfl, ?_⟩; have HO551 := Aside0.mk (Kd.R_lower (Kd.R_new' ho0 (Kd.R_lt (rr_ HO_3))) bls_); replace HO_3 := Aside0.mk (Kd.R_elder' (rr_ HO_3) (Kd.R_base ho0) hb); replace HB := hbs_ hb; (try clear hb ho0); obtain ⟨Ao11, co11, eo11⟩ := Kd.R_slice HO551.out; subst eo11))
       (try simp only [Act.put, List.setIfInBounds_toArray, List.set_cons_zero, List.set_cons_succ])
       have H := HC8.out
       clear HC8
       by_cases c12 : (t549.length : Int) > (x3_2.length : Int)
       ·rw [if_pos c12] at H
        have c12b0 : decide ((x3_2.length : Int) < (t549.length : Int)) = true := decide_eq_true c12
        have c12b1 : decide (x3_2.length < t549.length) = true := decide_eq_true (Int.ofNat_lt.mp c12)
        clear c12
        (first | rw [c12b0] | (simp only [i64_w, i32_w]; rw [c12b0]) | (have cz_ := c12b0; simp only [Int.ofNat_lt, Int.ofNat_le, gt_iff_lt, ge_iff_le] at cz_; rw [cz_]; clear cz_) | skip)
        have H' := Aside0.mk H
        clear H
        go_wp2
        go_roundg k2
        case measure => have := HK1.out; have := HK2.out; omega
        case rel => exact ⟨(t549), (true), (wrap64 (x5_2 + 1)), rf_, rf_, H', ⟨by have := HK1.out; have := HK2.out; omega⟩, ⟨by (with_reducible repeat (first | apply Kd.R_alloc | apply Kd.R_drewN | apply Kd.R_drew)); exact Kd.R_mono HO551.out (fun _ hk => trivial)⟩, ⟨bl_⟩⟩
       ·rw [if_neg c12] at H
        have c12b0 : decide ((x3_2.length : Int) < (t549.length : Int)) = false := decide_eq_false c12
        have c12b1 : decide (x3_2.length < t549.length) = false := decide_eq_false (fun h => c12 (Int.ofNat_lt.mpr h))
        clear c12
        (first | rw [c12b0] | (simp only [i64_w, i32_w]; rw [c12b0]) | (have cz_ := c12b0; simp only [Int.ofNat_lt, Int.ofNat_le, gt_iff_lt, ge_iff_le] at cz_; rw [cz_]; clear cz_) | skip)
        have H' := Aside0.mk H
        clear H
        go_wp2
        go_roundg k2
        case measure => have := HK1.out; have := HK2.out; omega
        case rel => exact ⟨(t549), (x4_2), (wrap64 (x5_2 + 1)), rf_, rf_, H', ⟨by have := HK1.out; have := HK2.out; omega⟩, ⟨by (with_reducible repeat (first | apply Kd.R_alloc | apply Kd.R_drewN | apply Kd.R_drew)); exact Kd.R_mono HO551.out (fun _ hk => trivial)⟩, ⟨bl_⟩⟩
      ·rw [if_neg c5] at H
       have c5b0 : decide (x5_2 < (l0.length : Int)) = false := decide_eq_false c5
       clear c5
       have H' := Aside0.mk H
       clear H
       go_wp2
       go_roundg k2
       case measure => have := HK1.out; have := HK2.out; omega
       case rel => exact ⟨(x3_2), (x4_2), rf_, H', ⟨by have := HK1.out; have := HK2.out; omega⟩, ⟨rr_ HO_3⟩, ⟨bl_⟩⟩
   ·replace c4 := Bool.eq_false_iff.mpr c4
    subst c4
    replace H := ite_f_ H
    obtain rfl := Option.some.inj H
    go_wp2
    go_ret
    exact ⟨_, eq_, by (with_reducible repeat (first | apply Kd.R_alloc | apply Kd.R_drewN | apply Kd.R_drew)); exact HO_3.out, bl_⟩
def spec_l13Done.l0 : Nat → List (S26) → Int → Int → Int → Option (Bool)
 | 0, _, _, _, _ => none
 | k + 1, x0, x5, x553000, x553001 => if x5 < (x0.length : Int) then (if 0 ≤ x5 then (if (((rd_T26 x0 x5).f0) == x553000 && (((rd_T26 x0 x5).f1) == x553001)) = true then (some true) else (spec_l13Done.l0 k x0 (wrap64 (x5 + 1)) x553000 x553001)) else (none)) else (some false)
def spec_l13Done.f (k : Nat) (l0 : List (S26)) (a1_0 : Int) (a1_1 : Int) : Option (Bool) := spec_l13Done.l0 k l0 0 a1_0 a1_1
set_option maxHeartbeats 8000000 in
set_option maxRecDepth 100000 in
theorem spec_l13Done.calls (k : Nat) (A0 : Option Addr) (c0 : Nat) (l0 : List (S26)) (a1_0 : Int) (a1_1 : Int) (r : Bool) (w : World) (hr0 : Kd.C k26 w A0 l0.length l0) (hc0 : l0.length ≤ c0) (h : spec_l13Done.f k l0 a1_0 a1_1 = some r) :
  Calls Try.prog 37 #[.slice A0 l0.length c0, .agg #[.int .i64 a1_0, .int .i64 a1_1]] w fun e w' => e = .returned (.bool r) ∧ Below w.heap.size w w' := by
 have hu26 := Try.underlying26
 have HR0 := Aside0.mk hr0
 have HC0 := Aside0.mk hc0
 clear hr0 hc0
 have HB := Aside0.mk (Below.refl w.heap.size w)
 have H : (spec_l13Done.l0 k l0 0 a1_0 a1_1) = some r := h
 clear h
 have H' := Aside0.mk H
 clear H
 go_enter Try.func37, Try.ntmps37
 go_wp2_with (first | ((with_reducible refine gate_dst (N := 3) rfl ?_); refine box_event ?hg (N := 3) ?hd (cs := #[.int .i64 a1_0, .int .i64 a1_1]) (t := 26) ?hr ?_; (case hd => rfl); (case hg => rfl); (case hr => first | (go_simp; done) | (go_simp; rfl)); intro gb552 hg w3 hbox hb; have BK552 := Aside0.mk (hbox); have GW552 := gs_ hg; have GE552 := gs_ hg; replace HB := hbs_ hb; clear hb hbox hg))
 repeat (go_quiet (first | ((with_reducible refine gate_dst (N := 3) rfl ?_); refine box_event ?hg (N := 3) ?hd (cs := #[.int .i64 a1_0, .int .i64 a1_1]) (t := 26) ?hr ?_; (case hd => rfl); (case hg => rfl); (case hr => first | (go_simp; done) | (go_simp; rfl)); intro gb552 hg w3 hbox hb; have BK552 := Aside0.mk (hbox); have GW552 := gs_ hg; have GE552 := gs_ hg; replace HB := hbs_ hb; clear hb hbox hg)); try go_wp2_with (first | ((with_reducible refine gate_dst (N := 3) rfl ?_); refine box_event ?hg (N := 3) ?hd (cs := #[.int .i64 a1_0, .int .i64 a1_1]) (t := 26) ?hr ?_; (case hd => rfl); (case hg => rfl); (case hr => first | (go_simp; done) | (go_simp; rfl)); intro gb552 hg w3 hbox hb; have BK552 := Aside0.mk (hbox); have GW552 := gs_ hg; have GE552 := gs_ hg; replace HB := hbs_ hb; clear hb hbox hg)))
 go_loopg [5] k (fun kq v5 w' => ∃ (x5_1 : Int), v5 = .int .i64 x5_1 ∧ Aside0 (spec_l13Done.l0 kq l0 x5_1 a1_0 a1_1 = some r) ∧ Aside0 (kq ≤ k) ∧ Aside0 (w'.heap[gb552]? = some (.cells #[.int .i64 a1_0, .int .i64 a1_1] 26 (0, 0))) ∧ Aside0 (Below w.heap.size w w'))
 case atStart => exact ⟨(0), rf_, H', ⟨Nat.le_refl _⟩, ⟨bk_ BK552⟩, ⟨bl_⟩⟩
 case round =>
  clear H'
  try clear p2
  try clear c3
  obtain ⟨x5_1, rfl, HA, HK1, BK552, HB⟩ := hrel
  cases gk with
  | zero => exact absurd HA.out (by simp [spec_l13Done.l0])
  | succ k1 =>
   have H := HA.out
   clear HA
   simp only [spec_l13Done.l0] at H
   by_cases c4 : x5_1 < (l0.length : Int)
   ·rw [if_pos c4] at H
    have c4b0 : decide (x5_1 < (l0.length : Int)) = true := decide_eq_true c4
    clear c4
    obtain ⟨c5b0, H⟩ := ifd_ H
    have HC6 := Aside0.mk H
    clear H
    have p553 : 0 ≤ (x5_1 : Int) := od_
    have q553 : x5_1 < (l0.length : Int) := od_
    obtain ⟨ad553, e553, hx553_0, hx553_1⟩ := at_T26 (Kd.C_below HR0.out HB.out) x5_1 p553 q553
    cases e553
    replace p553 := eq_true p553
    replace q553 := eq_true q553
    have hcz7 := blk_cell BK552.out
    have hfz7 := blk_frozen BK552.out
    go_upto_if 17 with (fail)
    repeat (go_quiet (fail); go_upto_if 17 with (fail))
    have H := HC6.out
    clear HC6
    by_cases c8 : (((rd_T26 l0 x5_1).f0) == a1_0 && (((rd_T26 l0 x5_1).f1) == a1_1)) = true
    ·rw [if_pos c8] at H
     have c8b0 : (((rd_T26 l0 x5_1).f0) == a1_0 && (((rd_T26 l0 x5_1).f1) == a1_1)) = true := c8
     (try (have c8b1 : decide (((rd_T26 l0 x5_1).f0) = a1_0 && (((rd_T26 l0 x5_1).f1) == a1_1)) = true := by simpa using c8))
     (try (have c8b2 : (((rd_T26 l0 x5_1).f0) == a1_0 && (((rd_T26 l0 x5_1).f1) == a1_1)) = true := by simpa using c8))
     clear c8
     (first | rw [c8b0] | (simp only [i64_w, i32_w]; rw [c8b0]) | skip)
     obtain rfl := Option.some.inj H
     go_wp2
     repeat (go_quiet (fail); try go_wp2)
     go_ret
     exact ⟨eq_, bl_⟩
    ·rw [if_neg c8] at H
     have c8b0 : (((rd_T26 l0 x5_1).f0) == a1_0 && (((rd_T26 l0 x5_1).f1) == a1_1)) = false := by simpa using c8
     (try (have c8b1 : decide (((rd_T26 l0 x5_1).f0) = a1_0 && (((rd_T26 l0 x5_1).f1) == a1_1)) = false := by simpa using c8))
     (try (have c8b2 : (((rd_T26 l0 x5_1).f0) == a1_0 && (((rd_T26 l0 x5_1).f1) == a1_1)) = false := by simpa using c8))
     (try (have c8b3 : ¬ (((rd_T26 l0 x5_1).f0) = a1_0 && (((rd_T26 l0 x5_1).f1) == a1_1)) := by simpa using c8))
     clear c8
     (first | rw [c8b0] | (simp only [i64_w, i32_w]; rw [c8b0]) | skip)
     have H' := Aside0.mk H
     clear H
     go_wp2
     repeat (go_quiet (fail); try go_wp2)
     go_roundg k1
     case measure => have := HK1.out; omega
     case rel => exact ⟨(wrap64 (x5_1 + 1)), rf_, H', ⟨by have := HK1.out; omega⟩, ⟨bk_ BK552⟩, ⟨bl_⟩⟩
   ·rw [if_neg c4] at H
    have c4b0 : decide (x5_1 < (l0.length : Int)) = false := decide_eq_false c4
    clear c4
    obtain rfl := Option.some.inj H
    go_wp2
    repeat (go_quiet (fail); try go_wp2)
    go_ret
    exact ⟨eq_, bl_⟩
def spec_l18Add.f (k : Nat) (l0 : List (S26)) (a1_0 : Int) (a1_1 : Int) : Option ((List (S26))) := (spec_l13Done.f k l0 a1_0 a1_1).bind fun t555 => (if t555 = true then (some l0) else ((some (([] : List (S26)) : List (S26))).bind fun y556 => (if y556.length + l0.length < 8796093022208 then ((some (y556 ++ l0 : List (S26))).bind fun y559 => ((some (([(⟨a1_0, a1_1⟩ : S26)] : List (S26)) : List (S26))).bind fun y562 => (if y559.length + y562.length < 8796093022208 then (some (y559 ++ y562)) else (none)))) else (none))))
set_option maxHeartbeats 8000000 in
set_option maxRecDepth 100000 in
theorem spec_l18Add.calls (k : Nat) (P0_ : Nat → Prop) (u9000_ : Value) (l0 : List (S26)) (a1_0 : Int) (a1_1 : Int) (r : List (S26)) (w0 w : World) (hB : Below w0.heap.size w0 w) (ho0 : Kd.R k26 26 w w0.heap.size P0_ u9000_ l0) (h : spec_l18Add.f k l0 a1_0 a1_1 = some r) :
  Calls Try.prog 35 #[u9000_, .agg #[.int .i64 a1_0, .int .i64 a1_1]] w fun e w' => ∃ v0_ : Value, e = .returned (v0_) ∧ Kd.R k26 26 w' w0.heap.size (fun k_ => (P0_ k_ ∨ w.heap.size ≤ k_)) v0_ r ∧ Below w0.heap.size w0 w' ∧ Kept w w' (fun k_ => P0_ k_) := by
 have hu26 := Try.underlying26
 have HO0 := Aside0.mk (show Kd.R k26 26 w w0.heap.size (fun k_ => (P0_ k_ ∨ w.heap.size ≤ k_)) u9000_ l0 from Kd.R_mono ho0 (fun k_ hk => (.inl hk)))
 have HK := Aside0.mk (Kept.refl w (fun k_ => P0_ k_))
 have HW0 := Aside0.mk hB.size
 have HB := Aside0.mk hB
 clear hB
 have H : ((spec_l13Done.f k l0 a1_0 a1_1).bind fun t555 => (if t555 = true then (some l0) else ((some (([] : List (S26)) : List (S26))).bind fun y556 => (if y556.length + l0.length < 8796093022208 then ((some (y556 ++ l0 : List (S26))).bind fun y559 => ((some (([(⟨a1_0, a1_1⟩ : S26)] : List (S26)) : List (S26))).bind fun y562 => (if y559.length + y562.length < 8796093022208 then (some (y559 ++ y562)) else (none)))) else (none))))) = some r := h
 clear h
 obtain ⟨t555, A3, H⟩ := bindE_ H
 have HC4 := Aside0.mk H
 clear H
 go_enter Try.func35, Try.ntmps35
 go_upto_if 7 with (first | ((with_reducible refine gate_dst (N := 3) rfl ?_); refine box_event ?hg (N := 3) ?hd (cs := #[.int .i64 a1_0, .int .i64 a1_1]) (t := 26) ?hr ?_; (case hd => rfl); (case hg => rfl); (case hr => first | (go_simp; done) | (go_simp; rfl)); intro gb554 hg w5 hbox hb; replace HO0 := Aside0.mk (Kd.R_below (Kd.R_elderB (rr_ HO0) gb554 (Nat.le_of_eq hg.symm)) hb); have BK554 := Aside0.mk (hbox); have GW554 := Aside0.mk ((by rw [hg]; exact (by first | exact HK.out.1 | exact (show Kept w _ (fun k_ => P0_ k_) from by repeat (first | (with_reducible first | exact HK.out | apply Kept.alloc | apply Kept.drewN | apply Kept.drew) | exact HK.out)).1) : w.heap.size ≤ gb554)); replace HK := Aside0.mk (Kept.below (S := (fun k_ => P0_ k_)) (by repeat (first | (with_reducible first | exact HK.out | apply Kept.alloc | apply Kept.drewN | apply Kept.drew) | exact HK.out)) hb); have GE554 := Aside0.mk ((by rw [hg]; exact bls_ : w0.heap.size ≤ gb554)); replace HB := hbs_ hb; clear hb hbox hg; obtain ⟨hcz6, hfz6⟩ := bcf_ BK554; obtain ⟨Ao7, co7, eo7⟩ := Kd.R_slice HO0.out; subst eo7) | ((with_reducible refine gate_callee (f := 37) rfl ?_); refine goesC_ (some 7) Try.func37 #[.slice Ao7 l0.length co7, .agg #[.int .i64 a1_0, .int .i64 a1_1]] ?_; (with_reducible refine (spec_l13Done.calls k _ _ l0 a1_0 a1_1 t555 _ ?side1 ?side2 A3.out).mono ?_); (case side1 => repeat (first | exact (Kd.R_reads' HO0.out).2.2 | (with_reducible refine Kd.C_alloc ?_ _) | (with_reducible refine Kd.C_drewN ?_ _) | (with_reducible refine Kd.C_drew ?_))); (case side2 => exact (Kd.R_reads' HO0.out).2.1); rintro e w8 ⟨rfl, hb⟩; refine ⟨_, rfl, ?_⟩; replace HO0 := hob_ HO0 hb; replace BK554 := bkb_ BK554 hb; replace HK := Aside0.mk (Kept.below (S := (fun k_ => P0_ k_)) (by repeat (first | (with_reducible first | exact HK.out | apply Kept.alloc | apply Kept.drewN | apply Kept.drew | refine Kept.setCell ?_ (.inr GW554.out) _) | exact HK.out)) hb); replace HB := hbs_ hb; clear hb))
 (try simp only [Act.put, List.setIfInBounds_toArray, List.set_cons_zero, List.set_cons_succ])
 have H := HC4.out
 clear HC4
 by_cases c9 : t555 = true
 ·subst c9
  replace H := ite_t_ H
  obtain rfl := Option.some.inj H
  go_wp2
  go_ret
  exact ⟨_, eq_, by (with_reducible repeat (first | apply Kd.R_alloc | apply Kd.R_drewN | apply Kd.R_drew)); exact Kd.R_mono HO0.out (fun _ hk => hk.1), bl_, by repeat (first | (with_reducible first | exact HK.out | apply Kept.alloc | apply Kept.drewN | apply Kept.drew | refine Kept.setCell ?_ (.inr GW554.out) _) | exact HK.out)⟩
 ·replace c9 := Bool.eq_false_iff.mpr c9
  subst c9
  replace H := ite_f_ H
  obtain ⟨y556, hy556⟩ : ∃ y_ : List (S26), y_ = (([] : List (S26))) := ⟨_, rfl⟩
  replace H : (if y556.length + l0.length < 8796093022208 then ((some (y556 ++ l0 : List (S26))).bind fun y559 => ((some (([(⟨a1_0, a1_1⟩ : S26)] : List (S26)) : List (S26))).bind fun y562 => (if y559.length + y562.length < 8796093022208 then (some (y559 ++ y562)) else (none)))) else (none)) = some r := rh_ hy556 H
  have Ny556 := Aside0.mk hy556
  clear hy556
  obtain ⟨c10, H⟩ := ifn_ H
  have LMc10 := Aside0.mk c10
  clear c10
  obtain ⟨y559, hy559⟩ : ∃ y_ : List (S26), y_ = (y556 ++ l0) := ⟨_, rfl⟩
  replace H : ((some (([(⟨a1_0, a1_1⟩ : S26)] : List (S26)) : List (S26))).bind fun y562 => (if y559.length + y562.length < 8796093022208 then (some (y559 ++ y562)) else (none))) = some r := rh_ hy559 H
  have Ny559 := Aside0.mk hy559
  clear hy559
  obtain ⟨y562, hy562⟩ : ∃ y_ : List (S26), y_ = (([(⟨a1_0, a1_1⟩ : S26)] : List (S26))) := ⟨_, rfl⟩
  replace H : (if y559.length + y562.length < 8796093022208 then (some (y559 ++ y562)) else (none)) = some r := rh_ hy562 H
  have Ny562 := Aside0.mk hy562
  clear hy562
  obtain ⟨c11, H⟩ := ifn_ H
  have LMc11 := Aside0.mk c11
  clear c11
  obtain ⟨y565, hy565⟩ : ∃ y_ : List (S26), y_ = (y559 ++ y562) := ⟨_, rfl⟩
  replace H : (some y565) = some r := rh_ hy565 H
  have Ny565 := Aside0.mk hy565
  clear hy565
  obtain rfl := Option.some.inj H
  try go_wp2
  replace HO0 := Aside0.mk (Kd.R_drew HO0.out)
  replace BK554 := Aside0.mk (blk_drew BK554.out)
  replace HK := Aside0.mk (Kept.drew HK.out)
  replace HB := Aside0.mk (below_drew1 HB.out)
  refine start_ (n := 7) (S := fun w' => w'.cell? ⟨gb554, 0, none⟩ = some (.int .i64 a1_0) ∧ w'.cell? ⟨gb554, 1, none⟩ = some (.int .i64 a1_1)) (ds := []) #[false, false, false, false, false, false, false] (by kernel_rfl) rfl rfl ⟨(blk_cell BK554.out 0).trans rfl, (blk_cell BK554.out 1).trans rfl⟩ (fun hHeld => ?_)
  generalize w8.drew = w12 at HO0 BK554 HK HB hHeld ⊢
  refine pure_ (i := 1) (N := some 10) (v := ?_) (a' := ?_) #[false, true, false, false, false, false, false] rfl rfl (by kernel_rfl) (fun _ _ _ h => h) (Or.inl ⟨by rfl, ?_⟩) ?_ ?_
  rotate_left
  ·intro w'
   go_simp
   with_reducible rfl
  rotate_left
  ·simp only [Act.put, List.setIfInBounds_toArray, List.set_cons_zero, List.set_cons_succ, i64_w, i32_w]
   rfl
  refine take_ (i := 3) (N := some 12) (v := ?_) (a' := ?_) #[false, true, false, true, false, false, false] rfl rfl (by kernel_rfl) (fun _ _ _ h => h) (Or.inl ⟨by rfl, ?_⟩) hHeld ?_ ?_
  rotate_left
  ·rintro w' ⟨s0, s1⟩
   go_simp
   with_reducible rfl
  rotate_left
  ·simp only [Act.put, List.setIfInBounds_toArray, List.set_cons_zero, List.set_cons_succ, i64_w, i32_w]
   rfl
  refine join_ (σ := Value × Value × Value) 2 #[true, true, true, true, true, false, false] (fun s_ => [(9, s_.1), (11, s_.2.1), (13, s_.2.2)]) (fun s_ w' => (w'.cell? ⟨gb554, 0, none⟩ = some (.int .i64 a1_0) ∧ w'.cell? ⟨gb554, 1, none⟩ = some (.int .i64 a1_1)) ∧ (Kd.R k26 26 w' w0.heap.size (fun k_ => (P0_ k_ ∨ w.heap.size ≤ k_) ∧ some k_ ≠ (s_.2.1 : Value).ownBlock ∧ some k_ ≠ (s_.2.2 : Value).ownBlock ∧ k_ ≠ gb554) (.slice Ao7 l0.length co7) l0) ∧ (Kd.R k26 26 w' w0.heap.size (fun k_ => (P0_ k_ ∨ w.heap.size ≤ k_) ∧ some k_ ≠ (.slice Ao7 l0.length co7 : Value).ownBlock ∧ some k_ ≠ (s_.2.2 : Value).ownBlock ∧ k_ ≠ gb554) s_.2.1 y559) ∧ (Kd.R k26 26 w' w0.heap.size (fun k_ => (P0_ k_ ∨ w.heap.size ≤ k_) ∧ some k_ ≠ (.slice Ao7 l0.length co7 : Value).ownBlock ∧ some k_ ≠ (s_.2.1 : Value).ownBlock ∧ k_ ≠ gb554) s_.2.2 y562) ∧ (w'.heap[gb554]? = some (.cells #[.int .i64 a1_0, .int .i64 a1_1] 26 (0, 0))) ∧ (Kept w w' (fun k_ => P0_ k_)) ∧ (Below w0.heap.size w0 w')) ?_ ?_
  rotate_left
  ·intro hCont
   refine two_ (i := 0) (j := 4) (Ni := some 9) (Nj := some 13) #[true, true, false, true, false, false, false] #[false, true, false, true, true, false, false] rfl rfl rfl rfl (by kernel_rfl) (by decide) (by decide) (fun K hK => ?_) (fun K hK => ?_)
   ·skip
    refine Kd.R_lit_step k26 _ 26 ?hg (N := 9) ?hd (xs := ([] : List (S26))) (inner := []) (ok := fun _ => True) (okp := fun _ => True) ?hr ?hp (fun _ hk => hk) trivial (Below.refl _ _) (Nat.le_refl _) (by simp) ?_; (case hd => rfl); (case hg => rfl); (case hr => first | (go_simp; done) | (go_simp; rfl)); (case hp => exact (Reps.none _ _))
    intro v557 w13 ho14 hb hg_ hnew_
    clear hg_ hnew_
    (first | rw [← Ny556.out] at ho14 | (simp only [Int.reduceToNat] at ho14; rw [← Ny556.out] at ho14))
    have HO558 := Aside0.mk (Kd.R_lower (Kd.R_newB (Kd.R_new' (Kd.R_newM (M := fun k_ => (P0_ k_ ∨ w.heap.size ≤ k_)) ho14 (by first | exact HK.out.1 | exact (show Kept w _ (fun k_ => P0_ k_) from by repeat (first | (with_reducible first | exact HK.out | apply Kept.alloc | apply Kept.drewN | apply Kept.drew | refine Kept.setCell ?_ (.inr GW554.out) _) | exact HK.out)).1) (fun k_ h_ => .inr h_)) (Kd.R_lt (rr_ HO0))) (g := gb554) (o := .cells #[.int .i64 a1_0, .int .i64 a1_1] 26 (0, 0)) (bk_ BK554)) bls_)
    replace HO0 := Aside0.mk (Kd.R_elder' (rr_ HO0) (Kd.R_base ho14) hb)
    replace BK554 := bkb_ BK554 hb
    replace HK := Aside0.mk (Kept.below (S := (fun k_ => P0_ k_)) (by repeat (first | (with_reducible first | exact HK.out | apply Kept.alloc | apply Kept.drewN | apply Kept.drew | refine Kept.setCell ?_ (.inr GW554.out) _) | exact HK.out)) hb)
    replace HB := hbs_ hb
    clear hb ho14
    refine hK.out _ _ ⟨(blk_cell BK554.out 0).trans rfl, (blk_cell BK554.out 1).trans rfl⟩ (fun hHeld => ?_)
    clear hK K
    refine norm_ (a' := ?_) ?_ ?_
    rotate_left
    ·show Act.put _ (some 9) _ = _
     simp only [Act.put, List.setIfInBounds_toArray, List.set_cons_zero, List.set_cons_succ, i64_w, i32_w]
     rfl
    refine two_ (i := 2) (j := 4) (Ni := some 11) (Nj := some 13) #[true, true, true, true, false, false, false] #[true, true, false, true, true, false, false] rfl rfl rfl rfl (by kernel_rfl) (by decide) (by decide) (fun K hK => ?_) (fun K hK => ?_)
    ·skip
     refine Kd.R_append_rows_step k26 (w0 := w0) w0.heap.size (by rfl) (.tmp 9) (.tmp 10) 35 26 (.agg #[(.int .i64 0), (.int .i64 0)]) 16 rfl Try.underlying35 info26 rfl (by decide) (by omega) v557 y556 l0 _ _ _ (fun k_ => (P0_ k_ ∨ w.heap.size ≤ k_) ∧ some k_ ≠ (.slice Ao7 l0.length co7 : Value).ownBlock ∧ k_ ≠ gb554) (fun _ => False) rfl rfl ?aO ?aR (fun _ _ h => h) (fun _ h => h.elim) ?aF ?aB ?aS ?aL ?_
     (case aR => repeat (first | exact (Kd.R_reads' HO0.out).2.2 | (with_reducible refine Kd.C_alloc ?_ _) | (with_reducible refine Kd.C_drewN ?_ _) | (with_reducible refine Kd.C_drew ?_)))
     (case aB => exact bl_)
     (case aF => exact (fun k_ hk => ⟨(.inr (Nat.le_trans (by first | exact HK.out.1 | exact (show Kept w _ (fun k_ => P0_ k_) from by repeat (first | (with_reducible first | exact HK.out | apply Kept.alloc | apply Kept.drewN | apply Kept.drew | refine Kept.setCell ?_ (.inr GW554.out) _) | exact HK.out)).1) hk)), Kd.fresh' (Kd.R_lt (rr_ HO0)) k_ hk, Kd.freshB (g := gb554) (o := .cells #[.int .i64 a1_0, .int .i64 a1_1] 26 (0, 0)) (bk_ BK554) k_ hk⟩))
     (case aO => exact (by (with_reducible repeat (first | apply Kd.R_alloc | apply Kd.R_drewN | apply Kd.R_drew)); exact Kd.R_mono HO558.out (fun _ hk => ⟨hk.1.1.1, ⟨hk.1.2, hk.2⟩⟩)))
     (case aS => exact bls_)
     (case aL => have := LMc10.out; omega)
     intro v560 w15 ho hb hg hat
     rw [← Ny559.out] at ho
     replace HO0 := Aside0.mk (Kd.R_after (ok := (fun k_ => (P0_ k_ ∨ w.heap.size ≤ k_) ∧ k_ ≠ gb554)) (rr_ HO0) hg hat)
     replace BK554 := Aside0.mk (blk_grown (g := gb554) (o := .cells #[.int .i64 a1_0, .int .i64 a1_1] 26 (0, 0)) (bk_ BK554) hg (Kd.R_away HO558.out (fun _ hk => hk.2)))
     replace HB := Aside0.mk (hb)
     replace HK := Aside0.mk (Kept.of_grown (S := (fun k_ => P0_ k_)) hg (by repeat (first | (with_reducible first | exact HK.out | apply Kept.alloc | apply Kept.drewN | apply Kept.drew | refine Kept.setCell ?_ (.inr GW554.out) _) | exact HK.out)) (fun k_ e_ => (HO558.out.1 k_ e_).1.1.1))
     have HO561 := Aside0.mk (ho)
     clear HO558
     clear ho hb hg hat
     refine hK.out _ _ ⟨(blk_cell BK554.out 0).trans rfl, (blk_cell BK554.out 1).trans rfl⟩ (fun hHeld => ?_)
     clear hK K
     refine norm_ (a' := ?_) ?_ ?_
     rotate_left
     ·show Act.put _ (some 11) _ = _
      simp only [Act.put, List.setIfInBounds_toArray, List.set_cons_zero, List.set_cons_succ, i64_w, i32_w]
      rfl
     refine one_ (i := 4) (N := some 13) #[true, true, true, true, true, false, false] rfl rfl (by kernel_rfl) (by decide) (fun K hK => ?_)
     refine Kd.R_lit_step k26 _ 26 ?hg (N := 13) ?hd (xs := ([(⟨a1_0, a1_1⟩ : S26)] : List (S26))) (inner := [.int .i64 a1_0, .int .i64 a1_1]) (ok := fun _ => True) (okp := fun _ => True) ?hr ?hp (fun _ hk => hk) trivial (Below.refl _ _) (Nat.le_refl _) (by simp) ?_; (case hd => rfl); (case hg => rfl); (case hr => first | (go_simp; done) | (go_simp; rfl)); (case hp => exact (Reps.c2 (show Kd.M k26 _ _ _ (⟨a1_0, a1_1⟩ : S26) [.int .i64 a1_0, .int .i64 a1_1] from (k26_mkM _ _ _ (⟨a1_0, a1_1⟩ : S26) )) (Reps.none _ _)))
     intro v563 w16 ho17 hb hg_ hnew_
     clear hg_ hnew_
     (first | rw [← Ny562.out] at ho17 | (simp only [Int.reduceToNat] at ho17; rw [← Ny562.out] at ho17))
     have HO564 := Aside0.mk (Kd.R_lower (Kd.R_newB (Kd.R_new' (Kd.R_new' (Kd.R_newM (M := fun k_ => (P0_ k_ ∨ w.heap.size ≤ k_)) ho17 (by first | exact HK.out.1 | exact (show Kept w _ (fun k_ => P0_ k_) from by repeat (first | (with_reducible first | exact HK.out | apply Kept.alloc | apply Kept.drewN | apply Kept.drew | refine Kept.setCell ?_ (.inr GW554.out) _) | exact HK.out)).1) (fun k_ h_ => .inr h_)) (Kd.R_lt (rr_ HO0))) (Kd.R_lt (rr_ HO561))) (g := gb554) (o := .cells #[.int .i64 a1_0, .int .i64 a1_1] 26 (0, 0)) (bk_ BK554)) bls_)
     replace HO0 := Aside0.mk (Kd.R_elder' (rr_ HO0) (Kd.R_base ho17) hb)
     replace HO561 := Aside0.mk (Kd.R_elder' (rr_ HO561) (Kd.R_base ho17) hb)
     replace BK554 := bkb_ BK554 hb
     replace HK := Aside0.mk (Kept.below (S := (fun k_ => P0_ k_)) (by repeat (first | (with_reducible first | exact HK.out | apply Kept.alloc | apply Kept.drewN | apply Kept.drew | refine Kept.setCell ?_ (.inr GW554.out) _) | exact HK.out)) hb)
     replace HB := hbs_ hb
     clear hb ho17
     refine hK.out _ _ ⟨(blk_cell BK554.out 0).trans rfl, (blk_cell BK554.out 1).trans rfl⟩ (fun hHeld => ?_)
     clear hK K
     refine norm_ (a' := ?_) ?_ ?_
     rotate_left
     ·show Act.put _ (some 13) _ = _
      simp only [Act.put, List.setIfInBounds_toArray, List.set_cons_zero, List.set_cons_succ, i64_w, i32_w]
      rfl
     exact norm_ (by simp only [putAll, Act.put, List.setIfInBounds_toArray, List.set_cons_zero, List.set_cons_succ]) (hCont (v557, v560, v563) _ ⟨hHeld, (by (with_reducible repeat (first | apply Kd.R_alloc | apply Kd.R_drewN | apply Kd.R_drew)); exact Kd.R_mono HO0.out (fun _ hk => ⟨hk.1.1.1, ⟨hk.1.2, ⟨hk.2, hk.1.1.2⟩⟩⟩)), (by (with_reducible repeat (first | apply Kd.R_alloc | apply Kd.R_drewN | apply Kd.R_drew)); exact Kd.R_mono HO561.out (fun _ hk => ⟨hk.1.1, ⟨hk.1.2.1, ⟨hk.2, hk.1.2.2⟩⟩⟩)), (by (with_reducible repeat (first | apply Kd.R_alloc | apply Kd.R_drewN | apply Kd.R_drew)); exact Kd.R_mono HO564.out (fun _ hk => ⟨hk.1.1.1.1, ⟨hk.1.1.2, ⟨hk.1.2, hk.2⟩⟩⟩)), (bk_ BK554), (by repeat (first | (with_reducible first | exact HK.out | apply Kept.alloc | apply Kept.drewN | apply Kept.drew | refine Kept.setCell ?_ (.inr GW554.out) _) | exact HK.out)), bl_⟩)
    ·skip
     refine Kd.R_lit_step k26 _ 26 ?hg (N := 13) ?hd (xs := ([(⟨a1_0, a1_1⟩ : S26)] : List (S26))) (inner := [.int .i64 a1_0, .int .i64 a1_1]) (ok := fun _ => True) (okp := fun _ => True) ?hr ?hp (fun _ hk => hk) trivial (Below.refl _ _) (Nat.le_refl _) (by simp) ?_; (case hd => rfl); (case hg => rfl); (case hr => first | (go_simp; done) | (go_simp; rfl)); (case hp => exact (Reps.c2 (show Kd.M k26 _ _ _ (⟨a1_0, a1_1⟩ : S26) [.int .i64 a1_0, .int .i64 a1_1] from (k26_mkM _ _ _ (⟨a1_0, a1_1⟩ : S26) )) (Reps.none _ _)))
     intro v563 w15 ho16 hb hg_ hnew_
     clear hg_ hnew_
     (first | rw [← Ny562.out] at ho16 | (simp only [Int.reduceToNat] at ho16; rw [← Ny562.out] at ho16))
     have HO564 := Aside0.mk (Kd.R_lower (Kd.R_newB (Kd.R_new' (Kd.R_new' (Kd.R_newM (M := fun k_ => (P0_ k_ ∨ w.heap.size ≤ k_)) ho16 (by first | exact HK.out.1 | exact (show Kept w _ (fun k_ => P0_ k_) from by repeat (first | (with_reducible first | exact HK.out | apply Kept.alloc | apply Kept.drewN | apply Kept.drew | refine Kept.setCell ?_ (.inr GW554.out) _) | exact HK.out)).1) (fun k_ h_ => .inr h_)) (Kd.R_lt (rr_ HO0))) (Kd.R_lt (rr_ HO558))) (g := gb554) (o := .cells #[.int .i64 a1_0, .int .i64 a1_1] 26 (0, 0)) (bk_ BK554)) bls_)
     replace HO0 := Aside0.mk (Kd.R_elder' (rr_ HO0) (Kd.R_base ho16) hb)
     replace HO558 := Aside0.mk (Kd.R_elder' (rr_ HO558) (Kd.R_base ho16) hb)
     replace BK554 := bkb_ BK554 hb
     replace HK := Aside0.mk (Kept.below (S := (fun k_ => P0_ k_)) (by repeat (first | (with_reducible first | exact HK.out | apply Kept.alloc | apply Kept.drewN | apply Kept.drew | refine Kept.setCell ?_ (.inr GW554.out) _) | exact HK.out)) hb)
     replace HB := hbs_ hb
     clear hb ho16
     refine hK.out _ _ ⟨(blk_cell BK554.out 0).trans rfl, (blk_cell BK554.out 1).trans rfl⟩ (fun hHeld => ?_)
     clear hK K
     refine norm_ (a' := ?_) ?_ ?_
     rotate_left
     ·show Act.put _ (some 13) _ = _
      simp only [Act.put, List.setIfInBounds_toArray, List.set_cons_zero, List.set_cons_succ, i64_w, i32_w]
      rfl
     refine one_ (i := 2) (N := some 11) #[true, true, true, true, true, false, false] rfl rfl (by kernel_rfl) (by decide) (fun K hK => ?_)
     refine Kd.R_append_rows_step k26 (w0 := w0) w0.heap.size (by rfl) (.tmp 9) (.tmp 10) 35 26 (.agg #[(.int .i64 0), (.int .i64 0)]) 16 rfl Try.underlying35 info26 rfl (by decide) (by omega) v557 y556 l0 _ _ _ (fun k_ => (P0_ k_ ∨ w.heap.size ≤ k_) ∧ some k_ ≠ (.slice Ao7 l0.length co7 : Value).ownBlock ∧ some k_ ≠ (v563 : Value).ownBlock ∧ k_ ≠ gb554) (fun _ => False) rfl rfl ?aO ?aR (fun _ _ h => h) (fun _ h => h.elim) ?aF ?aB ?aS ?aL ?_
     (case aR => repeat (first | exact (Kd.R_reads' HO0.out).2.2 | (with_reducible refine Kd.C_alloc ?_ _) | (with_reducible refine Kd.C_drewN ?_ _) | (with_reducible refine Kd.C_drew ?_)))
     (case aB => exact bl_)
     (case aF => exact (fun k_ hk => ⟨(.inr (Nat.le_trans (by first | exact HK.out.1 | exact (show Kept w _ (fun k_ => P0_ k_) from by repeat (first | (with_reducible first | exact HK.out | apply Kept.alloc | apply Kept.drewN | apply Kept.drew | refine Kept.setCell ?_ (.inr GW554.out) _) | exact HK.out)).1) hk)), Kd.fresh' (Kd.R_lt (rr_ HO0)) k_ hk, Kd.fresh' (Kd.R_lt (rr_ HO564)) k_ hk, Kd.freshB (g := gb554) (o := .cells #[.int .i64 a1_0, .int .i64 a1_1] 26 (0, 0)) (bk_ BK554) k_ hk⟩))
     (case aO => exact (by (with_reducible repeat (first | apply Kd.R_alloc | apply Kd.R_drewN | apply Kd.R_drew)); exact Kd.R_mono HO558.out (fun _ hk => ⟨hk.1.1.1.1, ⟨hk.1.1.2, ⟨hk.2, hk.1.2⟩⟩⟩)))
     (case aS => exact bls_)
     (case aL => have := LMc10.out; omega)
     intro v560 w17 ho hb hg hat
     rw [← Ny559.out] at ho
     replace HO0 := Aside0.mk (Kd.R_after (ok := (fun k_ => (P0_ k_ ∨ w.heap.size ≤ k_) ∧ some k_ ≠ (v563 : Value).ownBlock ∧ k_ ≠ gb554)) (by (with_reducible repeat (first | apply Kd.R_alloc | apply Kd.R_drewN | apply Kd.R_drew)); exact Kd.R_mono HO0.out (fun _ hk => ⟨⟨hk.1.1.1, ⟨hk.2, hk.1.1.2⟩⟩, hk.1.2⟩)) hg hat)
     replace BK554 := Aside0.mk (blk_grown (g := gb554) (o := .cells #[.int .i64 a1_0, .int .i64 a1_1] 26 (0, 0)) (bk_ BK554) hg (Kd.R_away HO558.out (fun _ hk => hk.1.2)))
     replace HO564 := Aside0.mk (Kd.R_after (ok := (fun k_ => (P0_ k_ ∨ w.heap.size ≤ k_) ∧ some k_ ≠ (.slice Ao7 l0.length co7 : Value).ownBlock ∧ k_ ≠ gb554)) (by (with_reducible repeat (first | apply Kd.R_alloc | apply Kd.R_drewN | apply Kd.R_drew)); exact Kd.R_mono HO564.out (fun _ hk => ⟨⟨hk.1.1.1.1, ⟨hk.1.1.2, hk.2⟩⟩, hk.1.2⟩)) hg hat)
     replace HB := Aside0.mk (hb)
     replace HK := Aside0.mk (Kept.of_grown (S := (fun k_ => P0_ k_)) hg (by repeat (first | (with_reducible first | exact HK.out | apply Kept.alloc | apply Kept.drewN | apply Kept.drew | refine Kept.setCell ?_ (.inr GW554.out) _) | exact HK.out)) (fun k_ e_ => (HO558.out.1 k_ e_).1.1.1.1))
     have HO561 := Aside0.mk (ho)
     clear HO558
     clear ho hb hg hat
     refine hK.out _ _ ⟨(blk_cell BK554.out 0).trans rfl, (blk_cell BK554.out 1).trans rfl⟩ (fun hHeld => ?_)
     clear hK K
     refine norm_ (a' := ?_) ?_ ?_
     rotate_left
     ·show Act.put _ (some 11) _ = _
      simp only [Act.put, List.setIfInBounds_toArray, List.set_cons_zero, List.set_cons_succ, i64_w, i32_w]
      rfl
     exact norm_ (by simp only [putAll, Act.put, List.setIfInBounds_toArray, List.set_cons_zero, List.set_cons_succ]) (hCont (v557, v560, v563) _ ⟨hHeld, (by (with_reducible repeat (first | apply Kd.R_alloc | apply Kd.R_drewN | apply Kd.R_drew)); exact Kd.R_mono HO0.out (fun _ hk => ⟨hk.1.1, ⟨hk.2, ⟨hk.1.2.1, hk.1.2.2⟩⟩⟩)), (rr_ HO561), (by (with_reducible repeat (first | apply Kd.R_alloc | apply Kd.R_drewN | apply Kd.R_drew)); exact Kd.R_mono HO564.out (fun _ hk => ⟨hk.1.1, ⟨hk.1.2.1, ⟨hk.2, hk.1.2.2⟩⟩⟩)), (bk_ BK554), (by repeat (first | (with_reducible first | exact HK.out | apply Kept.alloc | apply Kept.drewN | apply Kept.drew | refine Kept.setCell ?_ (.inr GW554.out) _) | exact HK.out)), bl_⟩)
   ·skip
    refine Kd.R_lit_step k26 _ 26 ?hg (N := 13) ?hd (xs := ([(⟨a1_0, a1_1⟩ : S26)] : List (S26))) (inner := [.int .i64 a1_0, .int .i64 a1_1]) (ok := fun _ => True) (okp := fun _ => True) ?hr ?hp (fun _ hk => hk) trivial (Below.refl _ _) (Nat.le_refl _) (by simp) ?_; (case hd => rfl); (case hg => rfl); (case hr => first | (go_simp; done) | (go_simp; rfl)); (case hp => exact (Reps.c2 (show Kd.M k26 _ _ _ (⟨a1_0, a1_1⟩ : S26) [.int .i64 a1_0, .int .i64 a1_1] from (k26_mkM _ _ _ (⟨a1_0, a1_1⟩ : S26) )) (Reps.none _ _)))
    intro v563 w13 ho14 hb hg_ hnew_
    clear hg_ hnew_
    (first | rw [← Ny562.out] at ho14 | (simp only [Int.reduceToNat] at ho14; rw [← Ny562.out] at ho14))
    have HO564 := Aside0.mk (Kd.R_lower (Kd.R_newB (Kd.R_new' (Kd.R_newM (M := fun k_ => (P0_ k_ ∨ w.heap.size ≤ k_)) ho14 (by first | exact HK.out.1 | exact (show Kept w _ (fun k_ => P0_ k_) from by repeat (first | (with_reducible first | exact HK.out | apply Kept.alloc | apply Kept.drewN | apply Kept.drew | refine Kept.setCell ?_ (.inr GW554.out) _) | exact HK.out)).1) (fun k_ h_ => .inr h_)) (Kd.R_lt (rr_ HO0))) (g := gb554) (o := .cells #[.int .i64 a1_0, .int .i64 a1_1] 26 (0, 0)) (bk_ BK554)) bls_)
    replace HO0 := Aside0.mk (Kd.R_elder' (rr_ HO0) (Kd.R_base ho14) hb)
    replace BK554 := bkb_ BK554 hb
    replace HK := Aside0.mk (Kept.below (S := (fun k_ => P0_ k_)) (by repeat (first | (with_reducible first | exact HK.out | apply Kept.alloc | apply Kept.drewN | apply Kept.drew | refine Kept.setCell ?_ (.inr GW554.out) _) | exact HK.out)) hb)
    replace HB := hbs_ hb
    clear hb ho14
    refine hK.out _ _ ⟨(blk_cell BK554.out 0).trans rfl, (blk_cell BK554.out 1).trans rfl⟩ (fun hHeld => ?_)
    clear hK K
    refine norm_ (a' := ?_) ?_ ?_
    rotate_left
    ·show Act.put _ (some 13) _ = _
     simp only [Act.put, List.setIfInBounds_toArray, List.set_cons_zero, List.set_cons_succ, i64_w, i32_w]
     rfl
    refine one_ (i := 0) (N := some 9) #[true, true, false, true, true, false, false] rfl rfl (by kernel_rfl) (by decide) (fun K hK => ?_)
    refine Kd.R_lit_step k26 _ 26 ?hg (N := 9) ?hd (xs := ([] : List (S26))) (inner := []) (ok := fun _ => True) (okp := fun _ => True) ?hr ?hp (fun _ hk => hk) trivial (Below.refl _ _) (Nat.le_refl _) (by simp) ?_; (case hd => rfl); (case hg => rfl); (case hr => first | (go_simp; done) | (go_simp; rfl)); (case hp => exact (Reps.none _ _))
    intro v557 w15 ho16 hb hg_ hnew_
    clear hg_ hnew_
    (first | rw [← Ny556.out] at ho16 | (simp only [Int.reduceToNat] at ho16; rw [← Ny556.out] at ho16))
    have HO558 := Aside0.mk (Kd.R_lower (Kd.R_newB (Kd.R_new' (Kd.R_new' (Kd.R_newM (M := fun k_ => (P0_ k_ ∨ w.heap.size ≤ k_)) ho16 (by first | exact HK.out.1 | exact (show Kept w _ (fun k_ => P0_ k_) from by repeat (first | (with_reducible first | exact HK.out | apply Kept.alloc | apply Kept.drewN | apply Kept.drew | refine Kept.setCell ?_ (.inr GW554.out) _) | exact HK.out)).1) (fun k_ h_ => .inr h_)) (Kd.R_lt (rr_ HO0))) (Kd.R_lt (rr_ HO564))) (g := gb554) (o := .cells #[.int .i64 a1_0, .int .i64 a1_1] 26 (0, 0)) (bk_ BK554)) bls_)
    replace HO0 := Aside0.mk (Kd.R_elder' (rr_ HO0) (Kd.R_base ho16) hb)
    replace HO564 := Aside0.mk (Kd.R_elder' (rr_ HO564) (Kd.R_base ho16) hb)
    replace BK554 := bkb_ BK554 hb
    replace HK := Aside0.mk (Kept.below (S := (fun k_ => P0_ k_)) (by repeat (first | (with_reducible first | exact HK.out | apply Kept.alloc | apply Kept.drewN | apply Kept.drew | refine Kept.setCell ?_ (.inr GW554.out) _) | exact HK.out)) hb)
    replace HB := hbs_ hb
    clear hb ho16
    refine hK.out _ _ ⟨(blk_cell BK554.out 0).trans rfl, (blk_cell BK554.out 1).trans rfl⟩ (fun hHeld => ?_)
    clear hK K
    refine norm_ (a' := ?_) ?_ ?_
    rotate_left
    ·show Act.put _ (some 9) _ = _
     simp only [Act.put, List.setIfInBounds_toArray, List.set_cons_zero, List.set_cons_succ, i64_w, i32_w]
     rfl
    refine one_ (i := 2) (N := some 11) #[true, true, true, true, true, false, false] rfl rfl (by kernel_rfl) (by decide) (fun K hK => ?_)
    refine Kd.R_append_rows_step k26 (w0 := w0) w0.heap.size (by rfl) (.tmp 9) (.tmp 10) 35 26 (.agg #[(.int .i64 0), (.int .i64 0)]) 16 rfl Try.underlying35 info26 rfl (by decide) (by omega) v557 y556 l0 _ _ _ (fun k_ => (P0_ k_ ∨ w.heap.size ≤ k_) ∧ some k_ ≠ (.slice Ao7 l0.length co7 : Value).ownBlock ∧ some k_ ≠ (v563 : Value).ownBlock ∧ k_ ≠ gb554) (fun _ => False) rfl rfl ?aO ?aR (fun _ _ h => h) (fun _ h => h.elim) ?aF ?aB ?aS ?aL ?_
    (case aR => repeat (first | exact (Kd.R_reads' HO0.out).2.2 | (with_reducible refine Kd.C_alloc ?_ _) | (with_reducible refine Kd.C_drewN ?_ _) | (with_reducible refine Kd.C_drew ?_)))
    (case aB => exact bl_)
    (case aF => exact (fun k_ hk => ⟨(.inr (Nat.le_trans (by first | exact HK.out.1 | exact (show Kept w _ (fun k_ => P0_ k_) from by repeat (first | (with_reducible first | exact HK.out | apply Kept.alloc | apply Kept.drewN | apply Kept.drew | refine Kept.setCell ?_ (.inr GW554.out) _) | exact HK.out)).1) hk)), Kd.fresh' (Kd.R_lt (rr_ HO0)) k_ hk, Kd.fresh' (Kd.R_lt (rr_ HO564)) k_ hk, Kd.freshB (g := gb554) (o := .cells #[.int .i64 a1_0, .int .i64 a1_1] 26 (0, 0)) (bk_ BK554) k_ hk⟩))
    (case aO => exact (by (with_reducible repeat (first | apply Kd.R_alloc | apply Kd.R_drewN | apply Kd.R_drew)); exact Kd.R_mono HO558.out (fun _ hk => ⟨hk.1.1.1.1, ⟨hk.1.1.2, ⟨hk.1.2, hk.2⟩⟩⟩)))
    (case aS => exact bls_)
    (case aL => have := LMc10.out; omega)
    intro v560 w17 ho hb hg hat
    rw [← Ny559.out] at ho
    replace HO0 := Aside0.mk (Kd.R_after (ok := (fun k_ => (P0_ k_ ∨ w.heap.size ≤ k_) ∧ some k_ ≠ (v563 : Value).ownBlock ∧ k_ ≠ gb554)) (by (with_reducible repeat (first | apply Kd.R_alloc | apply Kd.R_drewN | apply Kd.R_drew)); exact Kd.R_mono HO0.out (fun _ hk => ⟨⟨hk.1.1.1, ⟨hk.1.2, hk.1.1.2⟩⟩, hk.2⟩)) hg hat)
    replace BK554 := Aside0.mk (blk_grown (g := gb554) (o := .cells #[.int .i64 a1_0, .int .i64 a1_1] 26 (0, 0)) (bk_ BK554) hg (Kd.R_away HO558.out (fun _ hk => hk.2)))
    replace HO564 := Aside0.mk (Kd.R_after (ok := (fun k_ => (P0_ k_ ∨ w.heap.size ≤ k_) ∧ some k_ ≠ (.slice Ao7 l0.length co7 : Value).ownBlock ∧ k_ ≠ gb554)) (by (with_reducible repeat (first | apply Kd.R_alloc | apply Kd.R_drewN | apply Kd.R_drew)); exact Kd.R_mono HO564.out (fun _ hk => ⟨⟨hk.1.1.1.1, ⟨hk.1.1.2, hk.1.2⟩⟩, hk.2⟩)) hg hat)
    replace HB := Aside0.mk (hb)
    replace HK := Aside0.mk (Kept.of_grown (S := (fun k_ => P0_ k_)) hg (by repeat (first | (with_reducible first | exact HK.out | apply Kept.alloc | apply Kept.drewN | apply Kept.drew | refine Kept.setCell ?_ (.inr GW554.out) _) | exact HK.out)) (fun k_ e_ => (HO558.out.1 k_ e_).1.1.1.1))
    have HO561 := Aside0.mk (ho)
    clear HO558
    clear ho hb hg hat
    refine hK.out _ _ ⟨(blk_cell BK554.out 0).trans rfl, (blk_cell BK554.out 1).trans rfl⟩ (fun hHeld => ?_)
    clear hK K
    refine norm_ (a' := ?_) ?_ ?_
    rotate_left
    ·show Act.put _ (some 11) _ = _
     simp only [Act.put, List.setIfInBounds_toArray, List.set_cons_zero, List.set_cons_succ, i64_w, i32_w]
     rfl
    exact norm_ (by simp only [putAll, Act.put, List.setIfInBounds_toArray, List.set_cons_zero, List.set_cons_succ]) (hCont (v557, v560, v563) _ ⟨hHeld, (by (with_reducible repeat (first | apply Kd.R_alloc | apply Kd.R_drewN | apply Kd.R_drew)); exact Kd.R_mono HO0.out (fun _ hk => ⟨hk.1.1, ⟨hk.2, ⟨hk.1.2.1, hk.1.2.2⟩⟩⟩)), (rr_ HO561), (by (with_reducible repeat (first | apply Kd.R_alloc | apply Kd.R_drewN | apply Kd.R_drew)); exact Kd.R_mono HO564.out (fun _ hk => ⟨hk.1.1, ⟨hk.1.2.1, ⟨hk.2, hk.1.2.2⟩⟩⟩)), (bk_ BK554), (by repeat (first | (with_reducible first | exact HK.out | apply Kept.alloc | apply Kept.drewN | apply Kept.drew | refine Kept.setCell ?_ (.inr GW554.out) _) | exact HK.out)), bl_⟩)
  rintro ⟨v557, v560, v563⟩ w18 ⟨hS_, h0_, h1_, h2_, h3_, h4_, h5_⟩
  have n0_ : Aside0 (Kd.R k26 26 w18 w0.heap.size (fun k_ => (P0_ k_ ∨ w.heap.size ≤ k_) ∧ some k_ ≠ (v560 : Value).ownBlock ∧ some k_ ≠ (v563 : Value).ownBlock ∧ k_ ≠ gb554) (.slice Ao7 l0.length co7) l0) := ⟨h0_⟩
  have n1_ : Aside0 (Kd.R k26 26 w18 w0.heap.size (fun k_ => (P0_ k_ ∨ w.heap.size ≤ k_) ∧ some k_ ≠ (.slice Ao7 l0.length co7 : Value).ownBlock ∧ some k_ ≠ (v563 : Value).ownBlock ∧ k_ ≠ gb554) v560 y559) := ⟨h1_⟩
  have n2_ : Aside0 (Kd.R k26 26 w18 w0.heap.size (fun k_ => (P0_ k_ ∨ w.heap.size ≤ k_) ∧ some k_ ≠ (.slice Ao7 l0.length co7 : Value).ownBlock ∧ some k_ ≠ (v560 : Value).ownBlock ∧ k_ ≠ gb554) v563 y562) := ⟨h2_⟩
  have n3_ : Aside0 (w18.heap[gb554]? = some (.cells #[.int .i64 a1_0, .int .i64 a1_1] 26 (0, 0))) := ⟨h3_⟩
  have n4_ : Aside0 (Kept w w18 (fun k_ => P0_ k_)) := ⟨h4_⟩
  have n5_ : Aside0 (Below w0.heap.size w0 w18) := ⟨h5_⟩
  clear HO0
  clear BK554
  clear HK
  clear HB
  clear h0_ h1_ h2_ h3_ h4_ h5_
  have HO0 := n0_
  have HO561 := n1_
  have HO564 := n2_
  have BK554 := n3_
  have HK := n4_
  have HB := n5_
  clear n0_ n1_ n2_ n3_ n4_ n5_
  have hHeld : w18.cell? ⟨gb554, 0, none⟩ = some (.int .i64 a1_0) ∧ w18.cell? ⟨gb554, 1, none⟩ = some (.int .i64 a1_1) := hS_
  obtain ⟨Ao20, co20, eo20⟩ := Kd.R_slice HO564.out
  (first | subst eo20 | (injection eo20 with f1_ f2_ f3_; have f4_ := f1_.symm; have f5_ := f3_.symm; clear f1_ f2_ f3_; subst f4_; subst f5_))
  refine norm_ (a' := ?_) ?_ ?_
  rotate_left
  ·simp only [putAll, Act.put, List.setIfInBounds_toArray, List.set_cons_zero, List.set_cons_succ]
   rfl
  refine one_ (i := 5) (N := some 14) #[true, true, true, true, true, true, false] rfl rfl (by kernel_rfl) (by decide) (fun K hK => ?_)
  refine Kd.R_append_rows_step k26 (w0 := w0) w0.heap.size (by rfl) (.tmp 11) (.tmp 13) 35 26 (.agg #[(.int .i64 0), (.int .i64 0)]) 16 rfl Try.underlying35 info26 rfl (by decide) (by omega) v560 y559 y562 _ _ _ (fun k_ => (P0_ k_ ∨ w.heap.size ≤ k_) ∧ some k_ ≠ (.slice Ao7 l0.length co7 : Value).ownBlock ∧ some k_ ≠ (.slice Ao20 y562.length co20 : Value).ownBlock ∧ k_ ≠ gb554) (fun _ => False) rfl rfl ?aO ?aR (fun _ _ h => h) (fun _ h => h.elim) ?aF ?aB ?aS ?aL ?_
  (case aR => repeat (first | exact (Kd.R_reads' HO564.out).2.2 | (with_reducible refine Kd.C_alloc ?_ _) | (with_reducible refine Kd.C_drewN ?_ _) | (with_reducible refine Kd.C_drew ?_)))
  (case aB => exact bl_)
  (case aF => exact (fun k_ hk => ⟨(.inr (Nat.le_trans (by first | exact HK.out.1 | exact (show Kept w _ (fun k_ => P0_ k_) from by repeat (first | (with_reducible first | exact HK.out | apply Kept.alloc | apply Kept.drewN | apply Kept.drew | refine Kept.setCell ?_ (.inr GW554.out) _) | exact HK.out)).1) hk)), Kd.fresh' (Kd.R_lt (rr_ HO0)) k_ hk, Kd.fresh' (Kd.R_lt (rr_ HO564)) k_ hk, Kd.freshB (g := gb554) (o := .cells #[.int .i64 a1_0, .int .i64 a1_1] 26 (0, 0)) (bk_ BK554) k_ hk⟩))
  (case aO => exact (rr_ HO561))
  (case aS => exact bls_)
  (case aL => have := LMc11.out; omega)
  intro v566 w19 ho hb hg hat
  rw [← Ny565.out] at ho
  replace HO0 := Aside0.mk (Kd.R_after (ok := (fun k_ => (P0_ k_ ∨ w.heap.size ≤ k_) ∧ some k_ ≠ (.slice Ao20 y562.length co20 : Value).ownBlock ∧ k_ ≠ gb554)) (by (with_reducible repeat (first | apply Kd.R_alloc | apply Kd.R_drewN | apply Kd.R_drew)); exact Kd.R_mono HO0.out (fun _ hk => ⟨⟨hk.1, ⟨hk.2.2.1, hk.2.2.2⟩⟩, hk.2.1⟩)) hg hat)
  replace BK554 := Aside0.mk (blk_grown (g := gb554) (o := .cells #[.int .i64 a1_0, .int .i64 a1_1] 26 (0, 0)) (bk_ BK554) hg (Kd.R_away HO561.out (fun _ hk => hk.2.2.2)))
  replace HO564 := Aside0.mk (Kd.R_after (ok := (fun k_ => (P0_ k_ ∨ w.heap.size ≤ k_) ∧ some k_ ≠ (.slice Ao7 l0.length co7 : Value).ownBlock ∧ k_ ≠ gb554)) (by (with_reducible repeat (first | apply Kd.R_alloc | apply Kd.R_drewN | apply Kd.R_drew)); exact Kd.R_mono HO564.out (fun _ hk => ⟨⟨hk.1, ⟨hk.2.1, hk.2.2.2⟩⟩, hk.2.2.1⟩)) hg hat)
  replace HB := Aside0.mk (hb)
  replace HK := Aside0.mk (Kept.of_grown (S := (fun k_ => P0_ k_)) hg (by repeat (first | (with_reducible first | exact HK.out | apply Kept.alloc | apply Kept.drewN | apply Kept.drew | refine Kept.setCell ?_ (.inr GW554.out) _) | exact HK.out)) (fun k_ e_ => (HO561.out.1 k_ e_).1))
  have HO567 := Aside0.mk (ho)
  clear HO561
  clear ho hb hg hat
  refine hK.out _ _ ⟨(blk_cell BK554.out 0).trans rfl, (blk_cell BK554.out 1).trans rfl⟩ (fun hHeld => ?_)
  clear hK K
  refine norm_ (a' := ?_) ?_ ?_
  rotate_left
  ·show Act.put _ (some 14) _ = _
   simp only [Act.put, List.setIfInBounds_toArray, List.set_cons_zero, List.set_cons_succ, i64_w, i32_w]
   rfl
  refine pure_ (i := 6) (N := some 4) (v := ?_) (a' := ?_) #[true, true, true, true, true, true, true] rfl rfl (by kernel_rfl) (fun _ _ _ h => h) (Or.inl ⟨by rfl, ?_⟩) ?_ ?_
  rotate_left
  ·intro w'
   go_simp
   with_reducible rfl
  rotate_left
  ·simp only [Act.put, List.setIfInBounds_toArray, List.set_cons_zero, List.set_cons_succ, i64_w, i32_w]
   rfl
  refine done_ (by kernel_rfl) ?_
  try go_wp2
  go_ret
  exact ⟨_, eq_, by (with_reducible repeat (first | apply Kd.R_alloc | apply Kd.R_drewN | apply Kd.R_drew)); exact Kd.R_mono HO567.out (fun _ hk => hk.1), bl_, by repeat (first | (with_reducible first | exact HK.out | apply Kept.alloc | apply Kept.drewN | apply Kept.drew | refine Kept.setCell ?_ (.inr GW554.out) _) | exact HK.out)⟩
end Go.Proofs.Ytamhfnedknjjbaa.PB
