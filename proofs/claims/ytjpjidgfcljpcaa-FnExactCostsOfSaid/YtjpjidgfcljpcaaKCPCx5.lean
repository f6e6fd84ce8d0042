import Derived.Test.YtjpjidgfcljpcaaKCPCx4
-- printed by wip/tools
namespace Go.Proofs.Ytjpjidgfcljpcaa.PC
open Go.RowKit Go.Proofs.YtjpjidgfcljpcaaW.PrintWords Go.Proofs.YtjpjidgfcljpcaaW.PrintLast Go.Proofs.YtjpjidgfcljpcaaW.PrintMore
attribute [local go_sem] max2_int min2_int max_two min_two max_three min_three max_four min_four
set_option linter.unusedVariables false
set_option linter.unusedSimpArgs false
attribute [local go_sem high] eqA51
mutual
def spec_FactsOf.l0 : Nat → List (S56) → List (S51) → Bool → Option ((List (S51)))
 | 0, _, _, _ => none
 | k + 1, x0, x3, x4 => if x4 = true then (spec_FactsOf.l1 k x0 x3 false 0) else (some x3)
def spec_FactsOf.l1 : Nat → List (S56) → List (S51) → Bool → Int → Option ((List (S51)))
 | 0, _, _, _, _ => none
 | k + 1, x0, x3, x4, x5 => if x5 < (x0.length : Int) then (if 0 ≤ x5 then ((spec_Follows.f k x3 ((rd_T56 x0 x5).f0) ((rd_T56 x0 x5).f1.f0) ((rd_T56 x0 x5).f1.f1) ((rd_T56 x0 x5).f2) ((rd_T56 x0 x5).f3.f0) ((rd_T56 x0 x5).f3.f1) ((rd_T56 x0 x5).f4.f0) ((rd_T56 x0 x5).f4.f1) ((rd_T56 x0 x5).f5) ((rd_T56 x0 x5).f6)).bind fun t154 => (if (t154.length : Int) > (x3.length : Int) then (spec_FactsOf.l1 k x0 t154 true (wrap64 (x5 + 1))) else (spec_FactsOf.l1 k x0 t154 x4 (wrap64 (x5 + 1))))) else (none)) else (spec_FactsOf.l0 k x0 x3 x4)
end
def spec_FactsOf.f (k : Nat) (l0 : List (S56)) : Option ((List (S51))) := spec_FactsOf.l0 k l0 (([] : List (S51))) true
set_option maxHeartbeats 8000000 in
set_option maxRecDepth 100000 in
theorem spec_FactsOf.calls (k : Nat) (A0 : Option Addr) (c0 : Nat) (l0 : List (S56)) (r : List (S51)) (w : World) (hr0 : Kd.C k56 w A0 l0.length l0) (hc0 : l0.length ≤ c0) (h : spec_FactsOf.f k l0 = some r) :
  Calls Try.prog 36 #[.slice A0 l0.length c0] w fun e w' => ∃ v0_ : Value, e = .returned (v0_) ∧ Kd.R k51 51 w' w.heap.size (fun _ => True) v0_ r ∧ Below w.heap.size w w' := by
 have hu56 := Try.underlying56
 have HR0 := Aside0.mk hr0
 have HC0 := Aside0.mk hc0
 clear hr0 hc0
 have HB := Aside0.mk (Below.refl w.heap.size w)
 have H : (spec_FactsOf.l0 k l0 (([] : List (S51))) true) = some r := h
 clear h
 obtain ⟨y150, hy150⟩ : ∃ y_ : List (S51), y_ = (([] : List (S51))) := ⟨_, rfl⟩
 replace H : (spec_FactsOf.l0 k l0 y150 true) = some r := by first | (rw [hy150]; with_reducible exact H) | (have H2_ := (Option.bind_some _ _).symm.trans H; rw [hy150]; with_reducible exact H2_) | (have H2_ := (Option.bind_some _ _).symm.trans H; with_reducible exact H2_) | with_reducible exact H | (rw [hy150]; exact H) | exact H
 have Ny150 := Aside0.mk hy150
 clear hy150
 have H' := Aside0.mk H
 clear H
 go_enter Try.func36, Try.ntmps36
 go_wp2_with (first | ((with_reducible refine gate_dst (N := 7) rfl ?_); refine Kd.R_lit k51 _ 51 ?hg (N := 7) ?hd (xs := ([] : List (S51))) (inner := []) (ok := fun _ => True) (okp := fun _ => True) ?hr ?hp (fun _ hk => hk) trivial (Below.refl _ _) (Nat.le_refl _) (by simp) ?_; (case hd => rfl); (case hg => rfl); (case hr => first | (go_simp; done) | (go_simp; rfl)); (case hp => exact (Reps.none _ _)); intro v151 w2 ho3 hb hg_ hnew_; clear hg_ hnew_; (first | rw [← Ny150.out] at ho3 | (simp only [Int.reduceToNat] at ho3; rw [← Ny150.out] at ho3)); have HO152 := Aside0.mk (Kd.R_lower ho3 bls_); replace HB := hbs_ hb; clear hb ho3))
 go_loopg [3, 4] k (fun kq v3 v4 w' => ∃ (x3_1 : List (S51)) (x4_1 : Bool), v4 = .bool x4_1 ∧ Aside0 (spec_FactsOf.l0 kq l0 x3_1 x4_1 = some r) ∧ Aside0 (kq ≤ k) ∧ Aside0 (Kd.R k51 51 w' w.heap.size (fun _ => True) v3 x3_1) ∧ Aside0 (Below w.heap.size w w'))
 case atStart => exact ⟨(y150), (true), rf_, H', ⟨Nat.le_refl _⟩, ⟨by (with_reducible repeat (first | apply Kd.R_alloc | apply Kd.R_drewN | apply Kd.R_drew)); exact HO152.out⟩, ⟨bl_⟩⟩
 case round =>
  clear H'
  try clear p2
  try clear c3
  obtain ⟨x3_1, x4_1, rfl, HA, HK1, HO_3, HB⟩ := hrel
  cases gk with
  | zero => exact absurd HA.out (by simp [spec_FactsOf.l0])
  | succ k1 =>
   have H := HA.out
   clear HA
   simp only [spec_FactsOf.l0] at H
   by_cases c4 : x4_1 = true
   ·subst c4
    replace H := ite_t_ H
    have H' := Aside0.mk H
    clear H
    go_wp2
    go_loopg [3, 4, 5] k1 (fun kq v3 v4 v5 w' => ∃ (x3_2 : List (S51)) (x4_2 : Bool) (x5_2 : Int), v4 = .bool x4_2 ∧ v5 = .int .i64 x5_2 ∧ Aside0 (spec_FactsOf.l1 kq l0 x3_2 x4_2 x5_2 = some r) ∧ Aside0 (kq ≤ k1) ∧ Aside0 (Kd.R k51 51 w' w.heap.size (fun _ => True) v3 x3_2) ∧ Aside0 (Below w.heap.size w w'))
    case atStart => exact ⟨(x3_1), (false), (0), rf_, rf_, H', ⟨Nat.le_refl _⟩, ⟨by (with_reducible repeat (first | apply Kd.R_alloc | apply Kd.R_drewN | apply Kd.R_drew)); exact HO_3.out⟩, ⟨bl_⟩⟩
    case round =>
     clear H'
     try clear p2
     try clear c3
     try clear c4
     try clear p2
     obtain ⟨x3_2, x4_2, x5_2, rfl, rfl, HA, HK2, HO_3, HB⟩ := hrel
     cases gk with
     | zero => exact absurd HA.out (by simp [spec_FactsOf.l1])
     | succ k2 =>
      have H := HA.out
      clear HA
      simp only [spec_FactsOf.l1] at H
      by_cases c5 : x5_2 < (l0.length : Int)
      ·rw [if_pos c5] at H
       have c5b0 : decide (x5_2 < (l0.length : Int)) = true := decide_eq_true c5
       clear c5
       obtain ⟨c6b0, H⟩ := ifd_ H
       obtain ⟨t154, A7, H⟩ := bindE_ H
       by_cases c8 : (t154.length : Int) > (x3_2.length : Int)
       ·rw [if_pos c8] at H
        have c8b0 : decide ((x3_2.length : Int) < (t154.length : Int)) = true := decide_eq_true c8
        have c8b1 : decide (x3_2.length < t154.length) = true := decide_eq_true (Int.ofNat_lt.mp c8)
        clear c8
        have H' := Aside0.mk H
        clear H
        have p153 : 0 ≤ (x5_2 : Int) := od_
        have q153 : x5_2 < (l0.length : Int) := od_
        obtain ⟨ad153, e153, hx153_0, hx153_1, hx153_2, hx153_3, hx153_4, hx153_5, hx153_6, hx153_7, hx153_8, hx153_9⟩ := at_T56 (Kd.C_below HR0.out HB.out) x5_2 p153 q153
        cases e153
        replace p153 := eq_true p153
        replace q153 := eq_true q153
        obtain ⟨Ao9, co9, eo9⟩ := Kd.R_slice HO_3.out
        subst eo9
        go_wp2_with (first | ((with_reducible refine gate_callee (f := 101) rfl ?_); refine goesC_ (some 20) Try.func101 #[.slice Ao9 x3_2.length co9, .agg #[.int .i64 ((rd_T56 l0 x5_2).f0), .int .i64 ((rd_T56 l0 x5_2).f1.f0), .int .i64 ((rd_T56 l0 x5_2).f1.f1), .int .i64 ((rd_T56 l0 x5_2).f2), .int .i64 ((rd_T56 l0 x5_2).f3.f0), .int .i64 ((rd_T56 l0 x5_2).f3.f1), .int .i64 ((rd_T56 l0 x5_2).f4.f0), .int .i64 ((rd_T56 l0 x5_2).f4.f1), .int .i64 ((rd_T56 l0 x5_2).f5), .int .i64 ((rd_T56 l0 x5_2).f6)]] ?_; (with_reducible refine (spec_Follows.calls k2 _ _ x3_2 ((rd_T56 l0 x5_2).f0) ((rd_T56 l0 x5_2).f1.f0) ((rd_T56 l0 x5_2).f1.f1) ((rd_T56 l0 x5_2).f2) ((rd_T56 l0 x5_2).f3.f0) ((rd_T56 l0 x5_2).f3.f1) ((rd_T56 l0 x5_2).f4.f0) ((rd_T56 l0 x5_2).f4.f1) ((rd_T56 l0 x5_2).f5) ((rd_T56 l0 x5_2).f6) t154 _ ?side1 ?side2 A7.out).mono ?_); (case side1 => repeat (first | exact (Kd.R_reads' HO_3.out).2.2 | (with_reducible refine Kd.C_alloc ?_ _) | (with_reducible refine Kd.C_drewN ?_ _) | (with_reducible refine Kd.C_drew ?_))); (case side2 => exact (Kd.R_reads' HO_3.out).2.1); rintro e w10 ⟨v155, rfl, ho0, hb⟩; refine ⟨_, rfl, ?_⟩; have HO156 := Aside0.mk (Kd.R_lower (Kd.R_new' ho0 (Kd.R_lt (by (with_reducible repeat (first | apply Kd.R_alloc | apply Kd.R_drewN | apply Kd.R_drew)); exact HO_3.out))) bls_); replace HO_3 := Aside0.mk (Kd.R_elder' (by (with_reducible repeat (first | apply Kd.R_alloc | apply Kd.R_drewN | apply Kd.R_drew)); exact HO_3.out) (Kd.R_base ho0) hb); replace HB := hbs_ hb; (try clear hb); (try clear hb2); (try clear hk); (try clear hi); (try clear ho0); obtain ⟨Ao11, co11, eo11⟩ := Kd.R_slice HO156.out; subst eo11))
        go_roundg k2
        case measure => have := HK1.out; have := HK2.out; omega
        case rel => exact ⟨(t154), (true), (wrap64 (x5_2 + 1)), rf_, rf_, H', ⟨by have := HK1.out; have := HK2.out; omega⟩, ⟨by (with_reducible repeat (first | apply Kd.R_alloc | apply Kd.R_drewN | apply Kd.R_drew)); exact Kd.R_mono HO156.out (fun _ hk => trivial)⟩, ⟨bl_⟩⟩
       ·rw [if_neg c8] at H
        have c8b0 : decide ((x3_2.length : Int) < (t154.length : Int)) = false := decide_eq_false c8
        have c8b1 : decide (x3_2.length < t154.length) = false := decide_eq_false (fun h => c8 (Int.ofNat_lt.mpr h))
        clear c8
        have H' := Aside0.mk H
        clear H
        have p153 : 0 ≤ (x5_2 : Int) := od_
        have q153 : x5_2 < (l0.length : Int) := od_
        obtain ⟨ad153, e153, hx153_0, hx153_1, hx153_2, hx153_3, hx153_4, hx153_5, hx153_6, hx153_7, hx153_8, hx153_9⟩ := at_T56 (Kd.C_below HR0.out HB.out) x5_2 p153 q153
        cases e153
        replace p153 := eq_true p153
        replace q153 := eq_true q153
        obtain ⟨Ao12, co12, eo12⟩ := Kd.R_slice HO_3.out
        subst eo12
        go_wp2_with (first | ((with_reducible refine gate_callee (f := 101) rfl ?_); refine goesC_ (some 20) Try.func101 #[.slice Ao12 x3_2.length co12, .agg #[.int .i64 ((rd_T56 l0 x5_2).f0), .int .i64 ((rd_T56 l0 x5_2).f1.f0), .int .i64 ((rd_T56 l0 x5_2).f1.f1), .int .i64 ((rd_T56 l0 x5_2).f2), .int .i64 ((rd_T56 l0 x5_2).f3.f0), .int .i64 ((rd_T56 l0 x5_2).f3.f1), .int .i64 ((rd_T56 l0 x5_2).f4.f0), .int .i64 ((rd_T56 l0 x5_2).f4.f1), .int .i64 ((rd_T56 l0 x5_2).f5), .int .i64 ((rd_T56 l0 x5_2).f6)]] ?_; (with_reducible refine (spec_Follows.calls k2 _ _ x3_2 ((rd_T56 l0 x5_2).f0) ((rd_T56 l0 x5_2).f1.f0) ((rd_T56 l0 x5_2).f1.f1) ((rd_T56 l0 x5_2).f2) ((rd_T56 l0 x5_2).f3.f0) ((rd_T56 l0 x5_2).f3.f1) ((rd_T56 l0 x5_2).f4.f0) ((rd_T56 l0 x5_2).f4.f1) ((rd_T56 l0 x5_2).f5) ((rd_T56 l0 x5_2).f6) t154 _ ?side1 ?side2 A7.out).mono ?_); (case side1 => repeat (first | exact (Kd.R_reads' HO_3.out).2.2 | (with_reducible refine Kd.C_alloc ?_ _) | (with_reducible refine Kd.C_drewN ?_ _) | (with_reducible refine Kd.C_drew ?_))); (case side2 => exact (Kd.R_reads' HO_3.out).2.1); rintro e w13 ⟨v155, rfl, ho0, hb⟩; refine ⟨_, rfl, ?_⟩; have HO156 := Aside0.mk (Kd.R_lower (Kd.R_new' ho0 (Kd.R_lt (by (with_reducible repeat (first | apply Kd.R_alloc | apply Kd.R_drewN | apply Kd.R_drew)); exact HO_3.out))) bls_); replace HO_3 := Aside0.mk (Kd.R_elder' (by (with_reducible repeat (first | apply Kd.R_alloc | apply Kd.R_drewN | apply Kd.R_drew)); exact HO_3.out) (Kd.R_base ho0) hb); replace HB := hbs_ hb; (try clear hb); (try clear hb2); (try clear hk); (try clear hi); (try clear ho0); obtain ⟨Ao14, co14, eo14⟩ := Kd.R_slice HO156.out; subst eo14))
        go_roundg k2
        case measure => have := HK1.out; have := HK2.out; omega
        case rel => exact ⟨(t154), (x4_2), (wrap64 (x5_2 + 1)), rf_, rf_, H', ⟨by have := HK1.out; have := HK2.out; omega⟩, ⟨by (with_reducible repeat (first | apply Kd.R_alloc | apply Kd.R_drewN | apply Kd.R_drew)); exact Kd.R_mono HO156.out (fun _ hk => trivial)⟩, ⟨bl_⟩⟩
      ·rw [if_neg c5] at H
       have c5b0 : decide (x5_2 < (l0.length : Int)) = false := decide_eq_false c5
       clear c5
       have H' := Aside0.mk H
       clear H
       go_wp2
       go_roundg k2
       case measure => have := HK1.out; have := HK2.out; omega
       case rel => exact ⟨(x3_2), (x4_2), rf_, H', ⟨by have := HK1.out; have := HK2.out; omega⟩, ⟨by (with_reducible repeat (first | apply Kd.R_alloc | apply Kd.R_drewN | apply Kd.R_drew)); exact HO_3.out⟩, ⟨bl_⟩⟩
   ·replace c4 := Bool.eq_false_iff.mpr c4
    subst c4
    replace H := ite_f_ H
    obtain rfl := Option.some.inj H
    go_wp2
    go_ret
    exact ⟨_, eq_, by (with_reducible repeat (first | apply Kd.R_alloc | apply Kd.R_drewN | apply Kd.R_drew)); exact HO_3.out, bl_⟩
def spec_l19Cap.f (a0 : Int) : Option (Int) := if a0 > 1000000 then (some 1000000) else (some a0)
set_option maxHeartbeats 8000000 in
set_option maxRecDepth 100000 in
theorem spec_l19Cap.calls (a0 : Int) (r : Int) (w : World) (h : spec_l19Cap.f a0 = some r) :
  Calls Try.prog 109 #[.int .i64 a0] w fun e w' => e = .returned (.int .i64 r) ∧ Drawn0 w w' := by
 have H : (if a0 > 1000000 then (some 1000000) else (some a0)) = some r := h
 clear h
 by_cases c2 : a0 > 1000000
 ·rw [if_pos c2] at H
  have c2b0 : decide (1000000 < a0) = true := decide_eq_true c2
  clear c2
  obtain rfl := Option.some.inj H
  go_enter Try.func109, Try.ntmps109
  go_wp2
  go_ret
  exact ⟨by first | rfl | (simp; done) | (simp [*]; done), by repeat (first | exact Drawn0.refl _ | apply Drawn0.step)⟩
 ·rw [if_neg c2] at H
  have c2b0 : decide (1000000 < a0) = false := decide_eq_false c2
  clear c2
  obtain rfl := Option.some.inj H
  go_enter Try.func109, Try.ntmps109
  go_wp2
  go_ret
  exact ⟨by first | rfl | (simp; done) | (simp [*]; done), by repeat (first | exact Drawn0.refl _ | apply Drawn0.step)⟩
def spec_l19At.l0 : Nat → List (S51) → Int → Int → Int → Int → Option (Int)
 | 0, _, _, _, _, _ => none
 | k + 1, x0, x5, x158000, x158001, x158002 => if x5 < (x0.length : Int) then (if 0 ≤ x5 then (if ((((rd_T51 x0 x5).f0.f0) == x158000 && (((rd_T51 x0 x5).f0.f1) == x158001)) && (((rd_T51 x0 x5).f1) == x158002)) = true then (some x5) else (spec_l19At.l0 k x0 (wrap64 (x5 + 1)) x158000 x158001 x158002)) else (none)) else (some (-1))
def spec_l19At.f (k : Nat) (l0 : List (S51)) (a1_0 : Int) (a1_1 : Int) (a1_2 : Int) : Option (Int) := spec_l19At.l0 k l0 0 a1_0 a1_1 a1_2
set_option maxHeartbeats 8000000 in
set_option maxRecDepth 100000 in
theorem spec_l19At.calls (k : Nat) (A0 : Option Addr) (c0 : Nat) (l0 : List (S51)) (a1_0 : Int) (a1_1 : Int) (a1_2 : Int) (r : Int) (w : World) (hr0 : Kd.C k51 w A0 l0.length l0) (hc0 : l0.length ≤ c0) (h : spec_l19At.f k l0 a1_0 a1_1 a1_2 = some r) :
  Calls Try.prog 198 #[.slice A0 l0.length c0, .agg #[.int .i64 a1_0, .int .i64 a1_1, .int .i64 a1_2]] w fun e w' => e = .returned (.int .i64 r) ∧ Below w.heap.size w w' := by
 have hu51 := Try.underlying51
 have HR0 := Aside0.mk hr0
 have HC0 := Aside0.mk hc0
 clear hr0 hc0
 have HB := Aside0.mk (Below.refl w.heap.size w)
 have H : (spec_l19At.l0 k l0 0 a1_0 a1_1 a1_2) = some r := h
 clear h
 have H' := Aside0.mk H
 clear H
 go_enter Try.func198, Try.ntmps198
 go_wp2_with (first | ((with_reducible refine gate_dst (N := 3) rfl ?_); refine box_event ?hg (N := 3) ?hd (cs := #[.int .i64 a1_0, .int .i64 a1_1, .int .i64 a1_2]) (t := 51) ?hr ?_; (case hd => rfl); (case hg => rfl); (case hr => first | (go_simp; done) | (go_simp; rfl)); intro gb157 hg w3 hbox hb; have BK157 := Aside0.mk (hbox); have GW157 := gs_ hg; have GE157 := gs_ hg; replace HB := hbs_ hb; clear hb hbox hg))
 repeat (go_quiet (first | ((with_reducible refine gate_dst (N := 3) rfl ?_); refine box_event ?hg (N := 3) ?hd (cs := #[.int .i64 a1_0, .int .i64 a1_1, .int .i64 a1_2]) (t := 51) ?hr ?_; (case hd => rfl); (case hg => rfl); (case hr => first | (go_simp; done) | (go_simp; rfl)); intro gb157 hg w3 hbox hb; have BK157 := Aside0.mk (hbox); have GW157 := gs_ hg; have GE157 := gs_ hg; replace HB := hbs_ hb; clear hb hbox hg)); try go_wp2_with (first | ((with_reducible refine gate_dst (N := 3) rfl ?_); refine box_event ?hg (N := 3) ?hd (cs := #[.int .i64 a1_0, .int .i64 a1_1, .int .i64 a1_2]) (t := 51) ?hr ?_; (case hd => rfl); (case hg => rfl); (case hr => first | (go_simp; done) | (go_simp; rfl)); intro gb157 hg w3 hbox hb; have BK157 := Aside0.mk (hbox); have GW157 := gs_ hg; have GE157 := gs_ hg; replace HB := hbs_ hb; clear hb hbox hg)))
 go_loopg [5] k (fun kq v5 w' => ∃ (x5_1 : Int), v5 = .int .i64 x5_1 ∧ Aside0 (spec_l19At.l0 kq l0 x5_1 a1_0 a1_1 a1_2 = some r) ∧ Aside0 (kq ≤ k) ∧ Aside0 (w'.heap[gb157]? = some (.cells #[.int .i64 a1_0, .int .i64 a1_1, .int .i64 a1_2] 51 (0, 0))) ∧ Aside0 (Below w.heap.size w w'))
 case atStart => exact ⟨(0), rf_, H', ⟨Nat.le_refl _⟩, ⟨bk_ BK157⟩, ⟨bl_⟩⟩
 case round =>
  clear H'
  try clear c1
  try clear p2
  obtain ⟨x5_1, rfl, HA, HK1, BK157, HB⟩ := hrel
  cases gk with
  | zero => exact absurd HA.out (by simp [spec_l19At.l0])
  | succ k1 =>
   have H := HA.out
   clear HA
   simp only [spec_l19At.l0] at H
   by_cases c4 : x5_1 < (l0.length : Int)
   ·rw [if_pos c4] at H
    have c4b0 : decide (x5_1 < (l0.length : Int)) = true := decide_eq_true c4
    clear c4
    obtain ⟨c5b0, H⟩ := ifd_ H
    by_cases c6 : ((((rd_T51 l0 x5_1).f0.f0) == a1_0 && (((rd_T51 l0 x5_1).f0.f1) == a1_1)) && (((rd_T51 l0 x5_1).f1) == a1_2)) = true
    ·rw [if_pos c6] at H
     have c6b0 : ((((rd_T51 l0 x5_1).f0.f0) == a1_0 && (((rd_T51 l0 x5_1).f0.f1) == a1_1)) && (((rd_T51 l0 x5_1).f1) == a1_2)) = true := c6
     clear c6
     obtain rfl := Option.some.inj H
     have p158 : 0 ≤ (x5_1 : Int) := od_
     have q158 : x5_1 < (l0.length : Int) := od_
     obtain ⟨ad158, e158, hx158_0, hx158_1, hx158_2⟩ := at_T51 (Kd.C_below HR0.out HB.out) x5_1 p158 q158
     cases e158
     replace p158 := eq_true p158
     replace q158 := eq_true q158
     have hcz7 := blk_cell BK157.out
     have hfz7 := blk_frozen BK157.out
     go_wp2
     repeat (go_quiet (fail); try go_wp2)
     go_ret
     exact ⟨eq_, bl_⟩
    ·rw [if_neg c6] at H
     have c6b0 : ((((rd_T51 l0 x5_1).f0.f0) == a1_0 && (((rd_T51 l0 x5_1).f0.f1) == a1_1)) && (((rd_T51 l0 x5_1).f1) == a1_2)) = false := by simpa using c6
     clear c6
     have H' := Aside0.mk H
     clear H
     have p158 : 0 ≤ (x5_1 : Int) := od_
     have q158 : x5_1 < (l0.length : Int) := od_
     obtain ⟨ad158, e158, hx158_0, hx158_1, hx158_2⟩ := at_T51 (Kd.C_below HR0.out HB.out) x5_1 p158 q158
     cases e158
     replace p158 := eq_true p158
     replace q158 := eq_true q158
     have hcz8 := blk_cell BK157.out
     have hfz8 := blk_frozen BK157.out
     go_wp2
     repeat (go_quiet (fail); try go_wp2)
     go_roundg k1
     case measure => have := HK1.out; omega
     case rel => exact ⟨(wrap64 (x5_1 + 1)), rf_, H', ⟨by have := HK1.out; omega⟩, ⟨bk_ BK157⟩, ⟨bl_⟩⟩
   ·rw [if_neg c4] at H
    have c4b0 : decide (x5_1 < (l0.length : Int)) = false := decide_eq_false c4
    clear c4
    obtain rfl := Option.some.inj H
    go_wp2
    repeat (go_quiet (fail); try go_wp2)
    go_ret
    exact ⟨eq_, bl_⟩
def spec_l19Two.f (l0 : List Int) (a1 : Int) (a2 : Int) : Option (Int × List Int) := if a1 < 0 then (some (0, ([] : List Int))) else (if a2 < 0 then (some (0, ([] : List Int))) else (if 0 ≤ a1 then (if a1 < (l0.length : Int) then (if (rd l0 a1) = 0 then (some (0, ([] : List Int))) else (if 0 ≤ a2 then (if a2 < (l0.length : Int) then (if (rd l0 a2) = 0 then (some (0, ([] : List Int))) else ((spec_l19Cap.f (wrap64 ((wrap64 (1 + (rd l0 a1))) + (rd l0 a2)))).bind fun t164 => (some (t164, (([a1, a2] : List Int)))))) else (none)) else (none))) else (none)) else (none)))
def spec_l19Two.T3 : Bool × List (List Nat × List Nat) := (true, [([], []), ([], []), ([0, 1], [0, 1]), ([2], [2]), ([3], [3]), ([], []), ([], []), ([5, 6], [5, 6]), ([7], [7]), ([4, 8], [4, 8]), ([9], [9]), ([], []), ([], []), ([11, 12], [11, 12]), ([10, 13], [10, 13]), ([14, 10, 0, 1, 2, 3, 4, 5, 6, 7, 8, 9, 10, 11, 12, 13, 14], [14])])
def spec_l19Two.B3 : List Nat := [0, 0, 3, 7, 15, 0, 0, 96, 224, 511, 1023, 0, 0, 6144, 16383, 32767]
theorem spec_l19Two.tab3 : rtab .any (opsOf Try.f199 3) = spec_l19Two.T3 := by kernel_rfl
theorem spec_l19Two.bits3 : waitsOk spec_l19Two.T3.2 spec_l19Two.B3 = true := by kernel_rfl
set_option maxHeartbeats 8000000 in
set_option maxRecDepth 100000 in
theorem spec_l19Two.calls (A0 : Option Addr) (c0 : Nat) (l0 : List Int) (a1 : Int) (a2 : Int) (r1 : Int) (r2 : List Int) (w : World) (hr0 : Kd.C (Kd.int .i64) w A0 l0.length l0) (hc0 : l0.length ≤ c0) (h : spec_l19Two.f l0 a1 a2 = some (r1, r2)) :
  Calls Try.prog 199 #[.slice A0 l0.length c0, .int .i64 a1, .int .i64 a2] w fun e w' => ∃ v1_ : Value, e = .returned (.agg #[.int .i64 r1, v1_]) ∧ Kd.R (Kd.int .i64) 3 w' w.heap.size (fun _ => True) v1_ r2 ∧ Below w.heap.size w w' := by
 have hu183 := Try.underlying183
 have HR0 := Aside0.mk hr0
 have HC0 := Aside0.mk hc0
 clear hr0 hc0
 have HB := Aside0.mk (Below.refl w.heap.size w)
 have H : (if a1 < 0 then (some (0, ([] : List Int))) else (if a2 < 0 then (some (0, ([] : List Int))) else (if 0 ≤ a1 then (if a1 < (l0.length : Int) then (if (rd l0 a1) = 0 then (some (0, ([] : List Int))) else (if 0 ≤ a2 then (if a2 < (l0.length : Int) then (if (rd l0 a2) = 0 then (some (0, ([] : List Int))) else ((spec_l19Cap.f (wrap64 ((wrap64 (1 + (rd l0 a1))) + (rd l0 a2)))).bind fun t164 => (some (t164, (([a1, a2] : List Int)))))) else (none)) else (none))) else (none)) else (none)))) = some (r1, r2) := h
 clear h
 by_cases c4 : a1 < 0
 ·rw [if_pos c4] at H
  have c4b0 : decide (a1 < 0) = true := decide_eq_true c4
  clear c4
  simp only [Option.some.injEq, Prod.mk.injEq] at H
  obtain ⟨rfl, rfl⟩ := H
  go_enter Try.func199, Try.ntmps199
  go_wp2_with (first | ((with_reducible refine gate_dst (N := 6) rfl ?_); refine box_event ?hg (N := 6) ?hd (cs := #[.int .i64 0, .slice none 0 0]) (t := 183) ?hr ?_; (case hd => rfl); (case hg => rfl); (case hr => first | (go_simp; done) | (go_simp; rfl)); intro gb159 hg w5 hbox hb; have BK159 := Aside0.mk (hbox); have GW159 := gs_ hg; have GE159 := gs_ hg; replace HB := hbs_ hb; clear hb hbox hg; have hcz6 := blk_cell BK159.out; have hfz6 := blk_frozen BK159.out))
  refine bodyPost_ret (results_cell_row rfl _ _ gb159 183 #[.int .i64 0, .slice none 0 0] (0, 0) _ rfl (bk_ BK159) Try.underlying183 rfl (by kernel_rfl)) rfl ?_
  exact ⟨_, eq_, by first | exact Kd.R_nil _ _ _ _ _ | exact Kd.N_nil _ _ _ _ _ | exact Kd.V_nil _ _ _ _ _ | exact Kd.Q_nil _ _ _ _ _ | exact Kd.S_nil _ _ _ _ _, bl_⟩
 ·rw [if_neg c4] at H
  have c4b0 : decide (a1 < 0) = false := decide_eq_false c4
  clear c4
  by_cases c7 : a2 < 0
  ·rw [if_pos c7] at H
   have c7b0 : decide (a2 < 0) = true := decide_eq_true c7
   clear c7
   simp only [Option.some.injEq, Prod.mk.injEq] at H
   obtain ⟨rfl, rfl⟩ := H
   go_enter Try.func199, Try.ntmps199
   go_wp2_with (first | ((with_reducible refine gate_dst (N := 6) rfl ?_); refine box_event ?hg (N := 6) ?hd (cs := #[.int .i64 0, .slice none 0 0]) (t := 183) ?hr ?_; (case hd => rfl); (case hg => rfl); (case hr => first | (go_simp; done) | (go_simp; rfl)); intro gb159 hg w8 hbox hb; have BK159 := Aside0.mk (hbox); have GW159 := gs_ hg; have GE159 := gs_ hg; replace HB := hbs_ hb; clear hb hbox hg; have hcz9 := blk_cell BK159.out; have hfz9 := blk_frozen BK159.out))
   refine bodyPost_ret (results_cell_row rfl _ _ gb159 183 #[.int .i64 0, .slice none 0 0] (0, 0) _ rfl (bk_ BK159) Try.underlying183 rfl (by kernel_rfl)) rfl ?_
   exact ⟨_, eq_, by first | exact Kd.R_nil _ _ _ _ _ | exact Kd.N_nil _ _ _ _ _ | exact Kd.V_nil _ _ _ _ _ | exact Kd.Q_nil _ _ _ _ _ | exact Kd.S_nil _ _ _ _ _, bl_⟩
  ·rw [if_neg c7] at H
   have c7b0 : decide (a2 < 0) = false := decide_eq_false c7
   clear c7
   obtain ⟨c10b0, H⟩ := ifd_ H
   obtain ⟨c11b0, H⟩ := ifd_ H
   by_cases c12 : (rd l0 a1) = 0
   ·rw [if_pos c12] at H
    have c12b0 : ((rd l0 a1) == 0) = true := beq_iff_eq.mpr c12
    have c12b1 : ((rd l0 a1) != 0) = false := bne_eq_false_iff_eq.mpr c12
    clear c12
    simp only [Option.some.injEq, Prod.mk.injEq] at H
    obtain ⟨rfl, rfl⟩ := H
    go_enter Try.func199, Try.ntmps199
    go_wp2_with (first | ((with_reducible refine gate_dst (N := 6) rfl ?_); refine box_event ?hg (N := 6) ?hd (cs := #[.int .i64 0, .slice none 0 0]) (t := 183) ?hr ?_; (case hd => rfl); (case hg => rfl); (case hr => first | (go_simp; done) | (go_simp; rfl)); intro gb159 hg w13 hbox hb; have BK159 := Aside0.mk (hbox); have GW159 := gs_ hg; have GE159 := gs_ hg; replace HB := hbs_ hb; clear hb hbox hg; have p160 : 0 ≤ (a1 : Int) := od_; have q160 : a1 < (l0.length : Int) := od_; obtain ⟨ad160, e160, hx160_0⟩ := Kd.at_int (Kd.C_below HR0.out HB.out) a1 p160 q160; cases e160; replace p160 := eq_true p160; replace q160 := eq_true q160; have hcz14 := blk_cell BK159.out; have hfz14 := blk_frozen BK159.out))
    refine bodyPost_ret (results_cell_row rfl _ _ gb159 183 #[.int .i64 0, .slice none 0 0] (0, 0) _ rfl (bk_ BK159) Try.underlying183 rfl (by kernel_rfl)) rfl ?_
    exact ⟨_, eq_, by first | exact Kd.R_nil _ _ _ _ _ | exact Kd.N_nil _ _ _ _ _ | exact Kd.V_nil _ _ _ _ _ | exact Kd.Q_nil _ _ _ _ _ | exact Kd.S_nil _ _ _ _ _, bl_⟩
   ·rw [if_neg c12] at H
    have c12b0 : ((rd l0 a1) == 0) = false := beq_eq_false_iff_ne.mpr c12
    have c12b1 : ((rd l0 a1) != 0) = true := bne_iff_ne.mpr c12
    obtain ⟨c15b0, H⟩ := ifd_ H
    obtain ⟨c16b0, H⟩ := ifd_ H
    by_cases c17 : (rd l0 a2) = 0
    ·rw [if_pos c17] at H
     have c17b0 : ((rd l0 a2) == 0) = true := beq_iff_eq.mpr c17
     have c17b1 : ((rd l0 a2) != 0) = false := bne_eq_false_iff_eq.mpr c17
     clear c17
     simp only [Option.some.injEq, Prod.mk.injEq] at H
     obtain ⟨rfl, rfl⟩ := H
     go_enter Try.func199, Try.ntmps199
     go_wp2_with (first | ((with_reducible refine gate_dst (N := 6) rfl ?_); refine box_event ?hg (N := 6) ?hd (cs := #[.int .i64 0, .slice none 0 0]) (t := 183) ?hr ?_; (case hd => rfl); (case hg => rfl); (case hr => first | (go_simp; done) | (go_simp; rfl)); intro gb159 hg w18 hbox hb; have BK159 := Aside0.mk (hbox); have GW159 := gs_ hg; have GE159 := gs_ hg; replace HB := hbs_ hb; clear hb hbox hg; have p160 : 0 ≤ (a1 : Int) := od_; have q160 : a1 < (l0.length : Int) := od_; obtain ⟨ad160, e160, hx160_0⟩ := Kd.at_int (Kd.C_below HR0.out HB.out) a1 p160 q160; cases e160; replace p160 := eq_true p160; replace q160 := eq_true q160; have p161 : 0 ≤ (a2 : Int) := od_; have q161 : a2 < (l0.length : Int) := od_; obtain ⟨ad161, e161, hx161_0⟩ := Kd.at_int HR0.out a2 p161 q161; obtain rfl : ad160 = ad161 := (by injection e161); replace hx161_0 := cb_ HB hx161_0; replace p161 := eq_true p161; replace q161 := eq_true q161; have hcz19 := blk_cell BK159.out; have hfz19 := blk_frozen BK159.out))
     refine bodyPost_ret (results_cell_row rfl _ _ gb159 183 #[.int .i64 0, .slice none 0 0] (0, 0) _ rfl (bk_ BK159) Try.underlying183 rfl (by kernel_rfl)) rfl ?_
     exact ⟨_, eq_, by first | exact Kd.R_nil _ _ _ _ _ | exact Kd.N_nil _ _ _ _ _ | exact Kd.V_nil _ _ _ _ _ | exact Kd.Q_nil _ _ _ _ _ | exact Kd.S_nil _ _ _ _ _, bl_⟩
    ·rw [if_neg c17] at H
     have c17b0 : ((rd l0 a2) == 0) = false := beq_eq_false_iff_ne.mpr c17
     have c17b1 : ((rd l0 a2) != 0) = true := bne_iff_ne.mpr c17
     obtain ⟨t164, A20, H⟩ := bindE_ H
     obtain ⟨y165, hy165⟩ : ∃ y_ : List Int, y_ = (([a1, a2] : List Int)) := ⟨_, rfl⟩
     replace H : (some (t164, y165)) = some (r1, r2) := by first | (rw [hy165]; with_reducible exact H) | (have H2_ := (Option.bind_some _ _).symm.trans H; rw [hy165]; with_reducible exact H2_) | (have H2_ := (Option.bind_some _ _).symm.trans H; with_reducible exact H2_) | with_reducible exact H | (rw [hy165]; exact H) | exact H
     have Ny165 := Aside0.mk hy165
     clear hy165
     simp only [Option.some.injEq, Prod.mk.injEq] at H
     obtain ⟨rfl, rfl⟩ := H
     go_enter Try.func199, Try.ntmps199
     try go_wp2_with (first | ((with_reducible refine gate_dst (N := 6) rfl ?_); refine box_event ?hg (N := 6) ?hd (cs := #[.int .i64 0, .slice none 0 0]) (t := 183) ?hr ?_; (case hd => rfl); (case hg => rfl); (case hr => first | (go_simp; done) | (go_simp; rfl)); intro gb159 hg w21 hbox hb; have BK159 := Aside0.mk (hbox); have GW159 := gs_ hg; have GE159 := gs_ hg; replace HB := hbs_ hb; clear hb hbox hg; have p160 : 0 ≤ (a1 : Int) := od_; have q160 : a1 < (l0.length : Int) := od_; obtain ⟨ad160, e160, hx160_0⟩ := Kd.at_int (Kd.C_below HR0.out HB.out) a1 p160 q160; cases e160; replace p160 := eq_true p160; replace q160 := eq_true q160; have p161 : 0 ≤ (a2 : Int) := od_; have q161 : a2 < (l0.length : Int) := od_; obtain ⟨ad161, e161, hx161_0⟩ := Kd.at_int HR0.out a2 p161 q161; obtain rfl : ad160 = ad161 := (by injection e161); replace hx161_0 := cb_ HB hx161_0; replace p161 := eq_true p161; replace q161 := eq_true q161))
     replace BK159 := Aside0.mk (blk_drew BK159.out)
     replace HB := Aside0.mk (below_drew1 HB.out)
     have p162 : 0 ≤ (a1 : Int) := od_
     have q162 : a1 < (l0.length : Int) := od_
     obtain ⟨ad162, e162, hx162_0⟩ := Kd.at_int HR0.out a1 p162 q162
     have hw162_0 := hx162_0
     obtain rfl : ad160 = ad162 := (by injection e162)
     replace hx162_0 := cb_ HB hx162_0
     replace p162 := eq_true p162
     replace q162 := eq_true q162
     have p163 : 0 ≤ (a2 : Int) := od_
     have q163 : a2 < (l0.length : Int) := od_
     obtain ⟨ad163, e163, hx163_0⟩ := Kd.at_int HR0.out a2 p163 q163
     have hw163_0 := hx163_0
     obtain rfl : ad160 = ad163 := (by injection e163)
     replace hx163_0 := cb_ HB hx163_0
     replace p163 := eq_true p163
     replace q163 := eq_true q163
     refine start_ (n := 16) (S := fun w' => w'.cell? (ad160.add (a1).toNat) = some (.int .i64 (rd l0 a1)) ∧ w'.cell? (ad160.add (a2).toNat) = some (.int .i64 (rd l0 a2))) (ds := []) #[false, false, false, false, false, false, false, false, false, false, false, false, false, false, false, false] (by kernel_rfl) rfl rfl ⟨(cb_ HB hw162_0 :), (cb_ HB hw163_0 :)⟩ (fun hHeld => ?_); refine with_tabW spec_l19Two.tab3 spec_l19Two.bits3 (fun HT_ HW_ => ?_)
     generalize w21.drew = w22 at BK159 HB hx162_0 hx163_0 hHeld ⊢
     refine pureZ_ (i := 0) (some 28) #[true, false, false, false, false, false, false, false, false, false, false, false, false, false, false, false] (any_of HT_.out (by kernel_rfl)) ?_
     refine pureZ_ (i := 1) (some 29) #[true, true, false, false, false, false, false, false, false, false, false, false, false, false, false, false] (any_of HT_.out (by kernel_rfl)) ?_
     refine pureZ_ (i := 2) (some 30) #[true, true, true, false, false, false, false, false, false, false, false, false, false, false, false, false] (any_of HT_.out (by kernel_rfl)) ?_
     refine pureZ_ (i := 5) (some 33) #[true, true, true, false, false, true, false, false, false, false, false, false, false, false, false, false] (any_of HT_.out (by kernel_rfl)) ?_
     refine pureZ_ (i := 6) (some 34) #[true, true, true, false, false, true, true, false, false, false, false, false, false, false, false, false] (any_of HT_.out (by kernel_rfl)) ?_
     refine pureZ_ (i := 7) (some 35) #[true, true, true, false, false, true, true, true, false, false, false, false, false, false, false, false] (any_of HT_.out (by kernel_rfl)) ?_
     refine pureZ_ (i := 11) (some 39) #[true, true, true, false, false, true, true, true, false, false, false, true, false, false, false, false] (any_of HT_.out (by kernel_rfl)) ?_
     refine pureZ_ (i := 12) (some 40) #[true, true, true, false, false, true, true, true, false, false, false, true, true, false, false, false] (any_of HT_.out (by kernel_rfl)) ?_
     refine takeZ_ (i := 3) (some 31) #[true, true, true, true, false, true, true, true, false, false, false, true, true, false, false, false] (take_ofW HT_.out HW_.out (by kernel_rfl)) hHeld ?_
     refine pureZ_ (i := 4) (some 32) #[true, true, true, true, true, true, true, true, false, false, false, true, true, false, false, false] (any_of HT_.out (by kernel_rfl)) ?_
     refine takeZ_ (i := 8) (some 36) #[true, true, true, true, true, true, true, true, true, false, false, true, true, false, false, false] (take_ofW HT_.out HW_.out (by kernel_rfl)) hHeld ?_
     refine pureZ_ (i := 9) (some 37) #[true, true, true, true, true, true, true, true, true, true, false, true, true, false, false, false] (any_of HT_.out (by kernel_rfl)) ?_
     refine join_ (σ := Value) 2 #[true, true, true, true, true, true, true, true, true, true, true, true, true, true, false, false] (fun s_ => [(38, .int .i64 t164), (41, s_)]) (fun s_ w' => (w'.cell? (ad160.add (a1).toNat) = some (.int .i64 (rd l0 a1)) ∧ w'.cell? (ad160.add (a2).toNat) = some (.int .i64 (rd l0 a2))) ∧ (Kd.R (Kd.int .i64) 3 w' w.heap.size (fun _ => True) s_ y165) ∧ (w'.heap[gb159]? = some (.cells #[.int .i64 0, .slice none 0 0] 183 (0, 0))) ∧ (Below w.heap.size w w')) ?_ ?_
     rotate_left
     ·intro hCont
      refine two_ (i := 10) (j := 13) (Ni := some 38) (Nj := some 41) #[true, true, true, true, true, true, true, true, true, true, true, true, true, false, false, false] #[true, true, true, true, true, true, true, true, true, true, false, true, true, true, false, false] rfl rfl rfl rfl (two_of HT_.out (by kernel_rfl)) (by decide) (by decide) (fun K hK => ?_) (fun K hK => ?_)
      ·skip
       refine goes_ Try.func109 (by kernel_rfl) rfl #[.int .i64 (wrap64 ((wrap64 (1 + (rd l0 a1))) + (rd l0 a2)))] (by rfl) rfl rfl (by (try simp only [List.map_toArray, List.map_cons, List.map_nil]); first | done | rfl | (simp only [List.length_drop, List.length_take]; rfl)) ?_
       with_reducible refine (spec_l19Cap.calls (wrap64 ((wrap64 (1 + (rd l0 a1))) + (rd l0 a2))) t164 _ A20.out).mono ?_
       rintro e w' ⟨rfl, ⟨nd, rfl⟩⟩
       refine ⟨_, rfl, ?_⟩
       refine hK.out _ _ ⟨(cb_ HB hw162_0 :), (cb_ HB hw163_0 :)⟩ (fun hHeld => ?_)
       clear hK K
       refine norm_ (a' := ?_) ?_ ?_
       rotate_left
       ·show Act.put _ (some 38) _ = _
        simp only [Act.put, List.setIfInBounds_toArray, List.set_cons_zero, List.set_cons_succ, i64_w, i32_w]
        rfl
       refine one_ (i := 13) (N := some 41) #[true, true, true, true, true, true, true, true, true, true, true, true, true, true, false, false] rfl rfl (one_of HT_.out (by kernel_rfl)) (by decide) (fun K hK => ?_)
       refine Kd.R_lit_step (Kd.int .i64) _ 3 ?hg (N := 41) ?hd (xs := ([a1, a2] : List Int)) (inner := [.int .i64 a1, .int .i64 a2]) (ok := fun _ => True) (okp := fun _ => True) ?hr ?hp (fun _ hk => hk) trivial (Below.refl _ _) (Nat.le_refl _) (by simp) ?_; (case hd => rfl); (case hg => rfl); (case hr => first | (go_simp; done) | (go_simp; rfl)); (case hp => exact (Reps.one (show Kd.M (Kd.int .i64) _ _ _ a1 [.int .i64 a1] from rfl) (Reps.one (show Kd.M (Kd.int .i64) _ _ _ a2 [.int .i64 a2] from rfl) (Reps.none _ _))))
       intro v166 w23 ho24 hb hg_ hnew_
       clear hg_ hnew_
       (first | rw [← Ny165.out] at ho24 | (simp only [Int.reduceToNat] at ho24; rw [← Ny165.out] at ho24))
       have HO167 := Aside0.mk (Kd.R_lower ho24 bls_)
       replace BK159 := bkb_ BK159 hb
       replace HB := hbs_ hb
       clear hb ho24
       obtain ⟨Ao25, co25, eo25⟩ := Kd.R_slice HO167.out
       (first | subst eo25 | (injection eo25 with f1_ f2_ f3_; have f4_ := f1_.symm; have f5_ := f3_.symm; clear f1_ f2_ f3_; subst f4_; subst f5_))
       refine hK.out _ _ ⟨(cb_ HB hw162_0 :), (cb_ HB hw163_0 :)⟩ (fun hHeld => ?_)
       clear hK K
       refine norm_ (a' := ?_) ?_ ?_
       rotate_left
       ·show Act.put _ (some 41) _ = _
        simp only [Act.put, List.setIfInBounds_toArray, List.set_cons_zero, List.set_cons_succ, i64_w, i32_w]
        rfl
       exact norm_ (by simp only [putAll, Act.put, List.setIfInBounds_toArray, List.set_cons_zero, List.set_cons_succ]) (hCont (.slice Ao25 y165.length co25) _ ⟨hHeld, (by (with_reducible repeat (first | apply Kd.R_alloc | apply Kd.R_drewN | apply Kd.R_drew)); exact HO167.out), (bk_ BK159), bl_⟩)
      ·skip
       refine Kd.R_lit_step (Kd.int .i64) _ 3 ?hg (N := 41) ?hd (xs := ([a1, a2] : List Int)) (inner := [.int .i64 a1, .int .i64 a2]) (ok := fun _ => True) (okp := fun _ => True) ?hr ?hp (fun _ hk => hk) trivial (Below.refl _ _) (Nat.le_refl _) (by simp) ?_; (case hd => rfl); (case hg => rfl); (case hr => first | (go_simp; done) | (go_simp; rfl)); (case hp => exact (Reps.one (show Kd.M (Kd.int .i64) _ _ _ a1 [.int .i64 a1] from rfl) (Reps.one (show Kd.M (Kd.int .i64) _ _ _ a2 [.int .i64 a2] from rfl) (Reps.none _ _))))
       intro v166 w23 ho24 hb hg_ hnew_
       clear hg_ hnew_
       (first | rw [← Ny165.out] at ho24 | (simp only [Int.reduceToNat] at ho24; rw [← Ny165.out] at ho24))
       have HO167 := Aside0.mk (Kd.R_lower ho24 bls_)
       replace BK159 := bkb_ BK159 hb
       replace HB := hbs_ hb
       clear hb ho24
       refine hK.out _ _ ⟨(cb_ HB hw162_0 :), (cb_ HB hw163_0 :)⟩ (fun hHeld => ?_)
       clear hK K
       refine norm_ (a' := ?_) ?_ ?_
       rotate_left
       ·show Act.put _ (some 41) _ = _
        simp only [Act.put, List.setIfInBounds_toArray, List.set_cons_zero, List.set_cons_succ, i64_w, i32_w]
        rfl
       refine one_ (i := 10) (N := some 38) #[true, true, true, true, true, true, true, true, true, true, true, true, true, true, false, false] rfl rfl (one_of HT_.out (by kernel_rfl)) (by decide) (fun K hK => ?_)
       refine goes_ Try.func109 (by kernel_rfl) rfl #[.int .i64 (wrap64 ((wrap64 (1 + (rd l0 a1))) + (rd l0 a2)))] (by rfl) rfl rfl (by (try simp only [List.map_toArray, List.map_cons, List.map_nil]); first | done | rfl | (simp only [List.length_drop, List.length_take]; rfl)) ?_
       with_reducible refine (spec_l19Cap.calls (wrap64 ((wrap64 (1 + (rd l0 a1))) + (rd l0 a2))) t164 _ A20.out).mono ?_
       rintro e w' ⟨rfl, ⟨nd, rfl⟩⟩
       refine ⟨_, rfl, ?_⟩
       obtain ⟨Ao25, co25, eo25⟩ := Kd.R_slice HO167.out
       (first | subst eo25 | (injection eo25 with f1_ f2_ f3_; have f4_ := f1_.symm; have f5_ := f3_.symm; clear f1_ f2_ f3_; subst f4_; subst f5_))
       refine hK.out _ _ ⟨(cb_ HB hw162_0 :), (cb_ HB hw163_0 :)⟩ (fun hHeld => ?_)
       clear hK K
       refine norm_ (a' := ?_) ?_ ?_
       rotate_left
       ·show Act.put _ (some 38) _ = _
        simp only [Act.put, List.setIfInBounds_toArray, List.set_cons_zero, List.set_cons_succ, i64_w, i32_w]
        rfl
       exact norm_ (by simp only [putAll, Act.put, List.setIfInBounds_toArray, List.set_cons_zero, List.set_cons_succ]) (hCont (.slice Ao25 y165.length co25) _ ⟨hHeld, (by (with_reducible repeat (first | apply Kd.R_alloc | apply Kd.R_drewN | apply Kd.R_drew)); exact HO167.out), (bk_ BK159), bl_⟩)
     rintro v166 w26 ⟨hS_, h0_, h1_, h2_⟩
     have n0_ : Aside0 (Kd.R (Kd.int .i64) 3 w26 w.heap.size (fun _ => True) v166 y165) := ⟨h0_⟩
     have n1_ : Aside0 (w26.heap[gb159]? = some (.cells #[.int .i64 0, .slice none 0 0] 183 (0, 0))) := ⟨h1_⟩
     have n2_ : Aside0 (Below w.heap.size w w26) := ⟨h2_⟩
     clear BK159
     clear HB
     clear h0_ h1_ h2_
     have HO167 := n0_
     have BK159 := n1_
     have HB := n2_
     clear n0_ n1_ n2_
     have hHeld : w26.cell? (ad160.add (a1).toNat) = some (.int .i64 (rd l0 a1)) ∧ w26.cell? (ad160.add (a2).toNat) = some (.int .i64 (rd l0 a2)) := hS_
     obtain ⟨Ao27, co27, eo27⟩ := Kd.R_slice HO167.out
     (first | subst eo27 | (injection eo27 with f1_ f2_ f3_; have f4_ := f1_.symm; have f5_ := f3_.symm; clear f1_ f2_ f3_; subst f4_; subst f5_))
     refine norm_ (a' := ?_) ?_ ?_
     rotate_left
     ·simp only [putAll, Act.put, List.setIfInBounds_toArray, List.set_cons_zero, List.set_cons_succ]
      rfl
     refine pureZ_ (i := 14) (some 42) #[true, true, true, true, true, true, true, true, true, true, true, true, true, true, true, false] (any_of HT_.out (by kernel_rfl)) ?_
     refine one_ (i := 15) (N := none) #[true, true, true, true, true, true, true, true, true, true, true, true, true, true, true, true] rfl rfl (one_of HT_.out (by kernel_rfl)) (by decide) (fun K hK => ?_)
     have hs28 : w26.cell? ⟨gb159, 0, none⟩ = some (.int .i64 0) := (blk_cell BK159.out 0).trans rfl
     have hfs28 := blk_frozen BK159.out 0
     have hs29 : w26.cell? ⟨gb159, 1, none⟩ = some (.slice none 0 0) := (blk_cell BK159.out 1).trans rfl
     have hfs29 := blk_frozen BK159.out 1
     refine skip_ (w1 := ?_) (by rfl) rfl ?_ ?_
     rotate_left
     ·go_simp
      rfl
     refine hK.out _ _ ⟨((cell_far (p := ⟨gb159, _, none⟩) (fb_ hw162_0 GW159.out) _).trans (((cell_far (p := ⟨gb159, _, none⟩) (fb_ hw162_0 GW159.out) _).trans (hHeld.1)))), ((cell_far (p := ⟨gb159, _, none⟩) (fb_ hw163_0 GW159.out) _).trans (((cell_far (p := ⟨gb159, _, none⟩) (fb_ hw163_0 GW159.out) _).trans (hHeld.2))))⟩ (fun hHeld => ?_)
     clear hK K
     refine done_ (done_of HT_.out (by kernel_rfl)) ?_
     try go_wp2
     refine bodyPost_ret (results_cell_row rfl _ _ gb159 183 #[.int .i64 t164, .slice Ao27 y165.length co27] (0, 0) _ rfl (bk_ BK159) Try.underlying183 rfl (by kernel_rfl)) rfl ?_
     exact ⟨_, eq_, by (with_reducible repeat (first | apply Kd.R_alloc | apply Kd.R_drewN | apply Kd.R_drew)); exact Kd.R_mono (Kd.R_far (p := ⟨gb159, 1, none⟩) (Kd.R_far (p := ⟨gb159, 0, none⟩) (Kd.R_types HO167.out BK159.out (by decide)) (fun _ hk => hk.2) (.int .i64 t164)) (fun _ hk => hk.2) (.slice Ao27 y165.length co27)) (fun _ hk => trivial), bl_⟩
def spec_l19Better.f (a0_0 : Int) (l0_1 : List Int) (a1_0 : Int) (l1_1 : List Int) : Option (Int × List Int) := if a0_0 = 0 then (some (a1_0, l1_1)) else (if a1_0 > 0 then (if a1_0 < a0_0 then (some (a1_0, l1_1)) else (some (a0_0, l0_1))) else (some (a0_0, l0_1)))
set_option maxHeartbeats 8000000 in
set_option maxRecDepth 100000 in
theorem spec_l19Better.calls (a0_0 : Int) (P0_1_ : Nat → Prop) (u9000_ : Value) (l0_1 : List Int) (a1_0 : Int) (P1_1_ : Nat → Prop) (u9001_ : Value) (l1_1 : List Int) (r1 : Int) (r2 : List Int) (w0 w : World) (hB : Below w0.heap.size w0 w) (ho0_1 : Kd.R (Kd.int .i64) 3 w w0.heap.size P0_1_ u9000_ l0_1) (hp0_1_1_1 : ∀ k_, P0_1_ k_ → ¬ P1_1_ k_) (ho1_1 : Kd.R (Kd.int .i64) 3 w w0.heap.size P1_1_ u9001_ l1_1) (hp1_1_0_1 : ∀ k_, P1_1_ k_ → ¬ P0_1_ k_) (h : spec_l19Better.f a0_0 l0_1 a1_0 l1_1 = some (r1, r2)) :
  Calls Try.prog 200 #[.agg #[.int .i64 a0_0, u9000_], .agg #[.int .i64 a1_0, u9001_]] w fun e w' => ∃ v1_ : Value, e = .returned (.agg #[.int .i64 r1, v1_]) ∧ Kd.R (Kd.int .i64) 3 w' w0.heap.size (fun k_ => ((P0_1_ k_ ∨ P1_1_ k_) ∨ w.heap.size ≤ k_)) v1_ r2 ∧ Below w0.heap.size w0 w' ∧ Kept w w' (fun k_ => P0_1_ k_ ∨ P1_1_ k_) := by
 have hu183 := Try.underlying183
 have HO0_1 := Aside0.mk (show Kd.R (Kd.int .i64) 3 w w0.heap.size (fun k_ => ((P0_1_ k_ ∨ P1_1_ k_) ∨ w.heap.size ≤ k_) ∧ some k_ ≠ (u9001_ : Value).ownBlock) u9000_ l0_1 from Kd.R_mono ho0_1 (fun k_ hk => ⟨(.inl (.inl hk)), fun e_ => hp0_1_1_1 k_ hk (ho1_1.1 k_ e_.symm)⟩))
 have HO1_1 := Aside0.mk (show Kd.R (Kd.int .i64) 3 w w0.heap.size (fun k_ => ((P0_1_ k_ ∨ P1_1_ k_) ∨ w.heap.size ≤ k_) ∧ some k_ ≠ (u9000_ : Value).ownBlock) u9001_ l1_1 from Kd.R_mono ho1_1 (fun k_ hk => ⟨(.inl (.inr hk)), fun e_ => hp1_1_0_1 k_ hk (ho0_1.1 k_ e_.symm)⟩))
 have HK := Aside0.mk (Kept.refl w (fun k_ => P0_1_ k_ ∨ P1_1_ k_))
 have HW0 := Aside0.mk hB.size
 have HB := Aside0.mk hB
 clear hB
 have H : (if a0_0 = 0 then (some (a1_0, l1_1)) else (if a1_0 > 0 then (if a1_0 < a0_0 then (some (a1_0, l1_1)) else (some (a0_0, l0_1))) else (some (a0_0, l0_1)))) = some (r1, r2) := h
 clear h
 by_cases c3 : a0_0 = 0
 ·rw [if_pos c3] at H
  have c3b0 : (a0_0 == 0) = true := beq_iff_eq.mpr c3
  have c3b1 : (a0_0 != 0) = false := bne_eq_false_iff_eq.mpr c3
  clear c3
  simp only [Option.some.injEq, Prod.mk.injEq] at H
  obtain ⟨rfl, rfl⟩ := H
  obtain ⟨Ao4, co4, eo4⟩ := Kd.R_slice HO0_1.out
  subst eo4
  go_enter Try.func200, Try.ntmps200
  go_wp2_with (first | ((with_reducible refine gate_dst (N := 2) rfl ?_); refine box_event ?hg (N := 2) ?hd (cs := #[.int .i64 a0_0, .slice Ao4 l0_1.length co4]) (t := 183) ?hr ?_; (case hd => rfl); (case hg => rfl); (case hr => first | (go_simp; done) | (go_simp; rfl)); intro gb168 hg w5 hbox hb; replace HO0_1 := hob_ HO0_1 hb; replace HO1_1 := hob_ HO1_1 hb; have BK168 := Aside0.mk (hbox); have GW168 := Aside0.mk ((by rw [hg]; exact (by first | exact HK.out.1 | exact (show Kept w _ (fun k_ => P0_1_ k_ ∨ P1_1_ k_) from by repeat (first | (with_reducible first | exact HK.out | apply Kept.alloc | apply Kept.drewN | apply Kept.drew) | exact HK.out)).1) : w.heap.size ≤ gb168)); replace HK := Aside0.mk (Kept.below (S := (fun k_ => P0_1_ k_ ∨ P1_1_ k_)) (by repeat (first | (with_reducible first | exact HK.out | apply Kept.alloc | apply Kept.drewN | apply Kept.drew) | exact HK.out)) hb); have GE168 := Aside0.mk ((by rw [hg]; exact bls_ : w0.heap.size ≤ gb168)); replace HB := hbs_ hb; clear hb hbox hg; obtain ⟨Ao6, co6, eo6⟩ := Kd.R_slice HO1_1.out; subst eo6) | ((with_reducible refine gate_dst (N := 3) rfl ?_); refine box_event ?hg (N := 3) ?hd (cs := #[.int .i64 a1_0, .slice Ao6 l1_1.length co6]) (t := 183) ?hr ?_; (case hd => rfl); (case hg => rfl); (case hr => first | (go_simp; done) | (go_simp; rfl)); intro gb169 hg w7 hbox hb; replace HO0_1 := hob_ HO0_1 hb; replace HO1_1 := hob_ HO1_1 hb; have BK169 := Aside0.mk (hbox); have GW169 := Aside0.mk ((by rw [hg]; exact (by first | exact HK.out.1 | exact (show Kept w _ (fun k_ => P0_1_ k_ ∨ P1_1_ k_) from by repeat (first | (with_reducible first | exact HK.out | apply Kept.alloc | apply Kept.drewN | apply Kept.drew | refine Kept.setCell ?_ (.inr GW168.out) _) | exact HK.out)).1) : w.heap.size ≤ gb169)); replace HK := Aside0.mk (Kept.below (S := (fun k_ => P0_1_ k_ ∨ P1_1_ k_)) (by repeat (first | (with_reducible first | exact HK.out | apply Kept.alloc | apply Kept.drewN | apply Kept.drew | refine Kept.setCell ?_ (.inr GW168.out) _) | exact HK.out)) hb); have GE169 := Aside0.mk ((by rw [hg]; exact bls_ : w0.heap.size ≤ gb169)); replace HB := hbs_ hb; have NB168_169 := nl_ hg BK168; have NB169_168 := nr_ hg BK168; replace BK168 := bkb_ BK168 hb; clear hb hbox hg) | ((with_reducible refine gate_dst (N := 4) rfl ?_); refine box_event ?hg (N := 4) ?hd (cs := #[.int .i64 0, .slice none 0 0]) (t := 183) ?hr ?_; (case hd => rfl); (case hg => rfl); (case hr => first | (go_simp; done) | (go_simp; rfl)); intro gb170 hg w8 hbox hb; replace HO0_1 := hob_ HO0_1 hb; replace HO1_1 := hob_ HO1_1 hb; have BK170 := Aside0.mk (hbox); have GW170 := Aside0.mk ((by rw [hg]; exact (by first | exact HK.out.1 | exact (show Kept w _ (fun k_ => P0_1_ k_ ∨ P1_1_ k_) from by repeat (first | (with_reducible first | exact HK.out | apply Kept.alloc | apply Kept.drewN | apply Kept.drew | refine Kept.setCell ?_ (.inr GW168.out) _ | refine Kept.setCell ?_ (.inr GW169.out) _) | exact HK.out)).1) : w.heap.size ≤ gb170)); replace HK := Aside0.mk (Kept.below (S := (fun k_ => P0_1_ k_ ∨ P1_1_ k_)) (by repeat (first | (with_reducible first | exact HK.out | apply Kept.alloc | apply Kept.drewN | apply Kept.drew | refine Kept.setCell ?_ (.inr GW168.out) _ | refine Kept.setCell ?_ (.inr GW169.out) _) | exact HK.out)) hb); have GE170 := Aside0.mk ((by rw [hg]; exact bls_ : w0.heap.size ≤ gb170)); replace HB := hbs_ hb; have NB168_170 := nl_ hg BK168; have NB170_168 := nr_ hg BK168; replace BK168 := bkb_ BK168 hb; have NB169_170 := nl_ hg BK169; have NB170_169 := nr_ hg BK169; replace BK169 := bkb_ BK169 hb; clear hb hbox hg; have hnb9 := NB168_169.out; have hnc9 := NB169_168.out; have hnb10 := NB168_170.out; have hnc10 := NB170_168.out; have hcz11 := blk_cell BK168.out; have hfz11 := blk_frozen BK168.out; have hnb12 := NB169_170.out; have hnc12 := NB170_169.out; have hcz13 := blk_cell BK169.out; have hfz13 := blk_frozen BK169.out; have hcz14 := blk_cell BK170.out; have hfz14 := blk_frozen BK170.out))
  refine bodyPost_ret (results_cell_row rfl _ _ gb170 183 #[.int .i64 a1_0, .slice Ao6 l1_1.length co6] (0, 0) _ rfl (bk_ BK170) Try.underlying183 rfl (by kernel_rfl)) rfl ?_
  exact ⟨_, eq_, by (with_reducible repeat (first | apply Kd.R_alloc | apply Kd.R_drewN | apply Kd.R_drew)); exact Kd.R_mono (Kd.R_far (p := ⟨gb170, 1, none⟩) (Kd.R_far (p := ⟨gb170, 0, none⟩) (Kd.R_types HO1_1.out BK170.out (by decide)) (fun _ hk => hk.2) (.int .i64 a1_0)) (fun _ hk => hk.2) (.slice Ao6 l1_1.length co6)) (fun _ hk => hk.1.1), bl_, by repeat (first | (with_reducible first | exact HK.out | apply Kept.alloc | apply Kept.drewN | apply Kept.drew | refine Kept.setCell ?_ (.inr GW168.out) _ | refine Kept.setCell ?_ (.inr GW169.out) _ | refine Kept.setCell ?_ (.inr GW170.out) _) | exact HK.out)⟩
 ·rw [if_neg c3] at H
  have c3b0 : (a0_0 == 0) = false := beq_eq_false_iff_ne.mpr c3
  have c3b1 : (a0_0 != 0) = true := bne_iff_ne.mpr c3
  by_cases c15 : a1_0 > 0
  ·rw [if_pos c15] at H
   have c15b0 : decide (0 < a1_0) = true := decide_eq_true c15
   clear c15
   by_cases c16 : a1_0 < a0_0
   ·rw [if_pos c16] at H
    have c16b0 : decide (a1_0 < a0_0) = true := decide_eq_true c16
    clear c16
    simp only [Option.some.injEq, Prod.mk.injEq] at H
    obtain ⟨rfl, rfl⟩ := H
    obtain ⟨Ao17, co17, eo17⟩ := Kd.R_slice HO0_1.out
    subst eo17
    go_enter Try.func200, Try.ntmps200
    go_wp2_with (first | ((with_reducible refine gate_dst (N := 2) rfl ?_); refine box_event ?hg (N := 2) ?hd (cs := #[.int .i64 a0_0, .slice Ao17 l0_1.length co17]) (t := 183) ?hr ?_; (case hd => rfl); (case hg => rfl); (case hr => first | (go_simp; done) | (go_simp; rfl)); intro gb168 hg w18 hbox hb; replace HO0_1 := hob_ HO0_1 hb; replace HO1_1 := hob_ HO1_1 hb; have BK168 := Aside0.mk (hbox); have GW168 := Aside0.mk ((by rw [hg]; exact (by first | exact HK.out.1 | exact (show Kept w _ (fun k_ => P0_1_ k_ ∨ P1_1_ k_) from by repeat (first | (with_reducible first | exact HK.out | apply Kept.alloc | apply Kept.drewN | apply Kept.drew) | exact HK.out)).1) : w.heap.size ≤ gb168)); replace HK := Aside0.mk (Kept.below (S := (fun k_ => P0_1_ k_ ∨ P1_1_ k_)) (by repeat (first | (with_reducible first | exact HK.out | apply Kept.alloc | apply Kept.drewN | apply Kept.drew) | exact HK.out)) hb); have GE168 := Aside0.mk ((by rw [hg]; exact bls_ : w0.heap.size ≤ gb168)); replace HB := hbs_ hb; clear hb hbox hg; obtain ⟨Ao19, co19, eo19⟩ := Kd.R_slice HO1_1.out; subst eo19) | ((with_reducible refine gate_dst (N := 3) rfl ?_); refine box_event ?hg (N := 3) ?hd (cs := #[.int .i64 a1_0, .slice Ao19 l1_1.length co19]) (t := 183) ?hr ?_; (case hd => rfl); (case hg => rfl); (case hr => first | (go_simp; done) | (go_simp; rfl)); intro gb169 hg w20 hbox hb; replace HO0_1 := hob_ HO0_1 hb; replace HO1_1 := hob_ HO1_1 hb; have BK169 := Aside0.mk (hbox); have GW169 := Aside0.mk ((by rw [hg]; exact (by first | exact HK.out.1 | exact (show Kept w _ (fun k_ => P0_1_ k_ ∨ P1_1_ k_) from by repeat (first | (with_reducible first | exact HK.out | apply Kept.alloc | apply Kept.drewN | apply Kept.drew | refine Kept.setCell ?_ (.inr GW168.out) _) | exact HK.out)).1) : w.heap.size ≤ gb169)); replace HK := Aside0.mk (Kept.below (S := (fun k_ => P0_1_ k_ ∨ P1_1_ k_)) (by repeat (first | (with_reducible first | exact HK.out | apply Kept.alloc | apply Kept.drewN | apply Kept.drew | refine Kept.setCell ?_ (.inr GW168.out) _) | exact HK.out)) hb); have GE169 := Aside0.mk ((by rw [hg]; exact bls_ : w0.heap.size ≤ gb169)); replace HB := hbs_ hb; have NB168_169 := nl_ hg BK168; have NB169_168 := nr_ hg BK168; replace BK168 := bkb_ BK168 hb; clear hb hbox hg) | ((with_reducible refine gate_dst (N := 4) rfl ?_); refine box_event ?hg (N := 4) ?hd (cs := #[.int .i64 0, .slice none 0 0]) (t := 183) ?hr ?_; (case hd => rfl); (case hg => rfl); (case hr => first | (go_simp; done) | (go_simp; rfl)); intro gb170 hg w21 hbox hb; replace HO0_1 := hob_ HO0_1 hb; replace HO1_1 := hob_ HO1_1 hb; have BK170 := Aside0.mk (hbox); have GW170 := Aside0.mk ((by rw [hg]; exact (by first | exact HK.out.1 | exact (show Kept w _ (fun k_ => P0_1_ k_ ∨ P1_1_ k_) from by repeat (first | (with_reducible first | exact HK.out | apply Kept.alloc | apply Kept.drewN | apply Kept.drew | refine Kept.setCell ?_ (.inr GW168.out) _ | refine Kept.setCell ?_ (.inr GW169.out) _) | exact HK.out)).1) : w.heap.size ≤ gb170)); replace HK := Aside0.mk (Kept.below (S := (fun k_ => P0_1_ k_ ∨ P1_1_ k_)) (by repeat (first | (with_reducible first | exact HK.out | apply Kept.alloc | apply Kept.drewN | apply Kept.drew | refine Kept.setCell ?_ (.inr GW168.out) _ | refine Kept.setCell ?_ (.inr GW169.out) _) | exact HK.out)) hb); have GE170 := Aside0.mk ((by rw [hg]; exact bls_ : w0.heap.size ≤ gb170)); replace HB := hbs_ hb; have NB168_170 := nl_ hg BK168; have NB170_168 := nr_ hg BK168; replace BK168 := bkb_ BK168 hb; have NB169_170 := nl_ hg BK169; have NB170_169 := nr_ hg BK169; replace BK169 := bkb_ BK169 hb; clear hb hbox hg; have hnb22 := NB168_169.out; have hnc22 := NB169_168.out; have hnb23 := NB168_170.out; have hnc23 := NB170_168.out; have hcz24 := blk_cell BK168.out; have hfz24 := blk_frozen BK168.out; have hnb25 := NB169_170.out; have hnc25 := NB170_169.out; have hcz26 := blk_cell BK169.out; have hfz26 := blk_frozen BK169.out; have hcz27 := blk_cell BK170.out; have hfz27 := blk_frozen BK170.out))
    refine bodyPost_ret (results_cell_row rfl _ _ gb170 183 #[.int .i64 a1_0, .slice Ao19 l1_1.length co19] (0, 0) _ rfl (bk_ BK170) Try.underlying183 rfl (by kernel_rfl)) rfl ?_
    exact ⟨_, eq_, by (with_reducible repeat (first | apply Kd.R_alloc | apply Kd.R_drewN | apply Kd.R_drew)); exact Kd.R_mono (Kd.R_far (p := ⟨gb170, 1, none⟩) (Kd.R_far (p := ⟨gb170, 0, none⟩) (Kd.R_types HO1_1.out BK170.out (by decide)) (fun _ hk => hk.2) (.int .i64 a1_0)) (fun _ hk => hk.2) (.slice Ao19 l1_1.length co19)) (fun _ hk => hk.1.1), bl_, by repeat (first | (with_reducible first | exact HK.out | apply Kept.alloc | apply Kept.drewN | apply Kept.drew | refine Kept.setCell ?_ (.inr GW168.out) _ | refine Kept.setCell ?_ (.inr GW169.out) _ | refine Kept.setCell ?_ (.inr GW170.out) _) | exact HK.out)⟩
   ·rw [if_neg c16] at H
    have c16b0 : decide (a1_0 < a0_0) = false := decide_eq_false c16
    clear c16
    simp only [Option.some.injEq, Prod.mk.injEq] at H
    obtain ⟨rfl, rfl⟩ := H
    obtain ⟨Ao28, co28, eo28⟩ := Kd.R_slice HO0_1.out
    subst eo28
    go_enter Try.func200, Try.ntmps200
    go_wp2_with (first | ((with_reducible refine gate_dst (N := 2) rfl ?_); refine box_event ?hg (N := 2) ?hd (cs := #[.int .i64 a0_0, .slice Ao28 l0_1.length co28]) (t := 183) ?hr ?_; (case hd => rfl); (case hg => rfl); (case hr => first | (go_simp; done) | (go_simp; rfl)); intro gb168 hg w29 hbox hb; replace HO0_1 := hob_ HO0_1 hb; replace HO1_1 := hob_ HO1_1 hb; have BK168 := Aside0.mk (hbox); have GW168 := Aside0.mk ((by rw [hg]; exact (by first | exact HK.out.1 | exact (show Kept w _ (fun k_ => P0_1_ k_ ∨ P1_1_ k_) from by repeat (first | (with_reducible first | exact HK.out | apply Kept.alloc | apply Kept.drewN | apply Kept.drew) | exact HK.out)).1) : w.heap.size ≤ gb168)); replace HK := Aside0.mk (Kept.below (S := (fun k_ => P0_1_ k_ ∨ P1_1_ k_)) (by repeat (first | (with_reducible first | exact HK.out | apply Kept.alloc | apply Kept.drewN | apply Kept.drew) | exact HK.out)) hb); have GE168 := Aside0.mk ((by rw [hg]; exact bls_ : w0.heap.size ≤ gb168)); replace HB := hbs_ hb; clear hb hbox hg; obtain ⟨Ao30, co30, eo30⟩ := Kd.R_slice HO1_1.out; subst eo30) | ((with_reducible refine gate_dst (N := 3) rfl ?_); refine box_event ?hg (N := 3) ?hd (cs := #[.int .i64 a1_0, .slice Ao30 l1_1.length co30]) (t := 183) ?hr ?_; (case hd => rfl); (case hg => rfl); (case hr => first | (go_simp; done) | (go_simp; rfl)); intro gb169 hg w31 hbox hb; replace HO0_1 := hob_ HO0_1 hb; replace HO1_1 := hob_ HO1_1 hb; have BK169 := Aside0.mk (hbox); have GW169 := Aside0.mk ((by rw [hg]; exact (by first | exact HK.out.1 | exact (show Kept w _ (fun k_ => P0_1_ k_ ∨ P1_1_ k_) from by repeat (first | (with_reducible first | exact HK.out | apply Kept.alloc | apply Kept.drewN | apply Kept.drew | refine Kept.setCell ?_ (.inr GW168.out) _) | exact HK.out)).1) : w.heap.size ≤ gb169)); replace HK := Aside0.mk (Kept.below (S := (fun k_ => P0_1_ k_ ∨ P1_1_ k_)) (by repeat (first | (with_reducible first | exact HK.out | apply Kept.alloc | apply Kept.drewN | apply Kept.drew | refine Kept.setCell ?_ (.inr GW168.out) _) | exact HK.out)) hb); have GE169 := Aside0.mk ((by rw [hg]; exact bls_ : w0.heap.size ≤ gb169)); replace HB := hbs_ hb; have NB168_169 := nl_ hg BK168; have NB169_168 := nr_ hg BK168; replace BK168 := bkb_ BK168 hb; clear hb hbox hg) | ((with_reducible refine gate_dst (N := 4) rfl ?_); refine box_event ?hg (N := 4) ?hd (cs := #[.int .i64 0, .slice none 0 0]) (t := 183) ?hr ?_; (case hd => rfl); (case hg => rfl); (case hr => first | (go_simp; done) | (go_simp; rfl)); intro gb170 hg w32 hbox hb; replace HO0_1 := hob_ HO0_1 hb; replace HO1_1 := hob_ HO1_1 hb; have BK170 := Aside0.mk (hbox); have GW170 := Aside0.mk ((by rw [hg]; exact (by first | exact HK.out.1 | exact (show Kept w _ (fun k_ => P0_1_ k_ ∨ P1_1_ k_) from by repeat (first | (with_reducible first | exact HK.out | apply Kept.alloc | apply Kept.drewN | apply Kept.drew | refine Kept.setCell ?_ (.inr GW168.out) _ | refine Kept.setCell ?_ (.inr GW169.out) _) | exact HK.out)).1) : w.heap.size ≤ gb170)); replace HK := Aside0.mk (Kept.below (S := (fun k_ => P0_1_ k_ ∨ P1_1_ k_)) (by repeat (first | (with_reducible first | exact HK.out | apply Kept.alloc | apply Kept.drewN | apply Kept.drew | refine Kept.setCell ?_ (.inr GW168.out) _ | refine Kept.setCell ?_ (.inr GW169.out) _) | exact HK.out)) hb); have GE170 := Aside0.mk ((by rw [hg]; exact bls_ : w0.heap.size ≤ gb170)); replace HB := hbs_ hb; have NB168_170 := nl_ hg BK168; have NB170_168 := nr_ hg BK168; replace BK168 := bkb_ BK168 hb; have NB169_170 := nl_ hg BK169; have NB170_169 := nr_ hg BK169; replace BK169 := bkb_ BK169 hb; clear hb hbox hg; have hnb33 := NB168_169.out; have hnc33 := NB169_168.out; have hnb34 := NB168_170.out; have hnc34 := NB170_168.out; have hcz35 := blk_cell BK168.out; have hfz35 := blk_frozen BK168.out; have hnb36 := NB169_170.out; have hnc36 := NB170_169.out; have hcz37 := blk_cell BK169.out; have hfz37 := blk_frozen BK169.out; have hcz38 := blk_cell BK170.out; have hfz38 := blk_frozen BK170.out))
    refine bodyPost_ret (results_cell_row rfl _ _ gb170 183 #[.int .i64 a0_0, .slice Ao28 l0_1.length co28] (0, 0) _ rfl (bk_ BK170) Try.underlying183 rfl (by kernel_rfl)) rfl ?_
    exact ⟨_, eq_, by (with_reducible repeat (first | apply Kd.R_alloc | apply Kd.R_drewN | apply Kd.R_drew)); exact Kd.R_mono (Kd.R_far (p := ⟨gb170, 1, none⟩) (Kd.R_far (p := ⟨gb170, 0, none⟩) (Kd.R_types HO0_1.out BK170.out (by decide)) (fun _ hk => hk.2) (.int .i64 a0_0)) (fun _ hk => hk.2) (.slice Ao28 l0_1.length co28)) (fun _ hk => hk.1.1), bl_, by repeat (first | (with_reducible first | exact HK.out | apply Kept.alloc | apply Kept.drewN | apply Kept.drew | refine Kept.setCell ?_ (.inr GW168.out) _ | refine Kept.setCell ?_ (.inr GW169.out) _ | refine Kept.setCell ?_ (.inr GW170.out) _) | exact HK.out)⟩
  ·rw [if_neg c15] at H
   have c15b0 : decide (0 < a1_0) = false := decide_eq_false c15
   clear c15
   simp only [Option.some.injEq, Prod.mk.injEq] at H
   obtain ⟨rfl, rfl⟩ := H
   obtain ⟨Ao39, co39, eo39⟩ := Kd.R_slice HO0_1.out
   subst eo39
   go_enter Try.func200, Try.ntmps200
   go_wp2_with (first | ((with_reducible refine gate_dst (N := 2) rfl ?_); refine box_event ?hg (N := 2) ?hd (cs := #[.int .i64 a0_0, .slice Ao39 l0_1.length co39]) (t := 183) ?hr ?_; (case hd => rfl); (case hg => rfl); (case hr => first | (go_simp; done) | (go_simp; rfl)); intro gb168 hg w40 hbox hb; replace HO0_1 := hob_ HO0_1 hb; replace HO1_1 := hob_ HO1_1 hb; have BK168 := Aside0.mk (hbox); have GW168 := Aside0.mk ((by rw [hg]; exact (by first | exact HK.out.1 | exact (show Kept w _ (fun k_ => P0_1_ k_ ∨ P1_1_ k_) from by repeat (first | (with_reducible first | exact HK.out | apply Kept.alloc | apply Kept.drewN | apply Kept.drew) | exact HK.out)).1) : w.heap.size ≤ gb168)); replace HK := Aside0.mk (Kept.below (S := (fun k_ => P0_1_ k_ ∨ P1_1_ k_)) (by repeat (first | (with_reducible first | exact HK.out | apply Kept.alloc | apply Kept.drewN | apply Kept.drew) | exact HK.out)) hb); have GE168 := Aside0.mk ((by rw [hg]; exact bls_ : w0.heap.size ≤ gb168)); replace HB := hbs_ hb; clear hb hbox hg; obtain ⟨Ao41, co41, eo41⟩ := Kd.R_slice HO1_1.out; subst eo41) | ((with_reducible refine gate_dst (N := 3) rfl ?_); refine box_event ?hg (N := 3) ?hd (cs := #[.int .i64 a1_0, .slice Ao41 l1_1.length co41]) (t := 183) ?hr ?_; (case hd => rfl); (case hg => rfl); (case hr => first | (go_simp; done) | (go_simp; rfl)); intro gb169 hg w42 hbox hb; replace HO0_1 := hob_ HO0_1 hb; replace HO1_1 := hob_ HO1_1 hb; have BK169 := Aside0.mk (hbox); have GW169 := Aside0.mk ((by rw [hg]; exact (by first | exact HK.out.1 | exact (show Kept w _ (fun k_ => P0_1_ k_ ∨ P1_1_ k_) from by repeat (first | (with_reducible first | exact HK.out | apply Kept.alloc | apply Kept.drewN | apply Kept.drew | refine Kept.setCell ?_ (.inr GW168.out) _) | exact HK.out)).1) : w.heap.size ≤ gb169)); replace HK := Aside0.mk (Kept.below (S := (fun k_ => P0_1_ k_ ∨ P1_1_ k_)) (by repeat (first | (with_reducible first | exact HK.out | apply Kept.alloc | apply Kept.drewN | apply Kept.drew | refine Kept.setCell ?_ (.inr GW168.out) _) | exact HK.out)) hb); have GE169 := Aside0.mk ((by rw [hg]; exact bls_ : w0.heap.size ≤ gb169)); replace HB := hbs_ hb; have NB168_169 := nl_ hg BK168; have NB169_168 := nr_ hg BK168; replace BK168 := bkb_ BK168 hb; clear hb hbox hg) | ((with_reducible refine gate_dst (N := 4) rfl ?_); refine box_event ?hg (N := 4) ?hd (cs := #[.int .i64 0, .slice none 0 0]) (t := 183) ?hr ?_; (case hd => rfl); (case hg => rfl); (case hr => first | (go_simp; done) | (go_simp; rfl)); intro gb170 hg w43 hbox hb; replace HO0_1 := hob_ HO0_1 hb; replace HO1_1 := hob_ HO1_1 hb; have BK170 := Aside0.mk (hbox); have GW170 := Aside0.mk ((by rw [hg]; exact (by first | exact HK.out.1 | exact (show Kept w _ (fun k_ => P0_1_ k_ ∨ P1_1_ k_) from by repeat (first | (with_reducible first | exact HK.out | apply Kept.alloc | apply Kept.drewN | apply Kept.drew | refine Kept.setCell ?_ (.inr GW168.out) _ | refine Kept.setCell ?_ (.inr GW169.out) _) | exact HK.out)).1) : w.heap.size ≤ gb170)); replace HK := Aside0.mk (Kept.below (S := (fun k_ => P0_1_ k_ ∨ P1_1_ k_)) (by repeat (first | (with_reducible first | exact HK.out | apply Kept.alloc | apply Kept.drewN | apply Kept.drew | refine Kept.setCell ?_ (.inr GW168.out) _ | refine Kept.setCell ?_ (.inr GW169.out) _) | exact HK.out)) hb); have GE170 := Aside0.mk ((by rw [hg]; exact bls_ : w0.heap.size ≤ gb170)); replace HB := hbs_ hb; have NB168_170 := nl_ hg BK168; have NB170_168 := nr_ hg BK168; replace BK168 := bkb_ BK168 hb; have NB169_170 := nl_ hg BK169; have NB170_169 := nr_ hg BK169; replace BK169 := bkb_ BK169 hb; clear hb hbox hg; have hnb44 := NB168_169.out; have hnc44 := NB169_168.out; have hnb45 := NB168_170.out; have hnc45 := NB170_168.out; have hcz46 := blk_cell BK168.out; have hfz46 := blk_frozen BK168.out; have hnb47 := NB169_170.out; have hnc47 := NB170_169.out; have hcz48 := blk_cell BK169.out; have hfz48 := blk_frozen BK169.out; have hcz49 := blk_cell BK170.out; have hfz49 := blk_frozen BK170.out))
   refine bodyPost_ret (results_cell_row rfl _ _ gb170 183 #[.int .i64 a0_0, .slice Ao39 l0_1.length co39] (0, 0) _ rfl (bk_ BK170) Try.underlying183 rfl (by kernel_rfl)) rfl ?_
   exact ⟨_, eq_, by (with_reducible repeat (first | apply Kd.R_alloc | apply Kd.R_drewN | apply Kd.R_drew)); exact Kd.R_mono (Kd.R_far (p := ⟨gb170, 1, none⟩) (Kd.R_far (p := ⟨gb170, 0, none⟩) (Kd.R_types HO0_1.out BK170.out (by decide)) (fun _ hk => hk.2) (.int .i64 a0_0)) (fun _ hk => hk.2) (.slice Ao39 l0_1.length co39)) (fun _ hk => hk.1.1), bl_, by repeat (first | (with_reducible first | exact HK.out | apply Kept.alloc | apply Kept.drewN | apply Kept.drew | refine Kept.setCell ?_ (.inr GW168.out) _ | refine Kept.setCell ?_ (.inr GW169.out) _ | refine Kept.setCell ?_ (.inr GW170.out) _) | exact HK.out)⟩
end Go.Proofs.Ytjpjidgfcljpcaa.PC
