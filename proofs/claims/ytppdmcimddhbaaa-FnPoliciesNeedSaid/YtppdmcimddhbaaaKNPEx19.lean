import Derived.Test.YtppdmcimddhbaaaKNPEx18
-- printed by wip/tools
namespace Go.Proofs.Ytppdmcimddhbaaa.PE
open Go.RowKit Go.Proofs.YtppdmcimddhbaaaW.PrintWords Go.Proofs.YtppdmcimddhbaaaW.PrintLast Go.Proofs.YtppdmcimddhbaaaW.PrintMore
attribute [local go_sem] max2_int min2_int max_two min_two max_three min_three max_four min_four
set_option linter.unusedVariables false
set_option linter.unusedSimpArgs false
attribute [local go_sem high] eqA27
mutual
def spec_FactsOf.l0 : Nat → List (S46) → List (S29) → Bool → Option ((List (S29)))
 | 0, _, _, _ => none
 | k + 1, x0, x3, x4 => if x4 = true then (spec_FactsOf.l1 k x0 x3 false 0) else (some x3)
def spec_FactsOf.l1 : Nat → List (S46) → List (S29) → Bool → Int → Option ((List (S29)))
 | 0, _, _, _, _ => none
 | k + 1, x0, x3, x4, x5 => if x5 < (x0.length : Int) then (if 0 ≤ x5 then ((spec_Follows.f k x3 ((rd_T46 x0 x5).f0) ((rd_T46 x0 x5).f1.f0) ((rd_T46 x0 x5).f1.f1) ((rd_T46 x0 x5).f2) ((rd_T46 x0 x5).f3.f0) ((rd_T46 x0 x5).f3.f1) ((rd_T46 x0 x5).f4.f0) ((rd_T46 x0 x5).f4.f1) ((rd_T46 x0 x5).f5) ((rd_T46 x0 x5).f6)).bind fun t616 => (if (t616.length : Int) > (x3.length : Int) then (spec_FactsOf.l1 k x0 t616 true (wrap64 (x5 + 1))) else (spec_FactsOf.l1 k x0 t616 x4 (wrap64 (x5 + 1))))) else (none)) else (spec_FactsOf.l0 k x0 x3 x4)
end
def spec_FactsOf.f (k : Nat) (l0 : List (S46)) : Option ((List (S29))) := spec_FactsOf.l0 k l0 (([] : List (S29))) true
set_option maxHeartbeats 8000000 in
set_option maxRecDepth 100000 in
theorem spec_FactsOf.calls (k : Nat) (A0 : Option Addr) (c0 : Nat) (l0 : List (S46)) (r : List (S29)) (w : World) (hr0 : Kd.C k46 w A0 l0.length l0) (hc0 : l0.length ≤ c0) (h : spec_FactsOf.f k l0 = some r) :
  Calls Try.prog 73 #[.slice A0 l0.length c0] w fun e w' => ∃ v0_ : Value, e = .returned (v0_) ∧ Kd.R k29 29 w' w.heap.size (fun _ => True) v0_ r ∧ Below w.heap.size w w' := by
 have hu46 := Try.underlying46
 have HR0 := Aside0.mk hr0
 have HC0 := Aside0.mk hc0
 clear hr0 hc0
 have HB := Aside0.mk (Below.refl w.heap.size w)
 have H : (spec_FactsOf.l0 k l0 (([] : List (S29))) true) = some r := h
 clear h
 obtain ⟨y612, hy612⟩ : ∃ y_ : List (S29), y_ = (([] : List (S29))) := ⟨_, rfl⟩
 replace H : (spec_FactsOf.l0 k l0 y612 true) = some r := by first | (rw [hy612]; with_reducible exact H) | (have H2_ := (Option.bind_some _ _).symm.trans H; rw [hy612]; with_reducible exact H2_) | (have H2_ := (Option.bind_some _ _).symm.trans H; with_reducible exact H2_) | with_reducible exact H | (rw [hy612]; exact H) | exact H
 have Ny612 := Aside0.mk hy612
 clear hy612
 have H' := Aside0.mk H
 clear H
 go_enter Try.func73, Try.ntmps73
 go_wp2_with (first | ((with_reducible refine gate_dst (N := 7) rfl ?_); refine Kd.R_lit k29 _ 29 ?hg (N := 7) ?hd (xs := ([] : List (S29))) (inner := []) (ok := fun _ => True) (okp := fun _ => True) ?hr ?hp (fun _ hk => hk) trivial (Below.refl _ _) (Nat.le_refl _) (by simp) ?_; (case hd => rfl); (case hg => rfl); (case hr => first | (go_simp; done) | (go_simp; rfl)); (case hp => exact (Reps.none _ _)); intro v613 w2 ho3 hb hg_ hnew_; clear hg_ hnew_; (first | rw [← Ny612.out] at ho3 | (simp only [Int.reduceToNat] at ho3; rw [← Ny612.out] at ho3)); have HO614 := Aside0.mk (Kd.R_lower ho3 bls_); replace HB := hbs_ hb; clear hb ho3))
 go_loopg [3, 4] k (fun kq v3 v4 w' => ∃ (x3_1 : List (S29)) (x4_1 : Bool), v4 = .bool x4_1 ∧ Aside0 (spec_FactsOf.l0 kq l0 x3_1 x4_1 = some r) ∧ Aside0 (kq ≤ k) ∧ Aside0 (Kd.R k29 29 w' w.heap.size (fun _ => True) v3 x3_1) ∧ Aside0 (Below w.heap.size w w'))
 case atStart => exact ⟨(y612), (true), rf_, H', ⟨Nat.le_refl _⟩, ⟨by (with_reducible repeat (first | apply Kd.R_alloc | apply Kd.R_drewN | apply Kd.R_drew)); exact HO614.out⟩, ⟨bl_⟩⟩
 case round =>
  clear H'
  try clear p2
  obtain ⟨x3_1, x4_1, rfl, HA, HK1, HO_3, HB⟩ := hrel
  cases gk with
  | zero => exact absurd HA.out (by simp [spec_FactsOf.l0])
  | succ k1 =>
   have H := HA.out
   clear HA
   simp only [spec_FactsOf.l0] at H
   by_cases c4 : x4_1 = true
   ·subst c4
    replace H := ite_t_ H
    have H' := Aside0.mk H
    clear H
    go_wp2
    go_loopg [3, 4, 5] k1 (fun kq v3 v4 v5 w' => ∃ (x3_2 : List (S29)) (x4_2 : Bool) (x5_2 : Int), v4 = .bool x4_2 ∧ v5 = .int .i64 x5_2 ∧ Aside0 (spec_FactsOf.l1 kq l0 x3_2 x4_2 x5_2 = some r) ∧ Aside0 (kq ≤ k1) ∧ Aside0 (Kd.R k29 29 w' w.heap.size (fun _ => True) v3 x3_2) ∧ Aside0 (Below w.heap.size w w'))
    case atStart => exact ⟨(x3_1), (false), (0), rf_, rf_, H', ⟨Nat.le_refl _⟩, ⟨by (with_reducible repeat (first | apply Kd.R_alloc | apply Kd.R_drewN | apply Kd.R_drew)); exact HO_3.out⟩, ⟨bl_⟩⟩
    case round =>
     clear H'
     try clear p2
     try clear c4
     try clear p2
     obtain ⟨x3_2, x4_2, x5_2, rfl, rfl, HA, HK2, HO_3, HB⟩ := hrel
     cases gk with
     | zero => exact absurd HA.out (by simp [spec_FactsOf.l1])
     | succ k2 =>
      have H := HA.out
      clear HA
      simp only [spec_FactsOf.l1] at H
      by_cases c5 : x5_2 < (l0.length : Int)
      ·rw [if_pos c5] at H
       have c5b0 : decide (x5_2 < (l0.length : Int)) = true := decide_eq_true c5
       clear c5
       obtain ⟨c6b0, H⟩ := ifd_ H
       obtain ⟨t616, A7, H⟩ := bindE_ H
       by_cases c8 : (t616.length : Int) > (x3_2.length : Int)
       ·rw [if_pos c8] at H
        have c8b0 : decide ((x3_2.length : Int) < (t616.length : Int)) = true := decide_eq_true c8
        have c8b1 : decide (x3_2.length < t616.length) = true := decide_eq_true (Int.ofNat_lt.mp c8)
        clear c8
        have H' := Aside0.mk H
        clear H
        have p615 : 0 ≤ (x5_2 : Int) := od_
        have q615 : x5_2 < (l0.length : Int) := od_
        obtain ⟨ad615, e615, hx615_0, hx615_1, hx615_2, hx615_3, hx615_4, hx615_5, hx615_6, hx615_7, hx615_8, hx615_9⟩ := at_T46 (Kd.C_below HR0.out HB.out) x5_2 p615 q615
        cases e615
        replace p615 := eq_true p615
        replace q615 := eq_true q615
        obtain ⟨Ao9, co9, eo9⟩ := Kd.R_slice HO_3.out
        subst eo9
        go_wp2_with (first | ((with_reducible refine gate_callee (f := 120) rfl ?_); refine goesC_ (some 20) Try.func120 #[.slice Ao9 x3_2.length co9, .agg #[.int .i64 ((rd_T46 l0 x5_2).f0), .int .i64 ((rd_T46 l0 x5_2).f1.f0), .int .i64 ((rd_T46 l0 x5_2).f1.f1), .int .i64 ((rd_T46 l0 x5_2).f2), .int .i64 ((rd_T46 l0 x5_2).f3.f0), .int .i64 ((rd_T46 l0 x5_2).f3.f1), .int .i64 ((rd_T46 l0 x5_2).f4.f0), .int .i64 ((rd_T46 l0 x5_2).f4.f1), .int .i64 ((rd_T46 l0 x5_2).f5), .int .i64 ((rd_T46 l0 x5_2).f6)]] ?_; (with_reducible refine (spec_Follows.calls k2 _ _ x3_2 ((rd_T46 l0 x5_2).f0) ((rd_T46 l0 x5_2).f1.f0) ((rd_T46 l0 x5_2).f1.f1) ((rd_T46 l0 x5_2).f2) ((rd_T46 l0 x5_2).f3.f0) ((rd_T46 l0 x5_2).f3.f1) ((rd_T46 l0 x5_2).f4.f0) ((rd_T46 l0 x5_2).f4.f1) ((rd_T46 l0 x5_2).f5) ((rd_T46 l0 x5_2).f6) t616 _ ?side1 ?side2 A7.out).mono ?_); (case side1 => repeat (first | exact (Kd.R_reads' HO_3.out).2.2 | (with_reducible refine Kd.C_alloc ?_ _) | (with_reducible refine Kd.C_drewN ?_ _) | (with_reducible refine Kd.C_drew ?_))); (case side2 => exact (Kd.R_reads' HO_3.out).2.1); rintro e w10 ⟨v617, rfl, ho0, hb⟩; refine ⟨_, rfl, ?_⟩; have HO618 := Aside0.mk (Kd.R_lower (Kd.R_new' ho0 (Kd.R_lt (by (with_reducible repeat (first | apply Kd.R_alloc | apply Kd.R_drewN | apply Kd.R_drew)); exact HO_3.out))) bls_); replace HO_3 := Aside0.mk (Kd.R_elder' (by (with_reducible repeat (first | apply Kd.R_alloc | apply Kd.R_drewN | apply Kd.R_drew)); exact HO_3.out) (Kd.R_base ho0) hb); replace HB := hbs_ hb; (try clear hb); (try clear hb2); (try clear hk); (try clear hi); (try clear ho0); obtain ⟨Ao11, co11, eo11⟩ := Kd.R_slice HO618.out; subst eo11))
        go_roundg k2
        case measure => have := HK1.out; have := HK2.out; omega
        case rel => exact ⟨(t616), (true), (wrap64 (x5_2 + 1)), rf_, rf_, H', ⟨by have := HK1.out; have := HK2.out; omega⟩, ⟨by (with_reducible repeat (first | apply Kd.R_alloc | apply Kd.R_drewN | apply Kd.R_drew)); exact Kd.R_mono HO618.out (fun _ hk => trivial)⟩, ⟨bl_⟩⟩
       ·rw [if_neg c8] at H
        have c8b0 : decide ((x3_2.length : Int) < (t616.length : Int)) = false := decide_eq_false c8
        have c8b1 : decide (x3_2.length < t616.length) = false := decide_eq_false (fun h => c8 (Int.ofNat_lt.mpr h))
        clear c8
        have H' := Aside0.mk H
        clear H
        have p615 : 0 ≤ (x5_2 : Int) := od_
        have q615 : x5_2 < (l0.length : Int) := od_
        obtain ⟨ad615, e615, hx615_0, hx615_1, hx615_2, hx615_3, hx615_4, hx615_5, hx615_6, hx615_7, hx615_8, hx615_9⟩ := at_T46 (Kd.C_below HR0.out HB.out) x5_2 p615 q615
        cases e615
        replace p615 := eq_true p615
        replace q615 := eq_true q615
        obtain ⟨Ao12, co12, eo12⟩ := Kd.R_slice HO_3.out
        subst eo12
        go_wp2_with (first | ((with_reducible refine gate_callee (f := 120) rfl ?_); refine goesC_ (some 20) Try.func120 #[.slice Ao12 x3_2.length co12, .agg #[.int .i64 ((rd_T46 l0 x5_2).f0), .int .i64 ((rd_T46 l0 x5_2).f1.f0), .int .i64 ((rd_T46 l0 x5_2).f1.f1), .int .i64 ((rd_T46 l0 x5_2).f2), .int .i64 ((rd_T46 l0 x5_2).f3.f0), .int .i64 ((rd_T46 l0 x5_2).f3.f1), .int .i64 ((rd_T46 l0 x5_2).f4.f0), .int .i64 ((rd_T46 l0 x5_2).f4.f1), .int .i64 ((rd_T46 l0 x5_2).f5), .int .i64 ((rd_T46 l0 x5_2).f6)]] ?_; (with_reducible refine (spec_Follows.calls k2 _ _ x3_2 ((rd_T46 l0 x5_2).f0) ((rd_T46 l0 x5_2).f1.f0) ((rd_T46 l0 x5_2).f1.f1) ((rd_T46 l0 x5_2).f2) ((rd_T46 l0 x5_2).f3.f0) ((rd_T46 l0 x5_2).f3.f1) ((rd_T46 l0 x5_2).f4.f0) ((rd_T46 l0 x5_2).f4.f1) ((rd_T46 l0 x5_2).f5) ((rd_T46 l0 x5_2).f6) t616 _ ?side1 ?side2 A7.out).mono ?_); (case side1 => repeat (first | exact (Kd.R_reads' HO_3.out).2.2 | (with_reducible refine Kd.C_alloc ?_ _) | (with_reducible refine Kd.C_drewN ?_ _) | (with_reducible refine Kd.C_drew ?_))); (case side2 => exact (Kd.R_reads' HO_3.out).2.1); rintro e w13 ⟨v617, rfl, ho0, hb⟩; refine ⟨_, rfl, ?_⟩; have HO618 := Aside0.mk (Kd.R_lower (Kd.R_new' ho0 (Kd.R_lt (by (with_reducible repeat (first | apply Kd.R_alloc | apply Kd.R_drewN | apply Kd.R_drew)); exact HO_3.out))) bls_); replace HO_3 := Aside0.mk (Kd.R_elder' (by (with_reducible repeat (first | apply Kd.R_alloc | apply Kd.R_drewN | apply Kd.R_drew)); exact HO_3.out) (Kd.R_base ho0) hb); replace HB := hbs_ hb; (try clear hb); (try clear hb2); (try clear hk); (try clear hi); (try clear ho0); obtain ⟨Ao14, co14, eo14⟩ := Kd.R_slice HO618.out; subst eo14))
        go_roundg k2
        case measure => have := HK1.out; have := HK2.out; omega
        case rel => exact ⟨(t616), (x4_2), (wrap64 (x5_2 + 1)), rf_, rf_, H', ⟨by have := HK1.out; have := HK2.out; omega⟩, ⟨by (with_reducible repeat (first | apply Kd.R_alloc | apply Kd.R_drewN | apply Kd.R_drew)); exact Kd.R_mono HO618.out (fun _ hk => trivial)⟩, ⟨bl_⟩⟩
      ·rw [if_neg c5] at H
       have c5b0 : decide (x5_2 < (l0.length : Int)) = false := decide_eq_false c5
       clear c5
       have H' := Aside0.mk H
       clear H
       go_wp2
       go_roundg k2
       case measure => have := HK1.out; have := HK2.out; omega
       case rel => exact ⟨(x3_2), (x4_2), rf_, H', ⟨by have := HK1.out; have := HK2.out; omega⟩, ⟨by (with_reducible repeat (first | apply Kd.R_alloc | apply Kd.R_drewN | apply Kd.R_drew)); exact HO_3.out⟩, ⟨bl_⟩⟩
   ·replace c4 := Bool.eq_false_iff.mpr c4
    subst c4
    replace H := ite_f_ H
    obtain rfl := Option.some.inj H
    go_wp2
    go_ret
    exact ⟨_, eq_, by (with_reducible repeat (first | apply Kd.R_alloc | apply Kd.R_drewN | apply Kd.R_drew)); exact HO_3.out, bl_⟩
def spec_l21None.f (a0_0 : Int) (a0_1 : Int) : Option (Bool) := some (a0_0 == 0 && (a0_1 == 0))
set_option maxHeartbeats 8000000 in
set_option maxRecDepth 100000 in
theorem spec_l21None.calls (a0_0 : Int) (a0_1 : Int) (r : Bool) (w : World) (h : spec_l21None.f a0_0 a0_1 = some r) :
  Calls Try.prog 137 #[.agg #[.int .i64 a0_0, .int .i64 a0_1]] w fun e w' => e = .returned (.bool r) ∧ Below w.heap.size w w' := by
 have hu27 := Try.underlying27
 have HB := Aside0.mk (Below.refl w.heap.size w)
 have H : (some (a0_0 == 0 && (a0_1 == 0))) = some r := h
 clear h
 obtain rfl := Option.some.inj H
 go_enter Try.func137, Try.ntmps137
 go_wp2_with (first | ((with_reducible refine gate_dst (N := 1) rfl ?_); refine box_event ?hg (N := 1) ?hd (cs := #[.int .i64 a0_0, .int .i64 a0_1]) (t := 27) ?hr ?_; (case hd => rfl); (case hg => rfl); (case hr => first | (go_simp; done) | (go_simp; rfl)); intro gb619 hg w2 hbox hb; have BK619 := Aside0.mk (hbox); have GW619 := gs_ hg; have GE619 := gs_ hg; replace HB := hbs_ hb; clear hb hbox hg; have hcz3 := blk_cell BK619.out; have hfz3 := blk_frozen BK619.out))
 go_ret
 exact ⟨eq_, bl_⟩
mutual
def spec_PolicyOk.l0 : Nat → Int → List (S71) → Option (Bool)
 | 0, _, _ => none
 | k + 1, x3, x621000 => if x3 < (x621000.length : Int) then (if 0 ≤ x3 then (if ((rd_T71 x621000 x3).f0) = 1 then ((spec_RoleOk.f ((rd_T71 x621000 x3).f1.f0) ((rd_T71 x621000 x3).f1.f1)).bind fun t624 => (if t624 = true then (if ((rd_T71 x621000 x3).f2) = 0 then (if ((rd_T71 x621000 x3).f3) = 0 then (spec_PolicyOk.l0 k (wrap64 (x3 + 1)) x621000) else (some false)) else (some false)) else (some false))) else (if ((rd_T71 x621000 x3).f0) = 2 then (spec_PolicyOk.j1 k x3 ((rd_T71 x621000 x3).f0) (((rd_T71 x621000 x3).f0) == 2) x621000 ((rd_T71 x621000 x3).f0) ((rd_T71 x621000 x3).f1.f0) ((rd_T71 x621000 x3).f1.f1) ((rd_T71 x621000 x3).f2) ((rd_T71 x621000 x3).f3)) else (spec_PolicyOk.j1 k x3 ((rd_T71 x621000 x3).f0) (((rd_T71 x621000 x3).f0) == 3) x621000 ((rd_T71 x621000 x3).f0) ((rd_T71 x621000 x3).f1.f0) ((rd_T71 x621000 x3).f1.f1) ((rd_T71 x621000 x3).f2) ((rd_T71 x621000 x3).f3)))) else (none)) else (some true)
def spec_PolicyOk.j1 : Nat → Int → Int → Bool → List (S71) → Int → Int → Int → Int → Int → Option (Bool)
 | 0, _, _, _, _, _, _, _, _, _ => none
 | k + 1, x3, x23, x40, x621000, x624000, x624001, x624002, x624003, x624004 => if x40 = true then ((spec_l21None.f x624001 x624002).bind fun t625 => (if t625 = true then ((spec_l01In.f x624003 0 (wrap64 (x3 - 1))).bind fun t626 => (if t626 = true then ((spec_l01In.f x624004 0 (wrap64 (x3 - 1))).bind fun t627 => (if t627 = true then (spec_PolicyOk.l0 k (wrap64 (x3 + 1)) x621000) else (some false))) else (some false))) else (some false))) else (if x23 = 4 then ((spec_l21None.f x624001 x624002).bind fun t628 => (if t628 = true then ((spec_l01In.f x624003 0 (wrap64 (x3 - 1))).bind fun t629 => (if t629 = true then (if x624004 = 0 then (spec_PolicyOk.l0 k (wrap64 (x3 + 1)) x621000) else (some false)) else (some false))) else (some false))) else (some false))
end
def spec_PolicyOk.f (k : Nat) (l0_0 : List (S71)) : Option (Bool) := (spec_l01In.f (l0_0.length : Int) 1 40).bind fun t621 => (if t621 = true then (spec_PolicyOk.l0 k 0 l0_0) else (some false))
set_option maxHeartbeats 8000000 in
set_option maxRecDepth 100000 in
theorem spec_PolicyOk.calls (k : Nat) (A0_0 : Option Addr) (c0_0 : Nat) (l0_0 : List (S71)) (r : Bool) (w : World) (hr0_0 : Kd.C k71 w A0_0 l0_0.length l0_0) (hc0_0 : l0_0.length ≤ c0_0) (h : spec_PolicyOk.f k l0_0 = some r) :
  Calls Try.prog 111 #[.agg #[.slice A0_0 l0_0.length c0_0]] w fun e w' => e = .returned (.bool r) ∧ Below w.heap.size w w' := by
 have hu68 := Try.underlying68
 have hu71 := Try.underlying71
 have hu27 := Try.underlying27
 have HR0_0 := Aside0.mk hr0_0
 have HC0_0 := Aside0.mk hc0_0
 clear hr0_0 hc0_0
 have HB := Aside0.mk (Below.refl w.heap.size w)
 have H : ((spec_l01In.f (l0_0.length : Int) 1 40).bind fun t621 => (if t621 = true then (spec_PolicyOk.l0 k 0 l0_0) else (some false))) = some r := h
 clear h
 obtain ⟨t621, A2, H⟩ := bindE_ H
 by_cases c3 : t621 = true
 ·subst c3
  replace H := ite_t_ H
  have H' := Aside0.mk H
  clear H
  go_enter Try.func111, Try.ntmps111
  go_wp2_with (first | ((with_reducible refine gate_dst (N := 1) rfl ?_); refine box_event ?hg (N := 1) ?hd (cs := #[.slice A0_0 l0_0.length c0_0]) (t := 68) ?hr ?_; (case hd => rfl); (case hg => rfl); (case hr => first | (go_simp; done) | (go_simp; rfl)); intro gb620 hg w4 hbox hb; have BK620 := Aside0.mk (hbox); have GW620 := gs_ hg; have GE620 := gs_ hg; replace HB := hbs_ hb; clear hb hbox hg; have hcz5 := blk_cell BK620.out; have hfz5 := blk_frozen BK620.out) | ((with_reducible refine gate_callee (f := 90) rfl ?_); refine goesC_ (some 8) Try.func90 #[.int .i64 (l0_0.length : Int), .int .i64 1, .int .i64 40] ?_; (with_reducible refine (spec_l01In.calls (l0_0.length : Int) 1 40 true _ A2.out).mono ?_); rintro e w' ⟨rfl, ⟨nd, rfl⟩⟩; refine ⟨_, rfl, ?_⟩))
  go_loopg [3] k (fun kq v3 w' => ∃ (x3_1 : Int), v3 = .int .i64 x3_1 ∧ Aside0 (spec_PolicyOk.l0 kq x3_1 l0_0 = some r) ∧ Aside0 (kq ≤ k) ∧ Aside0 (w'.heap[gb620]? = some (.cells #[(.slice A0_0 l0_0.length c0_0)] 68 (0, 0))) ∧ Aside0 (Below w.heap.size w w'))
  case atStart => exact ⟨(0), rf_, H', ⟨Nat.le_refl _⟩, ⟨bk_ BK620⟩, ⟨bl_⟩⟩
  case round =>
   clear H'
   try clear c1
   try clear p2
   try clear c3
   try clear hcz5
   try clear hfz5
   obtain ⟨x3_1, rfl, HA, HK1, BK620, HB⟩ := hrel
   cases gk with
   | zero => exact absurd HA.out (by simp [spec_PolicyOk.l0])
   | succ k1 =>
    have H := HA.out
    clear HA
    simp only [spec_PolicyOk.l0] at H
    by_cases c6 : x3_1 < (l0_0.length : Int)
    ·rw [if_pos c6] at H
     have c6b0 : decide (x3_1 < (l0_0.length : Int)) = true := decide_eq_true c6
     clear c6
     obtain ⟨c7b0, H⟩ := ifd_ H
     by_cases c8 : ((rd_T71 l0_0 x3_1).f0) = 1
     ·rw [if_pos c8] at H
      have c8b0 : (((rd_T71 l0_0 x3_1).f0) == 1) = true := beq_iff_eq.mpr c8
      have c8b1 : (((rd_T71 l0_0 x3_1).f0) != 1) = false := bne_eq_false_iff_eq.mpr c8
      clear c8
      obtain ⟨t624, A9, H⟩ := bindE_ H
      by_cases c10 : t624 = true
      ·subst c10
       replace H := ite_t_ H
       by_cases c11 : ((rd_T71 l0_0 x3_1).f2) = 0
       ·rw [if_pos c11] at H
        have c11b0 : (((rd_T71 l0_0 x3_1).f2) == 0) = true := beq_iff_eq.mpr c11
        have c11b1 : (((rd_T71 l0_0 x3_1).f2) != 0) = false := bne_eq_false_iff_eq.mpr c11
        clear c11
        by_cases c12 : ((rd_T71 l0_0 x3_1).f3) = 0
        ·rw [if_pos c12] at H
         have c12b0 : (((rd_T71 l0_0 x3_1).f3) == 0) = true := beq_iff_eq.mpr c12
         have c12b1 : (((rd_T71 l0_0 x3_1).f3) != 0) = false := bne_eq_false_iff_eq.mpr c12
         clear c12
         have H' := Aside0.mk H
         clear H
         have hcz13 := blk_cell BK620.out
         have hfz13 := blk_frozen BK620.out
         have p622 : 0 ≤ (x3_1 : Int) := od_
         have q622 : x3_1 < (l0_0.length : Int) := od_
         obtain ⟨ad622, e622, hx622_0, hx622_1, hx622_2, hx622_3, hx622_4⟩ := at_T71 (Kd.C_below HR0_0.out HB.out) x3_1 p622 q622
         cases e622
         replace p622 := eq_true p622
         replace q622 := eq_true q622
         go_wp2_with (first | ((with_reducible refine gate_dst (N := 4) rfl ?_); refine box_event ?hg (N := 4) ?hd (cs := #[.int .i64 0, .int .i64 0, .int .i64 0, .int .i64 0, .int .i64 0]) (t := 71) ?hr ?_; (case hd => rfl); (case hg => rfl); (case hr => first | (go_simp; done) | (go_simp; rfl)); intro gb623 hg w14 hbox hb; have BK623 := Aside0.mk (hbox); have GW623 := gs_ hg; have GE623 := gs_ hg; replace HB := hbs_ hb; have NB620_623 := nl_ hg BK620; have NB623_620 := nr_ hg BK620; replace BK620 := bkb_ BK620 hb; clear hb hbox hg; have hnb15 := NB623_620.out; have hnc15 := NB620_623.out; have hcz16 := blk_cell BK623.out; have hfz16 := blk_frozen BK623.out) | ((with_reducible refine gate_callee (f := 136) rfl ?_); refine goesC_ (some 28) Try.func136 #[.agg #[.int .i64 ((rd_T71 l0_0 x3_1).f1.f0), .int .i64 ((rd_T71 l0_0 x3_1).f1.f1)]] ?_; (with_reducible refine (spec_RoleOk.calls ((rd_T71 l0_0 x3_1).f1.f0) ((rd_T71 l0_0 x3_1).f1.f1) true _ A9.out).mono ?_); rintro e w17 ⟨rfl, hb⟩; refine ⟨_, rfl, ?_⟩; replace BK620 := Aside0.mk (blk_below (g := gb620) (o := .cells #[.slice (some ad622) l0_0.length c0_0] 68 (0, 0)) (bk_ BK620) hb); replace BK623 := Aside0.mk (blk_below (g := gb623) (o := .cells #[.int .i64 ((rd_T71 l0_0 x3_1).f0), .int .i64 ((rd_T71 l0_0 x3_1).f1.f0), .int .i64 ((rd_T71 l0_0 x3_1).f1.f1), .int .i64 ((rd_T71 l0_0 x3_1).f2), .int .i64 ((rd_T71 l0_0 x3_1).f3)] 71 (0, 0)) (bk_ BK623) hb); replace HB := hbs_ hb; clear hb; have hcz18 := blk_cell BK623.out; have hfz18 := blk_frozen BK623.out))
         go_roundg k1
         case measure => have := HK1.out; omega
         case rel => exact ⟨(wrap64 (x3_1 + 1)), rf_, H', ⟨by have := HK1.out; omega⟩, ⟨bk_ BK620⟩, ⟨bl_⟩⟩
        ·rw [if_neg c12] at H
         have c12b0 : (((rd_T71 l0_0 x3_1).f3) == 0) = false := beq_eq_false_iff_ne.mpr c12
         have c12b1 : (((rd_T71 l0_0 x3_1).f3) != 0) = true := bne_iff_ne.mpr c12
         obtain rfl := Option.some.inj H
         have hcz19 := blk_cell BK620.out
         have hfz19 := blk_frozen BK620.out
         have p622 : 0 ≤ (x3_1 : Int) := od_
         have q622 : x3_1 < (l0_0.length : Int) := od_
         obtain ⟨ad622, e622, hx622_0, hx622_1, hx622_2, hx622_3, hx622_4⟩ := at_T71 (Kd.C_below HR0_0.out HB.out) x3_1 p622 q622
         cases e622
         replace p622 := eq_true p622
         replace q622 := eq_true q622
         go_wp2_with (first | ((with_reducible refine gate_dst (N := 4) rfl ?_); refine box_event ?hg (N := 4) ?hd (cs := #[.int .i64 0, .int .i64 0, .int .i64 0, .int .i64 0, .int .i64 0]) (t := 71) ?hr ?_; (case hd => rfl); (case hg => rfl); (case hr => first | (go_simp; done) | (go_simp; rfl)); intro gb623 hg w20 hbox hb; have BK623 := Aside0.mk (hbox); have GW623 := gs_ hg; have GE623 := gs_ hg; replace HB := hbs_ hb; have NB620_623 := nl_ hg BK620; have NB623_620 := nr_ hg BK620; replace BK620 := bkb_ BK620 hb; clear hb hbox hg; have hnb21 := NB623_620.out; have hnc21 := NB620_623.out; have hcz22 := blk_cell BK623.out; have hfz22 := blk_frozen BK623.out) | ((with_reducible refine gate_callee (f := 136) rfl ?_); refine goesC_ (some 28) Try.func136 #[.agg #[.int .i64 ((rd_T71 l0_0 x3_1).f1.f0), .int .i64 ((rd_T71 l0_0 x3_1).f1.f1)]] ?_; (with_reducible refine (spec_RoleOk.calls ((rd_T71 l0_0 x3_1).f1.f0) ((rd_T71 l0_0 x3_1).f1.f1) true _ A9.out).mono ?_); rintro e w23 ⟨rfl, hb⟩; refine ⟨_, rfl, ?_⟩; replace BK620 := Aside0.mk (blk_below (g := gb620) (o := .cells #[.slice (some ad622) l0_0.length c0_0] 68 (0, 0)) (bk_ BK620) hb); replace BK623 := Aside0.mk (blk_below (g := gb623) (o := .cells #[.int .i64 ((rd_T71 l0_0 x3_1).f0), .int .i64 ((rd_T71 l0_0 x3_1).f1.f0), .int .i64 ((rd_T71 l0_0 x3_1).f1.f1), .int .i64 ((rd_T71 l0_0 x3_1).f2), .int .i64 ((rd_T71 l0_0 x3_1).f3)] 71 (0, 0)) (bk_ BK623) hb); replace HB := hbs_ hb; clear hb; have hcz24 := blk_cell BK623.out; have hfz24 := blk_frozen BK623.out))
         go_ret
         exact ⟨eq_, bl_⟩
       ·rw [if_neg c11] at H
        have c11b0 : (((rd_T71 l0_0 x3_1).f2) == 0) = false := beq_eq_false_iff_ne.mpr c11
        have c11b1 : (((rd_T71 l0_0 x3_1).f2) != 0) = true := bne_iff_ne.mpr c11
        obtain rfl := Option.some.inj H
        have hcz25 := blk_cell BK620.out
        have hfz25 := blk_frozen BK620.out
        have p622 : 0 ≤ (x3_1 : Int) := od_
        have q622 : x3_1 < (l0_0.length : Int) := od_
        obtain ⟨ad622, e622, hx622_0, hx622_1, hx622_2, hx622_3, hx622_4⟩ := at_T71 (Kd.C_below HR0_0.out HB.out) x3_1 p622 q622
        cases e622
        replace p622 := eq_true p622
        replace q622 := eq_true q622
        go_wp2_with (first | ((with_reducible refine gate_dst (N := 4) rfl ?_); refine box_event ?hg (N := 4) ?hd (cs := #[.int .i64 0, .int .i64 0, .int .i64 0, .int .i64 0, .int .i64 0]) (t := 71) ?hr ?_; (case hd => rfl); (case hg => rfl); (case hr => first | (go_simp; done) | (go_simp; rfl)); intro gb623 hg w26 hbox hb; have BK623 := Aside0.mk (hbox); have GW623 := gs_ hg; have GE623 := gs_ hg; replace HB := hbs_ hb; have NB620_623 := nl_ hg BK620; have NB623_620 := nr_ hg BK620; replace BK620 := bkb_ BK620 hb; clear hb hbox hg; have hnb27 := NB623_620.out; have hnc27 := NB620_623.out; have hcz28 := blk_cell BK623.out; have hfz28 := blk_frozen BK623.out) | ((with_reducible refine gate_callee (f := 136) rfl ?_); refine goesC_ (some 28) Try.func136 #[.agg #[.int .i64 ((rd_T71 l0_0 x3_1).f1.f0), .int .i64 ((rd_T71 l0_0 x3_1).f1.f1)]] ?_; (with_reducible refine (spec_RoleOk.calls ((rd_T71 l0_0 x3_1).f1.f0) ((rd_T71 l0_0 x3_1).f1.f1) true _ A9.out).mono ?_); rintro e w29 ⟨rfl, hb⟩; refine ⟨_, rfl, ?_⟩; replace BK620 := Aside0.mk (blk_below (g := gb620) (o := .cells #[.slice (some ad622) l0_0.length c0_0] 68 (0, 0)) (bk_ BK620) hb); replace BK623 := Aside0.mk (blk_below (g := gb623) (o := .cells #[.int .i64 ((rd_T71 l0_0 x3_1).f0), .int .i64 ((rd_T71 l0_0 x3_1).f1.f0), .int .i64 ((rd_T71 l0_0 x3_1).f1.f1), .int .i64 ((rd_T71 l0_0 x3_1).f2), .int .i64 ((rd_T71 l0_0 x3_1).f3)] 71 (0, 0)) (bk_ BK623) hb); replace HB := hbs_ hb; clear hb; have hcz30 := blk_cell BK623.out; have hfz30 := blk_frozen BK623.out))
        go_ret
        exact ⟨eq_, bl_⟩
      ·replace c10 := Bool.eq_false_iff.mpr c10
       subst c10
       replace H := ite_f_ H
       obtain rfl := Option.some.inj H
       have hcz31 := blk_cell BK620.out
       have hfz31 := blk_frozen BK620.out
       have p622 : 0 ≤ (x3_1 : Int) := od_
       have q622 : x3_1 < (l0_0.length : Int) := od_
       obtain ⟨ad622, e622, hx622_0, hx622_1, hx622_2, hx622_3, hx622_4⟩ := at_T71 (Kd.C_below HR0_0.out HB.out) x3_1 p622 q622
       cases e622
       replace p622 := eq_true p622
       replace q622 := eq_true q622
       go_wp2_with (first | ((with_reducible refine gate_dst (N := 4) rfl ?_); refine box_event ?hg (N := 4) ?hd (cs := #[.int .i64 0, .int .i64 0, .int .i64 0, .int .i64 0, .int .i64 0]) (t := 71) ?hr ?_; (case hd => rfl); (case hg => rfl); (case hr => first | (go_simp; done) | (go_simp; rfl)); intro gb623 hg w32 hbox hb; have BK623 := Aside0.mk (hbox); have GW623 := gs_ hg; have GE623 := gs_ hg; replace HB := hbs_ hb; have NB620_623 := nl_ hg BK620; have NB623_620 := nr_ hg BK620; replace BK620 := bkb_ BK620 hb; clear hb hbox hg; have hnb33 := NB623_620.out; have hnc33 := NB620_623.out; have hcz34 := blk_cell BK623.out; have hfz34 := blk_frozen BK623.out) | ((with_reducible refine gate_callee (f := 136) rfl ?_); refine goesC_ (some 28) Try.func136 #[.agg #[.int .i64 ((rd_T71 l0_0 x3_1).f1.f0), .int .i64 ((rd_T71 l0_0 x3_1).f1.f1)]] ?_; (with_reducible refine (spec_RoleOk.calls ((rd_T71 l0_0 x3_1).f1.f0) ((rd_T71 l0_0 x3_1).f1.f1) false _ A9.out).mono ?_); rintro e w35 ⟨rfl, hb⟩; refine ⟨_, rfl, ?_⟩; replace BK620 := Aside0.mk (blk_below (g := gb620) (o := .cells #[.slice (some ad622) l0_0.length c0_0] 68 (0, 0)) (bk_ BK620) hb); replace BK623 := Aside0.mk (blk_below (g := gb623) (o := .cells #[.int .i64 ((rd_T71 l0_0 x3_1).f0), .int .i64 ((rd_T71 l0_0 x3_1).f1.f0), .int .i64 ((rd_T71 l0_0 x3_1).f1.f1), .int .i64 ((rd_T71 l0_0 x3_1).f2), .int .i64 ((rd_T71 l0_0 x3_1).f3)] 71 (0, 0)) (bk_ BK623) hb); replace HB := hbs_ hb; clear hb))
       go_ret
       exact ⟨eq_, bl_⟩
     ·rw [if_neg c8] at H
      have c8b0 : (((rd_T71 l0_0 x3_1).f0) == 1) = false := beq_eq_false_iff_ne.mpr c8
      have c8b1 : (((rd_T71 l0_0 x3_1).f0) != 1) = true := bne_iff_ne.mpr c8
      have HC36 := Aside0.mk H
      clear H
      have hcz37 := blk_cell BK620.out
      have hfz37 := blk_frozen BK620.out
      have p622 : 0 ≤ (x3_1 : Int) := od_
      have q622 : x3_1 < (l0_0.length : Int) := od_
      obtain ⟨ad622, e622, hx622_0, hx622_1, hx622_2, hx622_3, hx622_4⟩ := at_T71 (Kd.C_below HR0_0.out HB.out) x3_1 p622 q622
      cases e622
      replace p622 := eq_true p622
      replace q622 := eq_true q622
      go_upto_if 40 with (first | ((with_reducible refine gate_dst (N := 4) rfl ?_); refine box_event ?hg (N := 4) ?hd (cs := #[.int .i64 0, .int .i64 0, .int .i64 0, .int .i64 0, .int .i64 0]) (t := 71) ?hr ?_; (case hd => rfl); (case hg => rfl); (case hr => first | (go_simp; done) | (go_simp; rfl)); intro gb623 hg w38 hbox hb; have BK623 := Aside0.mk (hbox); have GW623 := gs_ hg; have GE623 := gs_ hg; replace HB := hbs_ hb; have NB620_623 := nl_ hg BK620; have NB623_620 := nr_ hg BK620; replace BK620 := bkb_ BK620 hb; clear hb hbox hg; have hnb39 := NB623_620.out; have hnc39 := NB620_623.out; have hcz40 := blk_cell BK623.out; have hfz40 := blk_frozen BK623.out))
      (try simp only [Act.put, List.setIfInBounds_toArray, List.set_cons_zero, List.set_cons_succ])
      go_cut [40] (fun v40 wc => ∃ (kq : Nat) (x40_35 : Bool), v40 = .bool x40_35 ∧ Aside0 (spec_PolicyOk.j1 kq x3_1 ((rd_T71 l0_0 x3_1).f0) x40_35 l0_0 ((rd_T71 l0_0 x3_1).f0) ((rd_T71 l0_0 x3_1).f1.f0) ((rd_T71 l0_0 x3_1).f1.f1) ((rd_T71 l0_0 x3_1).f2) ((rd_T71 l0_0 x3_1).f3) = some r) ∧ Aside0 (kq ≤ k1) ∧ Aside0 (wc.heap[gb620]? = some (.cells #[(.slice (some ad622) l0_0.length c0_0)] 68 (0, 0))) ∧ Aside0 (wc.heap[gb623]? = some (.cells #[.int .i64 ((rd_T71 l0_0 x3_1).f0), .int .i64 ((rd_T71 l0_0 x3_1).f1.f0), .int .i64 ((rd_T71 l0_0 x3_1).f1.f1), .int .i64 ((rd_T71 l0_0 x3_1).f2), .int .i64 ((rd_T71 l0_0 x3_1).f3)] 71 (0, 0))) ∧ Aside0 (Below w.heap.size w wc))
      case first =>
       have H := HC36.out
       clear HC36
       by_cases c41 : ((rd_T71 l0_0 x3_1).f0) = 2
       ·rw [if_pos c41] at H
        have c41b0 : (((rd_T71 l0_0 x3_1).f0) == 2) = true := beq_iff_eq.mpr c41
        have c41b1 : (((rd_T71 l0_0 x3_1).f0) != 2) = false := bne_eq_false_iff_eq.mpr c41
        clear c41
        (first | rw [c41b0] | (simp only [i64_w, i32_w]; rw [c41b0]) | skip)
        have H' := Aside0.mk H
        clear H
        go_wp2
        go_meet
        case rel => exact ⟨_, ((((rd_T71 l0_0 x3_1).f0) == 2)), rf_, H', ⟨by have := HK1.out; first | omega | exact Nat.le_refl _⟩, ⟨bk_ BK620⟩, ⟨bk_ BK623⟩, ⟨bl_⟩⟩
       ·rw [if_neg c41] at H
        have c41b0 : (((rd_T71 l0_0 x3_1).f0) == 2) = false := beq_eq_false_iff_ne.mpr c41
        have c41b1 : (((rd_T71 l0_0 x3_1).f0) != 2) = true := bne_iff_ne.mpr c41
        (first | rw [c41b0] | (simp only [i64_w, i32_w]; rw [c41b0]) | skip)
        have H' := Aside0.mk H
        clear H
        go_wp2
        go_meet
        case rel => exact ⟨_, ((((rd_T71 l0_0 x3_1).f0) == 3)), rf_, H', ⟨by have := HK1.out; first | omega | exact Nat.le_refl _⟩, ⟨bk_ BK620⟩, ⟨bk_ BK623⟩, ⟨bl_⟩⟩
      case rest =>
       clear HC36
       try clear c1
       try clear c2
       try clear p2
       try clear c3
       try clear c4
       try clear c6
       try clear c6b0
       try clear p6
       try clear q6
       try clear hx6
       try clear c7
       try clear c7b0
       try clear c8
       try clear c8b0
       try clear c8b1
       try clear c9
       try clear c10
       try clear c11
       try clear c11b0
       try clear c11b1
       try clear c12
       try clear c12b0
       try clear c12b1
       try clear c13
       try clear c15
       try clear c21
       try clear c27
       try clear c33
       try clear c39
       try clear c41
       try clear c41b0
       try clear c41b1
       try clear hcz13
       try clear hcz16
       try clear hcz18
       try clear hcz19
       try clear hcz22
       try clear hcz24
       try clear hcz25
       try clear hcz28
       try clear hcz30
       try clear hcz31
       try clear hcz34
       try clear hcz37
       try clear hcz40
       try clear hcz5
       try clear hfz13
       try clear hfz16
       try clear hfz18
       try clear hfz19
       try clear hfz22
       try clear hfz24
       try clear hfz25
       try clear hfz28
       try clear hfz30
       try clear hfz31
       try clear hfz34
       try clear hfz37
       try clear hfz40
       try clear hfz5
       try clear hx622_0
       try clear hx622_1
       try clear hx622_2
       try clear hx622_3
       try clear hx622_4
       try clear p2
       try clear p622
       try clear q622
       obtain ⟨kq, x40_35, rfl, HA, HJ35, BK620, BK623, HB⟩ := hcut
       cases kq with
       | zero => exact absurd HA.out (by simp [spec_PolicyOk.j1])
       | succ kj35 =>
        have H := HA.out
        clear HA
        simp only [spec_PolicyOk.j1] at H
        by_cases c42 : x40_35 = true
        ·subst c42
         replace H := ite_t_ H
         obtain ⟨t625, A43, H⟩ := bindE_ H
         by_cases c44 : t625 = true
         ·subst c44
          replace H := ite_t_ H
          obtain ⟨t626, A45, H⟩ := bindE_ H
          by_cases c46 : t626 = true
          ·subst c46
           replace H := ite_t_ H
           obtain ⟨t627, A47, H⟩ := bindE_ H
           by_cases c48 : t627 = true
           ·subst c48
            replace H := ite_t_ H
            have H' := Aside0.mk H
            clear H
            have hnb49 := NB623_620.out
            have hnc49 := NB620_623.out
            have hcz50 := blk_cell BK623.out
            have hfz50 := blk_frozen BK623.out
            go_wp2_with (first | ((with_reducible refine gate_callee (f := 137) rfl ?_); refine goesC_ (some 45) Try.func137 #[.agg #[.int .i64 ((rd_T71 l0_0 x3_1).f1.f0), .int .i64 ((rd_T71 l0_0 x3_1).f1.f1)]] ?_; (with_reducible refine (spec_l21None.calls ((rd_T71 l0_0 x3_1).f1.f0) ((rd_T71 l0_0 x3_1).f1.f1) true _ A43.out).mono ?_); rintro e w51 ⟨rfl, hb⟩; refine ⟨_, rfl, ?_⟩; replace BK620 := bkb_ BK620 hb; replace BK623 := bkb_ BK623 hb; replace HB := hbs_ hb; clear hb; have hcz52 := blk_cell BK623.out; have hfz52 := blk_frozen BK623.out) | (go_at_call 90; (with_reducible refine (spec_l01In.calls ((rd_T71 l0_0 x3_1).f2) 0 (wrap64 (x3_1 - 1)) true _ A45.out).mono ?_); rintro e w' ⟨rfl, ⟨nd, rfl⟩⟩) | (go_at_call 90; (with_reducible refine (spec_l01In.calls ((rd_T71 l0_0 x3_1).f3) 0 (wrap64 (x3_1 - 1)) true _ A47.out).mono ?_); rintro e w' ⟨rfl, ⟨nd, rfl⟩⟩))
            go_roundg kj35
            case measure => have := HK1.out; have := HJ35.out; omega
            case rel => exact ⟨(wrap64 (x3_1 + 1)), rf_, H', ⟨by have := HK1.out; have := HJ35.out; omega⟩, ⟨bk_ BK620⟩, ⟨bl_⟩⟩
           ·replace c48 := Bool.eq_false_iff.mpr c48
            subst c48
            replace H := ite_f_ H
            obtain rfl := Option.some.inj H
            have hnb53 := NB623_620.out
            have hnc53 := NB620_623.out
            have hcz54 := blk_cell BK623.out
            have hfz54 := blk_frozen BK623.out
            go_wp2_with (first | ((with_reducible refine gate_callee (f := 137) rfl ?_); refine goesC_ (some 45) Try.func137 #[.agg #[.int .i64 ((rd_T71 l0_0 x3_1).f1.f0), .int .i64 ((rd_T71 l0_0 x3_1).f1.f1)]] ?_; (with_reducible refine (spec_l21None.calls ((rd_T71 l0_0 x3_1).f1.f0) ((rd_T71 l0_0 x3_1).f1.f1) true _ A43.out).mono ?_); rintro e w55 ⟨rfl, hb⟩; refine ⟨_, rfl, ?_⟩; replace BK620 := bkb_ BK620 hb; replace BK623 := bkb_ BK623 hb; replace HB := hbs_ hb; clear hb; have hcz56 := blk_cell BK623.out; have hfz56 := blk_frozen BK623.out) | (go_at_call 90; (with_reducible refine (spec_l01In.calls ((rd_T71 l0_0 x3_1).f2) 0 (wrap64 (x3_1 - 1)) true _ A45.out).mono ?_); rintro e w' ⟨rfl, ⟨nd, rfl⟩⟩) | (go_at_call 90; (with_reducible refine (spec_l01In.calls ((rd_T71 l0_0 x3_1).f3) 0 (wrap64 (x3_1 - 1)) false _ A47.out).mono ?_); rintro e w' ⟨rfl, ⟨nd, rfl⟩⟩))
            go_ret
            exact ⟨eq_, bl_⟩
          ·replace c46 := Bool.eq_false_iff.mpr c46
           subst c46
           replace H := ite_f_ H
           obtain rfl := Option.some.inj H
           have hnb57 := NB623_620.out
           have hnc57 := NB620_623.out
           have hcz58 := blk_cell BK623.out
           have hfz58 := blk_frozen BK623.out
           go_wp2_with (first | ((with_reducible refine gate_callee (f := 137) rfl ?_); refine goesC_ (some 45) Try.func137 #[.agg #[.int .i64 ((rd_T71 l0_0 x3_1).f1.f0), .int .i64 ((rd_T71 l0_0 x3_1).f1.f1)]] ?_; (with_reducible refine (spec_l21None.calls ((rd_T71 l0_0 x3_1).f1.f0) ((rd_T71 l0_0 x3_1).f1.f1) true _ A43.out).mono ?_); rintro e w59 ⟨rfl, hb⟩; refine ⟨_, rfl, ?_⟩; replace BK620 := bkb_ BK620 hb; replace BK623 := bkb_ BK623 hb; replace HB := hbs_ hb; clear hb; have hcz60 := blk_cell BK623.out; have hfz60 := blk_frozen BK623.out) | (go_at_call 90; (with_reducible refine (spec_l01In.calls ((rd_T71 l0_0 x3_1).f2) 0 (wrap64 (x3_1 - 1)) false _ A45.out).mono ?_); rintro e w' ⟨rfl, ⟨nd, rfl⟩⟩))
           go_ret
           exact ⟨eq_, bl_⟩
         ·replace c44 := Bool.eq_false_iff.mpr c44
          subst c44
          replace H := ite_f_ H
          obtain rfl := Option.some.inj H
          have hnb61 := NB623_620.out
          have hnc61 := NB620_623.out
          have hcz62 := blk_cell BK623.out
          have hfz62 := blk_frozen BK623.out
          go_wp2_with (first | ((with_reducible refine gate_callee (f := 137) rfl ?_); refine goesC_ (some 45) Try.func137 #[.agg #[.int .i64 ((rd_T71 l0_0 x3_1).f1.f0), .int .i64 ((rd_T71 l0_0 x3_1).f1.f1)]] ?_; (with_reducible refine (spec_l21None.calls ((rd_T71 l0_0 x3_1).f1.f0) ((rd_T71 l0_0 x3_1).f1.f1) false _ A43.out).mono ?_); rintro e w63 ⟨rfl, hb⟩; refine ⟨_, rfl, ?_⟩; replace BK620 := bkb_ BK620 hb; replace BK623 := bkb_ BK623 hb; replace HB := hbs_ hb; clear hb))
          go_ret
          exact ⟨eq_, bl_⟩
        ·replace c42 := Bool.eq_false_iff.mpr c42
         subst c42
         replace H := ite_f_ H
         by_cases c64 : ((rd_T71 l0_0 x3_1).f0) = 4
         ·rw [if_pos c64] at H
          have c64b0 : (((rd_T71 l0_0 x3_1).f0) == 4) = true := beq_iff_eq.mpr c64
          have c64b1 : (((rd_T71 l0_0 x3_1).f0) != 4) = false := bne_eq_false_iff_eq.mpr c64
          clear c64
          obtain ⟨t628, A65, H⟩ := bindE_ H
          by_cases c66 : t628 = true
          ·subst c66
           replace H := ite_t_ H
           obtain ⟨t629, A67, H⟩ := bindE_ H
           by_cases c68 : t629 = true
           ·subst c68
            replace H := ite_t_ H
            by_cases c69 : ((rd_T71 l0_0 x3_1).f3) = 0
            ·rw [if_pos c69] at H
             have c69b0 : (((rd_T71 l0_0 x3_1).f3) == 0) = true := beq_iff_eq.mpr c69
             have c69b1 : (((rd_T71 l0_0 x3_1).f3) != 0) = false := bne_eq_false_iff_eq.mpr c69
             clear c69
             have H' := Aside0.mk H
             clear H
             have hnb70 := NB623_620.out
             have hnc70 := NB620_623.out
             have hcz71 := blk_cell BK623.out
             have hfz71 := blk_frozen BK623.out
             go_wp2_with (first | ((with_reducible refine gate_callee (f := 137) rfl ?_); refine goesC_ (some 67) Try.func137 #[.agg #[.int .i64 ((rd_T71 l0_0 x3_1).f1.f0), .int .i64 ((rd_T71 l0_0 x3_1).f1.f1)]] ?_; (with_reducible refine (spec_l21None.calls ((rd_T71 l0_0 x3_1).f1.f0) ((rd_T71 l0_0 x3_1).f1.f1) true _ A65.out).mono ?_); rintro e w72 ⟨rfl, hb⟩; refine ⟨_, rfl, ?_⟩; replace BK620 := bkb_ BK620 hb; replace BK623 := bkb_ BK623 hb; replace HB := hbs_ hb; clear hb; have hcz73 := blk_cell BK623.out; have hfz73 := blk_frozen BK623.out) | (go_at_call 90; (with_reducible refine (spec_l01In.calls ((rd_T71 l0_0 x3_1).f2) 0 (wrap64 (x3_1 - 1)) true _ A67.out).mono ?_); rintro e w' ⟨rfl, ⟨nd, rfl⟩⟩))
             go_roundg kj35
             case measure => have := HK1.out; have := HJ35.out; omega
             case rel => exact ⟨(wrap64 (x3_1 + 1)), rf_, H', ⟨by have := HK1.out; have := HJ35.out; omega⟩, ⟨bk_ BK620⟩, ⟨bl_⟩⟩
            ·rw [if_neg c69] at H
             have c69b0 : (((rd_T71 l0_0 x3_1).f3) == 0) = false := beq_eq_false_iff_ne.mpr c69
             have c69b1 : (((rd_T71 l0_0 x3_1).f3) != 0) = true := bne_iff_ne.mpr c69
             obtain rfl := Option.some.inj H
             have hnb74 := NB623_620.out
             have hnc74 := NB620_623.out
             have hcz75 := blk_cell BK623.out
             have hfz75 := blk_frozen BK623.out
             go_wp2_with (first | ((with_reducible refine gate_callee (f := 137) rfl ?_); refine goesC_ (some 67) Try.func137 #[.agg #[.int .i64 ((rd_T71 l0_0 x3_1).f1.f0), .int .i64 ((rd_T71 l0_0 x3_1).f1.f1)]] ?_; (with_reducible refine (spec_l21None.calls ((rd_T71 l0_0 x3_1).f1.f0) ((rd_T71 l0_0 x3_1).f1.f1) true _ A65.out).mono ?_); rintro e w76 ⟨rfl, hb⟩; refine ⟨_, rfl, ?_⟩; replace BK620 := bkb_ BK620 hb; replace BK623 := bkb_ BK623 hb; replace HB := hbs_ hb; clear hb; have hcz77 := blk_cell BK623.out; have hfz77 := blk_frozen BK623.out) | (go_at_call 90; (with_reducible refine (spec_l01In.calls ((rd_T71 l0_0 x3_1).f2) 0 (wrap64 (x3_1 - 1)) true _ A67.out).mono ?_); rintro e w' ⟨rfl, ⟨nd, rfl⟩⟩))
             go_ret
             exact ⟨eq_, bl_⟩
           ·replace c68 := Bool.eq_false_iff.mpr c68
            subst c68
            replace H := ite_f_ H
            obtain rfl := Option.some.inj H
            have hnb78 := NB623_620.out
            have hnc78 := NB620_623.out
            have hcz79 := blk_cell BK623.out
            have hfz79 := blk_frozen BK623.out
            go_wp2_with (first | ((with_reducible refine gate_callee (f := 137) rfl ?_); refine goesC_ (some 67) Try.func137 #[.agg #[.int .i64 ((rd_T71 l0_0 x3_1).f1.f0), .int .i64 ((rd_T71 l0_0 x3_1).f1.f1)]] ?_; (with_reducible refine (spec_l21None.calls ((rd_T71 l0_0 x3_1).f1.f0) ((rd_T71 l0_0 x3_1).f1.f1) true _ A65.out).mono ?_); rintro e w80 ⟨rfl, hb⟩; refine ⟨_, rfl, ?_⟩; replace BK620 := bkb_ BK620 hb; replace BK623 := bkb_ BK623 hb; replace HB := hbs_ hb; clear hb; have hcz81 := blk_cell BK623.out; have hfz81 := blk_frozen BK623.out) | (go_at_call 90; (with_reducible refine (spec_l01In.calls ((rd_T71 l0_0 x3_1).f2) 0 (wrap64 (x3_1 - 1)) false _ A67.out).mono ?_); rintro e w' ⟨rfl, ⟨nd, rfl⟩⟩))
            go_ret
            exact ⟨eq_, bl_⟩
          ·replace c66 := Bool.eq_false_iff.mpr c66
           subst c66
           replace H := ite_f_ H
           obtain rfl := Option.some.inj H
           have hnb82 := NB623_620.out
           have hnc82 := NB620_623.out
           have hcz83 := blk_cell BK623.out
           have hfz83 := blk_frozen BK623.out
           go_wp2_with (first | ((with_reducible refine gate_callee (f := 137) rfl ?_); refine goesC_ (some 67) Try.func137 #[.agg #[.int .i64 ((rd_T71 l0_0 x3_1).f1.f0), .int .i64 ((rd_T71 l0_0 x3_1).f1.f1)]] ?_; (with_reducible refine (spec_l21None.calls ((rd_T71 l0_0 x3_1).f1.f0) ((rd_T71 l0_0 x3_1).f1.f1) false _ A65.out).mono ?_); rintro e w84 ⟨rfl, hb⟩; refine ⟨_, rfl, ?_⟩; replace BK620 := bkb_ BK620 hb; replace BK623 := bkb_ BK623 hb; replace HB := hbs_ hb; clear hb))
           go_ret
           exact ⟨eq_, bl_⟩
         ·rw [if_neg c64] at H
          have c64b0 : (((rd_T71 l0_0 x3_1).f0) == 4) = false := beq_eq_false_iff_ne.mpr c64
          have c64b1 : (((rd_T71 l0_0 x3_1).f0) != 4) = true := bne_iff_ne.mpr c64
          obtain rfl := Option.some.inj H
          go_wp2
          go_ret
          exact ⟨eq_, bl_⟩
    ·rw [if_neg c6] at H
     have c6b0 : decide (x3_1 < (l0_0.length : Int)) = false := decide_eq_false c6
     clear c6
     obtain rfl := Option.some.inj H
     have hcz85 := blk_cell BK620.out
     have hfz85 := blk_frozen BK620.out
     go_wp2
     go_ret
     exact ⟨eq_, bl_⟩
 ·replace c3 := Bool.eq_false_iff.mpr c3
  subst c3
  replace H := ite_f_ H
  obtain rfl := Option.some.inj H
  go_enter Try.func111, Try.ntmps111
  go_wp2_with (first | ((with_reducible refine gate_dst (N := 1) rfl ?_); refine box_event ?hg (N := 1) ?hd (cs := #[.slice A0_0 l0_0.length c0_0]) (t := 68) ?hr ?_; (case hd => rfl); (case hg => rfl); (case hr => first | (go_simp; done) | (go_simp; rfl)); intro gb620 hg w86 hbox hb; have BK620 := Aside0.mk (hbox); have GW620 := gs_ hg; have GE620 := gs_ hg; replace HB := hbs_ hb; clear hb hbox hg; have hcz87 := blk_cell BK620.out; have hfz87 := blk_frozen BK620.out) | ((with_reducible refine gate_callee (f := 90) rfl ?_); refine goesC_ (some 8) Try.func90 #[.int .i64 (l0_0.length : Int), .int .i64 1, .int .i64 40] ?_; (with_reducible refine (spec_l01In.calls (l0_0.length : Int) 1 40 false _ A2.out).mono ?_); rintro e w' ⟨rfl, ⟨nd, rfl⟩⟩; refine ⟨_, rfl, ?_⟩))
  go_ret
  exact ⟨eq_, bl_⟩
end Go.Proofs.Ytppdmcimddhbaaa.PE
