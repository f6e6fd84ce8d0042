import Derived.Test.YtppdmcimddhbaaaKTPHx7
-- A text of this claim: written by the session's own program out of the translation (wip/tools). Lean checks it.
namespace Go.Proofs.Ytppdmcimddhbaaa.PH
open Go.RowKit Go.Proofs.YtppdmcimddhbaaaW.PrintWords Go.Proofs.YtppdmcimddhbaaaW.PrintLast Go.Proofs.YtppdmcimddhbaaaW.PrintMore
attribute [local go_sem] max2_int min2_int max_two min_two max_three min_three max_four min_four   -- for this text's walks alone
set_option linter.unusedVariables false
set_option linter.unusedSimpArgs false
mutual
def spec_FactsOf.l0 : Nat → List (S46) → List (S29) → Bool → Option ((List (S29)))
 | 0, _, _, _ => none
 | k + 1, x0, x3, x4 => if x4 = true then (spec_FactsOf.l1 k x0 x3 false 0) else (some x3)
def spec_FactsOf.l1 : Nat → List (S46) → List (S29) → Bool → Int → Option ((List (S29)))
 | 0, _, _, _, _ => none
 | k + 1, x0, x3, x4, x5 => if x5 < (x0.length : Int) then (if 0 ≤ x5 then ((spec_Follows.f k x3 ((rd_T46 x0 x5).f0) ((rd_T46 x0 x5).f1.f0) ((rd_T46 x0 x5).f1.f1) ((rd_T46 x0 x5).f2) ((rd_T46 x0 x5).f3.f0) ((rd_T46 x0 x5).f3.f1) ((rd_T46 x0 x5).f4.f0) ((rd_T46 x0 x5).f4.f1) ((rd_T46 x0 x5).f5) ((rd_T46 x0 x5).f6)).bind fun t213 => (if (t213.length : Int) > (x3.length : Int) then (spec_FactsOf.l1 k x0 t213 true (wrap64 (x5 + 1))) else (spec_FactsOf.l1 k x0 t213 x4 (wrap64 (x5 + 1))))) else (none)) else (spec_FactsOf.l0 k x0 x3 x4)
end
def spec_FactsOf.f (k : Nat) (l0 : List (S46)) : Option ((List (S29))) := spec_FactsOf.l0 k l0 (([] : List (S29))) true
set_option maxHeartbeats 8000000 in
set_option maxRecDepth 100000 in
theorem spec_FactsOf.calls (k : Nat) (A0 : Option Addr) (c0 : Nat) (l0 : List (S46)) (r : List (S29)) (w : World) (hr0 : Kd.C k46 w A0 l0.length l0) (hc0 : l0.length ≤ c0) (h : spec_FactsOf.f k l0 = some r) :
  Calls Try.prog 73 #[.slice A0 l0.length c0] w fun e w' => ∃ v0_ : Value, e = .returned (v0_) ∧ Kd.R k29 29 w' w.heap.size (fun _ => True) v0_ r ∧ Below w.heap.size w w' := by
 have hu46 := Try.underlying46
 have HR0 := Aside0.mk hr0
 have HC0 := Aside0.mk hc0
 clear hr0 hc0
 have HB := Aside0.mk (Below.refl w.heap.size w)
 have H : (spec_FactsOf.l0 k l0 (([] : List (S29))) true) = some r := h
 clear h
 obtain ⟨y209, hy209⟩ : ∃ y_ : List (S29), y_ = (([] : List (S29))) := ⟨_, rfl⟩
 replace H : (spec_FactsOf.l0 k l0 y209 true) = some r := by first | (rw [hy209]; with_reducible exact H) | (have H2_ := (Option.bind_some _ _).symm.trans H; rw [hy209]; with_reducible exact H2_) | (have H2_ := (Option.bind_some _ _).symm.trans H; with_reducible exact H2_) | with_reducible exact H | (rw [hy209]; exact H) | exact H
 have Ny209 := Aside0.mk hy209
 clear hy209
 have H' := Aside0.mk H
 clear H
 go_enter Try.func73, Try.ntmps73
 go_wp2_with (first | ((with_reducible refine gate_dst (N := 7) rfl ?_); refine Kd.R_lit k29 _ 29 ?hg (N := 7) ?hd (xs := ([] : List (S29))) (inner := []) (ok := fun _ => True) (okp := fun _ => True) ?hr ?hp (fun _ hk => hk) trivial (Below.refl _ _) (Nat.le_refl _) (by simp) ?_; (case hd => rfl); (case hg => rfl); (case hr => first | (go_simp; done) | (go_simp; rfl)); (case hp => exact (Reps.none _ _)); intro v210 w2 ho3 hb hg_ hnew_; clear hg_ hnew_; (first | rw [← Ny209.out] at ho3 | (simp only [Int.reduceToNat] at ho3; rw [← Ny209.out] at ho3)); have HO211 := Aside0.mk (Kd.R_lower ho3 bls_); replace HB := hbs_ hb; clear hb ho3))
 go_loopg [3, 4] k (fun kq v3 v4 w' => ∃ (x3_1 : List (S29)) (x4_1 : Bool), v4 = .bool x4_1 ∧ Aside0 (spec_FactsOf.l0 kq l0 x3_1 x4_1 = some r) ∧ Aside0 (kq ≤ k) ∧ Aside0 (Kd.R k29 29 w' w.heap.size (fun _ => True) v3 x3_1) ∧ Aside0 (Below w.heap.size w w'))
 case atStart => exact ⟨(y209), (true), (by first | rfl | (simp; done) | (simp [*]; done)), H', ⟨Nat.le_refl _⟩, ⟨by (with_reducible repeat (first | apply Kd.R_alloc | apply Kd.R_drewN | apply Kd.R_drew)); exact HO211.out⟩, ⟨bl_⟩⟩
 case round =>
  clear H'
  try clear p2
  obtain ⟨x3_1, x4_1, rfl, HA, HK1, HO_3, HB⟩ := hrel
  cases gk with
  | zero => exact absurd HA.out (by simp [spec_FactsOf.l0])
  | succ k1 =>
   have H := HA.out
   clear HA
   simp only [spec_FactsOf.l0] at H
   by_cases c4 : x4_1 = true
   ·subst c4
    replace H := ite_t_ H
    have H' := Aside0.mk H
    clear H
    go_wp2
    go_loopg [3, 4, 5] k1 (fun kq v3 v4 v5 w' => ∃ (x3_2 : List (S29)) (x4_2 : Bool) (x5_2 : Int), v4 = .bool x4_2 ∧ v5 = .int .i64 x5_2 ∧ Aside0 (spec_FactsOf.l1 kq l0 x3_2 x4_2 x5_2 = some r) ∧ Aside0 (kq ≤ k1) ∧ Aside0 (Kd.R k29 29 w' w.heap.size (fun _ => True) v3 x3_2) ∧ Aside0 (Below w.heap.size w w'))
    case atStart => exact ⟨(x3_1), (false), (0), (by first | rfl | (simp; done) | (simp [*]; done)), (by first | rfl | (simp; done) | (simp [*]; done)), H', ⟨Nat.le_refl _⟩, ⟨by (with_reducible repeat (first | apply Kd.R_alloc | apply Kd.R_drewN | apply Kd.R_drew)); exact HO_3.out⟩, ⟨bl_⟩⟩
    case round =>
     clear H'
     try clear p2
     try clear c4
     try clear p2
     obtain ⟨x3_2, x4_2, x5_2, rfl, rfl, HA, HK2, HO_3, HB⟩ := hrel
     cases gk with
     | zero => exact absurd HA.out (by simp [spec_FactsOf.l1])
     | succ k2 =>
      have H := HA.out
      clear HA
      simp only [spec_FactsOf.l1] at H
      by_cases c5 : x5_2 < (l0.length : Int)
      ·rw [if_pos c5] at H
       have c5b0 : decide (x5_2 < (l0.length : Int)) = true := decide_eq_true c5
       clear c5
       by_cases c6 : 0 ≤ x5_2
       ·rw [if_pos c6] at H
        have c6b0 : decide (0 ≤ x5_2) = true := decide_eq_true c6
        clear c6
        obtain ⟨t213, A7, H⟩ := bindE_ H
        by_cases c8 : (t213.length : Int) > (x3_2.length : Int)
        ·rw [if_pos c8] at H
         have c8b0 : decide ((x3_2.length : Int) < (t213.length : Int)) = true := decide_eq_true c8
         have c8b1 : decide (x3_2.length < t213.length) = true := decide_eq_true (Int.ofNat_lt.mp c8)
         clear c8
         have H' := Aside0.mk H
         clear H
         have p212 : 0 ≤ (x5_2 : Int) := of_decide_eq_true (by first | (with_reducible assumption) | assumption)
         have q212 : x5_2 < (l0.length : Int) := of_decide_eq_true (by first | (with_reducible assumption) | assumption)
         obtain ⟨ad212, e212, hx212_0, hx212_1, hx212_2, hx212_3, hx212_4, hx212_5, hx212_6, hx212_7, hx212_8, hx212_9⟩ := at_T46 (Kd.C_below HR0.out HB.out) x5_2 p212 q212
         cases e212
         replace p212 := eq_true p212
         replace q212 := eq_true q212
         obtain ⟨Ao9, co9, eo9⟩ := Kd.R_slice HO_3.out
         subst eo9
         go_wp2_with (first | ((with_reducible refine gate_callee (f := 120) rfl ?_); refine goesC_ (some 20) Try.func120 #[.slice Ao9 x3_2.length co9, .agg #[.int .i64 ((rd_T46 l0 x5_2).f0), .int .i64 ((rd_T46 l0 x5_2).f1.f0), .int .i64 ((rd_T46 l0 x5_2).f1.f1), .int .i64 ((rd_T46 l0 x5_2).f2), .int .i64 ((rd_T46 l0 x5_2).f3.f0), .int .i64 ((rd_T46 l0 x5_2).f3.f1), .int .i64 ((rd_T46 l0 x5_2).f4.f0), .int .i64 ((rd_T46 l0 x5_2).f4.f1), .int .i64 ((rd_T46 l0 x5_2).f5), .int .i64 ((rd_T46 l0 x5_2).f6)]] ?_; (with_reducible refine (spec_Follows.calls k2 _ _ x3_2 ((rd_T46 l0 x5_2).f0) ((rd_T46 l0 x5_2).f1.f0) ((rd_T46 l0 x5_2).f1.f1) ((rd_T46 l0 x5_2).f2) ((rd_T46 l0 x5_2).f3.f0) ((rd_T46 l0 x5_2).f3.f1) ((rd_T46 l0 x5_2).f4.f0) ((rd_T46 l0 x5_2).f4.f1) ((rd_T46 l0 x5_2).f5) ((rd_T46 l0 x5_2).f6) t213 _ ?side1 ?side2 A7.out).mono ?_); (case side1 => repeat (first | exact (Kd.R_reads' HO_3.out).2.2 | (with_reducible refine Kd.C_alloc ?_ _) | (with_reducible refine Kd.C_drewN ?_ _) | (with_reducible refine Kd.C_drew ?_))); (case side2 => exact (Kd.R_reads' HO_3.out).2.1); rintro e w10 ⟨v214, rfl, ho0, hb⟩; refine ⟨_, rfl, ?_⟩; have HO215 := Aside0.mk (Kd.R_lower (Kd.R_new' ho0 (Kd.R_lt (by (with_reducible repeat (first | apply Kd.R_alloc | apply Kd.R_drewN | apply Kd.R_drew)); exact HO_3.out))) bls_); replace HO_3 := Aside0.mk (Kd.R_elder' (by (with_reducible repeat (first | apply Kd.R_alloc | apply Kd.R_drewN | apply Kd.R_drew)); exact HO_3.out) (Kd.R_base ho0) hb); replace HB := hbs_ hb; (try clear hb); (try clear hb2); (try clear hk); (try clear hi); (try clear ho0); obtain ⟨Ao11, co11, eo11⟩ := Kd.R_slice HO215.out; subst eo11))
         go_roundg k2
         case measure => have := HK1.out; have := HK2.out; omega
         case rel => exact ⟨(t213), (true), (wrap64 (x5_2 + 1)), (by first | rfl | (simp; done) | (simp [*]; done)), (by first | rfl | (simp; done) | (simp [*]; done)), H', ⟨by have := HK1.out; have := HK2.out; omega⟩, ⟨by (with_reducible repeat (first | apply Kd.R_alloc | apply Kd.R_drewN | apply Kd.R_drew)); exact Kd.R_mono HO215.out (fun _ hk => trivial)⟩, ⟨bl_⟩⟩
        ·rw [if_neg c8] at H
         have c8b0 : decide ((x3_2.length : Int) < (t213.length : Int)) = false := decide_eq_false c8
         have c8b1 : decide (x3_2.length < t213.length) = false := decide_eq_false (fun h => c8 (Int.ofNat_lt.mpr h))
         clear c8
         have H' := Aside0.mk H
         clear H
         have p212 : 0 ≤ (x5_2 : Int) := of_decide_eq_true (by first | (with_reducible assumption) | assumption)
         have q212 : x5_2 < (l0.length : Int) := of_decide_eq_true (by first | (with_reducible assumption) | assumption)
         obtain ⟨ad212, e212, hx212_0, hx212_1, hx212_2, hx212_3, hx212_4, hx212_5, hx212_6, hx212_7, hx212_8, hx212_9⟩ := at_T46 (Kd.C_below HR0.out HB.out) x5_2 p212 q212
         cases e212
         replace p212 := eq_true p212
         replace q212 := eq_true q212
         obtain ⟨Ao12, co12, eo12⟩ := Kd.R_slice HO_3.out
         subst eo12
         go_wp2_with (first | ((with_reducible refine gate_callee (f := 120) rfl ?_); refine goesC_ (some 20) Try.func120 #[.slice Ao12 x3_2.length co12, .agg #[.int .i64 ((rd_T46 l0 x5_2).f0), .int .i64 ((rd_T46 l0 x5_2).f1.f0), .int .i64 ((rd_T46 l0 x5_2).f1.f1), .int .i64 ((rd_T46 l0 x5_2).f2), .int .i64 ((rd_T46 l0 x5_2).f3.f0), .int .i64 ((rd_T46 l0 x5_2).f3.f1), .int .i64 ((rd_T46 l0 x5_2).f4.f0), .int .i64 ((rd_T46 l0 x5_2).f4.f1), .int .i64 ((rd_T46 l0 x5_2).f5), .int .i64 ((rd_T46 l0 x5_2).f6)]] ?_; (with_reducible refine (spec_Follows.calls k2 _ _ x3_2 ((rd_T46 l0 x5_2).f0) ((rd_T46 l0 x5_2).f1.f0) ((rd_T46 l0 x5_2).f1.f1) ((rd_T46 l0 x5_2).f2) ((rd_T46 l0 x5_2).f3.f0) ((rd_T46 l0 x5_2).f3.f1) ((rd_T46 l0 x5_2).f4.f0) ((rd_T46 l0 x5_2).f4.f1) ((rd_T46 l0 x5_2).f5) ((rd_T46 l0 x5_2).f6) t213 _ ?side1 ?side2 A7.out).mono ?_); (case side1 => repeat (first | exact (Kd.R_reads' HO_3.out).2.2 | (with_reducible refine Kd.C_alloc ?_ _) | (with_reducible refine Kd.C_drewN ?_ _) | (with_reducible refine Kd.C_drew ?_))); (case side2 => exact (Kd.R_reads' HO_3.out).2.1); rintro e w13 ⟨v214, rfl, ho0, hb⟩; refine ⟨_, rfl, ?_⟩; have HO215 := Aside0.mk (Kd.R_lower (Kd.R_new' ho0 (Kd.R_lt (by (with_reducible repeat (first | apply Kd.R_alloc | apply Kd.R_drewN | apply Kd.R_drew)); exact HO_3.out))) bls_); replace HO_3 := Aside0.mk (Kd.R_elder' (by (with_reducible repeat (first | apply Kd.R_alloc | apply Kd.R_drewN | apply Kd.R_drew)); exact HO_3.out) (Kd.R_base ho0) hb); replace HB := hbs_ hb; (try clear hb); (try clear hb2); (try clear hk); (try clear hi); (try clear ho0); obtain ⟨Ao14, co14, eo14⟩ := Kd.R_slice HO215.out; subst eo14))
         go_roundg k2
         case measure => have := HK1.out; have := HK2.out; omega
         case rel => exact ⟨(t213), (x4_2), (wrap64 (x5_2 + 1)), (by first | rfl | (simp; done) | (simp [*]; done)), (by first | rfl | (simp; done) | (simp [*]; done)), H', ⟨by have := HK1.out; have := HK2.out; omega⟩, ⟨by (with_reducible repeat (first | apply Kd.R_alloc | apply Kd.R_drewN | apply Kd.R_drew)); exact Kd.R_mono HO215.out (fun _ hk => trivial)⟩, ⟨bl_⟩⟩
       ·rw [if_neg c6] at H
        exact absurd H (by simp)
      ·rw [if_neg c5] at H
       have c5b0 : decide (x5_2 < (l0.length : Int)) = false := decide_eq_false c5
       clear c5
       have H' := Aside0.mk H
       clear H
       go_wp2
       go_roundg k2
       case measure => have := HK1.out; have := HK2.out; omega
       case rel => exact ⟨(x3_2), (x4_2), (by first | rfl | (simp; done) | (simp [*]; done)), H', ⟨by have := HK1.out; have := HK2.out; omega⟩, ⟨by (with_reducible repeat (first | apply Kd.R_alloc | apply Kd.R_drewN | apply Kd.R_drew)); exact HO_3.out⟩, ⟨bl_⟩⟩
   ·replace c4 := Bool.eq_false_iff.mpr c4
    subst c4
    replace H := ite_f_ H
    obtain rfl := Option.some.inj H
    go_wp2
    go_ret
    exact ⟨_, eq_, by (with_reducible repeat (first | apply Kd.R_alloc | apply Kd.R_drewN | apply Kd.R_drew)); exact HO_3.out, bl_⟩
def spec_Alive.l0 : Nat → List (S46) → Int → List (S46) → Int → Option ((List (S46)))
 | 0, _, _, _, _ => none
 | k + 1, x0, x1, x5, x6 => if x6 < (x0.length : Int) then (if 0 ≤ x6 then ((spec_CredOk.f k ((rd_T46 x0 x6).f0) ((rd_T46 x0 x6).f1.f0) ((rd_T46 x0 x6).f1.f1) ((rd_T46 x0 x6).f2) ((rd_T46 x0 x6).f3.f0) ((rd_T46 x0 x6).f3.f1) ((rd_T46 x0 x6).f4.f0) ((rd_T46 x0 x6).f4.f1) ((rd_T46 x0 x6).f5) ((rd_T46 x0 x6).f6)).bind fun t220 => (if t220 = true then (if ((rd_T46 x0 x6).f5) ≥ x1 then (if x5.length < 1759218604441 then (spec_Alive.l0 k x0 x1 (x5 ++ [(⟨(rd_T46 x0 x6).f0, (⟨(rd_T46 x0 x6).f1.f0, (rd_T46 x0 x6).f1.f1⟩ : S27), (rd_T46 x0 x6).f2, (⟨(rd_T46 x0 x6).f3.f0, (rd_T46 x0 x6).f3.f1⟩ : S27), (⟨(rd_T46 x0 x6).f4.f0, (rd_T46 x0 x6).f4.f1⟩ : S27), (rd_T46 x0 x6).f5, (rd_T46 x0 x6).f6⟩ : S46)]) (wrap64 (x6 + 1))) else (none)) else (spec_Alive.l0 k x0 x1 x5 (wrap64 (x6 + 1)))) else (spec_Alive.l0 k x0 x1 x5 (wrap64 (x6 + 1))))) else (none)) else (some x5)
def spec_Alive.f (k : Nat) (l0 : List (S46)) (a1 : Int) : Option ((List (S46))) := spec_Alive.l0 k l0 a1 (([] : List (S46))) 0
set_option maxHeartbeats 8000000 in
set_option maxRecDepth 100000 in
theorem spec_Alive.calls (k : Nat) (A0 : Option Addr) (c0 : Nat) (l0 : List (S46)) (a1 : Int) (r : List (S46)) (w : World) (hr0 : Kd.C k46 w A0 l0.length l0) (hc0 : l0.length ≤ c0) (h : spec_Alive.f k l0 a1 = some r) :
  Calls Try.prog 104 #[.slice A0 l0.length c0, .int .i64 a1] w fun e w' => ∃ v0_ : Value, e = .returned (v0_) ∧ Kd.R k46 46 w' w.heap.size (fun _ => True) v0_ r ∧ Below w.heap.size w w' := by
 have hu46 := Try.underlying46
 have HR0 := Aside0.mk hr0
 have HC0 := Aside0.mk hc0
 clear hr0 hc0
 have HB := Aside0.mk (Below.refl w.heap.size w)
 have H : (spec_Alive.l0 k l0 a1 (([] : List (S46))) 0) = some r := h
 clear h
 obtain ⟨y216, hy216⟩ : ∃ y_ : List (S46), y_ = (([] : List (S46))) := ⟨_, rfl⟩
 replace H : (spec_Alive.l0 k l0 a1 y216 0) = some r := by first | (rw [hy216]; with_reducible exact H) | (have H2_ := (Option.bind_some _ _).symm.trans H; rw [hy216]; with_reducible exact H2_) | (have H2_ := (Option.bind_some _ _).symm.trans H; with_reducible exact H2_) | with_reducible exact H | (rw [hy216]; exact H) | exact H
 have Ny216 := Aside0.mk hy216
 clear hy216
 have H' := Aside0.mk H
 clear H
 go_enter Try.func104, Try.ntmps104
 go_wp2_with (first | ((with_reducible refine gate_dst (N := 7) rfl ?_); refine Kd.R_lit k46 _ 46 ?hg (N := 7) ?hd (xs := ([] : List (S46))) (inner := []) (ok := fun _ => True) (okp := fun _ => True) ?hr ?hp (fun _ hk => hk) trivial (Below.refl _ _) (Nat.le_refl _) (by simp) ?_; (case hd => rfl); (case hg => rfl); (case hr => first | (go_simp; done) | (go_simp; rfl)); (case hp => exact (Reps.none _ _)); intro v217 w3 ho4 hb hg_ hnew_; clear hg_ hnew_; (first | rw [← Ny216.out] at ho4 | (simp only [Int.reduceToNat] at ho4; rw [← Ny216.out] at ho4)); have HO218 := Aside0.mk (Kd.R_lower ho4 bls_); replace HB := hbs_ hb; clear hb ho4))
 go_loopg [5, 6] k (fun kq v5 v6 w' => ∃ (x5_1 : List (S46)) (x6_1 : Int), v6 = .int .i64 x6_1 ∧ Aside0 (spec_Alive.l0 kq l0 a1 x5_1 x6_1 = some r) ∧ Aside0 (kq ≤ k) ∧ Aside0 (Kd.R k46 46 w' w.heap.size (fun _ => True) v5 x5_1) ∧ Aside0 (Below w.heap.size w w'))
 case atStart => exact ⟨(y216), (0), (by first | rfl | (simp; done) | (simp [*]; done)), H', ⟨Nat.le_refl _⟩, ⟨by (with_reducible repeat (first | apply Kd.R_alloc | apply Kd.R_drewN | apply Kd.R_drew)); exact HO218.out⟩, ⟨bl_⟩⟩
 case round =>
  clear H'
  try clear c1
  try clear p2
  obtain ⟨x5_1, x6_1, rfl, HA, HK1, HO_5, HB⟩ := hrel
  cases gk with
  | zero => exact absurd HA.out (by simp [spec_Alive.l0])
  | succ k1 =>
   have H := HA.out
   clear HA
   simp only [spec_Alive.l0] at H
   by_cases c5 : x6_1 < (l0.length : Int)
   ·rw [if_pos c5] at H
    have c5b0 : decide (x6_1 < (l0.length : Int)) = true := decide_eq_true c5
    clear c5
    by_cases c6 : 0 ≤ x6_1
    ·rw [if_pos c6] at H
     have c6b0 : decide (0 ≤ x6_1) = true := decide_eq_true c6
     clear c6
     obtain ⟨t220, A7, H⟩ := bindE_ H
     by_cases c8 : t220 = true
     ·subst c8
      replace H := ite_t_ H
      by_cases c9 : ((rd_T46 l0 x6_1).f5) ≥ a1
      ·rw [if_pos c9] at H
       have c9b0 : decide (a1 ≤ ((rd_T46 l0 x6_1).f5)) = true := decide_eq_true c9
       clear c9
       by_cases c10 : x5_1.length < 1759218604441
       ·rw [if_pos c10] at H
        have LMc10 := Aside0.mk c10
        clear c10
        obtain ⟨y223, hy223⟩ : ∃ y_ : List (S46), y_ = (x5_1 ++ [(⟨(rd_T46 l0 x6_1).f0, (⟨(rd_T46 l0 x6_1).f1.f0, (rd_T46 l0 x6_1).f1.f1⟩ : S27), (rd_T46 l0 x6_1).f2, (⟨(rd_T46 l0 x6_1).f3.f0, (rd_T46 l0 x6_1).f3.f1⟩ : S27), (⟨(rd_T46 l0 x6_1).f4.f0, (rd_T46 l0 x6_1).f4.f1⟩ : S27), (rd_T46 l0 x6_1).f5, (rd_T46 l0 x6_1).f6⟩ : S46)]) := ⟨_, rfl⟩
        replace H : (spec_Alive.l0 k1 l0 a1 y223 (wrap64 (x6_1 + 1))) = some r := by first | (rw [hy223]; with_reducible exact H) | (have H2_ := (Option.bind_some _ _).symm.trans H; rw [hy223]; with_reducible exact H2_) | (have H2_ := (Option.bind_some _ _).symm.trans H; with_reducible exact H2_) | with_reducible exact H | (rw [hy223]; exact H) | exact H
        have Ny223 := Aside0.mk hy223
        clear hy223
        have H' := Aside0.mk H
        clear H
        have p219 : 0 ≤ (x6_1 : Int) := of_decide_eq_true (by first | (with_reducible assumption) | assumption)
        have q219 : x6_1 < (l0.length : Int) := of_decide_eq_true (by first | (with_reducible assumption) | assumption)
        obtain ⟨ad219, e219, hx219_0, hx219_1, hx219_2, hx219_3, hx219_4, hx219_5, hx219_6, hx219_7, hx219_8, hx219_9⟩ := at_T46 (Kd.C_below HR0.out HB.out) x6_1 p219 q219
        cases e219
        replace p219 := eq_true p219
        replace q219 := eq_true q219
        go_wp2_with (first | ((with_reducible refine gate_callee (f := 115) rfl ?_); refine goesC_ (some 18) Try.func115 #[.agg #[.int .i64 ((rd_T46 l0 x6_1).f0), .int .i64 ((rd_T46 l0 x6_1).f1.f0), .int .i64 ((rd_T46 l0 x6_1).f1.f1), .int .i64 ((rd_T46 l0 x6_1).f2), .int .i64 ((rd_T46 l0 x6_1).f3.f0), .int .i64 ((rd_T46 l0 x6_1).f3.f1), .int .i64 ((rd_T46 l0 x6_1).f4.f0), .int .i64 ((rd_T46 l0 x6_1).f4.f1), .int .i64 ((rd_T46 l0 x6_1).f5), .int .i64 ((rd_T46 l0 x6_1).f6)]] ?_; (with_reducible refine (spec_CredOk.calls k1 ((rd_T46 l0 x6_1).f0) ((rd_T46 l0 x6_1).f1.f0) ((rd_T46 l0 x6_1).f1.f1) ((rd_T46 l0 x6_1).f2) ((rd_T46 l0 x6_1).f3.f0) ((rd_T46 l0 x6_1).f3.f1) ((rd_T46 l0 x6_1).f4.f0) ((rd_T46 l0 x6_1).f4.f1) ((rd_T46 l0 x6_1).f5) ((rd_T46 l0 x6_1).f6) true _ A7.out).mono ?_); rintro e w11 ⟨rfl, hb⟩; refine ⟨_, rfl, ?_⟩; replace HO_5 := Aside0.mk (Kd.R_below (by (with_reducible repeat (first | apply Kd.R_alloc | apply Kd.R_drewN | apply Kd.R_drew)); exact HO_5.out) hb); replace HB := hbs_ hb; clear hb; have p221 : 0 ≤ (x6_1 : Int) := of_decide_eq_true (by first | (with_reducible assumption) | assumption); have q221 : x6_1 < (l0.length : Int) := of_decide_eq_true (by first | (with_reducible assumption) | assumption); obtain ⟨ad221, e221, hx221_0, hx221_1, hx221_2, hx221_3, hx221_4, hx221_5, hx221_6, hx221_7, hx221_8, hx221_9⟩ := at_T46 HR0.out x6_1 p221 q221; obtain rfl : ad219 = ad221 := (by injection e221); replace hx221_0 := cb_ HB hx221_0; replace hx221_1 := cb_ HB hx221_1; replace hx221_2 := cb_ HB hx221_2; replace hx221_3 := cb_ HB hx221_3; replace hx221_4 := cb_ HB hx221_4; replace hx221_5 := cb_ HB hx221_5; replace hx221_6 := cb_ HB hx221_6; replace hx221_7 := cb_ HB hx221_7; replace hx221_8 := cb_ HB hx221_8; replace hx221_9 := cb_ HB hx221_9; replace p221 := eq_true p221; replace q221 := eq_true q221; have p222 : 0 ≤ (x6_1 : Int) := of_decide_eq_true (by first | (with_reducible assumption) | assumption); have q222 : x6_1 < (l0.length : Int) := of_decide_eq_true (by first | (with_reducible assumption) | assumption); obtain ⟨ad222, e222, hx222_0, hx222_1, hx222_2, hx222_3, hx222_4, hx222_5, hx222_6, hx222_7, hx222_8, hx222_9⟩ := at_T46 HR0.out x6_1 p222 q222; obtain rfl : ad219 = ad222 := (by injection e222); replace hx222_0 := cb_ HB hx222_0; replace hx222_1 := cb_ HB hx222_1; replace hx222_2 := cb_ HB hx222_2; replace hx222_3 := cb_ HB hx222_3; replace hx222_4 := cb_ HB hx222_4; replace hx222_5 := cb_ HB hx222_5; replace hx222_6 := cb_ HB hx222_6; replace hx222_7 := cb_ HB hx222_7; replace hx222_8 := cb_ HB hx222_8; replace hx222_9 := cb_ HB hx222_9; replace p222 := eq_true p222; replace q222 := eq_true q222) | ((with_reducible refine gate_builtin (b := .append) (xs := #[.tmp 28, .tmp 33]) rfl ?_); at_builtin; refine Kd.R_append k46 (w0 := w) w.heap.size rfl (.tmp 28) (.tmp 33) 24 46 (.agg #[(.int .i64 0), (.int .i64 0), (.int .i64 0), (.int .i64 0), (.int .i64 0), (.int .i64 0), (.int .i64 0), (.int .i64 0), (.int .i64 0), (.int .i64 0)]) 80 rfl Try.underlying24 info46 rfl (by decide) (by omega) u5 x5_1 (⟨(rd_T46 l0 x6_1).f0, (⟨(rd_T46 l0 x6_1).f1.f0, (rd_T46 l0 x6_1).f1.f1⟩ : S27), (rd_T46 l0 x6_1).f2, (⟨(rd_T46 l0 x6_1).f3.f0, (rd_T46 l0 x6_1).f3.f1⟩ : S27), (⟨(rd_T46 l0 x6_1).f4.f0, (rd_T46 l0 x6_1).f4.f1⟩ : S27), (rd_T46 l0 x6_1).f5, (rd_T46 l0 x6_1).f6⟩ : S46) [.int .i64 ((rd_T46 l0 x6_1).f0), .int .i64 ((rd_T46 l0 x6_1).f1.f0), .int .i64 ((rd_T46 l0 x6_1).f1.f1), .int .i64 ((rd_T46 l0 x6_1).f2), .int .i64 ((rd_T46 l0 x6_1).f3.f0), .int .i64 ((rd_T46 l0 x6_1).f3.f1), .int .i64 ((rd_T46 l0 x6_1).f4.f0), .int .i64 ((rd_T46 l0 x6_1).f4.f1), .int .i64 ((rd_T46 l0 x6_1).f5), .int .i64 ((rd_T46 l0 x6_1).f6)] (fun _ => True) (fun _ => False) rfl rfl ?aP (fun _ hk => hk.elim) ?aF ?aO ?aB ?aS ?aL ?_; (case aP => exact k46_mkM _ _ _ (⟨(rd_T46 l0 x6_1).f0, (⟨(rd_T46 l0 x6_1).f1.f0, (rd_T46 l0 x6_1).f1.f1⟩ : S27), (rd_T46 l0 x6_1).f2, (⟨(rd_T46 l0 x6_1).f3.f0, (rd_T46 l0 x6_1).f3.f1⟩ : S27), (⟨(rd_T46 l0 x6_1).f4.f0, (rd_T46 l0 x6_1).f4.f1⟩ : S27), (rd_T46 l0 x6_1).f5, (rd_T46 l0 x6_1).f6⟩ : S46)); (case aB => exact bl_); (case aF => exact (fun _ _ => trivial)); (case aO => exact (by (with_reducible repeat (first | apply Kd.R_alloc | apply Kd.R_drewN | apply Kd.R_drew)); exact HO_5.out)); (case aS => exact bls_); (case aL => have := LMc10.out; omega); intro v224 w12 ho hb hg hat; rw [← Ny223.out] at ho; replace HB := Aside0.mk (hb); have HO225 := Aside0.mk (ho); clear HO_5; clear ho hb hg hat))
        go_roundg k1
        case measure => have := HK1.out; omega
        case rel => exact ⟨(y223), (wrap64 (x6_1 + 1)), (by first | rfl | (simp; done) | (simp [*]; done)), H', ⟨by have := HK1.out; omega⟩, ⟨by (with_reducible repeat (first | apply Kd.R_alloc | apply Kd.R_drewN | apply Kd.R_drew)); exact HO225.out⟩, ⟨bl_⟩⟩
       ·rw [if_neg c10] at H
        exact absurd H (by simp)
      ·rw [if_neg c9] at H
       have c9b0 : decide (a1 ≤ ((rd_T46 l0 x6_1).f5)) = false := decide_eq_false c9
       clear c9
       have H' := Aside0.mk H
       clear H
       have p219 : 0 ≤ (x6_1 : Int) := of_decide_eq_true (by first | (with_reducible assumption) | assumption)
       have q219 : x6_1 < (l0.length : Int) := of_decide_eq_true (by first | (with_reducible assumption) | assumption)
       obtain ⟨ad219, e219, hx219_0, hx219_1, hx219_2, hx219_3, hx219_4, hx219_5, hx219_6, hx219_7, hx219_8, hx219_9⟩ := at_T46 (Kd.C_below HR0.out HB.out) x6_1 p219 q219
       cases e219
       replace p219 := eq_true p219
       replace q219 := eq_true q219
       go_wp2_with (first | ((with_reducible refine gate_callee (f := 115) rfl ?_); refine goesC_ (some 18) Try.func115 #[.agg #[.int .i64 ((rd_T46 l0 x6_1).f0), .int .i64 ((rd_T46 l0 x6_1).f1.f0), .int .i64 ((rd_T46 l0 x6_1).f1.f1), .int .i64 ((rd_T46 l0 x6_1).f2), .int .i64 ((rd_T46 l0 x6_1).f3.f0), .int .i64 ((rd_T46 l0 x6_1).f3.f1), .int .i64 ((rd_T46 l0 x6_1).f4.f0), .int .i64 ((rd_T46 l0 x6_1).f4.f1), .int .i64 ((rd_T46 l0 x6_1).f5), .int .i64 ((rd_T46 l0 x6_1).f6)]] ?_; (with_reducible refine (spec_CredOk.calls k1 ((rd_T46 l0 x6_1).f0) ((rd_T46 l0 x6_1).f1.f0) ((rd_T46 l0 x6_1).f1.f1) ((rd_T46 l0 x6_1).f2) ((rd_T46 l0 x6_1).f3.f0) ((rd_T46 l0 x6_1).f3.f1) ((rd_T46 l0 x6_1).f4.f0) ((rd_T46 l0 x6_1).f4.f1) ((rd_T46 l0 x6_1).f5) ((rd_T46 l0 x6_1).f6) true _ A7.out).mono ?_); rintro e w13 ⟨rfl, hb⟩; refine ⟨_, rfl, ?_⟩; replace HO_5 := Aside0.mk (Kd.R_below (by (with_reducible repeat (first | apply Kd.R_alloc | apply Kd.R_drewN | apply Kd.R_drew)); exact HO_5.out) hb); replace HB := hbs_ hb; clear hb; have p221 : 0 ≤ (x6_1 : Int) := of_decide_eq_true (by first | (with_reducible assumption) | assumption); have q221 : x6_1 < (l0.length : Int) := of_decide_eq_true (by first | (with_reducible assumption) | assumption); obtain ⟨ad221, e221, hx221_0, hx221_1, hx221_2, hx221_3, hx221_4, hx221_5, hx221_6, hx221_7, hx221_8, hx221_9⟩ := at_T46 HR0.out x6_1 p221 q221; obtain rfl : ad219 = ad221 := (by injection e221); replace hx221_0 := cb_ HB hx221_0; replace hx221_1 := cb_ HB hx221_1; replace hx221_2 := cb_ HB hx221_2; replace hx221_3 := cb_ HB hx221_3; replace hx221_4 := cb_ HB hx221_4; replace hx221_5 := cb_ HB hx221_5; replace hx221_6 := cb_ HB hx221_6; replace hx221_7 := cb_ HB hx221_7; replace hx221_8 := cb_ HB hx221_8; replace hx221_9 := cb_ HB hx221_9; replace p221 := eq_true p221; replace q221 := eq_true q221))
       go_roundg k1
       case measure => have := HK1.out; omega
       case rel => exact ⟨(x5_1), (wrap64 (x6_1 + 1)), (by first | rfl | (simp; done) | (simp [*]; done)), H', ⟨by have := HK1.out; omega⟩, ⟨by (with_reducible repeat (first | apply Kd.R_alloc | apply Kd.R_drewN | apply Kd.R_drew)); exact HO_5.out⟩, ⟨bl_⟩⟩
     ·replace c8 := Bool.eq_false_iff.mpr c8
      subst c8
      replace H := ite_f_ H
      have H' := Aside0.mk H
      clear H
      have p219 : 0 ≤ (x6_1 : Int) := of_decide_eq_true (by first | (with_reducible assumption) | assumption)
      have q219 : x6_1 < (l0.length : Int) := of_decide_eq_true (by first | (with_reducible assumption) | assumption)
      obtain ⟨ad219, e219, hx219_0, hx219_1, hx219_2, hx219_3, hx219_4, hx219_5, hx219_6, hx219_7, hx219_8, hx219_9⟩ := at_T46 (Kd.C_below HR0.out HB.out) x6_1 p219 q219
      cases e219
      replace p219 := eq_true p219
      replace q219 := eq_true q219
      go_wp2_with (first | ((with_reducible refine gate_callee (f := 115) rfl ?_); refine goesC_ (some 18) Try.func115 #[.agg #[.int .i64 ((rd_T46 l0 x6_1).f0), .int .i64 ((rd_T46 l0 x6_1).f1.f0), .int .i64 ((rd_T46 l0 x6_1).f1.f1), .int .i64 ((rd_T46 l0 x6_1).f2), .int .i64 ((rd_T46 l0 x6_1).f3.f0), .int .i64 ((rd_T46 l0 x6_1).f3.f1), .int .i64 ((rd_T46 l0 x6_1).f4.f0), .int .i64 ((rd_T46 l0 x6_1).f4.f1), .int .i64 ((rd_T46 l0 x6_1).f5), .int .i64 ((rd_T46 l0 x6_1).f6)]] ?_; (with_reducible refine (spec_CredOk.calls k1 ((rd_T46 l0 x6_1).f0) ((rd_T46 l0 x6_1).f1.f0) ((rd_T46 l0 x6_1).f1.f1) ((rd_T46 l0 x6_1).f2) ((rd_T46 l0 x6_1).f3.f0) ((rd_T46 l0 x6_1).f3.f1) ((rd_T46 l0 x6_1).f4.f0) ((rd_T46 l0 x6_1).f4.f1) ((rd_T46 l0 x6_1).f5) ((rd_T46 l0 x6_1).f6) false _ A7.out).mono ?_); rintro e w14 ⟨rfl, hb⟩; refine ⟨_, rfl, ?_⟩; replace HO_5 := Aside0.mk (Kd.R_below (by (with_reducible repeat (first | apply Kd.R_alloc | apply Kd.R_drewN | apply Kd.R_drew)); exact HO_5.out) hb); replace HB := hbs_ hb; clear hb))
      go_roundg k1
      case measure => have := HK1.out; omega
      case rel => exact ⟨(x5_1), (wrap64 (x6_1 + 1)), (by first | rfl | (simp; done) | (simp [*]; done)), H', ⟨by have := HK1.out; omega⟩, ⟨by (with_reducible repeat (first | apply Kd.R_alloc | apply Kd.R_drewN | apply Kd.R_drew)); exact HO_5.out⟩, ⟨bl_⟩⟩
    ·rw [if_neg c6] at H
     exact absurd H (by simp)
   ·rw [if_neg c5] at H
    have c5b0 : decide (x6_1 < (l0.length : Int)) = false := decide_eq_false c5
    clear c5
    obtain rfl := Option.some.inj H
    go_wp2
    go_ret
    exact ⟨_, eq_, by (with_reducible repeat (first | apply Kd.R_alloc | apply Kd.R_drewN | apply Kd.R_drew)); exact HO_5.out, bl_⟩
def spec_StillAt.f (k : Nat) (l0 : List (S46)) (a1 : Int) : Option ((List (S29))) := (spec_Alive.f k l0 a1).bind fun t226 => ((spec_FactsOf.f k t226).bind fun t229 => (some t229))
set_option maxHeartbeats 8000000 in
set_option maxRecDepth 100000 in
theorem spec_StillAt.calls (k : Nat) (A0 : Option Addr) (c0 : Nat) (l0 : List (S46)) (a1 : Int) (r : List (S29)) (w : World) (hr0 : Kd.C k46 w A0 l0.length l0) (hc0 : l0.length ≤ c0) (h : spec_StillAt.f k l0 a1 = some r) :
  Calls Try.prog 51 #[.slice A0 l0.length c0, .int .i64 a1] w fun e w' => ∃ v0_ : Value, e = .returned (v0_) ∧ Kd.R k29 29 w' w.heap.size (fun _ => True) v0_ r ∧ Below w.heap.size w w' := by
 have HR0 := Aside0.mk hr0
 have HC0 := Aside0.mk hc0
 clear hr0 hc0
 have HB := Aside0.mk (Below.refl w.heap.size w)
 have H : ((spec_Alive.f k l0 a1).bind fun t226 => ((spec_FactsOf.f k t226).bind fun t229 => (some t229))) = some r := h
 clear h
 obtain ⟨t226, A3, H⟩ := bindE_ H
 obtain ⟨t229, A4, H⟩ := bindE_ H
 obtain rfl := Option.some.inj H
 go_enter Try.func51, Try.ntmps51
 go_wp2_with (first | ((with_reducible refine gate_callee (f := 104) rfl ?_); refine goesC_ (some 7) Try.func104 #[.slice A0 l0.length c0, .int .i64 a1] ?_; (with_reducible refine (spec_Alive.calls k _ _ l0 a1 t226 _ ?side1 ?side2 A3.out).mono ?_); (case side1 => repeat (first | exact HR0.out | (with_reducible refine Kd.C_alloc ?_ _) | (with_reducible refine Kd.C_drewN ?_ _) | (with_reducible refine Kd.C_drew ?_))); (case side2 => exact HC0.out); rintro e w5 ⟨v227, rfl, ho0, hb⟩; refine ⟨_, rfl, ?_⟩; have HO228 := Aside0.mk (Kd.R_lower ho0 bls_); replace HB := hbs_ hb; (try clear hb); (try clear hb2); (try clear hk); (try clear hi); (try clear ho0); obtain ⟨Ao6, co6, eo6⟩ := Kd.R_slice HO228.out; subst eo6) | ((with_reducible refine gate_callee (f := 73) rfl ?_); refine goesC_ (some 8) Try.func73 #[.slice Ao6 t226.length co6] ?_; (with_reducible refine (spec_FactsOf.calls k _ _ t226 t229 _ ?side1 ?side2 A4.out).mono ?_); (case side1 => repeat (first | exact (Kd.R_reads' HO228.out).2.2 | (with_reducible refine Kd.C_alloc ?_ _) | (with_reducible refine Kd.C_drewN ?_ _) | (with_reducible refine Kd.C_drew ?_))); (case side2 => exact (Kd.R_reads' HO228.out).2.1); rintro e w7 ⟨v230, rfl, ho0, hb⟩; refine ⟨_, rfl, ?_⟩; replace HO228 := Aside0.mk (Kd.R_below (by (with_reducible repeat (first | apply Kd.R_alloc | apply Kd.R_drewN | apply Kd.R_drew)); exact HO228.out) hb); have HO231 := Aside0.mk (Kd.R_lower ho0 bls_); replace HB := hbs_ hb; (try clear hb); (try clear hb2); (try clear hk); (try clear hi); (try clear ho0)))
 go_ret
 exact ⟨_, eq_, by (with_reducible repeat (first | apply Kd.R_alloc | apply Kd.R_drewN | apply Kd.R_drew)); exact HO231.out, bl_⟩
def spec_LostAt.l0 : Nat → List (S29) → List (S29) → List (S29) → Int → Option ((List (S29)))
 | 0, _, _, _, _ => none
 | k + 1, x5, x6, x7, x8 => if x8 < (x6.length : Int) then (if 0 ≤ x8 then ((spec_l06Has.f k x7 ((rd_T29 x6 x8).f0.f0) ((rd_T29 x6 x8).f0.f1) ((rd_T29 x6 x8).f1)).bind fun t243 => (if t243 = true then (spec_LostAt.l0 k x5 x6 x7 (wrap64 (x8 + 1))) else (if x5.length < 5864062014805 then (spec_LostAt.l0 k (x5 ++ [(⟨(⟨(rd_T29 x6 x8).f0.f0, (rd_T29 x6 x8).f0.f1⟩ : S27), (rd_T29 x6 x8).f1⟩ : S29)]) x6 x7 (wrap64 (x8 + 1))) else (none)))) else (none)) else (some x5)
def spec_LostAt.f (k : Nat) (l0 : List (S46)) (a1 : Int) : Option ((List (S29))) := (some (([] : List (S29)) : List (S29))).bind fun y232 => ((spec_l01In.f a1 (-1000000) 1000000).bind fun t235 => (if t235 = true then ((spec_StillAt.f k l0 (wrap64 (a1 - 1))).bind fun t236 => ((spec_StillAt.f k l0 a1).bind fun t239 => (spec_LostAt.l0 k y232 t236 t239 0))) else (some y232)))
set_option maxHeartbeats 8000000 in
set_option maxRecDepth 100000 in
theorem spec_LostAt.calls (k : Nat) (A0 : Option Addr) (c0 : Nat) (l0 : List (S46)) (a1 : Int) (r : List (S29)) (w : World) (hr0 : Kd.C k46 w A0 l0.length l0) (hc0 : l0.length ≤ c0) (h : spec_LostAt.f k l0 a1 = some r) :
  Calls Try.prog 61 #[.slice A0 l0.length c0, .int .i64 a1] w fun e w' => ∃ v0_ : Value, e = .returned (v0_) ∧ Kd.R k29 29 w' w.heap.size (fun _ => True) v0_ r ∧ Below w.heap.size w w' := by
 have hu29 := Try.underlying29
 have HR0 := Aside0.mk hr0
 have HC0 := Aside0.mk hc0
 clear hr0 hc0
 have HB := Aside0.mk (Below.refl w.heap.size w)
 have H : ((some (([] : List (S29)) : List (S29))).bind fun y232 => ((spec_l01In.f a1 (-1000000) 1000000).bind fun t235 => (if t235 = true then ((spec_StillAt.f k l0 (wrap64 (a1 - 1))).bind fun t236 => ((spec_StillAt.f k l0 a1).bind fun t239 => (spec_LostAt.l0 k y232 t236 t239 0))) else (some y232)))) = some r := h
 clear h
 obtain ⟨y232, hy232⟩ : ∃ y_ : List (S29), y_ = (([] : List (S29))) := ⟨_, rfl⟩
 replace H : ((spec_l01In.f a1 (-1000000) 1000000).bind fun t235 => (if t235 = true then ((spec_StillAt.f k l0 (wrap64 (a1 - 1))).bind fun t236 => ((spec_StillAt.f k l0 a1).bind fun t239 => (spec_LostAt.l0 k y232 t236 t239 0))) else (some y232))) = some r := by first | (rw [hy232]; with_reducible exact H) | (have H2_ := (Option.bind_some _ _).symm.trans H; rw [hy232]; with_reducible exact H2_) | (have H2_ := (Option.bind_some _ _).symm.trans H; with_reducible exact H2_) | with_reducible exact H | (rw [hy232]; exact H) | exact H
 have Ny232 := Aside0.mk hy232
 clear hy232
 obtain ⟨t235, A3, H⟩ := bindE_ H
 by_cases c4 : t235 = true
 ·subst c4
  replace H := ite_t_ H
  obtain ⟨t236, A5, H⟩ := bindE_ H
  obtain ⟨t239, A6, H⟩ := bindE_ H
  have H' := Aside0.mk H
  clear H
  go_enter Try.func61, Try.ntmps61
  go_wp2_with (first | ((with_reducible refine gate_dst (N := 9) rfl ?_); refine Kd.R_lit k29 _ 29 ?hg (N := 9) ?hd (xs := ([] : List (S29))) (inner := []) (ok := fun _ => True) (okp := fun _ => True) ?hr ?hp (fun _ hk => hk) trivial (Below.refl _ _) (Nat.le_refl _) (by simp) ?_; (case hd => rfl); (case hg => rfl); (case hr => first | (go_simp; done) | (go_simp; rfl)); (case hp => exact (Reps.none _ _)); intro v233 w7 ho8 hb hg_ hnew_; clear hg_ hnew_; (first | rw [← Ny232.out] at ho8 | (simp only [Int.reduceToNat] at ho8; rw [← Ny232.out] at ho8)); have HO234 := Aside0.mk (Kd.R_lower ho8 bls_); replace HB := hbs_ hb; clear hb ho8) | ((with_reducible refine gate_callee (f := 90) rfl ?_); refine goesC_ (some 11) Try.func90 #[.int .i64 a1, .int .i64 (-1000000), .int .i64 1000000] ?_; (with_reducible refine (spec_l01In.calls a1 (-1000000) 1000000 true _ A3.out).mono ?_); rintro e w' ⟨rfl, ⟨nd, rfl⟩⟩; refine ⟨_, rfl, ?_⟩) | ((with_reducible refine gate_callee (f := 51) rfl ?_); refine goesC_ (some 17) Try.func51 #[.slice A0 l0.length c0, .int .i64 (wrap64 (a1 - 1))] ?_; (with_reducible refine (spec_StillAt.calls k _ _ l0 (wrap64 (a1 - 1)) t236 _ ?side1 ?side2 A5.out).mono ?_); (case side1 => repeat (first | exact (Kd.C_below HR0.out bl_) | (with_reducible refine Kd.C_alloc ?_ _) | (with_reducible refine Kd.C_drewN ?_ _) | (with_reducible refine Kd.C_drew ?_))); (case side2 => exact HC0.out); rintro e w9 ⟨v237, rfl, ho0, hb⟩; refine ⟨_, rfl, ?_⟩; have HO238 := Aside0.mk (Kd.R_lower (Kd.R_new' ho0 (Kd.R_lt (by (with_reducible repeat (first | apply Kd.R_alloc | apply Kd.R_drewN | apply Kd.R_drew)); exact HO234.out))) bls_); replace HO234 := Aside0.mk (Kd.R_elder' (by (with_reducible repeat (first | apply Kd.R_alloc | apply Kd.R_drewN | apply Kd.R_drew)); exact HO234.out) (Kd.R_base ho0) hb); replace HB := hbs_ hb; (try clear hb); (try clear hb2); (try clear hk); (try clear hi); (try clear ho0)) | ((with_reducible refine gate_callee (f := 51) rfl ?_); refine goesC_ (some 20) Try.func51 #[.slice A0 l0.length c0, .int .i64 a1] ?_; (with_reducible refine (spec_StillAt.calls k _ _ l0 a1 t239 _ ?side1 ?side2 A6.out).mono ?_); (case side1 => repeat (first | exact (Kd.C_below HR0.out HB.out) | (with_reducible refine Kd.C_alloc ?_ _) | (with_reducible refine Kd.C_drewN ?_ _) | (with_reducible refine Kd.C_drew ?_))); (case side2 => exact HC0.out); rintro e w10 ⟨v240, rfl, ho0, hb⟩; refine ⟨_, rfl, ?_⟩; have HO241 := Aside0.mk (Kd.R_lower (Kd.R_new' (Kd.R_new' ho0 (Kd.R_lt (by (with_reducible repeat (first | apply Kd.R_alloc | apply Kd.R_drewN | apply Kd.R_drew)); exact HO234.out))) (Kd.R_lt (by (with_reducible repeat (first | apply Kd.R_alloc | apply Kd.R_drewN | apply Kd.R_drew)); exact HO238.out))) bls_); replace HO234 := Aside0.mk (Kd.R_elder' (by (with_reducible repeat (first | apply Kd.R_alloc | apply Kd.R_drewN | apply Kd.R_drew)); exact HO234.out) (Kd.R_base ho0) hb); replace HO238 := Aside0.mk (Kd.R_elder' (by (with_reducible repeat (first | apply Kd.R_alloc | apply Kd.R_drewN | apply Kd.R_drew)); exact HO238.out) (Kd.R_base ho0) hb); replace HB := hbs_ hb; (try clear hb); (try clear hb2); (try clear hk); (try clear hi); (try clear ho0)))
  go_loopg [5, 8] k (fun kq v5 v8 w' => ∃ (x5_1 : List (S29)) (x8_1 : Int), v8 = .int .i64 x8_1 ∧ Aside0 (spec_LostAt.l0 kq x5_1 t236 t239 x8_1 = some r) ∧ Aside0 (kq ≤ k) ∧ Aside0 (Kd.R k29 29 w' w.heap.size (fun k_ => some k_ ≠ (v237 : Value).ownBlock ∧ some k_ ≠ (v240 : Value).ownBlock) v5 x5_1) ∧ Aside0 (Kd.R k29 29 w' w.heap.size (fun k_ => some k_ ≠ (v5 : Value).ownBlock ∧ some k_ ≠ (v240 : Value).ownBlock) v237 t236) ∧ Aside0 (Kd.R k29 29 w' w.heap.size (fun k_ => some k_ ≠ (v5 : Value).ownBlock ∧ some k_ ≠ (v237 : Value).ownBlock) v240 t239) ∧ Aside0 (Below w.heap.size w w'))
  case atStart => exact ⟨(y232), (0), (by first | rfl | (simp; done) | (simp [*]; done)), H', ⟨Nat.le_refl _⟩, ⟨by (with_reducible repeat (first | apply Kd.R_alloc | apply Kd.R_drewN | apply Kd.R_drew)); exact Kd.R_mono HO234.out (fun _ hk => ⟨hk.1.2, hk.2⟩)⟩, ⟨by (with_reducible repeat (first | apply Kd.R_alloc | apply Kd.R_drewN | apply Kd.R_drew)); exact Kd.R_mono HO238.out (fun _ hk => ⟨hk.1.2, hk.2⟩)⟩, ⟨by (with_reducible repeat (first | apply Kd.R_alloc | apply Kd.R_drewN | apply Kd.R_drew)); exact Kd.R_mono HO241.out (fun _ hk => ⟨hk.1.2, hk.2⟩)⟩, ⟨bl_⟩⟩
  case round =>
   clear H'
   try clear p2
   try clear c4
   try clear c5
   try clear c6
   try clear p6
   try clear c9
   obtain ⟨x5_1, x8_1, rfl, HA, HK1, HO_5, HO_6, HO_7, HB⟩ := hrel
   cases gk with
   | zero => exact absurd HA.out (by simp [spec_LostAt.l0])
   | succ k1 =>
    have H := HA.out
    clear HA
    simp only [spec_LostAt.l0] at H
    by_cases c11 : x8_1 < (t236.length : Int)
    ·rw [if_pos c11] at H
     have c11b0 : decide (x8_1 < (t236.length : Int)) = true := decide_eq_true c11
     clear c11
     by_cases c12 : 0 ≤ x8_1
     ·rw [if_pos c12] at H
      have c12b0 : decide (0 ≤ x8_1) = true := decide_eq_true c12
      clear c12
      obtain ⟨t243, A13, H⟩ := bindE_ H
      by_cases c14 : t243 = true
      ·subst c14
       replace H := ite_t_ H
       have H' := Aside0.mk H
       clear H
       obtain ⟨Ao15, co15, eo15⟩ := Kd.R_slice HO_6.out
       subst eo15
       have p242 : 0 ≤ (x8_1 : Int) := of_decide_eq_true (by first | (with_reducible assumption) | assumption)
       have q242 : x8_1 < (t236.length : Int) := of_decide_eq_true (by first | (with_reducible assumption) | assumption)
       obtain ⟨ad242, e242, hx242_0, hx242_1, hx242_2⟩ := at_T29 (Kd.R_reads' HO_6.out).2.2 x8_1 p242 q242
       cases e242
       replace p242 := eq_true p242
       replace q242 := eq_true q242
       obtain ⟨Ao16, co16, eo16⟩ := Kd.R_slice HO_7.out
       subst eo16
       go_wp2_with (first | ((with_reducible refine gate_callee (f := 77) rfl ?_); refine goesC_ (some 32) Try.func77 #[.slice Ao16 t239.length co16, .agg #[.int .i64 ((rd_T29 t236 x8_1).f0.f0), .int .i64 ((rd_T29 t236 x8_1).f0.f1), .int .i64 ((rd_T29 t236 x8_1).f1)]] ?_; (with_reducible refine (spec_l06Has.calls k1 _ _ t239 ((rd_T29 t236 x8_1).f0.f0) ((rd_T29 t236 x8_1).f0.f1) ((rd_T29 t236 x8_1).f1) true _ ?side1 ?side2 A13.out).mono ?_); (case side1 => repeat (first | exact (Kd.R_reads' HO_7.out).2.2 | (with_reducible refine Kd.C_alloc ?_ _) | (with_reducible refine Kd.C_drewN ?_ _) | (with_reducible refine Kd.C_drew ?_))); (case side2 => exact (Kd.R_reads' HO_7.out).2.1); rintro e w17 ⟨rfl, hb⟩; refine ⟨_, rfl, ?_⟩; replace HO_5 := Aside0.mk (Kd.R_below (by (with_reducible repeat (first | apply Kd.R_alloc | apply Kd.R_drewN | apply Kd.R_drew)); exact HO_5.out) hb); replace HO_6 := Aside0.mk (Kd.R_below (by (with_reducible repeat (first | apply Kd.R_alloc | apply Kd.R_drewN | apply Kd.R_drew)); exact HO_6.out) hb); replace HO_7 := Aside0.mk (Kd.R_below (by (with_reducible repeat (first | apply Kd.R_alloc | apply Kd.R_drewN | apply Kd.R_drew)); exact HO_7.out) hb); replace HB := hbs_ hb; clear hb))
       go_roundg k1
       case measure => have := HK1.out; omega
       case rel => exact ⟨(x5_1), (wrap64 (x8_1 + 1)), (by first | rfl | (simp; done) | (simp [*]; done)), H', ⟨by have := HK1.out; omega⟩, ⟨by (with_reducible repeat (first | apply Kd.R_alloc | apply Kd.R_drewN | apply Kd.R_drew)); exact HO_5.out⟩, ⟨by (with_reducible repeat (first | apply Kd.R_alloc | apply Kd.R_drewN | apply Kd.R_drew)); exact HO_6.out⟩, ⟨by (with_reducible repeat (first | apply Kd.R_alloc | apply Kd.R_drewN | apply Kd.R_drew)); exact HO_7.out⟩, ⟨bl_⟩⟩
      ·replace c14 := Bool.eq_false_iff.mpr c14
       subst c14
       replace H := ite_f_ H
       by_cases c18 : x5_1.length < 5864062014805
       ·rw [if_pos c18] at H
        have LMc18 := Aside0.mk c18
        clear c18
        obtain ⟨y245, hy245⟩ : ∃ y_ : List (S29), y_ = (x5_1 ++ [(⟨(⟨(rd_T29 t236 x8_1).f0.f0, (rd_T29 t236 x8_1).f0.f1⟩ : S27), (rd_T29 t236 x8_1).f1⟩ : S29)]) := ⟨_, rfl⟩
        replace H : (spec_LostAt.l0 k1 y245 t236 t239 (wrap64 (x8_1 + 1))) = some r := by first | (rw [hy245]; with_reducible exact H) | (have H2_ := (Option.bind_some _ _).symm.trans H; rw [hy245]; with_reducible exact H2_) | (have H2_ := (Option.bind_some _ _).symm.trans H; with_reducible exact H2_) | with_reducible exact H | (rw [hy245]; exact H) | exact H
        have Ny245 := Aside0.mk hy245
        clear hy245
        have H' := Aside0.mk H
        clear H
        obtain ⟨Ao19, co19, eo19⟩ := Kd.R_slice HO_6.out
        subst eo19
        have p242 : 0 ≤ (x8_1 : Int) := of_decide_eq_true (by first | (with_reducible assumption) | assumption)
        have q242 : x8_1 < (t236.length : Int) := of_decide_eq_true (by first | (with_reducible assumption) | assumption)
        obtain ⟨ad242, e242, hx242_0, hx242_1, hx242_2⟩ := at_T29 (Kd.R_reads' HO_6.out).2.2 x8_1 p242 q242
        cases e242
        replace p242 := eq_true p242
        replace q242 := eq_true q242
        obtain ⟨Ao20, co20, eo20⟩ := Kd.R_slice HO_7.out
        subst eo20
        go_wp2_with (first | ((with_reducible refine gate_callee (f := 77) rfl ?_); refine goesC_ (some 32) Try.func77 #[.slice Ao20 t239.length co20, .agg #[.int .i64 ((rd_T29 t236 x8_1).f0.f0), .int .i64 ((rd_T29 t236 x8_1).f0.f1), .int .i64 ((rd_T29 t236 x8_1).f1)]] ?_; (with_reducible refine (spec_l06Has.calls k1 _ _ t239 ((rd_T29 t236 x8_1).f0.f0) ((rd_T29 t236 x8_1).f0.f1) ((rd_T29 t236 x8_1).f1) false _ ?side1 ?side2 A13.out).mono ?_); (case side1 => repeat (first | exact (Kd.R_reads' HO_7.out).2.2 | (with_reducible refine Kd.C_alloc ?_ _) | (with_reducible refine Kd.C_drewN ?_ _) | (with_reducible refine Kd.C_drew ?_))); (case side2 => exact (Kd.R_reads' HO_7.out).2.1); rintro e w21 ⟨rfl, hb⟩; refine ⟨_, rfl, ?_⟩; replace HO_5 := Aside0.mk (Kd.R_below (by (with_reducible repeat (first | apply Kd.R_alloc | apply Kd.R_drewN | apply Kd.R_drew)); exact HO_5.out) hb); replace HO_6 := Aside0.mk (Kd.R_below (by (with_reducible repeat (first | apply Kd.R_alloc | apply Kd.R_drewN | apply Kd.R_drew)); exact HO_6.out) hb); replace HO_7 := Aside0.mk (Kd.R_below (by (with_reducible repeat (first | apply Kd.R_alloc | apply Kd.R_drewN | apply Kd.R_drew)); exact HO_7.out) hb); replace HB := hbs_ hb; clear hb; have p244 : 0 ≤ (x8_1 : Int) := of_decide_eq_true (by first | (with_reducible assumption) | assumption); have q244 : x8_1 < (t236.length : Int) := of_decide_eq_true (by first | (with_reducible assumption) | assumption); obtain ⟨ad244, e244, hx244_0, hx244_1, hx244_2⟩ := at_T29 (Kd.R_reads' HO_6.out).2.2 x8_1 p244 q244; obtain rfl : ad242 = ad244 := (by injection e244); replace p244 := eq_true p244; replace q244 := eq_true q244) | ((with_reducible refine gate_builtin (b := .append) (xs := #[.tmp 34, .tmp 39]) rfl ?_); at_builtin; refine Kd.R_append k29 (w0 := w) w.heap.size rfl (.tmp 34) (.tmp 39) 79 29 (.agg #[(.int .i64 0), (.int .i64 0), (.int .i64 0)]) 24 rfl Try.underlying79 info29 rfl (by decide) (by omega) u5 x5_1 (⟨(⟨(rd_T29 t236 x8_1).f0.f0, (rd_T29 t236 x8_1).f0.f1⟩ : S27), (rd_T29 t236 x8_1).f1⟩ : S29) [.int .i64 ((rd_T29 t236 x8_1).f0.f0), .int .i64 ((rd_T29 t236 x8_1).f0.f1), .int .i64 ((rd_T29 t236 x8_1).f1)] (fun k_ => some k_ ≠ (.slice (some ad242) t236.length co19 : Value).ownBlock ∧ some k_ ≠ (.slice Ao20 t239.length co20 : Value).ownBlock) (fun _ => False) rfl rfl ?aP (fun _ hk => hk.elim) ?aF ?aO ?aB ?aS ?aL ?_; (case aP => exact k29_mkM _ _ _ (⟨(⟨(rd_T29 t236 x8_1).f0.f0, (rd_T29 t236 x8_1).f0.f1⟩ : S27), (rd_T29 t236 x8_1).f1⟩ : S29)); (case aB => exact bl_); (case aF => exact (fun k_ hk => ⟨Kd.fresh' (Kd.R_lt (by (with_reducible repeat (first | apply Kd.R_alloc | apply Kd.R_drewN | apply Kd.R_drew)); exact HO_6.out)) k_ hk, Kd.fresh' (Kd.R_lt (by (with_reducible repeat (first | apply Kd.R_alloc | apply Kd.R_drewN | apply Kd.R_drew)); exact HO_7.out)) k_ hk⟩)); (case aO => exact (by (with_reducible repeat (first | apply Kd.R_alloc | apply Kd.R_drewN | apply Kd.R_drew)); exact HO_5.out)); (case aS => exact bls_); (case aL => have := LMc18.out; omega); intro v246 w22 ho hb hg hat; rw [← Ny245.out] at ho; replace HO_6 := Aside0.mk (Kd.R_after (ok := (fun k_ => some k_ ≠ (.slice Ao20 t239.length co20 : Value).ownBlock)) (by (with_reducible repeat (first | apply Kd.R_alloc | apply Kd.R_drewN | apply Kd.R_drew)); exact Kd.R_mono HO_6.out (fun _ hk => ⟨hk.2, hk.1⟩)) hg hat); replace HO_7 := Aside0.mk (Kd.R_after (ok := (fun k_ => some k_ ≠ (.slice (some ad242) t236.length co19 : Value).ownBlock)) (by (with_reducible repeat (first | apply Kd.R_alloc | apply Kd.R_drewN | apply Kd.R_drew)); exact Kd.R_mono HO_7.out (fun _ hk => ⟨hk.2, hk.1⟩)) hg hat); replace HB := Aside0.mk (hb); have HO247 := Aside0.mk (ho); clear HO_5; clear ho hb hg hat))
        go_roundg k1
        case measure => have := HK1.out; omega
        case rel => exact ⟨(y245), (wrap64 (x8_1 + 1)), (by first | rfl | (simp; done) | (simp [*]; done)), H', ⟨by have := HK1.out; omega⟩, ⟨by (with_reducible repeat (first | apply Kd.R_alloc | apply Kd.R_drewN | apply Kd.R_drew)); exact HO247.out⟩, ⟨by (with_reducible repeat (first | apply Kd.R_alloc | apply Kd.R_drewN | apply Kd.R_drew)); exact Kd.R_mono HO_6.out (fun _ hk => ⟨hk.2, hk.1⟩)⟩, ⟨by (with_reducible repeat (first | apply Kd.R_alloc | apply Kd.R_drewN | apply Kd.R_drew)); exact Kd.R_mono HO_7.out (fun _ hk => ⟨hk.2, hk.1⟩)⟩, ⟨bl_⟩⟩
       ·rw [if_neg c18] at H
        exact absurd H (by simp)
     ·rw [if_neg c12] at H
      exact absurd H (by simp)
    ·rw [if_neg c11] at H
     have c11b0 : decide (x8_1 < (t236.length : Int)) = false := decide_eq_false c11
     clear c11
     obtain rfl := Option.some.inj H
     obtain ⟨Ao23, co23, eo23⟩ := Kd.R_slice HO_6.out
     subst eo23
     go_wp2
     go_ret
     exact ⟨_, eq_, by (with_reducible repeat (first | apply Kd.R_alloc | apply Kd.R_drewN | apply Kd.R_drew)); exact Kd.R_mono HO_5.out (fun _ hk => trivial), bl_⟩
 ·replace c4 := Bool.eq_false_iff.mpr c4
  subst c4
  replace H := ite_f_ H
  obtain rfl := Option.some.inj H
  go_enter Try.func61, Try.ntmps61
  go_wp2_with (first | ((with_reducible refine gate_dst (N := 9) rfl ?_); refine Kd.R_lit k29 _ 29 ?hg (N := 9) ?hd (xs := ([] : List (S29))) (inner := []) (ok := fun _ => True) (okp := fun _ => True) ?hr ?hp (fun _ hk => hk) trivial (Below.refl _ _) (Nat.le_refl _) (by simp) ?_; (case hd => rfl); (case hg => rfl); (case hr => first | (go_simp; done) | (go_simp; rfl)); (case hp => exact (Reps.none _ _)); intro v233 w24 ho25 hb hg_ hnew_; clear hg_ hnew_; (first | rw [← Ny232.out] at ho25 | (simp only [Int.reduceToNat] at ho25; rw [← Ny232.out] at ho25)); have HO234 := Aside0.mk (Kd.R_lower ho25 bls_); replace HB := hbs_ hb; clear hb ho25) | ((with_reducible refine gate_callee (f := 90) rfl ?_); refine goesC_ (some 11) Try.func90 #[.int .i64 a1, .int .i64 (-1000000), .int .i64 1000000] ?_; (with_reducible refine (spec_l01In.calls a1 (-1000000) 1000000 false _ A3.out).mono ?_); rintro e w' ⟨rfl, ⟨nd, rfl⟩⟩; refine ⟨_, rfl, ?_⟩))
  go_ret
  exact ⟨_, eq_, by (with_reducible repeat (first | apply Kd.R_alloc | apply Kd.R_drewN | apply Kd.R_drew)); exact HO234.out, bl_⟩
def impl_in.f (a0 : Int) (a1 : Int) (a2 : Int) : Option (Bool) := if a0 ≥ a1 then (some (decide (a0 ≤ a2))) else (some false)
set_option maxHeartbeats 8000000 in
set_option maxRecDepth 100000 in
theorem impl_in.calls (a0 : Int) (a1 : Int) (a2 : Int) (r : Bool) (w : World) (h : impl_in.f a0 a1 a2 = some r) :
  Calls Try.prog 83 #[.int .i64 a0, .int .i64 a1, .int .i64 a2] w fun e w' => e = .returned (.bool r) ∧ Drawn0 w w' := by
 have H : (if a0 ≥ a1 then (some (decide (a0 ≤ a2))) else (some false)) = some r := h
 clear h
 by_cases c4 : a0 ≥ a1
 ·rw [if_pos c4] at H
  have c4b0 : decide (a1 ≤ a0) = true := decide_eq_true c4
  clear c4
  obtain rfl := Option.some.inj H
  go_enter Try.func83, Try.ntmps83
  go_wp2
  go_ret
  exact ⟨by first | rfl | (simp; done) | (simp [*]; done), by repeat (first | exact Drawn0.refl _ | apply Drawn0.step)⟩
 ·rw [if_neg c4] at H
  have c4b0 : decide (a1 ≤ a0) = false := decide_eq_false c4
  clear c4
  obtain rfl := Option.some.inj H
  go_enter Try.func83, Try.ntmps83
  go_wp2
  go_ret
  exact ⟨by first | rfl | (simp; done) | (simp [*]; done), by repeat (first | exact Drawn0.refl _ | apply Drawn0.step)⟩
def impl_RoleOk.f (a0_0 : Int) (a0_1 : Int) : Option (Bool) := (impl_in.f a0_0 0 5).bind fun t249 => (if t249 = true then ((impl_in.f a0_1 0 3).bind fun t250 => (some t250)) else (some false))
set_option maxHeartbeats 8000000 in
set_option maxRecDepth 100000 in
theorem impl_RoleOk.calls (a0_0 : Int) (a0_1 : Int) (r : Bool) (w : World) (h : impl_RoleOk.f a0_0 a0_1 = some r) :
  Calls Try.prog 103 #[.agg #[.int .i64 a0_0, .int .i64 a0_1]] w fun e w' => e = .returned (.bool r) ∧ Below w.heap.size w w' := by
 have hu27 := Try.underlying27
 have HB := Aside0.mk (Below.refl w.heap.size w)
 have H : ((impl_in.f a0_0 0 5).bind fun t249 => (if t249 = true then ((impl_in.f a0_1 0 3).bind fun t250 => (some t250)) else (some false))) = some r := h
 clear h
 obtain ⟨t249, A2, H⟩ := bindE_ H
 by_cases c3 : t249 = true
 ·subst c3
  replace H := ite_t_ H
  obtain ⟨t250, A4, H⟩ := bindE_ H
  obtain rfl := Option.some.inj H
  go_enter Try.func103, Try.ntmps103
  go_wp2_with (first | ((with_reducible refine gate_dst (N := 1) rfl ?_); refine box_event ?hg (N := 1) ?hd (cs := #[.int .i64 a0_0, .int .i64 a0_1]) (t := 27) ?hr ?_; (case hd => rfl); (case hg => rfl); (case hr => first | (go_simp; done) | (go_simp; rfl)); intro gb248 hg w5 hbox hb; have BK248 := Aside0.mk (hbox); have GW248 := gs_ hg; have GE248 := gs_ hg; replace HB := hbs_ hb; clear hb hbox hg; have hcz6 := blk_cell BK248.out; have hfz6 := blk_frozen BK248.out) | ((with_reducible refine gate_callee (f := 83) rfl ?_); refine goesC_ (some 5) Try.func83 #[.int .i64 a0_0, .int .i64 0, .int .i64 5] ?_; (with_reducible refine (impl_in.calls a0_0 0 5 true _ A2.out).mono ?_); rintro e w' ⟨rfl, ⟨nd, rfl⟩⟩; refine ⟨_, rfl, ?_⟩) | (go_at_call 83; (with_reducible refine (impl_in.calls a0_1 0 3 t250 _ A4.out).mono ?_); rintro e w' ⟨rfl, ⟨nd, rfl⟩⟩))
  go_ret
  exact ⟨eq_, bl_⟩
 ·replace c3 := Bool.eq_false_iff.mpr c3
  subst c3
  replace H := ite_f_ H
  obtain rfl := Option.some.inj H
  go_enter Try.func103, Try.ntmps103
  go_wp2_with (first | ((with_reducible refine gate_dst (N := 1) rfl ?_); refine box_event ?hg (N := 1) ?hd (cs := #[.int .i64 a0_0, .int .i64 a0_1]) (t := 27) ?hr ?_; (case hd => rfl); (case hg => rfl); (case hr => first | (go_simp; done) | (go_simp; rfl)); intro gb248 hg w7 hbox hb; have BK248 := Aside0.mk (hbox); have GW248 := gs_ hg; have GE248 := gs_ hg; replace HB := hbs_ hb; clear hb hbox hg; have hcz8 := blk_cell BK248.out; have hfz8 := blk_frozen BK248.out) | ((with_reducible refine gate_callee (f := 83) rfl ?_); refine goesC_ (some 5) Try.func83 #[.int .i64 a0_0, .int .i64 0, .int .i64 5] ?_; (with_reducible refine (impl_in.calls a0_0 0 5 false _ A2.out).mono ?_); rintro e w' ⟨rfl, ⟨nd, rfl⟩⟩; refine ⟨_, rfl, ?_⟩))
  go_ret
  exact ⟨eq_, bl_⟩
def impl_isPerson.f (a0 : Int) : Option (Bool) := (impl_in.f a0 0 5).bind fun t251 => (some t251)
set_option maxHeartbeats 8000000 in
set_option maxRecDepth 100000 in
theorem impl_isPerson.calls (a0 : Int) (r : Bool) (w : World) (h : impl_isPerson.f a0 = some r) :
  Calls Try.prog 121 #[.int .i64 a0] w fun e w' => e = .returned (.bool r) ∧ Drawn0 w w' := by
 have H : ((impl_in.f a0 0 5).bind fun t251 => (some t251)) = some r := h
 clear h
 obtain ⟨t251, A2, H⟩ := bindE_ H
 obtain rfl := Option.some.inj H
 go_enter Try.func121, Try.ntmps121
 go_wp2_with (first | ((with_reducible refine gate_callee (f := 83) rfl ?_); refine goesC_ (some 4) Try.func83 #[.int .i64 a0, .int .i64 0, .int .i64 5] ?_; (with_reducible refine (impl_in.calls a0 0 5 t251 _ A2.out).mono ?_); rintro e w' ⟨rfl, ⟨nd, rfl⟩⟩; refine ⟨_, rfl, ?_⟩))
 go_ret
 exact ⟨by first | rfl | (simp; done) | (simp [*]; done), by repeat (first | exact Drawn0.refl _ | apply Drawn0.step)⟩
end Go.Proofs.Ytppdmcimddhbaaa.PH
