import Derived.Test.YtcbhmcpdnokbiaaKLPAx8
-- printed by wip/tools
namespace Go.Proofs.Ytcbhmcpdnokbiaa.PA
open Go.RowKit Go.Proofs.YtcbhmcpdnokbiaaW.PrintWords Go.Proofs.YtcbhmcpdnokbiaaW.PrintLast Go.Proofs.YtcbhmcpdnokbiaaW.PrintMore
attribute [local go_sem] max2_int min2_int max_two min_two max_three min_three max_four min_four
set_option linter.unusedVariables false
set_option linter.unusedSimpArgs false
attribute [local go_sem high] eqA27 eqA29
def impl_Fact_48.l0 : Nat → List (S29) → Int → Int → Int → Int → Int → Option (Int)
 | 0, _, _, _, _, _, _ => none
 | k + 1, x0, x7, x8, x313000, x313001, x313002 => if x8 < x7 then (if 0 ≤ x8 then (if x8 < (x0.length : Int) then (if ((x313000 == ((rd_T29 x0 x8).f0.f0) && (x313001 == ((rd_T29 x0 x8).f0.f1))) && (x313002 == ((rd_T29 x0 x8).f1))) = true then (some x8) else (impl_Fact_48.l0 k x0 x7 (wrap64 (x8 + 1)) x313000 x313001 x313002)) else (none)) else (none)) else (some (-1))
def impl_Fact_48.f (k : Nat) (l0 : List (S29)) (a1_0 : Int) (a1_1 : Int) (a1_2 : Int) : Option (Int) := impl_Fact_48.l0 k l0 (l0.length : Int) 0 a1_0 a1_1 a1_2
set_option maxHeartbeats 8000000 in
set_option maxRecDepth 100000 in
theorem impl_Fact_48.calls (k : Nat) (A0 : Option Addr) (c0 : Nat) (l0 : List (S29)) (a1_0 : Int) (a1_1 : Int) (a1_2 : Int) (r : Int) (w : World) (hr0 : Kd.C k29 w A0 l0.length l0) (hc0 : l0.length ≤ c0) (h : impl_Fact_48.f k l0 a1_0 a1_1 a1_2 = some r) :
  Calls Try.prog 48 #[.slice A0 l0.length c0, .agg #[.int .i64 a1_0, .int .i64 a1_1, .int .i64 a1_2]] w fun e w' => e = .returned (.int .i64 r) ∧ Below w.heap.size w w' := by
 have hu29 := Try.underlying29
 have HR0 := aa_ hr0
 have HC0 := aa_ hc0
 clear hr0 hc0
 have HB := aa_ (Below.refl w.heap.size w)
 have H : (impl_Fact_48.l0 k l0 (l0.length : Int) 0 a1_0 a1_1 a1_2) = some r := h
 clear h
 have H' := aa_ H
 clear H
 go_enter Try.func48, Try.ntmps48
 go_wp2_with (first | ((with_reducible refine gD_ 3 rfl ?_); refine bx_ (N := 3) (cs := #[.int .i64 a1_0, .int .i64 a1_1, .int .i64 a1_2]) (t := 29) ?_; intro gb312 hg w3 hbox hb; have BK312 := aa_ (hbox); have GW312 := gs_ hg; have GE312 := gs_ hg; replace HB := hbs_ hb; clear hb hbox hg))
 repeat (go_quiet (first | ((with_reducible refine gD_ 3 rfl ?_); refine bx_ (N := 3) (cs := #[.int .i64 a1_0, .int .i64 a1_1, .int .i64 a1_2]) (t := 29) ?_; intro gb312 hg w3 hbox hb; have BK312 := aa_ (hbox); have GW312 := gs_ hg; have GE312 := gs_ hg; replace HB := hbs_ hb; clear hb hbox hg)); try go_wp2_with (first | ((with_reducible refine gD_ 3 rfl ?_); refine bx_ (N := 3) (cs := #[.int .i64 a1_0, .int .i64 a1_1, .int .i64 a1_2]) (t := 29) ?_; intro gb312 hg w3 hbox hb; have BK312 := aa_ (hbox); have GW312 := gs_ hg; have GE312 := gs_ hg; replace HB := hbs_ hb; clear hb hbox hg)))
 go_loopg [8] k (fun kq v8 w' => ∃ (x8_1 : Int), v8 = .int .i64 x8_1 ∧ Aside0 (impl_Fact_48.l0 kq l0 (l0.length : Int) x8_1 a1_0 a1_1 a1_2 = some r) ∧ Aside0 (kq ≤ k) ∧ Aside0 (w'.heap[gb312]? = some (.cells #[.int .i64 a1_0, .int .i64 a1_1, .int .i64 a1_2] 29 (0, 0))) ∧ Aside0 (Below w.heap.size w w'))
 case atStart => exact ⟨(0), rf_, H', ⟨Nat.le_refl _⟩, ⟨bk_ BK312⟩, ⟨bl_⟩⟩
 case round =>
  clear H'
  try clear p2
  obtain ⟨x8_1, rfl, HA, HK1, BK312, HB⟩ := hrel
  cases gk with
  | zero => exact absurd HA.out (by simp [impl_Fact_48.l0])
  | succ k1 =>
   have H := HA.out
   clear HA
   simp only [impl_Fact_48.l0] at H
   by_cases c4 : x8_1 < (l0.length : Int)
   ·rw [if_pos c4] at H
    have c4b0 : decide (x8_1 < (l0.length : Int)) = true := decide_eq_true c4
    clear c4
    obtain ⟨c5b0, H⟩ := ifd_ H
    obtain ⟨c6b0, H⟩ := ifd_ H
    have HC7 := aa_ H
    clear H
    have hcz8 := blk_cell BK312.out
    have hfz8 := blk_frozen BK312.out
    have p313 : 0 ≤ (x8_1 : Int) := od_
    have q313 : x8_1 < (l0.length : Int) := od_
    obtain ⟨ad313, e313, hx313_0, hx313_1, hx313_2⟩ := at_T29 (Kd.C_below HR0.out HB.out) x8_1 p313 q313
    cases e313
    replace p313 := eq_true p313
    replace q313 := eq_true q313
    go_upto_if 16 with (fail)
    repeat (go_quiet (fail); go_upto_if 16 with (fail))
    have H := HC7.out
    clear HC7
    by_cases c9 : ((a1_0 == ((rd_T29 l0 x8_1).f0.f0) && (a1_1 == ((rd_T29 l0 x8_1).f0.f1))) && (a1_2 == ((rd_T29 l0 x8_1).f1))) = true
    ·rw [if_pos c9] at H
     have c9b0 : ((a1_0 == ((rd_T29 l0 x8_1).f0.f0) && (a1_1 == ((rd_T29 l0 x8_1).f0.f1))) && (a1_2 == ((rd_T29 l0 x8_1).f1))) = true := c9
     clear c9
     (first | rw [c9b0] | (simp only [i64_w, i32_w]; rw [c9b0]) | skip)
     obtain rfl := Option.some.inj H
     go_wp2
     repeat (go_quiet (fail); try go_wp2)
     go_ret
     exact ⟨eq_, bl_⟩
    ·rw [if_neg c9] at H
     have c9b0 : ((a1_0 == ((rd_T29 l0 x8_1).f0.f0) && (a1_1 == ((rd_T29 l0 x8_1).f0.f1))) && (a1_2 == ((rd_T29 l0 x8_1).f1))) = false := by simpa using c9
     clear c9
     (first | rw [c9b0] | (simp only [i64_w, i32_w]; rw [c9b0]) | skip)
     have H' := aa_ H
     clear H
     go_wp2
     repeat (go_quiet (fail); try go_wp2)
     go_roundg k1
     case measure => have := HK1.out; omega
     case rel => exact ⟨(wrap64 (x8_1 + 1)), rf_, H', ⟨by have := HK1.out; omega⟩, ⟨bk_ BK312⟩, ⟨bl_⟩⟩
   ·rw [if_neg c4] at H
    have c4b0 : decide (x8_1 < (l0.length : Int)) = false := decide_eq_false c4
    clear c4
    obtain rfl := Option.some.inj H
    go_wp2
    repeat (go_quiet (fail); try go_wp2)
    go_ret
    exact ⟨eq_, bl_⟩
def impl_Fact_40.f (k : Nat) (l0 : List (S29)) (a1_0 : Int) (a1_1 : Int) (a1_2 : Int) : Option (Bool) := (impl_Fact_48.f k l0 a1_0 a1_1 a1_2).bind fun t315 => (some (decide (t315 ≥ 0)))
set_option maxHeartbeats 8000000 in
set_option maxRecDepth 100000 in
theorem impl_Fact_40.calls (k : Nat) (A0 : Option Addr) (c0 : Nat) (l0 : List (S29)) (a1_0 : Int) (a1_1 : Int) (a1_2 : Int) (r : Bool) (w : World) (hr0 : Kd.C k29 w A0 l0.length l0) (hc0 : l0.length ≤ c0) (h : impl_Fact_40.f k l0 a1_0 a1_1 a1_2 = some r) :
  Calls Try.prog 40 #[.slice A0 l0.length c0, .agg #[.int .i64 a1_0, .int .i64 a1_1, .int .i64 a1_2]] w fun e w' => e = .returned (.bool r) ∧ Below w.heap.size w w' := by
 have hu29 := Try.underlying29
 have HR0 := aa_ hr0
 have HC0 := aa_ hc0
 clear hr0 hc0
 have HB := aa_ (Below.refl w.heap.size w)
 have H : ((impl_Fact_48.f k l0 a1_0 a1_1 a1_2).bind fun t315 => (some (decide (t315 ≥ 0)))) = some r := h
 clear h
 obtain ⟨t315, A3, H⟩ := bindE_ H
 obtain rfl := Option.some.inj H
 go_enter Try.func40, Try.ntmps40
 go_wp2_with (first | ((with_reducible refine gD_ 3 rfl ?_); refine bx_ (N := 3) (cs := #[.int .i64 a1_0, .int .i64 a1_1, .int .i64 a1_2]) (t := 29) ?_; intro gb314 hg w4 hbox hb; have BK314 := aa_ (hbox); have GW314 := gs_ hg; have GE314 := gs_ hg; replace HB := hbs_ hb; clear hb hbox hg; obtain ⟨hcz5, hfz5⟩ := bcf_ BK314) | ((with_reducible refine gC_ 48 rfl ?_); refine goesC_ (some 7) Try.func48 #[.slice A0 l0.length c0, .agg #[.int .i64 a1_0, .int .i64 a1_1, .int .i64 a1_2]] ?_; (with_reducible refine (impl_Fact_48.calls k _ _ l0 a1_0 a1_1 a1_2 t315 _ ?side1 ?side2 A3.out).mono ?_); (case side1 => repeat (first | exact (Kd.C_below HR0.out HB.out) | (with_reducible refine Kd.C_alloc ?_ _) | (with_reducible refine Kd.C_drewN ?_ _) | (with_reducible refine Kd.C_drew ?_))); (case side2 => exact HC0.out); rintro e w6 ⟨rfl, hb⟩; refine ⟨_, rfl, ?_⟩; replace BK314 := bkb_ BK314 hb; replace HB := hbs_ hb; clear hb))
 go_ret
 exact ⟨eq_, bl_⟩
-- NOT PRINTED: function 67 (impl_derive_1)
def impl_factOk.f (a0_0 : Int) (a0_1 : Int) (a0_2 : Int) : Option (Bool) := (impl_RoleOk.f a0_0 a0_1).bind fun t317 => (if t317 = true then ((impl_isPerson.f a0_2).bind fun t318 => (some t318)) else (some false))
set_option maxHeartbeats 8000000 in
set_option maxRecDepth 100000 in
theorem impl_factOk.calls (a0_0 : Int) (a0_1 : Int) (a0_2 : Int) (r : Bool) (w : World) (h : impl_factOk.f a0_0 a0_1 a0_2 = some r) :
  Calls Try.prog 75 #[.agg #[.int .i64 a0_0, .int .i64 a0_1, .int .i64 a0_2]] w fun e w' => e = .returned (.bool r) ∧ Below w.heap.size w w' := by
 have hu29 := Try.underlying29
 have hu27 := Try.underlying27
 have HB := aa_ (Below.refl w.heap.size w)
 have H : ((impl_RoleOk.f a0_0 a0_1).bind fun t317 => (if t317 = true then ((impl_isPerson.f a0_2).bind fun t318 => (some t318)) else (some false))) = some r := h
 clear h
 obtain ⟨t317, A2, H⟩ := bindE_ H
 by_cases c3 : t317 = true
 ·subst c3
  replace H := ite_t_ H
  obtain ⟨t318, A4, H⟩ := bindE_ H
  obtain rfl := Option.some.inj H
  go_enter Try.func75, Try.ntmps75
  go_wp2_with (first | ((with_reducible refine gD_ 1 rfl ?_); refine bx_ (N := 1) (cs := #[.int .i64 a0_0, .int .i64 a0_1, .int .i64 a0_2]) (t := 29) ?_; intro gb316 hg w5 hbox hb; have BK316 := aa_ (hbox); have GW316 := gs_ hg; have GE316 := gs_ hg; replace HB := hbs_ hb; clear hb hbox hg; obtain ⟨hcz6, hfz6⟩ := bcf_ BK316) | ((with_reducible refine gC_ 36 rfl ?_); refine goesC_ (some 5) Try.func36 #[.agg #[.int .i64 a0_0, .int .i64 a0_1]] ?_; (with_reducible refine (impl_RoleOk.calls a0_0 a0_1 true _ A2.out).mono ?_); rintro e w7 ⟨rfl, hb⟩; refine ⟨_, rfl, ?_⟩; replace BK316 := bkb_ BK316 hb; replace HB := hbs_ hb; clear hb; obtain ⟨hcz8, hfz8⟩ := bcf_ BK316) | (go_at_call 37; (with_reducible refine (impl_isPerson.calls a0_2 t318 _ A4.out).mono ?_); rintro e w' ⟨rfl, ⟨nd, rfl⟩⟩))
  go_ret
  exact ⟨eq_, bl_⟩
 ·replace c3 := Bool.eq_false_iff.mpr c3
  subst c3
  replace H := ite_f_ H
  obtain rfl := Option.some.inj H
  go_enter Try.func75, Try.ntmps75
  go_wp2_with (first | ((with_reducible refine gD_ 1 rfl ?_); refine bx_ (N := 1) (cs := #[.int .i64 a0_0, .int .i64 a0_1, .int .i64 a0_2]) (t := 29) ?_; intro gb316 hg w9 hbox hb; have BK316 := aa_ (hbox); have GW316 := gs_ hg; have GE316 := gs_ hg; replace HB := hbs_ hb; clear hb hbox hg; obtain ⟨hcz10, hfz10⟩ := bcf_ BK316) | ((with_reducible refine gC_ 36 rfl ?_); refine goesC_ (some 5) Try.func36 #[.agg #[.int .i64 a0_0, .int .i64 a0_1]] ?_; (with_reducible refine (impl_RoleOk.calls a0_0 a0_1 false _ A2.out).mono ?_); rintro e w11 ⟨rfl, hb⟩; refine ⟨_, rfl, ?_⟩; replace BK316 := bkb_ BK316 hb; replace HB := hbs_ hb; clear hb))
  go_ret
  exact ⟨eq_, bl_⟩
def impl_whoOf.l0 : Nat → List Int → List (S29) → Int → Int → Int → Int → Option (List Int)
 | 0, _, _, _, _, _, _ => none
 | k + 1, x5, x9, x10, x11, x320000, x320001 => if x11 < x10 then (if 0 ≤ x11 then (if x11 < (x9.length : Int) then (if (((rd_T29 x9 x11).f0.f0) == x320000 && (((rd_T29 x9 x11).f0.f1) == x320001)) = true then ((impl_factOk.f ((rd_T29 x9 x11).f0.f0) ((rd_T29 x9 x11).f0.f1) ((rd_T29 x9 x11).f1)).bind fun t325 => (if t325 = true then (if x5.length < 17592186044416 then (impl_whoOf.l0 k (x5 ++ [x11]) x9 x10 (wrap64 (x11 + 1)) x320000 x320001) else (none)) else (impl_whoOf.l0 k x5 x9 x10 (wrap64 (x11 + 1)) x320000 x320001))) else (impl_whoOf.l0 k x5 x9 x10 (wrap64 (x11 + 1)) x320000 x320001)) else (none)) else (none)) else (some x5)
def impl_whoOf.f (k : Nat) (l0 : List (S29)) (a1_0 : Int) (a1_1 : Int) : Option (List Int) := impl_whoOf.l0 k (([] : List Int)) l0 (l0.length : Int) 0 a1_0 a1_1
set_option maxHeartbeats 8000000 in
set_option maxRecDepth 100000 in
theorem impl_whoOf.calls (k : Nat) (A0 : Option Addr) (c0 : Nat) (l0 : List (S29)) (a1_0 : Int) (a1_1 : Int) (r : List Int) (w : World) (hr0 : Kd.C k29 w A0 l0.length l0) (hc0 : l0.length ≤ c0) (h : impl_whoOf.f k l0 a1_0 a1_1 = some r) :
  Calls Try.prog 68 #[.slice A0 l0.length c0, .agg #[.int .i64 a1_0, .int .i64 a1_1]] w fun e w' => ∃ v0_ : Value, e = .returned (v0_) ∧ Kd.R (Kd.int .i64) 3 w' w.heap.size (fun _ => True) v0_ r ∧ Below w.heap.size w w' := by
 have hu27 := Try.underlying27
 have hu29 := Try.underlying29
 have HR0 := aa_ hr0
 have HC0 := aa_ hc0
 clear hr0 hc0
 have HB := aa_ (Below.refl w.heap.size w)
 have H : (impl_whoOf.l0 k (([] : List Int)) l0 (l0.length : Int) 0 a1_0 a1_1) = some r := h
 clear h
 obtain ⟨y320, hy320⟩ : ∃ y_ : List Int, y_ = (([] : List Int)) := ⟨_, rfl⟩
 replace H : (impl_whoOf.l0 k y320 l0 (l0.length : Int) 0 a1_0 a1_1) = some r := rh_ hy320 H
 have Ny320 := aa_ hy320
 clear hy320
 have H' := aa_ H
 clear H
 go_enter Try.func68, Try.ntmps68
 go_wp2_with (first | ((with_reducible refine gD_ 3 rfl ?_); refine bx_ (N := 3) (cs := #[.int .i64 a1_0, .int .i64 a1_1]) (t := 27) ?_; intro gb319 hg w3 hbox hb; have BK319 := aa_ (hbox); have GW319 := gs_ hg; have GE319 := gs_ hg; replace HB := hbs_ hb; clear hb hbox hg) | ((with_reducible refine gD_ 8 rfl ?_); refine Kd.R_lit (Kd.int .i64) _ 3 ?hg (N := 8) ?hd (xs := ([] : List Int)) (inner := []) (ok := fun _ => True) (okp := fun _ => True) ?hr ?hp (fun _ hk => hk) trivial (Below.refl _ _) (Nat.le_refl _) (by simp) ?_; (case hd => rfl); (case hg => rfl); (case hr => first | (go_simp; done) | (go_simp; rfl)); (case hp => exact (Reps.none _ _)); intro v321 w4 ho5 hb hg_ hnew_; clear hg_ hnew_; (first | rw [← Ny320.out] at ho5 | (simp only [Int.reduceToNat] at ho5; rw [← Ny320.out] at ho5)); have HO322 := aa_ (Kd.R_lower ho5 bls_); replace BK319 := bkb_ BK319 hb; replace HB := hbs_ hb; clear hb ho5))
 go_loopg [5, 11] k (fun kq v5 v11 w' => ∃ (x5_1 : List Int) (x11_1 : Int), v11 = .int .i64 x11_1 ∧ Aside0 (impl_whoOf.l0 kq x5_1 l0 (l0.length : Int) x11_1 a1_0 a1_1 = some r) ∧ Aside0 (kq ≤ k) ∧ Aside0 (Kd.R (Kd.int .i64) 3 w' w.heap.size (fun _ => True) v5 x5_1) ∧ Aside0 (w'.heap[gb319]? = some (.cells #[.int .i64 a1_0, .int .i64 a1_1] 27 (0, 0))) ∧ Aside0 (Below w.heap.size w w'))
 case atStart => exact ⟨(y320), (0), rf_, H', ⟨Nat.le_refl _⟩, ⟨rr_ HO322⟩, ⟨bk_ BK319⟩, ⟨bl_⟩⟩
 case round =>
  clear H'
  try clear p2
  obtain ⟨x5_1, x11_1, rfl, HA, HK1, HO_5, BK319, HB⟩ := hrel
  cases gk with
  | zero => exact absurd HA.out (by simp [impl_whoOf.l0])
  | succ k1 =>
   have H := HA.out
   clear HA
   simp only [impl_whoOf.l0] at H
   by_cases c6 : x11_1 < (l0.length : Int)
   ·rw [if_pos c6] at H
    have c6b0 : decide (x11_1 < (l0.length : Int)) = true := decide_eq_true c6
    clear c6
    obtain ⟨c7b0, H⟩ := ifd_ H
    obtain ⟨c8b0, H⟩ := ifd_ H
    by_cases c9 : (((rd_T29 l0 x11_1).f0.f0) == a1_0 && (((rd_T29 l0 x11_1).f0.f1) == a1_1)) = true
    ·rw [if_pos c9] at H
     have c9b0 : (((rd_T29 l0 x11_1).f0.f0) == a1_0 && (((rd_T29 l0 x11_1).f0.f1) == a1_1)) = true := c9
     (try (have c9b1 : decide (((rd_T29 l0 x11_1).f0.f0) = a1_0 && (((rd_T29 l0 x11_1).f0.f1) == a1_1)) = true := by simpa using c9))
     (try (have c9b2 : (((rd_T29 l0 x11_1).f0.f0) == a1_0 && (((rd_T29 l0 x11_1).f0.f1) == a1_1)) = true := by simpa using c9))
     clear c9
     obtain ⟨t325, A10, H⟩ := bindE_ H
     have HC11 := aa_ H
     clear H
     have p323 : 0 ≤ (x11_1 : Int) := od_
     have q323 : x11_1 < (l0.length : Int) := od_
     obtain ⟨ad323, e323, hx323_0, hx323_1, hx323_2⟩ := at_T29 (Kd.C_below HR0.out HB.out) x11_1 p323 q323
     cases e323
     replace p323 := eq_true p323
     replace q323 := eq_true q323
     go_upto_if 23 with (first | ((with_reducible refine gD_ 7 rfl ?_); refine bx_ (N := 7) (cs := #[.int .i64 0, .int .i64 0, .int .i64 0]) (t := 29) ?_; intro gb324 hg w12 hbox hb; replace HO_5 := hob_ HO_5 hb; have BK324 := aa_ (hbox); have GW324 := gs_ hg; have GE324 := gs_ hg; replace HB := hbs_ hb; have NB319_324 := nl_ hg BK319; have NB324_319 := nr_ hg BK319; replace BK319 := bkb_ BK319 hb; clear hb hbox hg; have hnb13 := NB324_319.out; have hnc13 := NB319_324.out; obtain ⟨hcz14, hfz14⟩ := bcf_ BK324; obtain ⟨hcz15, hfz15⟩ := bcf_ BK319) | (go_at_call 75; (with_reducible refine (impl_factOk.calls ((rd_T29 l0 x11_1).f0.f0) ((rd_T29 l0 x11_1).f0.f1) ((rd_T29 l0 x11_1).f1) t325 _ A10.out).mono ?_); rintro e w16 ⟨rfl, hb⟩; replace HO_5 := aa_ (Kd.R_below (by (with_reducible repeat (first | apply Kd.R_alloc | apply Kd.R_drewN | apply Kd.R_drew)); exact (Kd.R_mono (fr3_ (Kd.R_types HO_5.out BK324.out (by decide)) (fun _ hk => hk.2)) (fun _ h_ => h_.1))) hb); replace BK319 := aa_ (blk_below (g := gb319) (o := .cells #[.int .i64 a1_0, .int .i64 a1_1] 27 (0, 0)) (bk_ BK319) hb); replace BK324 := aa_ (blk_below (g := gb324) (o := .cells #[.int .i64 ((rd_T29 l0 x11_1).f0.f0), .int .i64 ((rd_T29 l0 x11_1).f0.f1), .int .i64 ((rd_T29 l0 x11_1).f1)] 29 (0, 0)) (bk_ BK324) hb); replace HB := hbs_ hb; clear hb))
     (try simp only [Act.put, List.setIfInBounds_toArray, List.set_cons_zero, List.set_cons_succ])
     have H := HC11.out
     clear HC11
     by_cases c17 : t325 = true
     ·subst c17
      replace H := ite_t_ H
      obtain ⟨c18, H⟩ := ifn_ H
      have LMc18 := aa_ c18
      clear c18
      obtain ⟨y326, hy326⟩ : ∃ y_ : List Int, y_ = (x5_1 ++ [x11_1]) := ⟨_, rfl⟩
      replace H : (impl_whoOf.l0 k1 y326 l0 (l0.length : Int) (wrap64 (x11_1 + 1)) a1_0 a1_1) = some r := rh_ hy326 H
      have Ny326 := aa_ hy326
      clear hy326
      have H' := aa_ H
      clear H
      go_wp2_with (first | ((with_reducible refine gate_builtin (b := .append) (xs := #[.tmp 24, .tmp 26]) rfl ?_); at_builtin; refine Kd.R_append (Kd.int .i64) (w0 := w) w.heap.size rfl (.tmp 24) (.tmp 26) 32 3 (.int .i64 0) 8 rfl Try.underlying32 info3 rfl (by decide) (by omega) u5 x5_1 x11_1 [.int .i64 x11_1] (fun _ => True) (fun _ => False) rfl rfl ?aP (fun _ hk => hk.elim) ?aF ?aO ?aB ?aS ?aL ?_; (case aP => exact rfl); (case aB => exact bl_); (case aF => exact (fun _ _ => trivial)); (case aO => exact (rr_ HO_5)); (case aS => exact bls_); (case aL => have := LMc18.out; omega); intro v327 w19 ho hb hg hat; rw [← Ny326.out] at ho; replace BK319 := aa_ (blk_grown (g := gb319) (o := .cells #[.int .i64 a1_0, .int .i64 a1_1] 27 (0, 0)) (bk_ BK319) hg (Kd.R_ne HO_5.out BK319.out (by decide))); replace BK324 := aa_ (blk_grown (g := gb324) (o := .cells #[.int .i64 ((rd_T29 l0 x11_1).f0.f0), .int .i64 ((rd_T29 l0 x11_1).f0.f1), .int .i64 ((rd_T29 l0 x11_1).f1)] 29 (0, 0)) (bk_ BK324) hg (Kd.R_ne HO_5.out BK324.out (by decide))); replace HB := aa_ (hb); have HO328 := aa_ (ho); clear HO_5; clear ho hb hg hat))
      go_roundg k1
      case measure => have := HK1.out; omega
      case rel => exact ⟨(y326), (wrap64 (x11_1 + 1)), rf_, H', ⟨by have := HK1.out; omega⟩, ⟨rr_ HO328⟩, ⟨bk_ BK319⟩, ⟨bl_⟩⟩
     ·replace c17 := Bool.eq_false_iff.mpr c17
      subst c17
      replace H := ite_f_ H
      have H' := aa_ H
      clear H
      go_wp2
      go_roundg k1
      case measure => have := HK1.out; omega
      case rel => exact ⟨(x5_1), (wrap64 (x11_1 + 1)), rf_, H', ⟨by have := HK1.out; omega⟩, ⟨rr_ HO_5⟩, ⟨bk_ BK319⟩, ⟨bl_⟩⟩
    ·rw [if_neg c9] at H
     have c9b0 : (((rd_T29 l0 x11_1).f0.f0) == a1_0 && (((rd_T29 l0 x11_1).f0.f1) == a1_1)) = false := by simpa using c9
     (try (have c9b1 : decide (((rd_T29 l0 x11_1).f0.f0) = a1_0 && (((rd_T29 l0 x11_1).f0.f1) == a1_1)) = false := by simpa using c9))
     (try (have c9b2 : (((rd_T29 l0 x11_1).f0.f0) == a1_0 && (((rd_T29 l0 x11_1).f0.f1) == a1_1)) = false := by simpa using c9))
     (try (have c9b3 : ¬ (((rd_T29 l0 x11_1).f0.f0) = a1_0 && (((rd_T29 l0 x11_1).f0.f1) == a1_1)) := by simpa using c9))
     clear c9
     have H' := aa_ H
     clear H
     have p323 : 0 ≤ (x11_1 : Int) := od_
     have q323 : x11_1 < (l0.length : Int) := od_
     obtain ⟨ad323, e323, hx323_0, hx323_1, hx323_2⟩ := at_T29 (Kd.C_below HR0.out HB.out) x11_1 p323 q323
     cases e323
     replace p323 := eq_true p323
     replace q323 := eq_true q323
     go_wp2_with (first | ((with_reducible refine gD_ 7 rfl ?_); refine bx_ (N := 7) (cs := #[.int .i64 0, .int .i64 0, .int .i64 0]) (t := 29) ?_; intro gb324 hg w20 hbox hb; replace HO_5 := hob_ HO_5 hb; have BK324 := aa_ (hbox); have GW324 := gs_ hg; have GE324 := gs_ hg; replace HB := hbs_ hb; have NB319_324 := nl_ hg BK319; have NB324_319 := nr_ hg BK319; replace BK319 := bkb_ BK319 hb; clear hb hbox hg; have hnb21 := NB324_319.out; have hnc21 := NB319_324.out; obtain ⟨hcz22, hfz22⟩ := bcf_ BK324; obtain ⟨hcz23, hfz23⟩ := bcf_ BK319))
     go_roundg k1
     case measure => have := HK1.out; omega
     case rel => exact ⟨(x5_1), (wrap64 (x11_1 + 1)), rf_, H', ⟨by have := HK1.out; omega⟩, ⟨by (with_reducible repeat (first | apply Kd.R_alloc | apply Kd.R_drewN | apply Kd.R_drew)); exact Kd.R_mono (fr3_ (Kd.R_types HO_5.out BK324.out (by decide)) (fun _ hk => hk.2)) (fun _ hk => trivial)⟩, ⟨bk_ BK319⟩, ⟨bl_⟩⟩
   ·rw [if_neg c6] at H
    have c6b0 : decide (x11_1 < (l0.length : Int)) = false := decide_eq_false c6
    clear c6
    obtain rfl := Option.some.inj H
    go_wp2
    go_ret
    exact ⟨_, eq_, by (with_reducible repeat (first | apply Kd.R_alloc | apply Kd.R_drewN | apply Kd.R_drew)); exact HO_5.out, bl_⟩
end Go.Proofs.Ytcbhmcpdnokbiaa.PA
