import Derived.Test.YtcnjbkfnijnpnaaKSPAx3
-- printed by wip/tools
namespace Go.Proofs.Ytcnjbkfnijnpnaa.PA
open Go.RowKit Go.Proofs.YtcnjbkfnijnpnaaW.PrintWords Go.Proofs.YtcnjbkfnijnpnaaW.PrintLast Go.Proofs.YtcnjbkfnijnpnaaW.PrintMore
attribute [local go_sem] max2_int min2_int max_two min_two max_three min_three max_four min_four
set_option linter.unusedVariables false
set_option linter.unusedSimpArgs false
attribute [local go_sem high] eqA55 eqA61
def impl_Cred_45.l0 : Nat → List (S61) → Int → Int → Int → Int → Int → Int → Int → Int → Int → Int → Int → Int → Option (Int)
 | 0, _, _, _, _, _, _, _, _, _, _, _, _, _ => none
 | k + 1, x0, x7, x8, x406000, x406001, x406002, x406003, x406004, x406005, x406006, x406007, x406008, x406009 => if x8 < x7 then (if 0 ≤ x8 then (if x8 < (x0.length : Int) then (if (x406000 == ((rd_T61 x0 x8).f0) && ((x406001 == ((rd_T61 x0 x8).f1.f0) && (x406002 == ((rd_T61 x0 x8).f1.f1))) && (x406003 == ((rd_T61 x0 x8).f2) && ((x406004 == ((rd_T61 x0 x8).f3.f0) && (x406005 == ((rd_T61 x0 x8).f3.f1))) && ((x406006 == ((rd_T61 x0 x8).f4.f0) && (x406007 == ((rd_T61 x0 x8).f4.f1))) && (x406008 == ((rd_T61 x0 x8).f5) && (x406009 == ((rd_T61 x0 x8).f6)))))))) = true then (some x8) else (impl_Cred_45.l0 k x0 x7 (wrap64 (x8 + 1)) x406000 x406001 x406002 x406003 x406004 x406005 x406006 x406007 x406008 x406009)) else (none)) else (none)) else (some (-1))
def impl_Cred_45.f (k : Nat) (l0 : List (S61)) (a1_0 : Int) (a1_1 : Int) (a1_2 : Int) (a1_3 : Int) (a1_4 : Int) (a1_5 : Int) (a1_6 : Int) (a1_7 : Int) (a1_8 : Int) (a1_9 : Int) : Option (Int) := impl_Cred_45.l0 k l0 (l0.length : Int) 0 a1_0 a1_1 a1_2 a1_3 a1_4 a1_5 a1_6 a1_7 a1_8 a1_9
theorem impl_Cred_45.mono_l : ∀ k, (∀ y0 y1 y2 y3 y4 y5 y6 y7 y8 y9 y10 y11 y12, LeO (impl_Cred_45.l0 k y0 y1 y2 y3 y4 y5 y6 y7 y8 y9 y10 y11 y12) (impl_Cred_45.l0 (k + 1) y0 y1 y2 y3 y4 y5 y6 y7 y8 y9 y10 y11 y12))
 | 0 => fun _ _ _ _ _ _ _ _ _ _ _ _ _ r h => by simp [impl_Cred_45.l0] at h
 | k + 1 => by
  have ih0 := impl_Cred_45.mono_l k
  ·intro y0 y1 y2 y3 y4 y5 y6 y7 y8 y9 y10 y11 y12
   unfold impl_Cred_45.l0
   repeat' first | (with_reducible first | exact ih0 _ _ _ _ _ _ _ _ _ _ _ _ _ | exact LeO.refl _ | exact LeO.none _ | refine LeO.ite ?_ ?_ | refine LeO.bind ?_ (fun _ => ?_)) | exact ih0 _ _ _ _ _ _ _ _ _ _ _ _ _ | exact LeO.none _ | refine LeO.ite ?_ ?_ | refine LeO.bind ?_ (fun _ => ?_)
theorem impl_Cred_45.mono : ∀ a0 a1 a2 a3 a4 a5 a6 a7 a8 a9 a10 k, LeO (impl_Cred_45.f k a0 a1 a2 a3 a4 a5 a6 a7 a8 a9 a10) (impl_Cred_45.f (k + 1) a0 a1 a2 a3 a4 a5 a6 a7 a8 a9 a10) := by
 intro a0 a1 a2 a3 a4 a5 a6 a7 a8 a9 a10 k
 have ih0 := impl_Cred_45.mono_l k
 unfold impl_Cred_45.f
 repeat' first | (with_reducible first | exact ih0 _ _ _ _ _ _ _ _ _ _ _ _ _ | exact LeO.refl _ | exact LeO.none _ | refine LeO.ite ?_ ?_ | refine LeO.bind ?_ (fun _ => ?_)) | exact ih0 _ _ _ _ _ _ _ _ _ _ _ _ _ | exact LeO.none _ | refine LeO.ite ?_ ?_ | refine LeO.bind ?_ (fun _ => ?_)
set_option maxHeartbeats 8000000 in
set_option maxRecDepth 100000 in
theorem impl_Cred_45.calls (k : Nat) (A0 : Option Addr) (c0 : Nat) (l0 : List (S61)) (a1_0 : Int) (a1_1 : Int) (a1_2 : Int) (a1_3 : Int) (a1_4 : Int) (a1_5 : Int) (a1_6 : Int) (a1_7 : Int) (a1_8 : Int) (a1_9 : Int) (r : Int) (w : World) (hr0 : Kd.C k61 w A0 l0.length l0) (hc0 : l0.length ≤ c0) (h : impl_Cred_45.f k l0 a1_0 a1_1 a1_2 a1_3 a1_4 a1_5 a1_6 a1_7 a1_8 a1_9 = some r) :
  Calls Try.prog 45 #[.slice A0 l0.length c0, .agg #[.int .i64 a1_0, .int .i64 a1_1, .int .i64 a1_2, .int .i64 a1_3, .int .i64 a1_4, .int .i64 a1_5, .int .i64 a1_6, .int .i64 a1_7, .int .i64 a1_8, .int .i64 a1_9]] w fun e w' => e = .returned (.int .i64 r) ∧ Below w.heap.size w w' := by
 have hu61 := Try.underlying61
 have HR0 := aa_ hr0
 have HC0 := aa_ hc0
 clear hr0 hc0
 have HB := aa_ (Below.refl w.heap.size w)
 have H : (impl_Cred_45.l0 k l0 (l0.length : Int) 0 a1_0 a1_1 a1_2 a1_3 a1_4 a1_5 a1_6 a1_7 a1_8 a1_9) = some r := h
 clear h
 have H' := aa_ H
 clear H
 go_enter Try.func45, Try.ntmps45
 go_wp2_with (first | ((with_reducible refine gD_ 3 rfl ?_); refine bx_ (N := 3) (cs := #[.int .i64 a1_0, .int .i64 a1_1, .int .i64 a1_2, .int .i64 a1_3, .int .i64 a1_4, .int .i64 a1_5, .int .i64 a1_6, .int .i64 a1_7, .int .i64 a1_8, .int .i64 a1_9]) (t := 61) ?_; intro gb405 hg w3 hbox hb; have BK405 := aa_ (hbox); have GW405 := gs_ hg; have GE405 := gs_ hg; replace HB := hbs_ hb; clear hb hbox hg))
 repeat (go_quiet (first | ((with_reducible refine gD_ 3 rfl ?_); refine bx_ (N := 3) (cs := #[.int .i64 a1_0, .int .i64 a1_1, .int .i64 a1_2, .int .i64 a1_3, .int .i64 a1_4, .int .i64 a1_5, .int .i64 a1_6, .int .i64 a1_7, .int .i64 a1_8, .int .i64 a1_9]) (t := 61) ?_; intro gb405 hg w3 hbox hb; have BK405 := aa_ (hbox); have GW405 := gs_ hg; have GE405 := gs_ hg; replace HB := hbs_ hb; clear hb hbox hg)); try go_wp2_with (first | ((with_reducible refine gD_ 3 rfl ?_); refine bx_ (N := 3) (cs := #[.int .i64 a1_0, .int .i64 a1_1, .int .i64 a1_2, .int .i64 a1_3, .int .i64 a1_4, .int .i64 a1_5, .int .i64 a1_6, .int .i64 a1_7, .int .i64 a1_8, .int .i64 a1_9]) (t := 61) ?_; intro gb405 hg w3 hbox hb; have BK405 := aa_ (hbox); have GW405 := gs_ hg; have GE405 := gs_ hg; replace HB := hbs_ hb; clear hb hbox hg)))
 go_loopg [8] k (fun kq v8 w' => ∃ (x8_1 : Int), v8 = .int .i64 x8_1 ∧ Aside0 (impl_Cred_45.l0 kq l0 (l0.length : Int) x8_1 a1_0 a1_1 a1_2 a1_3 a1_4 a1_5 a1_6 a1_7 a1_8 a1_9 = some r) ∧ Aside0 (kq ≤ k) ∧ Aside0 (w'.heap[gb405]? = some (.cells #[.int .i64 a1_0, .int .i64 a1_1, .int .i64 a1_2, .int .i64 a1_3, .int .i64 a1_4, .int .i64 a1_5, .int .i64 a1_6, .int .i64 a1_7, .int .i64 a1_8, .int .i64 a1_9] 61 (0, 0))) ∧ Aside0 (Below w.heap.size w w'))
 case atStart => exact ⟨(0), rf_, H', ⟨Nat.le_refl _⟩, ⟨bk_ BK405⟩, ⟨bl_⟩⟩
 case round =>
  clear H'
  try clear p2
  obtain ⟨x8_1, rfl, HA, HK1, BK405, HB⟩ := hrel
  cases gk with
  | zero => exact absurd HA.out (by simp [impl_Cred_45.l0])
  | succ k1 =>
   have H := HA.out
   clear HA
   simp only [impl_Cred_45.l0] at H
   by_cases c4 : x8_1 < (l0.length : Int)
   ·rw [if_pos c4] at H
    have c4b0 : decide (x8_1 < (l0.length : Int)) = true := decide_eq_true c4
    clear c4
    obtain ⟨c5b0, H⟩ := ifd_ H
    obtain ⟨c6b0, H⟩ := ifd_ H
    have HC7 := aa_ H
    clear H
    have hcz8 := blk_cell BK405.out
    have hfz8 := blk_frozen BK405.out
    have p406 : 0 ≤ (x8_1 : Int) := od_
    have q406 : x8_1 < (l0.length : Int) := od_
    obtain ⟨ad406, e406, hx406_0, hx406_1, hx406_2, hx406_3, hx406_4, hx406_5, hx406_6, hx406_7, hx406_8, hx406_9⟩ := at_T61 (Kd.C_below HR0.out HB.out) x8_1 p406 q406
    cases e406
    replace p406 := eq_true p406
    replace q406 := eq_true q406
    go_upto_if 16 with (fail)
    repeat (go_quiet (fail); go_upto_if 16 with (fail))
    have H := HC7.out
    clear HC7
    by_cases c9 : (a1_0 == ((rd_T61 l0 x8_1).f0) && ((a1_1 == ((rd_T61 l0 x8_1).f1.f0) && (a1_2 == ((rd_T61 l0 x8_1).f1.f1))) && (a1_3 == ((rd_T61 l0 x8_1).f2) && ((a1_4 == ((rd_T61 l0 x8_1).f3.f0) && (a1_5 == ((rd_T61 l0 x8_1).f3.f1))) && ((a1_6 == ((rd_T61 l0 x8_1).f4.f0) && (a1_7 == ((rd_T61 l0 x8_1).f4.f1))) && (a1_8 == ((rd_T61 l0 x8_1).f5) && (a1_9 == ((rd_T61 l0 x8_1).f6)))))))) = true
    ·rw [if_pos c9] at H
     have c9b0 : (a1_0 == ((rd_T61 l0 x8_1).f0) && ((a1_1 == ((rd_T61 l0 x8_1).f1.f0) && (a1_2 == ((rd_T61 l0 x8_1).f1.f1))) && (a1_3 == ((rd_T61 l0 x8_1).f2) && ((a1_4 == ((rd_T61 l0 x8_1).f3.f0) && (a1_5 == ((rd_T61 l0 x8_1).f3.f1))) && ((a1_6 == ((rd_T61 l0 x8_1).f4.f0) && (a1_7 == ((rd_T61 l0 x8_1).f4.f1))) && (a1_8 == ((rd_T61 l0 x8_1).f5) && (a1_9 == ((rd_T61 l0 x8_1).f6)))))))) = true := c9
     (try (have c9b1 : decide (a1_0 = ((rd_T61 l0 x8_1).f0) && ((a1_1 == ((rd_T61 l0 x8_1).f1.f0) && (a1_2 == ((rd_T61 l0 x8_1).f1.f1))) && (a1_3 == ((rd_T61 l0 x8_1).f2) && ((a1_4 == ((rd_T61 l0 x8_1).f3.f0) && (a1_5 == ((rd_T61 l0 x8_1).f3.f1))) && ((a1_6 == ((rd_T61 l0 x8_1).f4.f0) && (a1_7 == ((rd_T61 l0 x8_1).f4.f1))) && (a1_8 == ((rd_T61 l0 x8_1).f5) && (a1_9 == ((rd_T61 l0 x8_1).f6)))))))) = true := by simpa using c9))
     (try (have c9b2 : (a1_0 == ((rd_T61 l0 x8_1).f0) && ((a1_1 == ((rd_T61 l0 x8_1).f1.f0) && (a1_2 == ((rd_T61 l0 x8_1).f1.f1))) && (a1_3 == ((rd_T61 l0 x8_1).f2) && ((a1_4 == ((rd_T61 l0 x8_1).f3.f0) && (a1_5 == ((rd_T61 l0 x8_1).f3.f1))) && ((a1_6 == ((rd_T61 l0 x8_1).f4.f0) && (a1_7 == ((rd_T61 l0 x8_1).f4.f1))) && (a1_8 == ((rd_T61 l0 x8_1).f5) && (a1_9 == ((rd_T61 l0 x8_1).f6)))))))) = true := by simpa using c9))
     clear c9
     (first | rw [c9b0] | (simp only [i64_w, i32_w]; rw [c9b0]) | skip)
     obtain rfl := Option.some.inj H
     go_wp2
     repeat (go_quiet (fail); try go_wp2)
     go_ret
     exact ⟨eq_, bl_⟩
    ·rw [if_neg c9] at H
     have c9b0 : (a1_0 == ((rd_T61 l0 x8_1).f0) && ((a1_1 == ((rd_T61 l0 x8_1).f1.f0) && (a1_2 == ((rd_T61 l0 x8_1).f1.f1))) && (a1_3 == ((rd_T61 l0 x8_1).f2) && ((a1_4 == ((rd_T61 l0 x8_1).f3.f0) && (a1_5 == ((rd_T61 l0 x8_1).f3.f1))) && ((a1_6 == ((rd_T61 l0 x8_1).f4.f0) && (a1_7 == ((rd_T61 l0 x8_1).f4.f1))) && (a1_8 == ((rd_T61 l0 x8_1).f5) && (a1_9 == ((rd_T61 l0 x8_1).f6)))))))) = false := by simpa using c9
     (try (have c9b1 : decide (a1_0 = ((rd_T61 l0 x8_1).f0) && ((a1_1 == ((rd_T61 l0 x8_1).f1.f0) && (a1_2 == ((rd_T61 l0 x8_1).f1.f1))) && (a1_3 == ((rd_T61 l0 x8_1).f2) && ((a1_4 == ((rd_T61 l0 x8_1).f3.f0) && (a1_5 == ((rd_T61 l0 x8_1).f3.f1))) && ((a1_6 == ((rd_T61 l0 x8_1).f4.f0) && (a1_7 == ((rd_T61 l0 x8_1).f4.f1))) && (a1_8 == ((rd_T61 l0 x8_1).f5) && (a1_9 == ((rd_T61 l0 x8_1).f6)))))))) = false := by simpa using c9))
     (try (have c9b2 : (a1_0 == ((rd_T61 l0 x8_1).f0) && ((a1_1 == ((rd_T61 l0 x8_1).f1.f0) && (a1_2 == ((rd_T61 l0 x8_1).f1.f1))) && (a1_3 == ((rd_T61 l0 x8_1).f2) && ((a1_4 == ((rd_T61 l0 x8_1).f3.f0) && (a1_5 == ((rd_T61 l0 x8_1).f3.f1))) && ((a1_6 == ((rd_T61 l0 x8_1).f4.f0) && (a1_7 == ((rd_T61 l0 x8_1).f4.f1))) && (a1_8 == ((rd_T61 l0 x8_1).f5) && (a1_9 == ((rd_T61 l0 x8_1).f6)))))))) = false := by simpa using c9))
     (try (have c9b3 : ¬ (a1_0 = ((rd_T61 l0 x8_1).f0) && ((a1_1 == ((rd_T61 l0 x8_1).f1.f0) && (a1_2 == ((rd_T61 l0 x8_1).f1.f1))) && (a1_3 == ((rd_T61 l0 x8_1).f2) && ((a1_4 == ((rd_T61 l0 x8_1).f3.f0) && (a1_5 == ((rd_T61 l0 x8_1).f3.f1))) && ((a1_6 == ((rd_T61 l0 x8_1).f4.f0) && (a1_7 == ((rd_T61 l0 x8_1).f4.f1))) && (a1_8 == ((rd_T61 l0 x8_1).f5) && (a1_9 == ((rd_T61 l0 x8_1).f6)))))))) := by simpa using c9))
     clear c9
     (first | rw [c9b0] | (simp only [i64_w, i32_w]; rw [c9b0]) | skip)
     have H' := aa_ H
     clear H
     go_wp2
     repeat (go_quiet (fail); try go_wp2)
     go_roundg k1
     case measure => have := HK1.out; omega
     case rel => exact ⟨(wrap64 (x8_1 + 1)), rf_, H', ⟨by have := HK1.out; omega⟩, ⟨bk_ BK405⟩, ⟨bl_⟩⟩
   ·rw [if_neg c4] at H
    have c4b0 : decide (x8_1 < (l0.length : Int)) = false := decide_eq_false c4
    clear c4
    obtain rfl := Option.some.inj H
    go_wp2
    repeat (go_quiet (fail); try go_wp2)
    go_ret
    exact ⟨eq_, bl_⟩
def impl_Cred_28.f (k : Nat) (l0 : List (S61)) (a1_0 : Int) (a1_1 : Int) (a1_2 : Int) (a1_3 : Int) (a1_4 : Int) (a1_5 : Int) (a1_6 : Int) (a1_7 : Int) (a1_8 : Int) (a1_9 : Int) : Option (Bool) := (impl_Cred_45.f k l0 a1_0 a1_1 a1_2 a1_3 a1_4 a1_5 a1_6 a1_7 a1_8 a1_9).bind fun t408 => (some (decide (t408 ≥ 0)))
theorem impl_Cred_28.mono : ∀ a0 a1 a2 a3 a4 a5 a6 a7 a8 a9 a10 k, LeO (impl_Cred_28.f k a0 a1 a2 a3 a4 a5 a6 a7 a8 a9 a10) (impl_Cred_28.f (k + 1) a0 a1 a2 a3 a4 a5 a6 a7 a8 a9 a10) := by
 intro a0 a1 a2 a3 a4 a5 a6 a7 a8 a9 a10 k
 unfold impl_Cred_28.f
 repeat' first | (with_reducible first | exact impl_Cred_45.mono _ _ _ _ _ _ _ _ _ _ _ _ | exact LeO.refl _ | exact LeO.none _ | refine LeO.ite ?_ ?_ | refine LeO.bind ?_ (fun _ => ?_)) | exact impl_Cred_45.mono _ _ _ _ _ _ _ _ _ _ _ _ | exact LeO.none _ | refine LeO.ite ?_ ?_ | refine LeO.bind ?_ (fun _ => ?_)
set_option maxHeartbeats 8000000 in
set_option maxRecDepth 100000 in
theorem impl_Cred_28.calls (k : Nat) (A0 : Option Addr) (c0 : Nat) (l0 : List (S61)) (a1_0 : Int) (a1_1 : Int) (a1_2 : Int) (a1_3 : Int) (a1_4 : Int) (a1_5 : Int) (a1_6 : Int) (a1_7 : Int) (a1_8 : Int) (a1_9 : Int) (r : Bool) (w : World) (hr0 : Kd.C k61 w A0 l0.length l0) (hc0 : l0.length ≤ c0) (h : impl_Cred_28.f k l0 a1_0 a1_1 a1_2 a1_3 a1_4 a1_5 a1_6 a1_7 a1_8 a1_9 = some r) :
  Calls Try.prog 28 #[.slice A0 l0.length c0, .agg #[.int .i64 a1_0, .int .i64 a1_1, .int .i64 a1_2, .int .i64 a1_3, .int .i64 a1_4, .int .i64 a1_5, .int .i64 a1_6, .int .i64 a1_7, .int .i64 a1_8, .int .i64 a1_9]] w fun e w' => e = .returned (.bool r) ∧ Below w.heap.size w w' := by
 have hu61 := Try.underlying61
 have HR0 := aa_ hr0
 have HC0 := aa_ hc0
 clear hr0 hc0
 have HB := aa_ (Below.refl w.heap.size w)
 have H : ((impl_Cred_45.f k l0 a1_0 a1_1 a1_2 a1_3 a1_4 a1_5 a1_6 a1_7 a1_8 a1_9).bind fun t408 => (some (decide (t408 ≥ 0)))) = some r := h
 clear h
 obtain ⟨t408, A3, H⟩ := bindE_ H
 obtain rfl := Option.some.inj H
 go_enter Try.func28, Try.ntmps28
 go_wp2_with (first | ((with_reducible refine gD_ 3 rfl ?_); refine bx_ (N := 3) (cs := #[.int .i64 a1_0, .int .i64 a1_1, .int .i64 a1_2, .int .i64 a1_3, .int .i64 a1_4, .int .i64 a1_5, .int .i64 a1_6, .int .i64 a1_7, .int .i64 a1_8, .int .i64 a1_9]) (t := 61) ?_; intro gb407 hg w4 hbox hb; have BK407 := aa_ (hbox); have GW407 := gs_ hg; have GE407 := gs_ hg; replace HB := hbs_ hb; clear hb hbox hg; obtain ⟨hcz5, hfz5⟩ := bcf_ BK407) | ((with_reducible refine gC_ 45 rfl ?_); refine goesC_ (some 7) Try.func45 #[.slice A0 l0.length c0, .agg #[.int .i64 a1_0, .int .i64 a1_1, .int .i64 a1_2, .int .i64 a1_3, .int .i64 a1_4, .int .i64 a1_5, .int .i64 a1_6, .int .i64 a1_7, .int .i64 a1_8, .int .i64 a1_9]] ?_; (with_reducible refine (impl_Cred_45.calls k _ _ l0 a1_0 a1_1 a1_2 a1_3 a1_4 a1_5 a1_6 a1_7 a1_8 a1_9 t408 _ ?side1 ?side2 A3.out).mono ?_); (case side1 => repeat (first | exact (Kd.C_below HR0.out HB.out) | (with_reducible refine Kd.C_alloc ?_ _) | (with_reducible refine Kd.C_drewN ?_ _) | (with_reducible refine Kd.C_drew ?_))); (case side2 => exact HC0.out); rintro e w6 ⟨rfl, hb⟩; refine ⟨_, rfl, ?_⟩; replace BK407 := bkb_ BK407 hb; replace HB := hbs_ hb; clear hb))
 go_ret
 exact ⟨eq_, bl_⟩
def impl_CredsIn.l0 : Nat → List (S61) → List (S80) → Int → Int → Option ((List (S61)))
 | 0, _, _, _, _ => none
 | k + 1, x3, x7, x8, x9 => if x9 < x8 then (if 0 ≤ x9 then (if x9 < (x7.length : Int) then ((impl_Cred_28.f k x3 ((rd_T80 x7 x9).f0.f0) ((rd_T80 x7 x9).f0.f1.f0) ((rd_T80 x7 x9).f0.f1.f1) ((rd_T80 x7 x9).f0.f2) ((rd_T80 x7 x9).f0.f3.f0) ((rd_T80 x7 x9).f0.f3.f1) ((rd_T80 x7 x9).f0.f4.f0) ((rd_T80 x7 x9).f0.f4.f1) ((rd_T80 x7 x9).f0.f5) ((rd_T80 x7 x9).f0.f6)).bind fun t414 => (if t414 = true then (impl_CredsIn.l0 k x3 x7 x8 (wrap64 (x9 + 1))) else (if x3.length < 1759218604441 then (impl_CredsIn.l0 k (x3 ++ [(⟨(rd_T80 x7 x9).f0.f0, (⟨(rd_T80 x7 x9).f0.f1.f0, (rd_T80 x7 x9).f0.f1.f1⟩ : S55), (rd_T80 x7 x9).f0.f2, (⟨(rd_T80 x7 x9).f0.f3.f0, (rd_T80 x7 x9).f0.f3.f1⟩ : S55), (⟨(rd_T80 x7 x9).f0.f4.f0, (rd_T80 x7 x9).f0.f4.f1⟩ : S55), (rd_T80 x7 x9).f0.f5, (rd_T80 x7 x9).f0.f6⟩ : S61)]) x7 x8 (wrap64 (x9 + 1))) else (none)))) else (none)) else (none)) else (some x3)
def impl_CredsIn.f (k : Nat) (l0 : List (S80)) : Option ((List (S61))) := impl_CredsIn.l0 k (([] : List (S61))) l0 (l0.length : Int) 0
set_option maxHeartbeats 8000000 in
set_option maxRecDepth 100000 in
theorem impl_CredsIn.calls (k : Nat) (A0 : Option Addr) (c0 : Nat) (l0 : List (S80)) (r : List (S61)) (w : World) (hr0 : Kd.C k80 w A0 l0.length l0) (hc0 : l0.length ≤ c0) (h : impl_CredsIn.f k l0 = some r) :
  Calls Try.prog 23 #[.slice A0 l0.length c0] w fun e w' => ∃ v0_ : Value, e = .returned (v0_) ∧ Kd.R k61 61 w' w.heap.size (fun _ => True) v0_ r ∧ Below w.heap.size w w' := by
 have hu80 := Try.underlying80
 have hu61 := Try.underlying61
 have HR0 := aa_ hr0
 have HC0 := aa_ hc0
 clear hr0 hc0
 have HB := aa_ (Below.refl w.heap.size w)
 have H : (impl_CredsIn.l0 k (([] : List (S61))) l0 (l0.length : Int) 0) = some r := h
 clear h
 obtain ⟨y409, hy409⟩ : ∃ y_ : List (S61), y_ = (([] : List (S61))) := ⟨_, rfl⟩
 replace H : (impl_CredsIn.l0 k y409 l0 (l0.length : Int) 0) = some r := rh_ hy409 H
 have Ny409 := aa_ hy409
 clear hy409
 have H' := aa_ H
 clear H
 go_enter Try.func23, Try.ntmps23
 go_wp2_with (first | ((with_reducible refine gD_ 6 rfl ?_); refine Kd.R_lit k61 _ 61 ?hg (N := 6) ?hd (xs := ([] : List (S61))) (inner := []) (ok := fun _ => True) (okp := fun _ => True) ?hr ?hp (fun _ hk => hk) trivial (Below.refl _ _) (Nat.le_refl _) (by simp) ?_; (case hd => rfl); (case hg => rfl); (case hr => first | (go_simp; done) | (go_simp; rfl)); (case hp => exact (Reps.none _ _)); intro v410 w2 ho3 hb hg_ hnew_; clear hg_ hnew_; (first | rw [← Ny409.out] at ho3 | (simp only [Int.reduceToNat] at ho3; rw [← Ny409.out] at ho3)); have HO411 := aa_ (Kd.R_lower ho3 bls_); replace HB := hbs_ hb; clear hb ho3))
 go_loopg [3, 9] k (fun kq v3 v9 w' => ∃ (x3_1 : List (S61)) (x9_1 : Int), v9 = .int .i64 x9_1 ∧ Aside0 (impl_CredsIn.l0 kq x3_1 l0 (l0.length : Int) x9_1 = some r) ∧ Aside0 (kq ≤ k) ∧ Aside0 (Kd.R k61 61 w' w.heap.size (fun _ => True) v3 x3_1) ∧ Aside0 (Below w.heap.size w w'))
 case atStart => exact ⟨(y409), (0), rf_, H', ⟨Nat.le_refl _⟩, ⟨rr_ HO411⟩, ⟨bl_⟩⟩
 case round =>
  clear H'
  try clear c2
  try clear p2
  obtain ⟨x3_1, x9_1, rfl, HA, HK1, HO_3, HB⟩ := hrel
  cases gk with
  | zero => exact absurd HA.out (by simp [impl_CredsIn.l0])
  | succ k1 =>
   have H := HA.out
   clear HA
   simp only [impl_CredsIn.l0] at H
   by_cases c4 : x9_1 < (l0.length : Int)
   ·rw [if_pos c4] at H
    have c4b0 : decide (x9_1 < (l0.length : Int)) = true := decide_eq_true c4
    clear c4
    obtain ⟨c5b0, H⟩ := ifd_ H
    obtain ⟨c6b0, H⟩ := ifd_ H
    obtain ⟨t414, A7, H⟩ := bindE_ H
    have HC8 := aa_ H
    clear H
    have p412 : 0 ≤ (x9_1 : Int) := od_
    have q412 : x9_1 < (l0.length : Int) := od_
    obtain ⟨ad412, A412_13, c412_13, e412, hx412_0, hx412_1, hx412_2, hx412_3, hx412_4, hx412_5, hx412_6, hx412_7, hx412_8, hx412_9, hx412_10, hx412_11, hx412_12, hx412_13, hl412_13, hi412_13⟩ := at_T80 HR0.out x9_1 p412 q412
    cases e412
    replace hx412_0 := cb_ HB hx412_0
    replace hx412_1 := cb_ HB hx412_1
    replace hx412_2 := cb_ HB hx412_2
    replace hx412_3 := cb_ HB hx412_3
    replace hx412_4 := cb_ HB hx412_4
    replace hx412_5 := cb_ HB hx412_5
    replace hx412_6 := cb_ HB hx412_6
    replace hx412_7 := cb_ HB hx412_7
    replace hx412_8 := cb_ HB hx412_8
    replace hx412_9 := cb_ HB hx412_9
    replace hx412_10 := cb_ HB hx412_10
    replace hx412_11 := cb_ HB hx412_11
    replace hx412_12 := cb_ HB hx412_12
    replace hx412_13 := cb_ HB hx412_13
    have HR412_13 := aa_ hi412_13
    have HC412_13 := aa_ hl412_13
    clear hi412_13 hl412_13
    replace p412 := eq_true p412
    replace q412 := eq_true q412
    go_upto_if 17 with (first | ((with_reducible refine gD_ 5 rfl ?_); refine bx_ (N := 5) (cs := #[.int .i64 0, .int .i64 0, .int .i64 0, .int .i64 0, .int .i64 0, .int .i64 0, .int .i64 0, .int .i64 0, .int .i64 0, .int .i64 0, .int .i64 0, .int .i64 0, .int .i64 0, .slice none 0 0]) (t := 80) ?_; intro gb413 hg w9 hbox hb; replace HO_3 := hob_ HO_3 hb; have BK413 := aa_ (hbox); have GW413 := gs_ hg; have GE413 := gs_ hg; replace HB := hbs_ hb; clear hb hbox hg; obtain ⟨hcz10, hfz10⟩ := bcf_ BK413; obtain ⟨Ao11, co11, eo11⟩ := Kd.R_slice HO_3.out; subst eo11) | ((with_reducible refine gC_ 28 rfl ?_); refine goesC_ (some 16) Try.func28 #[.slice Ao11 x3_1.length co11, .agg #[.int .i64 ((rd_T80 l0 x9_1).f0.f0), .int .i64 ((rd_T80 l0 x9_1).f0.f1.f0), .int .i64 ((rd_T80 l0 x9_1).f0.f1.f1), .int .i64 ((rd_T80 l0 x9_1).f0.f2), .int .i64 ((rd_T80 l0 x9_1).f0.f3.f0), .int .i64 ((rd_T80 l0 x9_1).f0.f3.f1), .int .i64 ((rd_T80 l0 x9_1).f0.f4.f0), .int .i64 ((rd_T80 l0 x9_1).f0.f4.f1), .int .i64 ((rd_T80 l0 x9_1).f0.f5), .int .i64 ((rd_T80 l0 x9_1).f0.f6)]] ?_; (with_reducible refine (impl_Cred_28.calls k1 _ _ x3_1 ((rd_T80 l0 x9_1).f0.f0) ((rd_T80 l0 x9_1).f0.f1.f0) ((rd_T80 l0 x9_1).f0.f1.f1) ((rd_T80 l0 x9_1).f0.f2) ((rd_T80 l0 x9_1).f0.f3.f0) ((rd_T80 l0 x9_1).f0.f3.f1) ((rd_T80 l0 x9_1).f0.f4.f0) ((rd_T80 l0 x9_1).f0.f4.f1) ((rd_T80 l0 x9_1).f0.f5) ((rd_T80 l0 x9_1).f0.f6) t414 _ ?side1 ?side2 A7.out).mono ?_); (case side1 => refine (Kd.R_reads' (e := 61) (base := w.heap.size) (ok := fun k_ => True) (n := x3_1.length) (c := co11) ?_).2.2; exact (by (with_reducible repeat (first | apply Kd.R_alloc | apply Kd.R_drewN | apply Kd.R_drew)); exact (Kd.R_mono (fr14_ (Kd.R_types HO_3.out BK413.out (by decide)) (fun _ hk => hk.2)) (fun _ h_ => h_.1)))); (case side2 => exact (Kd.R_reads' HO_3.out).2.1); rintro e w12 ⟨rfl, hb⟩; refine ⟨_, rfl, ?_⟩; replace HO_3 := aa_ (Kd.R_below (by (with_reducible repeat (first | apply Kd.R_alloc | apply Kd.R_drewN | apply Kd.R_drew)); exact (Kd.R_mono (fr14_ (Kd.R_types HO_3.out BK413.out (by decide)) (fun _ hk => hk.2)) (fun _ h_ => h_.1))) hb); replace BK413 := aa_ (blk_below (g := gb413) (o := .cells #[.int .i64 ((rd_T80 l0 x9_1).f0.f0), .int .i64 ((rd_T80 l0 x9_1).f0.f1.f0), .int .i64 ((rd_T80 l0 x9_1).f0.f1.f1), .int .i64 ((rd_T80 l0 x9_1).f0.f2), .int .i64 ((rd_T80 l0 x9_1).f0.f3.f0), .int .i64 ((rd_T80 l0 x9_1).f0.f3.f1), .int .i64 ((rd_T80 l0 x9_1).f0.f4.f0), .int .i64 ((rd_T80 l0 x9_1).f0.f4.f1), .int .i64 ((rd_T80 l0 x9_1).f0.f5), .int .i64 ((rd_T80 l0 x9_1).f0.f6), .int .i64 ((rd_T80 l0 x9_1).f1.f0.f0), .int .i64 ((rd_T80 l0 x9_1).f1.f0.f1), .int .i64 ((rd_T80 l0 x9_1).f1.f1), .slice A412_13 ((rd_T80 l0 x9_1).f2).length c412_13] 80 (0, 0)) (bk_ BK413) hb); replace HB := hbs_ hb; clear hb))
    (try simp only [Act.put, List.setIfInBounds_toArray, List.set_cons_zero, List.set_cons_succ])
    have H := HC8.out
    clear HC8
    by_cases c13 : t414 = true
    ·subst c13
     replace H := ite_t_ H
     have H' := aa_ H
     clear H
     go_wp2
     go_roundg k1
     case measure => have := HK1.out; omega
     case rel => exact ⟨(x3_1), (wrap64 (x9_1 + 1)), rf_, H', ⟨by have := HK1.out; omega⟩, ⟨rr_ HO_3⟩, ⟨bl_⟩⟩
    ·replace c13 := Bool.eq_false_iff.mpr c13
     subst c13
     replace H := ite_f_ H
     obtain ⟨c14, H⟩ := ifn_ H
     have LMc14 := aa_ c14
     clear c14
     obtain ⟨y415, hy415⟩ : ∃ y_ : List (S61), y_ = (x3_1 ++ [(⟨(rd_T80 l0 x9_1).f0.f0, (⟨(rd_T80 l0 x9_1).f0.f1.f0, (rd_T80 l0 x9_1).f0.f1.f1⟩ : S55), (rd_T80 l0 x9_1).f0.f2, (⟨(rd_T80 l0 x9_1).f0.f3.f0, (rd_T80 l0 x9_1).f0.f3.f1⟩ : S55), (⟨(rd_T80 l0 x9_1).f0.f4.f0, (rd_T80 l0 x9_1).f0.f4.f1⟩ : S55), (rd_T80 l0 x9_1).f0.f5, (rd_T80 l0 x9_1).f0.f6⟩ : S61)]) := ⟨_, rfl⟩
     replace H : (impl_CredsIn.l0 k1 y415 l0 (l0.length : Int) (wrap64 (x9_1 + 1))) = some r := rh_ hy415 H
     have Ny415 := aa_ hy415
     clear hy415
     have H' := aa_ H
     clear H
     have hcz15 := blk_cell BK413.out
     have hfz15 := blk_frozen BK413.out
     go_wp2_with (first | ((with_reducible refine gate_builtin (b := .append) (xs := #[.tmp 18, .tmp 21]) rfl ?_); at_builtin; refine Kd.R_append k61 (w0 := w) w.heap.size rfl (.tmp 18) (.tmp 21) 36 61 (.agg #[(.int .i64 0), (.int .i64 0), (.int .i64 0), (.int .i64 0), (.int .i64 0), (.int .i64 0), (.int .i64 0), (.int .i64 0), (.int .i64 0), (.int .i64 0)]) 80 rfl Try.underlying36 info61 rfl (by decide) (by omega) (.slice Ao11 x3_1.length co11) x3_1 (⟨(rd_T80 l0 x9_1).f0.f0, (⟨(rd_T80 l0 x9_1).f0.f1.f0, (rd_T80 l0 x9_1).f0.f1.f1⟩ : S55), (rd_T80 l0 x9_1).f0.f2, (⟨(rd_T80 l0 x9_1).f0.f3.f0, (rd_T80 l0 x9_1).f0.f3.f1⟩ : S55), (⟨(rd_T80 l0 x9_1).f0.f4.f0, (rd_T80 l0 x9_1).f0.f4.f1⟩ : S55), (rd_T80 l0 x9_1).f0.f5, (rd_T80 l0 x9_1).f0.f6⟩ : S61) [.int .i64 ((rd_T80 l0 x9_1).f0.f0), .int .i64 ((rd_T80 l0 x9_1).f0.f1.f0), .int .i64 ((rd_T80 l0 x9_1).f0.f1.f1), .int .i64 ((rd_T80 l0 x9_1).f0.f2), .int .i64 ((rd_T80 l0 x9_1).f0.f3.f0), .int .i64 ((rd_T80 l0 x9_1).f0.f3.f1), .int .i64 ((rd_T80 l0 x9_1).f0.f4.f0), .int .i64 ((rd_T80 l0 x9_1).f0.f4.f1), .int .i64 ((rd_T80 l0 x9_1).f0.f5), .int .i64 ((rd_T80 l0 x9_1).f0.f6)] (fun _ => True) (fun _ => False) rfl rfl ?aP (fun _ hk => hk.elim) ?aF ?aO ?aB ?aS ?aL ?_; (case aP => exact k61_mkM _ _ _ (⟨(rd_T80 l0 x9_1).f0.f0, (⟨(rd_T80 l0 x9_1).f0.f1.f0, (rd_T80 l0 x9_1).f0.f1.f1⟩ : S55), (rd_T80 l0 x9_1).f0.f2, (⟨(rd_T80 l0 x9_1).f0.f3.f0, (rd_T80 l0 x9_1).f0.f3.f1⟩ : S55), (⟨(rd_T80 l0 x9_1).f0.f4.f0, (rd_T80 l0 x9_1).f0.f4.f1⟩ : S55), (rd_T80 l0 x9_1).f0.f5, (rd_T80 l0 x9_1).f0.f6⟩ : S61)); (case aB => exact bl_); (case aF => exact (fun _ _ => trivial)); (case aO => exact (rr_ HO_3)); (case aS => exact bls_); (case aL => have := LMc14.out; omega); intro v416 w16 ho hb hg hat; rw [← Ny415.out] at ho; replace BK413 := aa_ (blk_grown (g := gb413) (o := .cells #[.int .i64 ((rd_T80 l0 x9_1).f0.f0), .int .i64 ((rd_T80 l0 x9_1).f0.f1.f0), .int .i64 ((rd_T80 l0 x9_1).f0.f1.f1), .int .i64 ((rd_T80 l0 x9_1).f0.f2), .int .i64 ((rd_T80 l0 x9_1).f0.f3.f0), .int .i64 ((rd_T80 l0 x9_1).f0.f3.f1), .int .i64 ((rd_T80 l0 x9_1).f0.f4.f0), .int .i64 ((rd_T80 l0 x9_1).f0.f4.f1), .int .i64 ((rd_T80 l0 x9_1).f0.f5), .int .i64 ((rd_T80 l0 x9_1).f0.f6), .int .i64 ((rd_T80 l0 x9_1).f1.f0.f0), .int .i64 ((rd_T80 l0 x9_1).f1.f0.f1), .int .i64 ((rd_T80 l0 x9_1).f1.f1), .slice A412_13 ((rd_T80 l0 x9_1).f2).length c412_13] 80 (0, 0)) (bk_ BK413) hg (Kd.R_ne HO_3.out BK413.out (by decide))); replace HB := aa_ (hb); have HO417 := aa_ (ho); clear HO_3; clear ho hb hg hat))
     go_roundg k1
     case measure => have := HK1.out; omega
     case rel => exact ⟨(y415), (wrap64 (x9_1 + 1)), rf_, H', ⟨by have := HK1.out; omega⟩, ⟨rr_ HO417⟩, ⟨bl_⟩⟩
   ·rw [if_neg c4] at H
    have c4b0 : decide (x9_1 < (l0.length : Int)) = false := decide_eq_false c4
    clear c4
    obtain rfl := Option.some.inj H
    go_wp2
    go_ret
    exact ⟨_, eq_, by (with_reducible repeat (first | apply Kd.R_alloc | apply Kd.R_drewN | apply Kd.R_drew)); exact HO_3.out, bl_⟩
def impl_in.f (a0 : Int) (a1 : Int) (a2 : Int) : Option (Bool) := if a0 ≥ a1 then (some (decide (a0 ≤ a2))) else (some false)
set_option maxHeartbeats 8000000 in
set_option maxRecDepth 100000 in
theorem impl_in.calls (a0 : Int) (a1 : Int) (a2 : Int) (r : Bool) (w : World) (h : impl_in.f a0 a1 a2 = some r) :
  Calls Try.prog 58 #[.int .i64 a0, .int .i64 a1, .int .i64 a2] w fun e w' => e = .returned (.bool r) ∧ Drawn0 w w' := by
 have H : (if a0 ≥ a1 then (some (decide (a0 ≤ a2))) else (some false)) = some r := h
 clear h
 by_cases c4 : a0 ≥ a1
 ·rw [if_pos c4] at H
  have c4b0 : decide (a1 ≤ a0) = true := decide_eq_true c4
  clear c4
  obtain rfl := Option.some.inj H
  go_enter Try.func58, Try.ntmps58
  go_wp2
  go_ret
  exact ⟨by first | rfl | (simp; done) | (simp [*]; done), by repeat (first | exact Drawn0.refl _ | apply Drawn0.step)⟩
 ·rw [if_neg c4] at H
  have c4b0 : decide (a1 ≤ a0) = false := decide_eq_false c4
  clear c4
  obtain rfl := Option.some.inj H
  go_enter Try.func58, Try.ntmps58
  go_wp2
  go_ret
  exact ⟨by first | rfl | (simp; done) | (simp [*]; done), by repeat (first | exact Drawn0.refl _ | apply Drawn0.step)⟩
def impl_RoleOk.f (a0_0 : Int) (a0_1 : Int) : Option (Bool) := (impl_in.f a0_0 0 5).bind fun t419 => (if t419 = true then ((impl_in.f a0_1 0 3).bind fun t420 => (some t420)) else (some false))
set_option maxHeartbeats 8000000 in
set_option maxRecDepth 100000 in
theorem impl_RoleOk.calls (a0_0 : Int) (a0_1 : Int) (r : Bool) (w : World) (h : impl_RoleOk.f a0_0 a0_1 = some r) :
  Calls Try.prog 71 #[.agg #[.int .i64 a0_0, .int .i64 a0_1]] w fun e w' => e = .returned (.bool r) ∧ Below w.heap.size w w' := by
 have hu55 := Try.underlying55
 have HB := aa_ (Below.refl w.heap.size w)
 have H : ((impl_in.f a0_0 0 5).bind fun t419 => (if t419 = true then ((impl_in.f a0_1 0 3).bind fun t420 => (some t420)) else (some false))) = some r := h
 clear h
 obtain ⟨t419, A2, H⟩ := bindE_ H
 by_cases c3 : t419 = true
 ·subst c3
  replace H := ite_t_ H
  obtain ⟨t420, A4, H⟩ := bindE_ H
  obtain rfl := Option.some.inj H
  go_enter Try.func71, Try.ntmps71
  go_wp2_with (first | ((with_reducible refine gD_ 1 rfl ?_); refine bx_ (N := 1) (cs := #[.int .i64 a0_0, .int .i64 a0_1]) (t := 55) ?_; intro gb418 hg w5 hbox hb; have BK418 := aa_ (hbox); have GW418 := gs_ hg; have GE418 := gs_ hg; replace HB := hbs_ hb; clear hb hbox hg; obtain ⟨hcz6, hfz6⟩ := bcf_ BK418) | ((with_reducible refine gC_ 58 rfl ?_); refine goesC_ (some 5) Try.func58 #[.int .i64 a0_0, .int .i64 0, .int .i64 5] ?_; (with_reducible refine (impl_in.calls a0_0 0 5 true _ A2.out).mono ?_); rintro e w' ⟨rfl, ⟨nd, rfl⟩⟩; refine ⟨_, rfl, ?_⟩) | (go_at_call 58; (with_reducible refine (impl_in.calls a0_1 0 3 t420 _ A4.out).mono ?_); rintro e w' ⟨rfl, ⟨nd, rfl⟩⟩))
  go_ret
  exact ⟨eq_, bl_⟩
 ·replace c3 := Bool.eq_false_iff.mpr c3
  subst c3
  replace H := ite_f_ H
  obtain rfl := Option.some.inj H
  go_enter Try.func71, Try.ntmps71
  go_wp2_with (first | ((with_reducible refine gD_ 1 rfl ?_); refine bx_ (N := 1) (cs := #[.int .i64 a0_0, .int .i64 a0_1]) (t := 55) ?_; intro gb418 hg w7 hbox hb; have BK418 := aa_ (hbox); have GW418 := gs_ hg; have GE418 := gs_ hg; replace HB := hbs_ hb; clear hb hbox hg; obtain ⟨hcz8, hfz8⟩ := bcf_ BK418) | ((with_reducible refine gC_ 58 rfl ?_); refine goesC_ (some 5) Try.func58 #[.int .i64 a0_0, .int .i64 0, .int .i64 5] ?_; (with_reducible refine (impl_in.calls a0_0 0 5 false _ A2.out).mono ?_); rintro e w' ⟨rfl, ⟨nd, rfl⟩⟩; refine ⟨_, rfl, ?_⟩))
  go_ret
  exact ⟨eq_, bl_⟩
def impl_isPerson.f (a0 : Int) : Option (Bool) := (impl_in.f a0 0 5).bind fun t421 => (some t421)
set_option maxHeartbeats 8000000 in
set_option maxRecDepth 100000 in
theorem impl_isPerson.calls (a0 : Int) (r : Bool) (w : World) (h : impl_isPerson.f a0 = some r) :
  Calls Try.prog 72 #[.int .i64 a0] w fun e w' => e = .returned (.bool r) ∧ Drawn0 w w' := by
 have H : ((impl_in.f a0 0 5).bind fun t421 => (some t421)) = some r := h
 clear h
 obtain ⟨t421, A2, H⟩ := bindE_ H
 obtain rfl := Option.some.inj H
 go_enter Try.func72, Try.ntmps72
 go_wp2_with (first | ((with_reducible refine gC_ 58 rfl ?_); refine goesC_ (some 4) Try.func58 #[.int .i64 a0, .int .i64 0, .int .i64 5] ?_; (with_reducible refine (impl_in.calls a0 0 5 t421 _ A2.out).mono ?_); rintro e w' ⟨rfl, ⟨nd, rfl⟩⟩; refine ⟨_, rfl, ?_⟩))
 go_ret
 exact ⟨by first | rfl | (simp; done) | (simp [*]; done), by repeat (first | exact Drawn0.refl _ | apply Drawn0.step)⟩
def impl_CredOk.j0 : Nat → Bool → Int → Int → Int → Int → Int → Int → Int → Int → Int → Int → Option (Bool)
 | 0, _, _, _, _, _, _, _, _, _, _, _ => none
 | k + 1, x19, x423000, x423001, x423002, x423003, x423004, x423005, x423006, x423007, x423008, x423009 => if x19 = true then (some false) else (if x423000 = 1 then ((impl_isPerson.f x423003).bind fun t427 => (if t427 = true then (if (x423004 == 0 && (x423005 == 0)) = true then (some (x423006 == 0 && (x423007 == 0))) else (some false)) else (some false))) else (if x423000 = 2 then (if x423003 = 0 then ((impl_RoleOk.f x423004 x423005).bind fun t428 => (if t428 = true then (some (x423006 == 0 && (x423007 == 0))) else (some false))) else (some false)) else (if x423000 = 3 then (if x423003 = 0 then ((impl_RoleOk.f x423004 x423005).bind fun t429 => (if t429 = true then ((impl_RoleOk.f x423006 x423007).bind fun t430 => (if t430 = true then (some (x423006 == 0)) else (some false))) else (some false))) else (some false)) else (if x423000 = 4 then (if x423003 = 0 then ((impl_RoleOk.f x423004 x423005).bind fun t431 => (if t431 = true then ((impl_RoleOk.f x423006 x423007).bind fun t432 => (some t432)) else (some false))) else (some false)) else (some false)))))
def impl_CredOk.f (k : Nat) (a0_0 : Int) (a0_1 : Int) (a0_2 : Int) (a0_3 : Int) (a0_4 : Int) (a0_5 : Int) (a0_6 : Int) (a0_7 : Int) (a0_8 : Int) (a0_9 : Int) : Option (Bool) := (impl_RoleOk.f a0_1 a0_2).bind fun t423 => (if t423 = true then ((impl_in.f a0_8 1 9999).bind fun t424 => (if t424 = true then ((impl_in.f a0_9 0 99).bind fun t425 => (impl_CredOk.j0 k (!t425) a0_0 a0_1 a0_2 a0_3 a0_4 a0_5 a0_6 a0_7 a0_8 a0_9)) else (impl_CredOk.j0 k true a0_0 a0_1 a0_2 a0_3 a0_4 a0_5 a0_6 a0_7 a0_8 a0_9))) else (impl_CredOk.j0 k true a0_0 a0_1 a0_2 a0_3 a0_4 a0_5 a0_6 a0_7 a0_8 a0_9))
set_option maxHeartbeats 8000000 in
set_option maxRecDepth 100000 in
theorem impl_CredOk.calls (k : Nat) (a0_0 : Int) (a0_1 : Int) (a0_2 : Int) (a0_3 : Int) (a0_4 : Int) (a0_5 : Int) (a0_6 : Int) (a0_7 : Int) (a0_8 : Int) (a0_9 : Int) (r : Bool) (w : World) (h : impl_CredOk.f k a0_0 a0_1 a0_2 a0_3 a0_4 a0_5 a0_6 a0_7 a0_8 a0_9 = some r) :
  Calls Try.prog 60 #[.agg #[.int .i64 a0_0, .int .i64 a0_1, .int .i64 a0_2, .int .i64 a0_3, .int .i64 a0_4, .int .i64 a0_5, .int .i64 a0_6, .int .i64 a0_7, .int .i64 a0_8, .int .i64 a0_9]] w fun e w' => e = .returned (.bool r) ∧ Below w.heap.size w w' := by
 have hu61 := Try.underlying61
 have hu55 := Try.underlying55
 have HB := aa_ (Below.refl w.heap.size w)
 have H : ((impl_RoleOk.f a0_1 a0_2).bind fun t423 => (if t423 = true then ((impl_in.f a0_8 1 9999).bind fun t424 => (if t424 = true then ((impl_in.f a0_9 0 99).bind fun t425 => (impl_CredOk.j0 k (!t425) a0_0 a0_1 a0_2 a0_3 a0_4 a0_5 a0_6 a0_7 a0_8 a0_9)) else (impl_CredOk.j0 k true a0_0 a0_1 a0_2 a0_3 a0_4 a0_5 a0_6 a0_7 a0_8 a0_9))) else (impl_CredOk.j0 k true a0_0 a0_1 a0_2 a0_3 a0_4 a0_5 a0_6 a0_7 a0_8 a0_9))) = some r := h
 clear h
 have HC2 := aa_ H
 clear H
 go_enter Try.func60, Try.ntmps60
 go_upto_region 1 with (first | ((with_reducible refine gD_ 1 rfl ?_); refine bx_ (N := 1) (cs := #[.int .i64 a0_0, .int .i64 a0_1, .int .i64 a0_2, .int .i64 a0_3, .int .i64 a0_4, .int .i64 a0_5, .int .i64 a0_6, .int .i64 a0_7, .int .i64 a0_8, .int .i64 a0_9]) (t := 61) ?_; intro gb422 hg w3 hbox hb; have BK422 := aa_ (hbox); have GW422 := gs_ hg; have GE422 := gs_ hg; replace HB := hbs_ hb; clear hb hbox hg))
 (try simp only [Act.put, List.setIfInBounds_toArray, List.set_cons_zero, List.set_cons_succ])
 go_cut [19] (fun v19 wc => ∃ (kq : Nat) (x19_1 : Bool), v19 = .bool x19_1 ∧ Aside0 (impl_CredOk.j0 kq x19_1 a0_0 a0_1 a0_2 a0_3 a0_4 a0_5 a0_6 a0_7 a0_8 a0_9 = some r) ∧ Aside0 (kq ≤ k) ∧ Aside0 (wc.heap[gb422]? = some (.cells #[.int .i64 a0_0, .int .i64 a0_1, .int .i64 a0_2, .int .i64 a0_3, .int .i64 a0_4, .int .i64 a0_5, .int .i64 a0_6, .int .i64 a0_7, .int .i64 a0_8, .int .i64 a0_9] 61 (0, 0))) ∧ Aside0 (Below w.heap.size w wc))
 case first =>
  have H := HC2.out
  clear HC2
  obtain ⟨t423, A4, H⟩ := bindE_ H
  by_cases c5 : t423 = true
  ·subst c5
   replace H := ite_t_ H
   obtain ⟨t424, A6, H⟩ := bindE_ H
   by_cases c7 : t424 = true
   ·subst c7
    replace H := ite_t_ H
    obtain ⟨t425, A8, H⟩ := bindE_ H
    have H' := aa_ H
    clear H
    have hcz9 := blk_cell BK422.out
    have hfz9 := blk_frozen BK422.out
    go_wp2_with (first | ((with_reducible refine gC_ 71 rfl ?_); refine goesC_ (some 6) Try.func71 #[.agg #[.int .i64 a0_1, .int .i64 a0_2]] ?_; (with_reducible refine (impl_RoleOk.calls a0_1 a0_2 true _ A4.out).mono ?_); rintro e w10 ⟨rfl, hb⟩; refine ⟨_, rfl, ?_⟩; replace BK422 := bkb_ BK422 hb; replace HB := hbs_ hb; clear hb; obtain ⟨hcz11, hfz11⟩ := bcf_ BK422) | (go_at_call 58; (with_reducible refine (impl_in.calls a0_8 1 9999 true _ A6.out).mono ?_); rintro e w' ⟨rfl, ⟨nd, rfl⟩⟩) | (go_at_call 58; (with_reducible refine (impl_in.calls a0_9 0 99 t425 _ A8.out).mono ?_); rintro e w' ⟨rfl, ⟨nd, rfl⟩⟩))
    go_meet
    case rel => exact ⟨_, (!t425), rf_, H', ⟨by first | omega | exact Nat.le_refl _⟩, ⟨bk_ BK422⟩, ⟨bl_⟩⟩
   ·replace c7 := Bool.eq_false_iff.mpr c7
    subst c7
    replace H := ite_f_ H
    have H' := aa_ H
    clear H
    have hcz12 := blk_cell BK422.out
    have hfz12 := blk_frozen BK422.out
    go_wp2_with (first | ((with_reducible refine gC_ 71 rfl ?_); refine goesC_ (some 6) Try.func71 #[.agg #[.int .i64 a0_1, .int .i64 a0_2]] ?_; (with_reducible refine (impl_RoleOk.calls a0_1 a0_2 true _ A4.out).mono ?_); rintro e w13 ⟨rfl, hb⟩; refine ⟨_, rfl, ?_⟩; replace BK422 := bkb_ BK422 hb; replace HB := hbs_ hb; clear hb; obtain ⟨hcz14, hfz14⟩ := bcf_ BK422) | (go_at_call 58; (with_reducible refine (impl_in.calls a0_8 1 9999 false _ A6.out).mono ?_); rintro e w' ⟨rfl, ⟨nd, rfl⟩⟩))
    go_meet
    case rel => exact ⟨_, (true), rf_, H', ⟨by first | omega | exact Nat.le_refl _⟩, ⟨bk_ BK422⟩, ⟨bl_⟩⟩
  ·replace c5 := Bool.eq_false_iff.mpr c5
   subst c5
   replace H := ite_f_ H
   have H' := aa_ H
   clear H
   have hcz15 := blk_cell BK422.out
   have hfz15 := blk_frozen BK422.out
   go_wp2_with (first | ((with_reducible refine gC_ 71 rfl ?_); refine goesC_ (some 6) Try.func71 #[.agg #[.int .i64 a0_1, .int .i64 a0_2]] ?_; (with_reducible refine (impl_RoleOk.calls a0_1 a0_2 false _ A4.out).mono ?_); rintro e w16 ⟨rfl, hb⟩; refine ⟨_, rfl, ?_⟩; replace BK422 := bkb_ BK422 hb; replace HB := hbs_ hb; clear hb))
   go_meet
   case rel => exact ⟨_, (true), rf_, H', ⟨by first | omega | exact Nat.le_refl _⟩, ⟨bk_ BK422⟩, ⟨bl_⟩⟩
 case rest =>
  clear HC2
  try clear p2
  try clear c5
  try clear c6
  try clear c7
  try clear hcz11
  try clear hcz12
  try clear hcz14
  try clear hcz15
  try clear hcz9
  try clear hfz11
  try clear hfz12
  try clear hfz14
  try clear hfz15
  try clear hfz9
  obtain ⟨kq, x19_1, rfl, HA, HJ1, BK422, HB⟩ := hcut
  cases kq with
  | zero => exact absurd HA.out (by simp [impl_CredOk.j0])
  | succ kj1 =>
   have H := HA.out
   clear HA
   simp only [impl_CredOk.j0] at H
   by_cases c17 : x19_1 = true
   ·subst c17
    replace H := ite_t_ H
    obtain rfl := Option.some.inj H
    go_wp2
    go_ret
    exact ⟨eq_, bl_⟩
   ·replace c17 := Bool.eq_false_iff.mpr c17
    subst c17
    replace H := ite_f_ H
    have HC18 := aa_ H
    clear H
    go_upto_if 23 with (first | ((with_reducible refine gD_ 3 rfl ?_); refine bx_ (N := 3) (cs := #[.int .i64 0, .int .i64 0]) (t := 55) ?_; intro gb426 hg w19 hbox hb; have BK426 := aa_ (hbox); have GW426 := gs_ hg; have GE426 := gs_ hg; replace HB := hbs_ hb; have NB422_426 := nl_ hg BK422; have NB426_422 := nr_ hg BK422; replace BK422 := bkb_ BK422 hb; clear hb hbox hg; have hnb20 := NB426_422.out; have hnc20 := NB422_426.out; obtain ⟨hcz21, hfz21⟩ := bcf_ BK426; obtain ⟨hcz22, hfz22⟩ := bcf_ BK422))
    have n0_ : Aside0 (((w19.setCell ⟨gb426, 0, none⟩ (.int .i64 0)).setCell ⟨gb426, 1, none⟩ (.int .i64 0)).heap[gb422]? = some (.cells #[.int .i64 a0_0, .int .i64 a0_1, .int .i64 a0_2, .int .i64 a0_3, .int .i64 a0_4, .int .i64 a0_5, .int .i64 a0_6, .int .i64 a0_7, .int .i64 a0_8, .int .i64 a0_9] 61 (0, 0))) := ⟨bk_ BK422⟩
    have n1_ : Aside0 (((w19.setCell ⟨gb426, 0, none⟩ (.int .i64 0)).setCell ⟨gb426, 1, none⟩ (.int .i64 0)).heap[gb426]? = some (.cells #[.int .i64 0, .int .i64 0] 55 (0, 0))) := ⟨bk_ BK426⟩
    have n2_ : Aside0 (Below w.heap.size w ((w19.setCell ⟨gb426, 0, none⟩ (.int .i64 0)).setCell ⟨gb426, 1, none⟩ (.int .i64 0))) := ⟨bl_⟩
    (try clear BK422)
    (try clear BK426)
    (try clear HB)
    generalize ((w19.setCell ⟨gb426, 0, none⟩ (.int .i64 0)).setCell ⟨gb426, 1, none⟩ (.int .i64 0)) = w23 at n0_ n1_ n2_ ⊢
    have BK422 := n0_
    have BK426 := n1_
    have HB := n2_
    clear n0_ n1_ n2_
    (try simp only [Act.put, List.setIfInBounds_toArray, List.set_cons_zero, List.set_cons_succ])
    have H := HC18.out
    clear HC18
    by_cases c24 : a0_0 = 1
    ·rw [if_pos c24] at H
     have c24b0 : (a0_0 == 1) = true := beq_iff_eq.mpr c24
     have c24b1 : (a0_0 != 1) = false := bne_eq_false_iff_eq.mpr c24
     clear c24
     (first | rw [c24b0] | (simp only [i64_w, i32_w]; rw [c24b0]) | skip)
     obtain ⟨t427, A25, H⟩ := bindE_ H
     by_cases c26 : t427 = true
     ·subst c26
      replace H := ite_t_ H
      by_cases c27 : (a0_4 == 0 && (a0_5 == 0)) = true
      ·rw [if_pos c27] at H
       have c27b0 : (a0_4 == 0 && (a0_5 == 0)) = true := c27
       (try (have c27b1 : decide (a0_4 = 0 && (a0_5 == 0)) = true := by simpa using c27))
       (try (have c27b2 : (a0_4 == 0 && (a0_5 == 0)) = true := by simpa using c27))
       clear c27
       obtain rfl := Option.some.inj H
       have hnb28 := NB422_426.out
       have hnc28 := NB426_422.out
       have hcz29 := blk_cell BK422.out
       have hfz29 := blk_frozen BK422.out
       go_wp2_with (first | ((with_reducible refine gC_ 72 rfl ?_); refine goesC_ (some 27) Try.func72 #[.int .i64 a0_3] ?_; (with_reducible refine (impl_isPerson.calls a0_3 true _ A25.out).mono ?_); rintro e w' ⟨rfl, ⟨nd, rfl⟩⟩; refine ⟨_, rfl, ?_⟩; obtain ⟨hcz30, hfz30⟩ := bcf_ BK426))
       go_ret
       exact ⟨eq_, bl_⟩
      ·rw [if_neg c27] at H
       have c27b0 : (a0_4 == 0 && (a0_5 == 0)) = false := by simpa using c27
       (try (have c27b1 : decide (a0_4 = 0 && (a0_5 == 0)) = false := by simpa using c27))
       (try (have c27b2 : (a0_4 == 0 && (a0_5 == 0)) = false := by simpa using c27))
       (try (have c27b3 : ¬ (a0_4 = 0 && (a0_5 == 0)) := by simpa using c27))
       clear c27
       obtain rfl := Option.some.inj H
       have hnb31 := NB422_426.out
       have hnc31 := NB426_422.out
       have hcz32 := blk_cell BK422.out
       have hfz32 := blk_frozen BK422.out
       go_wp2_with (first | ((with_reducible refine gC_ 72 rfl ?_); refine goesC_ (some 27) Try.func72 #[.int .i64 a0_3] ?_; (with_reducible refine (impl_isPerson.calls a0_3 true _ A25.out).mono ?_); rintro e w' ⟨rfl, ⟨nd, rfl⟩⟩; refine ⟨_, rfl, ?_⟩; obtain ⟨hcz33, hfz33⟩ := bcf_ BK426))
       go_ret
       exact ⟨eq_, bl_⟩
     ·replace c26 := Bool.eq_false_iff.mpr c26
      subst c26
      replace H := ite_f_ H
      obtain rfl := Option.some.inj H
      have hnb34 := NB422_426.out
      have hnc34 := NB426_422.out
      have hcz35 := blk_cell BK422.out
      have hfz35 := blk_frozen BK422.out
      go_wp2_with (first | ((with_reducible refine gC_ 72 rfl ?_); refine goesC_ (some 27) Try.func72 #[.int .i64 a0_3] ?_; (with_reducible refine (impl_isPerson.calls a0_3 false _ A25.out).mono ?_); rintro e w' ⟨rfl, ⟨nd, rfl⟩⟩; refine ⟨_, rfl, ?_⟩))
      go_ret
      exact ⟨eq_, bl_⟩
    ·rw [if_neg c24] at H
     have c24b0 : (a0_0 == 1) = false := beq_eq_false_iff_ne.mpr c24
     have c24b1 : (a0_0 != 1) = true := bne_iff_ne.mpr c24
     (first | rw [c24b0] | (simp only [i64_w, i32_w]; rw [c24b0]) | skip)
     by_cases c36 : a0_0 = 2
     ·rw [if_pos c36] at H
      have c36b0 : (a0_0 == 2) = true := beq_iff_eq.mpr c36
      have c36b1 : (a0_0 != 2) = false := bne_eq_false_iff_eq.mpr c36
      clear c36
      by_cases c37 : a0_3 = 0
      ·rw [if_pos c37] at H
       have c37b0 : (a0_3 == 0) = true := beq_iff_eq.mpr c37
       have c37b1 : (a0_3 != 0) = false := bne_eq_false_iff_eq.mpr c37
       clear c37
       obtain ⟨t428, A38, H⟩ := bindE_ H
       by_cases c39 : t428 = true
       ·subst c39
        replace H := ite_t_ H
        obtain rfl := Option.some.inj H
        have hnb40 := NB422_426.out
        have hnc40 := NB426_422.out
        have hcz41 := blk_cell BK422.out
        have hfz41 := blk_frozen BK422.out
        go_wp2_with (first | (go_at_call 71; (with_reducible refine (impl_RoleOk.calls a0_4 a0_5 true _ A38.out).mono ?_); rintro e w42 ⟨rfl, hb⟩; replace BK422 := bkb_ BK422 hb; replace BK426 := bkb_ BK426 hb; replace HB := hbs_ hb; clear hb; obtain ⟨hcz43, hfz43⟩ := bcf_ BK422; obtain ⟨hcz44, hfz44⟩ := bcf_ BK426))
        go_ret
        exact ⟨eq_, bl_⟩
       ·replace c39 := Bool.eq_false_iff.mpr c39
        subst c39
        replace H := ite_f_ H
        obtain rfl := Option.some.inj H
        have hnb45 := NB422_426.out
        have hnc45 := NB426_422.out
        have hcz46 := blk_cell BK422.out
        have hfz46 := blk_frozen BK422.out
        go_wp2_with (first | (go_at_call 71; (with_reducible refine (impl_RoleOk.calls a0_4 a0_5 false _ A38.out).mono ?_); rintro e w47 ⟨rfl, hb⟩; replace BK422 := bkb_ BK422 hb; replace BK426 := bkb_ BK426 hb; replace HB := hbs_ hb; clear hb))
        go_ret
        exact ⟨eq_, bl_⟩
      ·rw [if_neg c37] at H
       have c37b0 : (a0_3 == 0) = false := beq_eq_false_iff_ne.mpr c37
       have c37b1 : (a0_3 != 0) = true := bne_iff_ne.mpr c37
       obtain rfl := Option.some.inj H
       have hnb48 := NB422_426.out
       have hnc48 := NB426_422.out
       have hcz49 := blk_cell BK422.out
       have hfz49 := blk_frozen BK422.out
       go_wp2
       go_ret
       exact ⟨eq_, bl_⟩
     ·rw [if_neg c36] at H
      have c36b0 : (a0_0 == 2) = false := beq_eq_false_iff_ne.mpr c36
      have c36b1 : (a0_0 != 2) = true := bne_iff_ne.mpr c36
      by_cases c50 : a0_0 = 3
      ·rw [if_pos c50] at H
       have c50b0 : (a0_0 == 3) = true := beq_iff_eq.mpr c50
       have c50b1 : (a0_0 != 3) = false := bne_eq_false_iff_eq.mpr c50
       clear c50
       by_cases c51 : a0_3 = 0
       ·rw [if_pos c51] at H
        have c51b0 : (a0_3 == 0) = true := beq_iff_eq.mpr c51
        have c51b1 : (a0_3 != 0) = false := bne_eq_false_iff_eq.mpr c51
        clear c51
        obtain ⟨t429, A52, H⟩ := bindE_ H
        by_cases c53 : t429 = true
        ·subst c53
         replace H := ite_t_ H
         obtain ⟨t430, A54, H⟩ := bindE_ H
         by_cases c55 : t430 = true
         ·subst c55
          replace H := ite_t_ H
          obtain rfl := Option.some.inj H
          have hnb56 := NB422_426.out
          have hnc56 := NB426_422.out
          have hcz57 := blk_cell BK422.out
          have hfz57 := blk_frozen BK422.out
          go_wp2_with (first | (go_at_call 71; (with_reducible refine (impl_RoleOk.calls a0_4 a0_5 true _ A52.out).mono ?_); rintro e w58 ⟨rfl, hb⟩; replace BK422 := bkb_ BK422 hb; replace BK426 := bkb_ BK426 hb; replace HB := hbs_ hb; clear hb; obtain ⟨hcz59, hfz59⟩ := bcf_ BK422) | (go_at_call 71; (with_reducible refine (impl_RoleOk.calls a0_6 a0_7 true _ A54.out).mono ?_); rintro e w60 ⟨rfl, hb⟩; replace BK422 := bkb_ BK422 hb; replace BK426 := bkb_ BK426 hb; replace HB := hbs_ hb; clear hb; obtain ⟨hcz61, hfz61⟩ := bcf_ BK422))
          go_ret
          exact ⟨eq_, bl_⟩
         ·replace c55 := Bool.eq_false_iff.mpr c55
          subst c55
          replace H := ite_f_ H
          obtain rfl := Option.some.inj H
          have hnb62 := NB422_426.out
          have hnc62 := NB426_422.out
          have hcz63 := blk_cell BK422.out
          have hfz63 := blk_frozen BK422.out
          go_wp2_with (first | (go_at_call 71; (with_reducible refine (impl_RoleOk.calls a0_4 a0_5 true _ A52.out).mono ?_); rintro e w64 ⟨rfl, hb⟩; replace BK422 := bkb_ BK422 hb; replace BK426 := bkb_ BK426 hb; replace HB := hbs_ hb; clear hb; obtain ⟨hcz65, hfz65⟩ := bcf_ BK422) | (go_at_call 71; (with_reducible refine (impl_RoleOk.calls a0_6 a0_7 false _ A54.out).mono ?_); rintro e w66 ⟨rfl, hb⟩; replace BK422 := bkb_ BK422 hb; replace BK426 := bkb_ BK426 hb; replace HB := hbs_ hb; clear hb))
          go_ret
          exact ⟨eq_, bl_⟩
        ·replace c53 := Bool.eq_false_iff.mpr c53
         subst c53
         replace H := ite_f_ H
         obtain rfl := Option.some.inj H
         have hnb67 := NB422_426.out
         have hnc67 := NB426_422.out
         have hcz68 := blk_cell BK422.out
         have hfz68 := blk_frozen BK422.out
         go_wp2_with (first | (go_at_call 71; (with_reducible refine (impl_RoleOk.calls a0_4 a0_5 false _ A52.out).mono ?_); rintro e w69 ⟨rfl, hb⟩; replace BK422 := bkb_ BK422 hb; replace BK426 := bkb_ BK426 hb; replace HB := hbs_ hb; clear hb))
         go_ret
         exact ⟨eq_, bl_⟩
       ·rw [if_neg c51] at H
        have c51b0 : (a0_3 == 0) = false := beq_eq_false_iff_ne.mpr c51
        have c51b1 : (a0_3 != 0) = true := bne_iff_ne.mpr c51
        obtain rfl := Option.some.inj H
        have hnb70 := NB422_426.out
        have hnc70 := NB426_422.out
        have hcz71 := blk_cell BK422.out
        have hfz71 := blk_frozen BK422.out
        go_wp2
        go_ret
        exact ⟨eq_, bl_⟩
      ·rw [if_neg c50] at H
       have c50b0 : (a0_0 == 3) = false := beq_eq_false_iff_ne.mpr c50
       have c50b1 : (a0_0 != 3) = true := bne_iff_ne.mpr c50
       by_cases c72 : a0_0 = 4
       ·rw [if_pos c72] at H
        have c72b0 : (a0_0 == 4) = true := beq_iff_eq.mpr c72
        have c72b1 : (a0_0 != 4) = false := bne_eq_false_iff_eq.mpr c72
        clear c72
        by_cases c73 : a0_3 = 0
        ·rw [if_pos c73] at H
         have c73b0 : (a0_3 == 0) = true := beq_iff_eq.mpr c73
         have c73b1 : (a0_3 != 0) = false := bne_eq_false_iff_eq.mpr c73
         clear c73
         obtain ⟨t431, A74, H⟩ := bindE_ H
         by_cases c75 : t431 = true
         ·subst c75
          replace H := ite_t_ H
          obtain ⟨t432, A76, H⟩ := bindE_ H
          obtain rfl := Option.some.inj H
          have hnb77 := NB422_426.out
          have hnc77 := NB426_422.out
          have hcz78 := blk_cell BK422.out
          have hfz78 := blk_frozen BK422.out
          go_wp2_with (first | (go_at_call 71; (with_reducible refine (impl_RoleOk.calls a0_4 a0_5 true _ A74.out).mono ?_); rintro e w79 ⟨rfl, hb⟩; replace BK422 := bkb_ BK422 hb; replace BK426 := bkb_ BK426 hb; replace HB := hbs_ hb; clear hb; obtain ⟨hcz80, hfz80⟩ := bcf_ BK422) | (go_at_call 71; (with_reducible refine (impl_RoleOk.calls a0_6 a0_7 t432 _ A76.out).mono ?_); rintro e w81 ⟨rfl, hb⟩; replace BK422 := bkb_ BK422 hb; replace BK426 := bkb_ BK426 hb; replace HB := hbs_ hb; clear hb))
          go_ret
          exact ⟨eq_, bl_⟩
         ·replace c75 := Bool.eq_false_iff.mpr c75
          subst c75
          replace H := ite_f_ H
          obtain rfl := Option.some.inj H
          have hnb82 := NB422_426.out
          have hnc82 := NB426_422.out
          have hcz83 := blk_cell BK422.out
          have hfz83 := blk_frozen BK422.out
          go_wp2_with (first | (go_at_call 71; (with_reducible refine (impl_RoleOk.calls a0_4 a0_5 false _ A74.out).mono ?_); rintro e w84 ⟨rfl, hb⟩; replace BK422 := bkb_ BK422 hb; replace BK426 := bkb_ BK426 hb; replace HB := hbs_ hb; clear hb))
          go_ret
          exact ⟨eq_, bl_⟩
        ·rw [if_neg c73] at H
         have c73b0 : (a0_3 == 0) = false := beq_eq_false_iff_ne.mpr c73
         have c73b1 : (a0_3 != 0) = true := bne_iff_ne.mpr c73
         obtain rfl := Option.some.inj H
         have hnb85 := NB422_426.out
         have hnc85 := NB426_422.out
         have hcz86 := blk_cell BK422.out
         have hfz86 := blk_frozen BK422.out
         go_wp2
         go_ret
         exact ⟨eq_, bl_⟩
       ·rw [if_neg c72] at H
        have c72b0 : (a0_0 == 4) = false := beq_eq_false_iff_ne.mpr c72
        have c72b1 : (a0_0 != 4) = true := bne_iff_ne.mpr c72
        obtain rfl := Option.some.inj H
        go_wp2
        go_ret
        exact ⟨eq_, bl_⟩
def impl_shown.f (l0 : List (S80)) (a1 : Int) (a2 : Int) : Option (Int × Int × Int × Bool) := (impl_in.f a2 0 (wrap64 (a1 - 1))).bind fun t434 => (if t434 = true then (if 0 ≤ a2 then (if a2 < (l0.length : Int) then (some ((rd_T80 l0 a2).f1.f0.f0, (rd_T80 l0 a2).f1.f0.f1, (rd_T80 l0 a2).f1.f1, true)) else (none)) else (none)) else (some (0, 0, 0, false)))
set_option maxHeartbeats 8000000 in
set_option maxRecDepth 100000 in
theorem impl_shown.calls (A0 : Option Addr) (c0 : Nat) (l0 : List (S80)) (a1 : Int) (a2 : Int) (r1 : Int) (r2 : Int) (r3 : Int) (r4 : Bool) (w : World) (hr0 : Kd.C k80 w A0 l0.length l0) (hc0 : l0.length ≤ c0) (h : impl_shown.f l0 a1 a2 = some (r1, r2, r3, r4)) :
  Calls Try.prog 70 #[.slice A0 l0.length c0, .int .i64 a1, .int .i64 a2] w fun e w' => e = .returned (.tuple #[.agg #[.int .i64 r1, .int .i64 r2, .int .i64 r3], .bool r4]) ∧ Below w.heap.size w w' := by
 have hu57 := Try.underlying57
 have HR0 := aa_ hr0
 have HC0 := aa_ hc0
 clear hr0 hc0
 have HB := aa_ (Below.refl w.heap.size w)
 have H : ((impl_in.f a2 0 (wrap64 (a1 - 1))).bind fun t434 => (if t434 = true then (if 0 ≤ a2 then (if a2 < (l0.length : Int) then (some ((rd_T80 l0 a2).f1.f0.f0, (rd_T80 l0 a2).f1.f0.f1, (rd_T80 l0 a2).f1.f1, true)) else (none)) else (none)) else (some (0, 0, 0, false)))) = some (r1, r2, r3, r4) := h
 clear h
 obtain ⟨t434, A4, H⟩ := bindE_ H
 have HC5 := aa_ H
 clear H
 go_enter Try.func70, Try.ntmps70
 go_upto_if 12 with (first | ((with_reducible refine gD_ 6 rfl ?_); refine bx_ (N := 6) (cs := #[.int .i64 0, .int .i64 0, .int .i64 0]) (t := 57) ?_; intro gb433 hg w6 hbox hb; have BK433 := aa_ (hbox); have GW433 := gs_ hg; have GE433 := gs_ hg; replace HB := hbs_ hb; clear hb hbox hg) | ((with_reducible refine gC_ 58 rfl ?_); refine goesC_ (some 11) Try.func58 #[.int .i64 a2, .int .i64 0, .int .i64 (wrap64 (a1 - 1))] ?_; (with_reducible refine (impl_in.calls a2 0 (wrap64 (a1 - 1)) t434 _ A4.out).mono ?_); rintro e w' ⟨rfl, ⟨nd, rfl⟩⟩; refine ⟨_, rfl, ?_⟩))
 (try simp only [Act.put, List.setIfInBounds_toArray, List.set_cons_zero, List.set_cons_succ])
 have H := HC5.out
 clear HC5
 by_cases c7 : t434 = true
 ·subst c7
  replace H := ite_t_ H
  obtain ⟨c8b0, H⟩ := ifd_ H
  (first | rw [c8b0] | (simp only [i64_w, i32_w]; rw [c8b0]) | skip)
  obtain ⟨c9b0, H⟩ := ifd_ H
  simp only [Option.some.injEq, Prod.mk.injEq] at H
  obtain ⟨rfl, rfl, rfl, rfl⟩ := H
  have p435 : 0 ≤ (a2 : Int) := od_
  have q435 : a2 < (l0.length : Int) := od_
  obtain ⟨ad435, A435_13, c435_13, e435, hx435_0, hx435_1, hx435_2, hx435_3, hx435_4, hx435_5, hx435_6, hx435_7, hx435_8, hx435_9, hx435_10, hx435_11, hx435_12, hx435_13, hl435_13, hi435_13⟩ := at_T80 HR0.out a2 p435 q435
  cases e435
  replace hx435_0 := cb_ HB hx435_0
  replace hx435_1 := cb_ HB hx435_1
  replace hx435_2 := cb_ HB hx435_2
  replace hx435_3 := cb_ HB hx435_3
  replace hx435_4 := cb_ HB hx435_4
  replace hx435_5 := cb_ HB hx435_5
  replace hx435_6 := cb_ HB hx435_6
  replace hx435_7 := cb_ HB hx435_7
  replace hx435_8 := cb_ HB hx435_8
  replace hx435_9 := cb_ HB hx435_9
  replace hx435_10 := cb_ HB hx435_10
  replace hx435_11 := cb_ HB hx435_11
  replace hx435_12 := cb_ HB hx435_12
  replace hx435_13 := cb_ HB hx435_13
  have HR435_13 := aa_ hi435_13
  have HC435_13 := aa_ hl435_13
  clear hi435_13 hl435_13
  replace p435 := eq_true p435
  replace q435 := eq_true q435
  have hcz10 := blk_cell BK433.out
  have hfz10 := blk_frozen BK433.out
  go_wp2
  refine bodyPost_ret (results_ct rfl _ _ gb433 57 #[.int .i64 ((rd_T80 l0 a2).f1.f0.f0), .int .i64 ((rd_T80 l0 a2).f1.f0.f1), .int .i64 ((rd_T80 l0 a2).f1.f1)] (0, 0) _ rfl (bk_ BK433) Try.underlying57 rfl (by kernel_rfl)) rfl ?_
  exact ⟨eq_, bl_⟩
 ·replace c7 := Bool.eq_false_iff.mpr c7
  subst c7
  replace H := ite_f_ H
  simp only [Option.some.injEq, Prod.mk.injEq] at H
  obtain ⟨rfl, rfl, rfl, rfl⟩ := H
  have hcz11 := blk_cell BK433.out
  have hfz11 := blk_frozen BK433.out
  go_wp2
  refine bodyPost_ret (results_ct rfl _ _ gb433 57 #[.int .i64 0, .int .i64 0, .int .i64 0] (0, 0) _ rfl (bk_ BK433) Try.underlying57 rfl (by kernel_rfl)) rfl ?_
  exact ⟨eq_, bl_⟩
end Go.Proofs.Ytcnjbkfnijnpnaa.PA
