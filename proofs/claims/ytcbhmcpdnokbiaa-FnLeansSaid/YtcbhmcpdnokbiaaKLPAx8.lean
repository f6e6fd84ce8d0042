import Derived.Test.YtcbhmcpdnokbiaaKLPAx5
import Derived.Test.YtcbhmcpdnokbiaaKLPAx7
-- printed by wip/tools
namespace Go.Proofs.Ytcbhmcpdnokbiaa.PA
open Go.RowKit Go.Proofs.YtcbhmcpdnokbiaaW.PrintWords Go.Proofs.YtcbhmcpdnokbiaaW.PrintLast Go.Proofs.YtcbhmcpdnokbiaaW.PrintMore
attribute [local go_sem] max2_int min2_int max_two min_two max_three min_three max_four min_four
set_option linter.unusedVariables false
set_option linter.unusedSimpArgs false
attribute [local go_sem high] eqA27
mutual
def spec_FactsOf.l0 : Nat → List (S46) → List (S29) → Bool → Option ((List (S29)))
 | 0, _, _, _ => none
 | k + 1, x0, x3, x4 => if x4 = true then (spec_FactsOf.l1 k x0 x3 false 0) else (some x3)
def spec_FactsOf.l1 : Nat → List (S46) → List (S29) → Bool → Int → Option ((List (S29)))
 | 0, _, _, _, _ => none
 | k + 1, x0, x3, x4, x5 => if x5 < (x0.length : Int) then (if 0 ≤ x5 then ((spec_Follows.f k x3 ((rd_T46 x0 x5).f0) ((rd_T46 x0 x5).f1.f0) ((rd_T46 x0 x5).f1.f1) ((rd_T46 x0 x5).f2) ((rd_T46 x0 x5).f3.f0) ((rd_T46 x0 x5).f3.f1) ((rd_T46 x0 x5).f4.f0) ((rd_T46 x0 x5).f4.f1) ((rd_T46 x0 x5).f5) ((rd_T46 x0 x5).f6)).bind fun t257 => (if (t257.length : Int) > (x3.length : Int) then (spec_FactsOf.l1 k x0 t257 true (wrap64 (x5 + 1))) else (spec_FactsOf.l1 k x0 t257 x4 (wrap64 (x5 + 1))))) else (none)) else (spec_FactsOf.l0 k x0 x3 x4)
end
def spec_FactsOf.f (k : Nat) (l0 : List (S46)) : Option ((List (S29))) := spec_FactsOf.l0 k l0 (([] : List (S29))) true
set_option maxHeartbeats 8000000 in
set_option maxRecDepth 100000 in
theorem spec_FactsOf.calls (k : Nat) (A0 : Option Addr) (c0 : Nat) (l0 : List (S46)) (r : List (S29)) (w : World) (hr0 : Kd.C k46 w A0 l0.length l0) (hc0 : l0.length ≤ c0) (h : spec_FactsOf.f k l0 = some r) :
  Calls Try.prog 22 #[.slice A0 l0.length c0] w fun e w' => ∃ v0_ : Value, e = .returned (v0_) ∧ Kd.R k29 29 w' w.heap.size (fun _ => True) v0_ r ∧ Below w.heap.size w w' := by
 have hu46 := Try.underlying46
 have HR0 := aa_ hr0
 have HC0 := aa_ hc0
 clear hr0 hc0
 have HB := aa_ (Below.refl w.heap.size w)
 have H : (spec_FactsOf.l0 k l0 (([] : List (S29))) true) = some r := h
 clear h
 obtain ⟨y253, hy253⟩ : ∃ y_ : List (S29), y_ = (([] : List (S29))) := ⟨_, rfl⟩
 replace H : (spec_FactsOf.l0 k l0 y253 true) = some r := rh_ hy253 H
 have Ny253 := aa_ hy253
 clear hy253
 have H' := aa_ H
 clear H
 go_enter Try.func22, Try.ntmps22
 go_wp2_with (first | ((with_reducible refine gD_ 7 rfl ?_); refine Kd.R_lit k29 _ 29 ?hg (N := 7) ?hd (xs := ([] : List (S29))) (inner := []) (ok := fun _ => True) (okp := fun _ => True) ?hr ?hp (fun _ hk => hk) trivial (Below.refl _ _) (Nat.le_refl _) (by simp) ?_; (case hd => rfl); (case hg => rfl); (case hr => first | (go_simp; done) | (go_simp; rfl)); (case hp => exact (Reps.none _ _)); intro v254 w2 ho3 hb hg_ hnew_; clear hg_ hnew_; (first | rw [← Ny253.out] at ho3 | (simp only [Int.reduceToNat] at ho3; rw [← Ny253.out] at ho3)); have HO255 := aa_ (Kd.R_lower ho3 bls_); replace HB := hbs_ hb; clear hb ho3))
 go_loopg [3, 4] k (fun kq v3 v4 w' => ∃ (x3_1 : List (S29)) (x4_1 : Bool), v4 = .bool x4_1 ∧ Aside0 (spec_FactsOf.l0 kq l0 x3_1 x4_1 = some r) ∧ Aside0 (kq ≤ k) ∧ Aside0 (Kd.R k29 29 w' w.heap.size (fun _ => True) v3 x3_1) ∧ Aside0 (Below w.heap.size w w'))
 case atStart => exact ⟨(y253), (true), rf_, H', ⟨Nat.le_refl _⟩, ⟨rr_ HO255⟩, ⟨bl_⟩⟩
 case round =>
  clear H'
  try clear c2
  try clear p2
  obtain ⟨x3_1, x4_1, rfl, HA, HK1, HO_3, HB⟩ := hrel
  cases gk with
  | zero => exact absurd HA.out (by simp [spec_FactsOf.l0])
  | succ k1 =>
   have H := HA.out
   clear HA
   simp only [spec_FactsOf.l0] at H
   by_cases c4 : x4_1 = true
   ·subst c4
    replace H := ite_t_ H
    have H' := aa_ H
    clear H
    go_wp2
    go_loopg [3, 4, 5] k1 (fun kq v3 v4 v5 w' => ∃ (x3_2 : List (S29)) (x4_2 : Bool) (x5_2 : Int), v4 = .bool x4_2 ∧ v5 = .int .i64 x5_2 ∧ Aside0 (spec_FactsOf.l1 kq l0 x3_2 x4_2 x5_2 = some r) ∧ Aside0 (kq ≤ k1) ∧ Aside0 (Kd.R k29 29 w' w.heap.size (fun _ => True) v3 x3_2) ∧ Aside0 (Below w.heap.size w w'))
    case atStart => exact ⟨(x3_1), (false), (0), rf_, rf_, H', ⟨Nat.le_refl _⟩, ⟨rr_ HO_3⟩, ⟨bl_⟩⟩
    case round =>
     clear H'
     try clear c2
     try clear p2
     try clear c4
     try clear p2
     obtain ⟨x3_2, x4_2, x5_2, rfl, rfl, HA, HK2, HO_3, HB⟩ := hrel
     cases gk with
     | zero => exact absurd HA.out (by simp [spec_FactsOf.l1])
     | succ k2 =>
      have H := HA.out
      clear HA
      simp only [spec_FactsOf.l1] at H
      by_cases c5 : x5_2 < (l0.length : Int)
      ·rw [if_pos c5] at H
       have c5b0 : decide (x5_2 < (l0.length : Int)) = true := decide_eq_true c5
       clear c5
       obtain ⟨c6b0, H⟩ := ifd_ H
       obtain ⟨t257, A7, H⟩ := bindE_ H
       have HC8 := aa_ H
       clear H
       have p256 : 0 ≤ (x5_2 : Int) := od_
       have q256 : x5_2 < (l0.length : Int) := od_
       obtain ⟨ad256, e256, hx256_0, hx256_1, hx256_2, hx256_3, hx256_4, hx256_5, hx256_6, hx256_7, hx256_8, hx256_9⟩ := at_T46 (Kd.C_below HR0.out HB.out) x5_2 p256 q256
       cases e256
       replace p256 := eq_true p256
       replace q256 := eq_true q256
       obtain ⟨Ao9, co9, eo9⟩ := Kd.R_slice HO_3.out
       subst eo9
       go_upto_if 25 with (first | ((with_reducible refine gC_ 35 rfl ?_); refine goesC_ (some 20) Try.func35 #[.slice Ao9 x3_2.length co9, .agg #[.int .i64 ((rd_T46 l0 x5_2).f0), .int .i64 ((rd_T46 l0 x5_2).f1.f0), .int .i64 ((rd_T46 l0 x5_2).f1.f1), .int .i64 ((rd_T46 l0 x5_2).f2), .int .i64 ((rd_T46 l0 x5_2).f3.f0), .int .i64 ((rd_T46 l0 x5_2).f3.f1), .int .i64 ((rd_T46 l0 x5_2).f4.f0), .int .i64 ((rd_T46 l0 x5_2).f4.f1), .int .i64 ((rd_T46 l0 x5_2).f5), .int .i64 ((rd_T46 l0 x5_2).f6)]] ?_; (with_reducible refine (spec_Follows.calls k2 _ _ x3_2 ((rd_T46 l0 x5_2).f0) ((rd_T46 l0 x5_2).f1.f0) ((rd_T46 l0 x5_2).f1.f1) ((rd_T46 l0 x5_2).f2) ((rd_T46 l0 x5_2).f3.f0) ((rd_T46 l0 x5_2).f3.f1) ((rd_T46 l0 x5_2).f4.f0) ((rd_T46 l0 x5_2).f4.f1) ((rd_T46 l0 x5_2).f5) ((rd_T46 l0 x5_2).f6) t257 _ ?side1 ?side2 A7.out).mono ?_); (case side1 => repeat (first | exact (Kd.R_reads' HO_3.out).2.2 | (with_reducible refine Kd.C_alloc ?_ _) | (with_reducible refine Kd.C_drewN ?_ _) | (with_reducible refine Kd.C_drew ?_))); (case side2 => exact (Kd.R_reads' HO_3.out).2.1); rintro e w10 ⟨v258, rfl, ho0, hb⟩; refine ⟨_, rfl, ?_⟩; have HO259 := aa_ (Kd.R_lower (Kd.R_new' ho0 (Kd.R_lt (rr_ HO_3))) bls_); replace HO_3 := aa_ (Kd.R_elder' (rr_ HO_3) (Kd.R_base ho0) hb); replace HB := hbs_ hb; (try clear hb ho0); obtain ⟨Ao11, co11, eo11⟩ := Kd.R_slice HO259.out; subst eo11))
       (try simp only [Act.put, List.setIfInBounds_toArray, List.set_cons_zero, List.set_cons_succ])
       have H := HC8.out
       clear HC8
       by_cases c12 : (t257.length : Int) > (x3_2.length : Int)
       ·rw [if_pos c12] at H
        have c12b0 : decide ((x3_2.length : Int) < (t257.length : Int)) = true := decide_eq_true c12
        have c12b1 : decide (x3_2.length < t257.length) = true := decide_eq_true (Int.ofNat_lt.mp c12)
        clear c12
        (first | rw [c12b0] | (simp only [i64_w, i32_w]; rw [c12b0]) | (have cz_ := c12b0; simp only [Int.ofNat_lt, Int.ofNat_le, gt_iff_lt, ge_iff_le] at cz_; rw [cz_]; clear cz_) | skip)
        have H' := aa_ H
        clear H
        go_wp2
        go_roundg k2
        case measure => have := HK1.out; have := HK2.out; omega
        case rel => exact ⟨(t257), (true), (wrap64 (x5_2 + 1)), rf_, rf_, H', ⟨by have := HK1.out; have := HK2.out; omega⟩, ⟨by (with_reducible repeat (first | apply Kd.R_alloc | apply Kd.R_drewN | apply Kd.R_drew)); exact Kd.R_mono HO259.out (fun _ hk => trivial)⟩, ⟨bl_⟩⟩
       ·rw [if_neg c12] at H
        have c12b0 : decide ((x3_2.length : Int) < (t257.length : Int)) = false := decide_eq_false c12
        have c12b1 : decide (x3_2.length < t257.length) = false := decide_eq_false (fun h => c12 (Int.ofNat_lt.mpr h))
        clear c12
        (first | rw [c12b0] | (simp only [i64_w, i32_w]; rw [c12b0]) | (have cz_ := c12b0; simp only [Int.ofNat_lt, Int.ofNat_le, gt_iff_lt, ge_iff_le] at cz_; rw [cz_]; clear cz_) | skip)
        have H' := aa_ H
        clear H
        go_wp2
        go_roundg k2
        case measure => have := HK1.out; have := HK2.out; omega
        case rel => exact ⟨(t257), (x4_2), (wrap64 (x5_2 + 1)), rf_, rf_, H', ⟨by have := HK1.out; have := HK2.out; omega⟩, ⟨by (with_reducible repeat (first | apply Kd.R_alloc | apply Kd.R_drewN | apply Kd.R_drew)); exact Kd.R_mono HO259.out (fun _ hk => trivial)⟩, ⟨bl_⟩⟩
      ·rw [if_neg c5] at H
       have c5b0 : decide (x5_2 < (l0.length : Int)) = false := decide_eq_false c5
       clear c5
       have H' := aa_ H
       clear H
       go_wp2
       go_roundg k2
       case measure => have := HK1.out; have := HK2.out; omega
       case rel => exact ⟨(x3_2), (x4_2), rf_, H', ⟨by have := HK1.out; have := HK2.out; omega⟩, ⟨rr_ HO_3⟩, ⟨bl_⟩⟩
   ·replace c4 := Bool.eq_false_iff.mpr c4
    subst c4
    replace H := ite_f_ H
    obtain rfl := Option.some.inj H
    go_wp2
    go_ret
    exact ⟨_, eq_, by (with_reducible repeat (first | apply Kd.R_alloc | apply Kd.R_drewN | apply Kd.R_drew)); exact HO_3.out, bl_⟩
def spec_DrawFactOf.f (k : Nat) (l0 : List Int) : Option ((List (S46)) × Int × Int × Int × Bool) := (spec_l01New.f k l0).bind fun bt261 => ((spec_l01Below.f bt261.1 bt261.2.1 bt261.2.2 50).bind fun bt265 => ((spec_l06Creds.f k bt261.1 bt265.2.1 bt265.2.2).bind fun bt268 => ((spec_FactsOf.f k bt268.1).bind fun t273 => (if (t273.length : Int) = 0 then (some (bt268.1, 0, 0, 0, false)) else (if 0 ≤ (Int.tmod bt265.1 (t273.length : Int)) then (if (Int.tmod bt265.1 (t273.length : Int)) < (t273.length : Int) then (some (bt268.1, (rd_T29 t273 (Int.tmod bt265.1 (t273.length : Int))).f0.f0, (rd_T29 t273 (Int.tmod bt265.1 (t273.length : Int))).f0.f1, (rd_T29 t273 (Int.tmod bt265.1 (t273.length : Int))).f1, true)) else (none)) else (none))))))
def spec_DrawFactOf.T7 : Bool × List (List Nat × List Nat) := (true, [([], []), ([], []), ([], []), ([], []), ([3], [3]), ([2, 4], [2, 4]), ([1, 5], [1, 5]), ([6], [6]), ([0, 0], [0]), ([7, 8, 0, 1, 2, 3, 4, 5, 6, 7, 8], [7]), ([9, 0, 1, 2, 3, 4, 5, 6, 7, 8, 9], [])])
def spec_DrawFactOf.B7 : List Nat := [0, 0, 0, 0, 8, 28, 62, 126, 1, 511, 1023]
theorem spec_DrawFactOf.tab7 : rtab .any (opsOf Try.f6 7) = spec_DrawFactOf.T7 := by kernel_rfl
theorem spec_DrawFactOf.bits7 : waitsOk spec_DrawFactOf.T7.2 spec_DrawFactOf.B7 = true := by kernel_rfl
set_option maxHeartbeats 8000000 in
set_option maxRecDepth 100000 in
theorem spec_DrawFactOf.calls (k : Nat) (A0 : Option Addr) (c0 : Nat) (l0 : List Int) (r1 : List (S46)) (r2 : Int) (r3 : Int) (r4 : Int) (r5 : Bool) (w : World) (hr0 : Kd.C (Kd.int .u8) w A0 l0.length l0) (hc0 : l0.length ≤ c0) (h : spec_DrawFactOf.f k l0 = some (r1, r2, r3, r4, r5)) :
  Calls Try.prog 6 #[.slice A0 l0.length c0] w fun e w' => ∃ v0_ : Value, e = .returned (.tuple #[v0_, .agg #[.int .i64 r2, .int .i64 r3, .int .i64 r4], .bool r5]) ∧ Kd.R k46 46 w' w.heap.size (fun _ => True) v0_ r1 ∧ Below w.heap.size w w' := by
 have hu29 := Try.underlying29
 have HR0 := aa_ hr0
 have HC0 := aa_ hc0
 clear hr0 hc0
 have HB := aa_ (Below.refl w.heap.size w)
 have H : ((spec_l01New.f k l0).bind fun bt261 => ((spec_l01Below.f bt261.1 bt261.2.1 bt261.2.2 50).bind fun bt265 => ((spec_l06Creds.f k bt261.1 bt265.2.1 bt265.2.2).bind fun bt268 => ((spec_FactsOf.f k bt268.1).bind fun t273 => (if (t273.length : Int) = 0 then (some (bt268.1, 0, 0, 0, false)) else (if 0 ≤ (Int.tmod bt265.1 (t273.length : Int)) then (if (Int.tmod bt265.1 (t273.length : Int)) < (t273.length : Int) then (some (bt268.1, (rd_T29 t273 (Int.tmod bt265.1 (t273.length : Int))).f0.f0, (rd_T29 t273 (Int.tmod bt265.1 (t273.length : Int))).f0.f1, (rd_T29 t273 (Int.tmod bt265.1 (t273.length : Int))).f1, true)) else (none)) else (none))))))) = some (r1, r2, r3, r4, r5) := h
 clear h
 obtain ⟨⟨t261, t262, t263⟩, A2, H⟩ := bindE_ H
 (try dsimp only at H)
 obtain ⟨⟨t265, t266, t267⟩, A3, H⟩ := bindE_ H
 (try dsimp only at H)
 obtain ⟨⟨t268, t271, t272⟩, A4, H⟩ := bindE_ H
 (try dsimp only at H)
 obtain ⟨t273, A5, H⟩ := bindE_ H
 have HC6 := aa_ H
 clear H
 go_enter Try.func6, Try.ntmps6
 go_upto_if 19 with (first | ((with_reducible refine gD_ 3 rfl ?_); refine bx_ (N := 3) (cs := #[.int .i64 0, .int .i64 0, .int .i64 0]) (t := 29) ?_; intro gb260 hg w7 hbox hb; have BK260 := aa_ (hbox); have GW260 := gs_ hg; have GE260 := gs_ hg; replace HB := hbs_ hb; clear hb hbox hg) | ((with_reducible refine gC_ 20 rfl ?_); refine goesC_ (some 10) Try.func20 #[.slice A0 l0.length c0] ?_; (with_reducible refine (spec_l01New.calls k _ _ l0 t261 t262 t263 w _ ?side1 ?side2 ?side3 A2.out).mono ?_); (case side1 => repeat (first | (with_reducible first | exact HB.out | apply below_alloc | apply pw_below_drewN | apply below_drew1 | refine below_set ?_ GE260.out) | exact HB.out)); (case side2 => exact HR0.out); (case side3 => exact HC0.out); rintro e w8 ⟨g264, rfl, hi, hb, hb2⟩; refine ⟨_, rfl, ?_⟩; replace HB := aa_ (hb); have HI264 := aa_ (hi); have NB264_260 := aa_ (IsS69.ne_blk hi (blk_below (g := gb260) (o := .cells #[.int .i64 0, .int .i64 0, .int .i64 0] 29 (0, 0)) (bk_ BK260) hb2) (by decide)); have NB260_264 := aa_ (Ne.symm (IsS69.ne_blk hi (blk_below (g := gb260) (o := .cells #[.int .i64 0, .int .i64 0, .int .i64 0] 29 (0, 0)) (bk_ BK260) hb2) (by decide))); replace BK260 := aa_ (blk_below (g := gb260) (o := .cells #[.int .i64 0, .int .i64 0, .int .i64 0] 29 (0, 0)) (bk_ BK260) hb2); (try clear hb hb2 hi)) | ((with_reducible refine gC_ 21 rfl ?_); refine goesC_ (some 12) Try.func21 #[.pointer (some ⟨g264, 0, none⟩), .int .i64 50] ?_; (with_reducible refine (spec_l01Below.calls g264 t261 t262 t263 50 t265 t266 t267 w _ ?side1 ?side2 A3.out).mono ?_); (case side1 => exact IsS69.nw_); (case side2 => repeat (first | (with_reducible first | exact HB.out | apply below_alloc | apply pw_below_drewN | apply below_drew1 | refine below_set ?_ (IsS69.ge HI264.out) | refine below_set ?_ GE260.out) | exact HB.out)); rintro e w9 ⟨rfl, hi, hb, hk⟩; refine ⟨_, rfl, ?_⟩; replace BK260 := aa_ (KeepBut.blk hk (g' := gb260) (o := .cells #[.int .i64 0, .int .i64 0, .int .i64 0] 29 (0, 0)) (bk_ BK260) NB260_264.out (by simp)); replace HB := aa_ (hb); replace HI264 := aa_ (hi); (try clear hb hk hi)) | ((with_reducible refine gC_ 19 rfl ?_); refine goesC_ (some 14) Try.func19 #[.pointer (some ⟨g264, 0, none⟩)] ?_; (with_reducible refine (spec_l06Creds.calls k g264 t261 t266 t267 t268 t271 t272 w _ ?side1 ?side2 A4.out).mono ?_); (case side1 => exact IsS69.nw_); (case side2 => repeat (first | (with_reducible first | exact HB.out | apply below_alloc | apply pw_below_drewN | apply below_drew1 | refine below_set ?_ (IsS69.ge HI264.out) | refine below_set ?_ GE260.out) | exact HB.out)); rintro e w10 ⟨v269, rfl, ho0, hi, hb, hk⟩; refine ⟨_, rfl, ?_⟩; replace BK260 := aa_ (KeepBut.blk hk (g' := gb260) (o := .cells #[.int .i64 0, .int .i64 0, .int .i64 0] 29 (0, 0)) (bk_ BK260) NB260_264.out (by simp)); have HO270 := aa_ (Kd.R_lower ho0 (below_size (by repeat (first | (with_reducible first | exact HB.out | apply below_alloc | apply pw_below_drewN | apply below_drew1 | refine below_set ?_ (IsS69.ge HI264.out) | refine below_set ?_ GE260.out) | exact HB.out)))); replace HB := aa_ (hb); replace HI264 := aa_ (hi); (try clear hb hk hi ho0); obtain ⟨Ao11, co11, eo11⟩ := Kd.R_slice HO270.out; subst eo11) | ((with_reducible refine gC_ 22 rfl ?_); refine goesC_ (some 16) Try.func22 #[.slice Ao11 t268.length co11] ?_; (with_reducible refine (spec_FactsOf.calls k _ _ t268 t273 _ ?side1 ?side2 A5.out).mono ?_); (case side1 => repeat (first | exact (Kd.R_reads' HO270.out).2.2 | (with_reducible refine Kd.C_alloc ?_ _) | (with_reducible refine Kd.C_drewN ?_ _) | (with_reducible refine Kd.C_drew ?_))); (case side2 => exact (Kd.R_reads' HO270.out).2.1); rintro e w12 ⟨v274, rfl, ho0, hb⟩; refine ⟨_, rfl, ?_⟩; replace HO270 := hob_ HO270 hb; have HO275 := aa_ (Kd.R_lower (Kd.R_newB ho0 (g := gb260) (o := .cells #[.int .i64 0, .int .i64 0, .int .i64 0] 29 (0, 0)) (bk_ BK260)) (below_size (by repeat (first | (with_reducible first | exact HB.out | apply below_alloc | apply pw_below_drewN | apply below_drew1 | refine below_set ?_ (IsS69.ge HI264.out) | refine below_set ?_ GE260.out) | exact HB.out)))); replace BK260 := bkb_ BK260 hb; replace HB := aa_ (below_step (by repeat (first | (with_reducible first | exact HB.out | apply below_alloc | apply pw_below_drewN | apply below_drew1 | refine below_set ?_ (IsS69.ge HI264.out) | refine below_set ?_ GE260.out) | exact HB.out)) hb); replace HI264 := aa_ (IsS69.below (by exact IsS69.nw_) hb); (try clear hb ho0); obtain ⟨Ao13, co13, eo13⟩ := Kd.R_slice HO275.out; subst eo13))
 (try simp only [Act.put, List.setIfInBounds_toArray, List.set_cons_zero, List.set_cons_succ])
 have H := HC6.out
 clear HC6
 by_cases c14 : (t273.length : Int) = 0
 ·rw [if_pos c14] at H
  have c14b0 : ((t273.length : Int) == 0) = true := beq_iff_eq.mpr c14
  have c14b1 : ((t273.length : Int) != 0) = false := bne_eq_false_iff_eq.mpr c14
  clear c14
  (first | rw [c14b0] | (simp only [i64_w, i32_w]; rw [c14b0]) | (have cz_ := c14b0; simp only [Int.ofNat_lt, Int.ofNat_le, gt_iff_lt, ge_iff_le] at cz_; rw [cz_]; clear cz_) | skip)
  simp only [Option.some.injEq, Prod.mk.injEq] at H
  obtain ⟨rfl, rfl, rfl, rfl, rfl⟩ := H
  have hnb15 := NB260_264.out
  have hnc15 := NB264_260.out
  have hcz16 := blk_cell BK260.out
  have hfz16 := blk_frozen BK260.out
  go_wp2
  refine bodyPost_ret (results_list (rs := [.tmp 2, .cell 3 29, .tmp 4]) rfl (by simp) (.tmp (.cell gb260 29 #[.int .i64 0, .int .i64 0, .int .i64 0] (0, 0) _ rfl (bk_ BK260) Try.underlying29 rfl (by kernel_rfl) (.tmp .nil)))) rfl ?_
  exact ⟨_, eq_, by (with_reducible repeat (first | apply Kd.R_alloc | apply Kd.R_drewN | apply Kd.R_drew)); exact Kd.R_mono (fr3_ (Kd.R_types HO270.out BK260.out (by decide)) (fun _ hk => hk.2)) (fun _ hk => trivial), by repeat (first | (with_reducible first | exact HB.out | apply below_alloc | apply pw_below_drewN | apply below_drew1 | refine below_set ?_ (IsS69.ge HI264.out) | refine below_set ?_ GE260.out) | exact HB.out)⟩
 ·rw [if_neg c14] at H
  have c14b0 : ((t273.length : Int) == 0) = false := beq_eq_false_iff_ne.mpr c14
  have c14b1 : ((t273.length : Int) != 0) = true := bne_iff_ne.mpr c14
  have c14b2 : ¬ (t273 = []) := fun h_ => c14 (by rw [h_]; rfl)
  (first | rw [c14b0] | (simp only [i64_w, i32_w]; rw [c14b0]) | (have cz_ := c14b0; simp only [Int.ofNat_lt, Int.ofNat_le, gt_iff_lt, ge_iff_le] at cz_; rw [cz_]; clear cz_) | skip)
  obtain ⟨ji17, hji17⟩ : ∃ j_ : Int, (Int.tmod t265 (t273.length : Int)) = j_ := ⟨_, rfl⟩
  replace H : (if 0 ≤ (ji17) then (if (ji17) < (t273.length : Int) then (some (t268, (rd_T29 t273 (ji17)).f0.f0, (rd_T29 t273 (ji17)).f0.f1, (rd_T29 t273 (ji17)).f1, true)) else (none)) else (none)) = some (r1, r2, r3, r4, r5) := by first | (rw [hji17] at H; exact H) | (simp only [hji17] at H ⊢; exact H)
  obtain ⟨c18b0, H⟩ := ifd_ H
  obtain ⟨c19b0, H⟩ := ifd_ H
  simp only [Option.some.injEq, Prod.mk.injEq] at H
  obtain ⟨rfl, rfl, rfl, rfl, rfl⟩ := H
  try go_wp2
  replace HO270 := aa_ (Kd.R_drew HO270.out)
  replace HO275 := aa_ (Kd.R_drew HO275.out)
  replace BK260 := aa_ (blk_drew BK260.out)
  replace HI264 := aa_ (IsS69.drew HI264.out)
  replace HB := aa_ (below_drew1 HB.out)
  have p276 : 0 ≤ ((ji17) : Int) := od_
  have q276 : (ji17) < (t273.length : Int) := od_
  obtain ⟨ad276, e276, hx276_0, hx276_1, hx276_2⟩ := at_T29 (Kd.R_reads' HO275.out).2.2 (ji17) p276 q276
  cases e276
  replace p276 := eq_true p276
  replace q276 := eq_true q276
  refine start_ (n := 11) (S := fun w' => w'.cell? (ad276.add (((ji17)).toNat * 3)) = some (.int .i64 ((rd_T29 t273 (ji17)).f0.f0)) ∧ w'.cell? ⟨(ad276.add (((ji17)).toNat * 3)).block, (ad276.add (((ji17)).toNat * 3)).off + 1, none⟩ = some (.int .i64 ((rd_T29 t273 (ji17)).f0.f1)) ∧ w'.cell? ⟨(ad276.add (((ji17)).toNat * 3)).block, (ad276.add (((ji17)).toNat * 3)).off + 2, none⟩ = some (.int .i64 ((rd_T29 t273 (ji17)).f1))) (ds := []) #[false, false, false, false, false, false, false, false, false, false, false] (by kernel_rfl) rfl rfl ⟨hx276_0, hx276_1, hx276_2⟩ (fun hHeld => ?_); refine with_tabW spec_DrawFactOf.tab7 spec_DrawFactOf.bits7 (fun HT_ HW_ => ?_)
  generalize w12.drew = w20 at HO270 HO275 BK260 HI264 HB hx276_0 hx276_1 hx276_2 hHeld ⊢
  refine pureZ_ (i := 0) (some 22) #[true, false, false, false, false, false, false, false, false, false, false] (ao_ HT_) ?_
  refine pureZ_ (i := 1) (some 23) #[true, true, false, false, false, false, false, false, false, false, false] (ao_ HT_) ?_
  refine pureZ_ (i := 2) (some 24) #[true, true, true, false, false, false, false, false, false, false, false] (ao_ HT_) ?_
  refine pureZ_ (i := 3) (some 25) #[true, true, true, true, false, false, false, false, false, false, false] (ao_ HT_) ?_
  refine pureZ_ (i := 4) (some 26) #[true, true, true, true, true, false, false, false, false, false, false] (ao_ HT_) ?_
  refine pureZ_ (i := 5) (some 27) #[true, true, true, true, true, true, false, false, false, false, false] (ao_ HT_) ?_
  refine pureZ_ (i := 6) (some 28) #[true, true, true, true, true, true, true, false, false, false, false] (ao_ HT_) ?_
  refine pureZ_ (i := 8) (some 2) #[true, true, true, true, true, true, true, false, true, false, false] (ao_ HT_) ?_
  refine takeZ_ (i := 7) (some 29) #[true, true, true, true, true, true, true, true, true, false, false] (take_ofW HT_.out HW_.out (by kernel_rfl)) hHeld ?_
  refine one_ (i := 9) (N := none) #[true, true, true, true, true, true, true, true, true, true, false] rfl rfl (one_of HT_.out (by kernel_rfl)) (by decide) (fun K hK => ?_)
  have hs21 : w20.cell? ⟨gb260, 0, none⟩ = some (.int .i64 0) := (blk_cell BK260.out 0).trans rfl
  have hfs21 := blk_frozen BK260.out 0
  have hs22 : w20.cell? ⟨gb260, 1, none⟩ = some (.int .i64 0) := (blk_cell BK260.out 1).trans rfl
  have hfs22 := blk_frozen BK260.out 1
  have hs23 : w20.cell? ⟨gb260, 2, none⟩ = some (.int .i64 0) := (blk_cell BK260.out 2).trans rfl
  have hfs23 := blk_frozen BK260.out 2
  refine skip_ (w1 := ?_) (by rfl) rfl ?_ ?_
  rotate_left
  ·go_simp
   rfl
  refine hK.out _ _ ⟨((cf_ (Kd.own_blk (Kd.R_away HO275.out (fun _ hk => hk.2)))).trans (((cf_ (Kd.own_blk (Kd.R_away HO275.out (fun _ hk => hk.2)))).trans (((cf_ (Kd.own_blk (Kd.R_away HO275.out (fun _ hk => hk.2)))).trans (hHeld.1)))))), ((cf_ (Kd.own_blk (Kd.R_away HO275.out (fun _ hk => hk.2)))).trans (((cf_ (Kd.own_blk (Kd.R_away HO275.out (fun _ hk => hk.2)))).trans (((cf_ (Kd.own_blk (Kd.R_away HO275.out (fun _ hk => hk.2)))).trans (hHeld.2.1)))))), ((cf_ (Kd.own_blk (Kd.R_away HO275.out (fun _ hk => hk.2)))).trans (((cf_ (Kd.own_blk (Kd.R_away HO275.out (fun _ hk => hk.2)))).trans (((cf_ (Kd.own_blk (Kd.R_away HO275.out (fun _ hk => hk.2)))).trans (hHeld.2.2))))))⟩ (fun hHeld => ?_)
  clear hK K
  refine pureZ_ (i := 10) (some 4) #[true, true, true, true, true, true, true, true, true, true, true] (ao_ HT_) ?_
  refine done_ (done_of HT_.out (by kernel_rfl)) ?_
  try go_wp2
  refine bodyPost_ret (results_list (rs := [.tmp 2, .cell 3 29, .tmp 4]) rfl (by simp) (.tmp (.cell gb260 29 #[.int .i64 ((rd_T29 t273 (ji17)).f0.f0), .int .i64 ((rd_T29 t273 (ji17)).f0.f1), .int .i64 ((rd_T29 t273 (ji17)).f1)] (0, 0) _ rfl (bk_ BK260) Try.underlying29 rfl (by kernel_rfl) (.tmp .nil)))) rfl ?_
  exact ⟨_, by first | rfl | (simp [errW_none, errW_some] <;> rfl) | (simp only [← hji17]; first | rfl | (simp [errW_none, errW_some] <;> rfl)) | (simp [*, errW_none, errW_some] <;> rfl), by (with_reducible repeat (first | apply Kd.R_alloc | apply Kd.R_drewN | apply Kd.R_drew)); exact Kd.R_mono (fr3_ (Kd.R_types HO270.out BK260.out (by decide)) (fun _ hk => hk.2)) (fun _ hk => trivial), by repeat (first | (with_reducible first | exact HB.out | apply below_alloc | apply pw_below_drewN | apply below_drew1 | refine below_set ?_ (IsS69.ge HI264.out) | refine below_set ?_ GE260.out) | exact HB.out)⟩
def spec_DrawPlaces.l0 : Nat → List Int → Int → List Int → Int → Int → Option (List Int)
 | 0, _, _, _, _, _ => none
 | k + 1, x4, x5, x281000, x281001, x281002 => if x5 < 12 then ((spec_l01Below.f x281000 x281001 x281002 10000).bind fun bt287 => (if x4.length < 17592186044416 then (spec_DrawPlaces.l0 k (x4 ++ [bt287.1]) (wrap64 (x5 + 1)) x281000 bt287.2.1 bt287.2.2) else (none))) else (some x4)
def spec_DrawPlaces.f (k : Nat) (l0 : List Int) : Option (List Int) := (spec_l01New.f k l0).bind fun bt277 => ((spec_l01Byte.f bt277.1 bt277.2.1 bt277.2.2).bind fun bt281 => (spec_DrawPlaces.l0 k (([] : List Int)) 0 bt277.1 bt281.2.1 bt281.2.2))
set_option maxHeartbeats 8000000 in
set_option maxRecDepth 100000 in
theorem spec_DrawPlaces.calls (k : Nat) (A0 : Option Addr) (c0 : Nat) (l0 : List Int) (r : List Int) (w : World) (hr0 : Kd.C (Kd.int .u8) w A0 l0.length l0) (hc0 : l0.length ≤ c0) (h : spec_DrawPlaces.f k l0 = some r) :
  Calls Try.prog 7 #[.slice A0 l0.length c0] w fun e w' => ∃ v0_ : Value, e = .returned (v0_) ∧ Kd.R (Kd.int .i64) 3 w' w.heap.size (fun _ => True) v0_ r ∧ Below w.heap.size w w' := by
 have HR0 := aa_ hr0
 have HC0 := aa_ hc0
 clear hr0 hc0
 have HB := aa_ (Below.refl w.heap.size w)
 have H : ((spec_l01New.f k l0).bind fun bt277 => ((spec_l01Byte.f bt277.1 bt277.2.1 bt277.2.2).bind fun bt281 => (spec_DrawPlaces.l0 k (([] : List Int)) 0 bt277.1 bt281.2.1 bt281.2.2))) = some r := h
 clear h
 obtain ⟨⟨t277, t278, t279⟩, A2, H⟩ := bindE_ H
 (try dsimp only at H)
 obtain ⟨⟨t281, t282, t283⟩, A3, H⟩ := bindE_ H
 (try dsimp only at H)
 obtain ⟨y284, hy284⟩ : ∃ y_ : List Int, y_ = (([] : List Int)) := ⟨_, rfl⟩
 replace H : (spec_DrawPlaces.l0 k y284 0 t277 t282 t283) = some r := rh_ hy284 H
 have Ny284 := aa_ hy284
 clear hy284
 have H' := aa_ H
 clear H
 go_enter Try.func7, Try.ntmps7
 go_wp2_with (first | ((with_reducible refine gC_ 20 rfl ?_); refine goesC_ (some 7) Try.func20 #[.slice A0 l0.length c0] ?_; (with_reducible refine (spec_l01New.calls k _ _ l0 t277 t278 t279 w _ ?side1 ?side2 ?side3 A2.out).mono ?_); (case side1 => repeat (first | (with_reducible first | exact HB.out | apply below_alloc | apply pw_below_drewN | apply below_drew1) | exact HB.out)); (case side2 => exact HR0.out); (case side3 => exact HC0.out); rintro e w4 ⟨g280, rfl, hi, hb, hb2⟩; refine ⟨_, rfl, ?_⟩; replace HB := aa_ (hb); have HI280 := aa_ (hi); (try clear hb hb2 hi)) | ((with_reducible refine gC_ 23 rfl ?_); refine goesC_ (some 9) Try.func23 #[.pointer (some ⟨g280, 0, none⟩)] ?_; (with_reducible refine (spec_l01Byte.calls g280 t277 t278 t279 t281 t282 t283 w _ ?side1 ?side2 A3.out).mono ?_); (case side1 => exact IsS69.nw_); (case side2 => repeat (first | (with_reducible first | exact HB.out | apply below_alloc | apply pw_below_drewN | apply below_drew1 | refine below_set ?_ (IsS69.ge HI280.out)) | exact HB.out)); rintro e w5 ⟨rfl, hi, hb, hk⟩; refine ⟨_, rfl, ?_⟩; replace HB := aa_ (hb); replace HI280 := aa_ (hi); (try clear hb hk hi)) | ((with_reducible refine gD_ 10 rfl ?_); refine Kd.R_lit (Kd.int .i64) _ 3 ?hg (N := 10) ?hd (xs := ([] : List Int)) (inner := []) (ok := fun _ => True) (okp := fun _ => True) ?hr ?hp (fun _ hk => hk) trivial (Below.refl _ _) (Nat.le_refl _) (by simp) ?_; (case hd => rfl); (case hg => rfl); (case hr => first | (go_simp; done) | (go_simp; rfl)); (case hp => exact (Reps.none _ _)); intro v285 w6 ho7 hb hg_ hnew_; clear hg_ hnew_; (first | rw [← Ny284.out] at ho7 | (simp only [Int.reduceToNat] at ho7; rw [← Ny284.out] at ho7)); have HO286 := aa_ (Kd.R_lower ho7 (below_size (by repeat (first | (with_reducible first | exact HB.out | apply below_alloc | apply pw_below_drewN | apply below_drew1 | refine below_set ?_ (IsS69.ge HI280.out)) | exact HB.out)))); replace HB := aa_ (below_step (by repeat (first | (with_reducible first | exact HB.out | apply below_alloc | apply pw_below_drewN | apply below_drew1 | refine below_set ?_ (IsS69.ge HI280.out)) | exact HB.out)) hb); replace HI280 := aa_ (IsS69.below (by exact IsS69.nw_) hb); clear hb ho7))
 go_loopg [4, 5] k (fun kq v4 v5 w' => ∃ (x4_1 : List Int) (x5_1 : Int) (x281001_1 : Int) (x281002_1 : Int), v5 = .int .i64 x5_1 ∧ Aside0 (spec_DrawPlaces.l0 kq x4_1 x5_1 t277 x281001_1 x281002_1 = some r) ∧ Aside0 (kq ≤ k) ∧ Aside0 (Kd.R (Kd.int .i64) 3 w' w.heap.size (fun _ => True) v4 x4_1) ∧ Aside0 (IsS69 w w' g280 t277 x281001_1 x281002_1) ∧ Aside0 (Below w.heap.size w w'))
 case atStart => exact ⟨(y284), (0), (t282), (t283), rf_, H', ⟨Nat.le_refl _⟩, ⟨rr_ HO286⟩, ⟨by exact IsS69.nw_⟩, ⟨by repeat (first | (with_reducible first | exact HB.out | apply below_alloc | apply pw_below_drewN | apply below_drew1 | refine below_set ?_ (IsS69.ge HI280.out)) | exact HB.out)⟩⟩
 case round =>
  clear H'
  try clear c2
  try clear p2
  try clear c7
  obtain ⟨x4_1, x5_1, x281001_1, x281002_1, rfl, HA, HK1, HO_4, HI280, HB⟩ := hrel
  cases gk with
  | zero => exact absurd HA.out (by simp [spec_DrawPlaces.l0])
  | succ k1 =>
   have H := HA.out
   clear HA
   simp only [spec_DrawPlaces.l0] at H
   by_cases c8 : x5_1 < 12
   ·rw [if_pos c8] at H
    have c8b0 : decide (x5_1 < 12) = true := decide_eq_true c8
    clear c8
    obtain ⟨⟨t287, t288, t289⟩, A9, H⟩ := bindE_ H
    (try dsimp only at H)
    obtain ⟨c10, H⟩ := ifn_ H
    have LMc10 := aa_ c10
    clear c10
    obtain ⟨y290, hy290⟩ : ∃ y_ : List Int, y_ = (x4_1 ++ [t287]) := ⟨_, rfl⟩
    replace H : (spec_DrawPlaces.l0 k1 y290 (wrap64 (x5_1 + 1)) t277 t288 t289) = some r := rh_ hy290 H
    have Ny290 := aa_ hy290
    clear hy290
    have H' := aa_ H
    clear H
    go_wp2_with (first | ((with_reducible refine gC_ 21 rfl ?_); refine goesC_ (some 17) Try.func21 #[.pointer (some ⟨g280, 0, none⟩), .int .i64 10000] ?_; (with_reducible refine (spec_l01Below.calls g280 t277 x281001_1 x281002_1 10000 t287 t288 t289 w _ ?side1 ?side2 A9.out).mono ?_); (case side1 => exact IsS69.nw_); (case side2 => repeat (first | (with_reducible first | exact HB.out | apply below_alloc | apply pw_below_drewN | apply below_drew1 | refine below_set ?_ (IsS69.ge HI280.out)) | exact HB.out)); rintro e w11 ⟨rfl, hi, hb, hk⟩; refine ⟨_, rfl, ?_⟩; replace HO_4 := aa_ (Kd.R_mono (Kd.R_keep (IsS69.apart (show IsS69 w _ g280 t277 x281001_1 x281002_1 from by exact IsS69.nw_) (rr_ HO_4) (by decide)) hk (fun _ h => h.2)) (fun _ h => h.1)); replace HB := aa_ (hb); replace HI280 := aa_ (hi); (try clear hb hk hi)) | ((with_reducible refine gate_builtin (b := .append) (xs := #[.tmp 15, .tmp 18]) rfl ?_); at_builtin; refine Kd.R_append (Kd.int .i64) (w0 := w) w.heap.size rfl (.tmp 15) (.tmp 18) 32 3 (.int .i64 0) 8 rfl Try.underlying32 info3 rfl (by decide) (by omega) u4 x4_1 t287 [.int .i64 t287] (fun _ => True) (fun _ => False) rfl rfl ?aP (fun _ hk => hk.elim) ?aF ?aO ?aB ?aS ?aL ?_; (case aP => exact rfl); (case aB => exact (by repeat (first | (with_reducible first | exact HB.out | apply below_alloc | apply pw_below_drewN | apply below_drew1 | refine below_set ?_ (IsS69.ge HI280.out)) | exact HB.out))); (case aF => exact (fun _ _ => trivial)); (case aO => exact (rr_ HO_4)); (case aS => exact (below_size (by repeat (first | (with_reducible first | exact HB.out | apply below_alloc | apply pw_below_drewN | apply below_drew1 | refine below_set ?_ (IsS69.ge HI280.out)) | exact HB.out)))); (case aL => have := LMc10.out; omega); intro v291 w12 ho hb hg hat; rw [← Ny290.out] at ho; replace HI280 := aa_ (IsS69.grown (show IsS69 w _ g280 t277 t288 t289 from by exact IsS69.nw_) hg (IsS69.own_ne HI280.out HO_4.out (by decide))); replace HB := aa_ (hb); have HO292 := aa_ (ho); clear HO_4; clear ho hb hg hat))
    go_roundg k1
    case measure => have := HK1.out; omega
    case rel => exact ⟨(y290), (wrap64 (x5_1 + 1)), (t288), (t289), rf_, H', ⟨by have := HK1.out; omega⟩, ⟨rr_ HO292⟩, ⟨by exact IsS69.nw_⟩, ⟨by repeat (first | (with_reducible first | exact HB.out | apply below_alloc | apply pw_below_drewN | apply below_drew1 | refine below_set ?_ (IsS69.ge HI280.out)) | exact HB.out)⟩⟩
   ·rw [if_neg c8] at H
    have c8b0 : decide (x5_1 < 12) = false := decide_eq_false c8
    clear c8
    obtain rfl := Option.some.inj H
    go_wp2
    go_ret
    exact ⟨_, eq_, by (with_reducible repeat (first | apply Kd.R_alloc | apply Kd.R_drewN | apply Kd.R_drew)); exact HO_4.out, by repeat (first | (with_reducible first | exact HB.out | apply below_alloc | apply pw_below_drewN | apply below_drew1 | refine below_set ?_ (IsS69.ge HI280.out)) | exact HB.out)⟩
def impl_in.f (a0 : Int) (a1 : Int) (a2 : Int) : Option (Bool) := if a0 ≥ a1 then (some (decide (a0 ≤ a2))) else (some false)
set_option maxHeartbeats 8000000 in
set_option maxRecDepth 100000 in
theorem impl_in.calls (a0 : Int) (a1 : Int) (a2 : Int) (r : Bool) (w : World) (h : impl_in.f a0 a1 a2 = some r) :
  Calls Try.prog 32 #[.int .i64 a0, .int .i64 a1, .int .i64 a2] w fun e w' => e = .returned (.bool r) ∧ Drawn0 w w' := by
 have H : (if a0 ≥ a1 then (some (decide (a0 ≤ a2))) else (some false)) = some r := h
 clear h
 by_cases c4 : a0 ≥ a1
 ·rw [if_pos c4] at H
  have c4b0 : decide (a1 ≤ a0) = true := decide_eq_true c4
  clear c4
  obtain rfl := Option.some.inj H
  go_enter Try.func32, Try.ntmps32
  go_wp2
  go_ret
  exact ⟨by first | rfl | (simp; done) | (simp [*]; done), by repeat (first | exact Drawn0.refl _ | apply Drawn0.step)⟩
 ·rw [if_neg c4] at H
  have c4b0 : decide (a1 ≤ a0) = false := decide_eq_false c4
  clear c4
  obtain rfl := Option.some.inj H
  go_enter Try.func32, Try.ntmps32
  go_wp2
  go_ret
  exact ⟨by first | rfl | (simp; done) | (simp [*]; done), by repeat (first | exact Drawn0.refl _ | apply Drawn0.step)⟩
def impl_RoleOk.f (a0_0 : Int) (a0_1 : Int) : Option (Bool) := (impl_in.f a0_0 0 5).bind fun t294 => (if t294 = true then ((impl_in.f a0_1 0 3).bind fun t295 => (some t295)) else (some false))
set_option maxHeartbeats 8000000 in
set_option maxRecDepth 100000 in
theorem impl_RoleOk.calls (a0_0 : Int) (a0_1 : Int) (r : Bool) (w : World) (h : impl_RoleOk.f a0_0 a0_1 = some r) :
  Calls Try.prog 36 #[.agg #[.int .i64 a0_0, .int .i64 a0_1]] w fun e w' => e = .returned (.bool r) ∧ Below w.heap.size w w' := by
 have hu27 := Try.underlying27
 have HB := aa_ (Below.refl w.heap.size w)
 have H : ((impl_in.f a0_0 0 5).bind fun t294 => (if t294 = true then ((impl_in.f a0_1 0 3).bind fun t295 => (some t295)) else (some false))) = some r := h
 clear h
 obtain ⟨t294, A2, H⟩ := bindE_ H
 by_cases c3 : t294 = true
 ·subst c3
  replace H := ite_t_ H
  obtain ⟨t295, A4, H⟩ := bindE_ H
  obtain rfl := Option.some.inj H
  go_enter Try.func36, Try.ntmps36
  go_wp2_with (first | ((with_reducible refine gD_ 1 rfl ?_); refine bx_ (N := 1) (cs := #[.int .i64 a0_0, .int .i64 a0_1]) (t := 27) ?_; intro gb293 hg w5 hbox hb; have BK293 := aa_ (hbox); have GW293 := gs_ hg; have GE293 := gs_ hg; replace HB := hbs_ hb; clear hb hbox hg; obtain ⟨hcz6, hfz6⟩ := bcf_ BK293) | ((with_reducible refine gC_ 32 rfl ?_); refine goesC_ (some 5) Try.func32 #[.int .i64 a0_0, .int .i64 0, .int .i64 5] ?_; (with_reducible refine (impl_in.calls a0_0 0 5 true _ A2.out).mono ?_); rintro e w' ⟨rfl, ⟨nd, rfl⟩⟩; refine ⟨_, rfl, ?_⟩) | (go_at_call 32; (with_reducible refine (impl_in.calls a0_1 0 3 t295 _ A4.out).mono ?_); rintro e w' ⟨rfl, ⟨nd, rfl⟩⟩))
  go_ret
  exact ⟨eq_, bl_⟩
 ·replace c3 := Bool.eq_false_iff.mpr c3
  subst c3
  replace H := ite_f_ H
  obtain rfl := Option.some.inj H
  go_enter Try.func36, Try.ntmps36
  go_wp2_with (first | ((with_reducible refine gD_ 1 rfl ?_); refine bx_ (N := 1) (cs := #[.int .i64 a0_0, .int .i64 a0_1]) (t := 27) ?_; intro gb293 hg w7 hbox hb; have BK293 := aa_ (hbox); have GW293 := gs_ hg; have GE293 := gs_ hg; replace HB := hbs_ hb; clear hb hbox hg; obtain ⟨hcz8, hfz8⟩ := bcf_ BK293) | ((with_reducible refine gC_ 32 rfl ?_); refine goesC_ (some 5) Try.func32 #[.int .i64 a0_0, .int .i64 0, .int .i64 5] ?_; (with_reducible refine (impl_in.calls a0_0 0 5 false _ A2.out).mono ?_); rintro e w' ⟨rfl, ⟨nd, rfl⟩⟩; refine ⟨_, rfl, ?_⟩))
  go_ret
  exact ⟨eq_, bl_⟩
def impl_isPerson.f (a0 : Int) : Option (Bool) := (impl_in.f a0 0 5).bind fun t296 => (some t296)
set_option maxHeartbeats 8000000 in
set_option maxRecDepth 100000 in
theorem impl_isPerson.calls (a0 : Int) (r : Bool) (w : World) (h : impl_isPerson.f a0 = some r) :
  Calls Try.prog 37 #[.int .i64 a0] w fun e w' => e = .returned (.bool r) ∧ Drawn0 w w' := by
 have H : ((impl_in.f a0 0 5).bind fun t296 => (some t296)) = some r := h
 clear h
 obtain ⟨t296, A2, H⟩ := bindE_ H
 obtain rfl := Option.some.inj H
 go_enter Try.func37, Try.ntmps37
 go_wp2_with (first | ((with_reducible refine gC_ 32 rfl ?_); refine goesC_ (some 4) Try.func32 #[.int .i64 a0, .int .i64 0, .int .i64 5] ?_; (with_reducible refine (impl_in.calls a0 0 5 t296 _ A2.out).mono ?_); rintro e w' ⟨rfl, ⟨nd, rfl⟩⟩; refine ⟨_, rfl, ?_⟩))
 go_ret
 exact ⟨by first | rfl | (simp; done) | (simp [*]; done), by repeat (first | exact Drawn0.refl _ | apply Drawn0.step)⟩
def impl_CredOk.j0 : Nat → Bool → Int → Int → Int → Int → Int → Int → Int → Int → Int → Int → Option (Bool)
 | 0, _, _, _, _, _, _, _, _, _, _, _ => none
 | k + 1, x19, x298000, x298001, x298002, x298003, x298004, x298005, x298006, x298007, x298008, x298009 => if x19 = true then (some false) else (if x298000 = 1 then ((impl_isPerson.f x298003).bind fun t302 => (if t302 = true then (if (x298004 == 0 && (x298005 == 0)) = true then (some (x298006 == 0 && (x298007 == 0))) else (some false)) else (some false))) else (if x298000 = 2 then (if x298003 = 0 then ((impl_RoleOk.f x298004 x298005).bind fun t303 => (if t303 = true then (some (x298006 == 0 && (x298007 == 0))) else (some false))) else (some false)) else (if x298000 = 3 then (if x298003 = 0 then ((impl_RoleOk.f x298004 x298005).bind fun t304 => (if t304 = true then ((impl_RoleOk.f x298006 x298007).bind fun t305 => (if t305 = true then (some (x298006 == 0)) else (some false))) else (some false))) else (some false)) else (if x298000 = 4 then (if x298003 = 0 then ((impl_RoleOk.f x298004 x298005).bind fun t306 => (if t306 = true then ((impl_RoleOk.f x298006 x298007).bind fun t307 => (some t307)) else (some false))) else (some false)) else (some false)))))
def impl_CredOk.f (k : Nat) (a0_0 : Int) (a0_1 : Int) (a0_2 : Int) (a0_3 : Int) (a0_4 : Int) (a0_5 : Int) (a0_6 : Int) (a0_7 : Int) (a0_8 : Int) (a0_9 : Int) : Option (Bool) := (impl_RoleOk.f a0_1 a0_2).bind fun t298 => (if t298 = true then ((impl_in.f a0_8 1 9999).bind fun t299 => (if t299 = true then ((impl_in.f a0_9 0 99).bind fun t300 => (impl_CredOk.j0 k (!t300) a0_0 a0_1 a0_2 a0_3 a0_4 a0_5 a0_6 a0_7 a0_8 a0_9)) else (impl_CredOk.j0 k true a0_0 a0_1 a0_2 a0_3 a0_4 a0_5 a0_6 a0_7 a0_8 a0_9))) else (impl_CredOk.j0 k true a0_0 a0_1 a0_2 a0_3 a0_4 a0_5 a0_6 a0_7 a0_8 a0_9))
set_option maxHeartbeats 8000000 in
set_option maxRecDepth 100000 in
theorem impl_CredOk.calls (k : Nat) (a0_0 : Int) (a0_1 : Int) (a0_2 : Int) (a0_3 : Int) (a0_4 : Int) (a0_5 : Int) (a0_6 : Int) (a0_7 : Int) (a0_8 : Int) (a0_9 : Int) (r : Bool) (w : World) (h : impl_CredOk.f k a0_0 a0_1 a0_2 a0_3 a0_4 a0_5 a0_6 a0_7 a0_8 a0_9 = some r) :
  Calls Try.prog 24 #[.agg #[.int .i64 a0_0, .int .i64 a0_1, .int .i64 a0_2, .int .i64 a0_3, .int .i64 a0_4, .int .i64 a0_5, .int .i64 a0_6, .int .i64 a0_7, .int .i64 a0_8, .int .i64 a0_9]] w fun e w' => e = .returned (.bool r) ∧ Below w.heap.size w w' := by
 have hu46 := Try.underlying46
 have hu27 := Try.underlying27
 have HB := aa_ (Below.refl w.heap.size w)
 have H : ((impl_RoleOk.f a0_1 a0_2).bind fun t298 => (if t298 = true then ((impl_in.f a0_8 1 9999).bind fun t299 => (if t299 = true then ((impl_in.f a0_9 0 99).bind fun t300 => (impl_CredOk.j0 k (!t300) a0_0 a0_1 a0_2 a0_3 a0_4 a0_5 a0_6 a0_7 a0_8 a0_9)) else (impl_CredOk.j0 k true a0_0 a0_1 a0_2 a0_3 a0_4 a0_5 a0_6 a0_7 a0_8 a0_9))) else (impl_CredOk.j0 k true a0_0 a0_1 a0_2 a0_3 a0_4 a0_5 a0_6 a0_7 a0_8 a0_9))) = some r := h
 clear h
 have HC2 := aa_ H
 clear H
 go_enter Try.func24, Try.ntmps24
 go_upto_region 1 with (first | ((with_reducible refine gD_ 1 rfl ?_); refine bx_ (N := 1) (cs := #[.int .i64 a0_0, .int .i64 a0_1, .int .i64 a0_2, .int .i64 a0_3, .int .i64 a0_4, .int .i64 a0_5, .int .i64 a0_6, .int .i64 a0_7, .int .i64 a0_8, .int .i64 a0_9]) (t := 46) ?_; intro gb297 hg w3 hbox hb; have BK297 := aa_ (hbox); have GW297 := gs_ hg; have GE297 := gs_ hg; replace HB := hbs_ hb; clear hb hbox hg))
 (try simp only [Act.put, List.setIfInBounds_toArray, List.set_cons_zero, List.set_cons_succ])
 go_cut [19] (fun v19 wc => ∃ (kq : Nat) (x19_1 : Bool), v19 = .bool x19_1 ∧ Aside0 (impl_CredOk.j0 kq x19_1 a0_0 a0_1 a0_2 a0_3 a0_4 a0_5 a0_6 a0_7 a0_8 a0_9 = some r) ∧ Aside0 (kq ≤ k) ∧ Aside0 (wc.heap[gb297]? = some (.cells #[.int .i64 a0_0, .int .i64 a0_1, .int .i64 a0_2, .int .i64 a0_3, .int .i64 a0_4, .int .i64 a0_5, .int .i64 a0_6, .int .i64 a0_7, .int .i64 a0_8, .int .i64 a0_9] 46 (0, 0))) ∧ Aside0 (Below w.heap.size w wc))
 case first =>
  have H := HC2.out
  clear HC2
  obtain ⟨t298, A4, H⟩ := bindE_ H
  by_cases c5 : t298 = true
  ·subst c5
   replace H := ite_t_ H
   obtain ⟨t299, A6, H⟩ := bindE_ H
   by_cases c7 : t299 = true
   ·subst c7
    replace H := ite_t_ H
    obtain ⟨t300, A8, H⟩ := bindE_ H
    have H' := aa_ H
    clear H
    have hcz9 := blk_cell BK297.out
    have hfz9 := blk_frozen BK297.out
    go_wp2_with (first | ((with_reducible refine gC_ 36 rfl ?_); refine goesC_ (some 6) Try.func36 #[.agg #[.int .i64 a0_1, .int .i64 a0_2]] ?_; (with_reducible refine (impl_RoleOk.calls a0_1 a0_2 true _ A4.out).mono ?_); rintro e w10 ⟨rfl, hb⟩; refine ⟨_, rfl, ?_⟩; replace BK297 := bkb_ BK297 hb; replace HB := hbs_ hb; clear hb; obtain ⟨hcz11, hfz11⟩ := bcf_ BK297) | (go_at_call 32; (with_reducible refine (impl_in.calls a0_8 1 9999 true _ A6.out).mono ?_); rintro e w' ⟨rfl, ⟨nd, rfl⟩⟩) | (go_at_call 32; (with_reducible refine (impl_in.calls a0_9 0 99 t300 _ A8.out).mono ?_); rintro e w' ⟨rfl, ⟨nd, rfl⟩⟩))
    go_meet
    case rel => exact ⟨_, (!t300), rf_, H', ⟨by first | omega | exact Nat.le_refl _⟩, ⟨bk_ BK297⟩, ⟨bl_⟩⟩
   ·replace c7 := Bool.eq_false_iff.mpr c7
    subst c7
    replace H := ite_f_ H
    have H' := aa_ H
    clear H
    have hcz12 := blk_cell BK297.out
    have hfz12 := blk_frozen BK297.out
    go_wp2_with (first | ((with_reducible refine gC_ 36 rfl ?_); refine goesC_ (some 6) Try.func36 #[.agg #[.int .i64 a0_1, .int .i64 a0_2]] ?_; (with_reducible refine (impl_RoleOk.calls a0_1 a0_2 true _ A4.out).mono ?_); rintro e w13 ⟨rfl, hb⟩; refine ⟨_, rfl, ?_⟩; replace BK297 := bkb_ BK297 hb; replace HB := hbs_ hb; clear hb; obtain ⟨hcz14, hfz14⟩ := bcf_ BK297) | (go_at_call 32; (with_reducible refine (impl_in.calls a0_8 1 9999 false _ A6.out).mono ?_); rintro e w' ⟨rfl, ⟨nd, rfl⟩⟩))
    go_meet
    case rel => exact ⟨_, (true), rf_, H', ⟨by first | omega | exact Nat.le_refl _⟩, ⟨bk_ BK297⟩, ⟨bl_⟩⟩
  ·replace c5 := Bool.eq_false_iff.mpr c5
   subst c5
   replace H := ite_f_ H
   have H' := aa_ H
   clear H
   have hcz15 := blk_cell BK297.out
   have hfz15 := blk_frozen BK297.out
   go_wp2_with (first | ((with_reducible refine gC_ 36 rfl ?_); refine goesC_ (some 6) Try.func36 #[.agg #[.int .i64 a0_1, .int .i64 a0_2]] ?_; (with_reducible refine (impl_RoleOk.calls a0_1 a0_2 false _ A4.out).mono ?_); rintro e w16 ⟨rfl, hb⟩; refine ⟨_, rfl, ?_⟩; replace BK297 := bkb_ BK297 hb; replace HB := hbs_ hb; clear hb))
   go_meet
   case rel => exact ⟨_, (true), rf_, H', ⟨by first | omega | exact Nat.le_refl _⟩, ⟨bk_ BK297⟩, ⟨bl_⟩⟩
 case rest =>
  clear HC2
  try clear c2
  try clear p2
  try clear c3
  try clear c5
  try clear c7
  try clear hcz11
  try clear hcz12
  try clear hcz14
  try clear hcz15
  try clear hcz9
  try clear hfz11
  try clear hfz12
  try clear hfz14
  try clear hfz15
  try clear hfz9
  obtain ⟨kq, x19_1, rfl, HA, HJ1, BK297, HB⟩ := hcut
  cases kq with
  | zero => exact absurd HA.out (by simp [impl_CredOk.j0])
  | succ kj1 =>
   have H := HA.out
   clear HA
   simp only [impl_CredOk.j0] at H
   by_cases c17 : x19_1 = true
   ·subst c17
    replace H := ite_t_ H
    obtain rfl := Option.some.inj H
    go_wp2
    go_ret
    exact ⟨eq_, bl_⟩
   ·replace c17 := Bool.eq_false_iff.mpr c17
    subst c17
    replace H := ite_f_ H
    have HC18 := aa_ H
    clear H
    go_upto_if 23 with (first | ((with_reducible refine gD_ 3 rfl ?_); refine bx_ (N := 3) (cs := #[.int .i64 0, .int .i64 0]) (t := 27) ?_; intro gb301 hg w19 hbox hb; have BK301 := aa_ (hbox); have GW301 := gs_ hg; have GE301 := gs_ hg; replace HB := hbs_ hb; have NB297_301 := nl_ hg BK297; have NB301_297 := nr_ hg BK297; replace BK297 := bkb_ BK297 hb; clear hb hbox hg; have hnb20 := NB301_297.out; have hnc20 := NB297_301.out; obtain ⟨hcz21, hfz21⟩ := bcf_ BK301; obtain ⟨hcz22, hfz22⟩ := bcf_ BK297))
    have n0_ : Aside0 (((w19.setCell ⟨gb301, 0, none⟩ (.int .i64 0)).setCell ⟨gb301, 1, none⟩ (.int .i64 0)).heap[gb297]? = some (.cells #[.int .i64 a0_0, .int .i64 a0_1, .int .i64 a0_2, .int .i64 a0_3, .int .i64 a0_4, .int .i64 a0_5, .int .i64 a0_6, .int .i64 a0_7, .int .i64 a0_8, .int .i64 a0_9] 46 (0, 0))) := ⟨bk_ BK297⟩
    have n1_ : Aside0 (((w19.setCell ⟨gb301, 0, none⟩ (.int .i64 0)).setCell ⟨gb301, 1, none⟩ (.int .i64 0)).heap[gb301]? = some (.cells #[.int .i64 0, .int .i64 0] 27 (0, 0))) := ⟨bk_ BK301⟩
    have n2_ : Aside0 (Below w.heap.size w ((w19.setCell ⟨gb301, 0, none⟩ (.int .i64 0)).setCell ⟨gb301, 1, none⟩ (.int .i64 0))) := ⟨bl_⟩
    (try clear BK297)
    (try clear BK301)
    (try clear HB)
    generalize ((w19.setCell ⟨gb301, 0, none⟩ (.int .i64 0)).setCell ⟨gb301, 1, none⟩ (.int .i64 0)) = w23 at n0_ n1_ n2_ ⊢
    have BK297 := n0_
    have BK301 := n1_
    have HB := n2_
    clear n0_ n1_ n2_
    (try simp only [Act.put, List.setIfInBounds_toArray, List.set_cons_zero, List.set_cons_succ])
    have H := HC18.out
    clear HC18
    by_cases c24 : a0_0 = 1
    ·rw [if_pos c24] at H
     have c24b0 : (a0_0 == 1) = true := beq_iff_eq.mpr c24
     have c24b1 : (a0_0 != 1) = false := bne_eq_false_iff_eq.mpr c24
     clear c24
     (first | rw [c24b0] | (simp only [i64_w, i32_w]; rw [c24b0]) | skip)
     obtain ⟨t302, A25, H⟩ := bindE_ H
     by_cases c26 : t302 = true
     ·subst c26
      replace H := ite_t_ H
      by_cases c27 : (a0_4 == 0 && (a0_5 == 0)) = true
      ·rw [if_pos c27] at H
       have c27b0 : (a0_4 == 0 && (a0_5 == 0)) = true := c27
       (try (have c27b1 : decide (a0_4 = 0 && (a0_5 == 0)) = true := by simpa using c27))
       (try (have c27b2 : (a0_4 == 0 && (a0_5 == 0)) = true := by simpa using c27))
       clear c27
       obtain rfl := Option.some.inj H
       have hnb28 := NB297_301.out
       have hnc28 := NB301_297.out
       have hcz29 := blk_cell BK297.out
       have hfz29 := blk_frozen BK297.out
       go_wp2_with (first | ((with_reducible refine gC_ 37 rfl ?_); refine goesC_ (some 27) Try.func37 #[.int .i64 a0_3] ?_; (with_reducible refine (impl_isPerson.calls a0_3 true _ A25.out).mono ?_); rintro e w' ⟨rfl, ⟨nd, rfl⟩⟩; refine ⟨_, rfl, ?_⟩; obtain ⟨hcz30, hfz30⟩ := bcf_ BK301))
       go_ret
       exact ⟨eq_, bl_⟩
      ·rw [if_neg c27] at H
       have c27b0 : (a0_4 == 0 && (a0_5 == 0)) = false := by simpa using c27
       (try (have c27b1 : decide (a0_4 = 0 && (a0_5 == 0)) = false := by simpa using c27))
       (try (have c27b2 : (a0_4 == 0 && (a0_5 == 0)) = false := by simpa using c27))
       (try (have c27b3 : ¬ (a0_4 = 0 && (a0_5 == 0)) := by simpa using c27))
       clear c27
       obtain rfl := Option.some.inj H
       have hnb31 := NB297_301.out
       have hnc31 := NB301_297.out
       have hcz32 := blk_cell BK297.out
       have hfz32 := blk_frozen BK297.out
       go_wp2_with (first | ((with_reducible refine gC_ 37 rfl ?_); refine goesC_ (some 27) Try.func37 #[.int .i64 a0_3] ?_; (with_reducible refine (impl_isPerson.calls a0_3 true _ A25.out).mono ?_); rintro e w' ⟨rfl, ⟨nd, rfl⟩⟩; refine ⟨_, rfl, ?_⟩; obtain ⟨hcz33, hfz33⟩ := bcf_ BK301))
       go_ret
       exact ⟨eq_, bl_⟩
     ·replace c26 := Bool.eq_false_iff.mpr c26
      subst c26
      replace H := ite_f_ H
      obtain rfl := Option.some.inj H
      have hnb34 := NB297_301.out
      have hnc34 := NB301_297.out
      have hcz35 := blk_cell BK297.out
      have hfz35 := blk_frozen BK297.out
      go_wp2_with (first | ((with_reducible refine gC_ 37 rfl ?_); refine goesC_ (some 27) Try.func37 #[.int .i64 a0_3] ?_; (with_reducible refine (impl_isPerson.calls a0_3 false _ A25.out).mono ?_); rintro e w' ⟨rfl, ⟨nd, rfl⟩⟩; refine ⟨_, rfl, ?_⟩))
      go_ret
      exact ⟨eq_, bl_⟩
    ·rw [if_neg c24] at H
     have c24b0 : (a0_0 == 1) = false := beq_eq_false_iff_ne.mpr c24
     have c24b1 : (a0_0 != 1) = true := bne_iff_ne.mpr c24
     (first | rw [c24b0] | (simp only [i64_w, i32_w]; rw [c24b0]) | skip)
     by_cases c36 : a0_0 = 2
     ·rw [if_pos c36] at H
      have c36b0 : (a0_0 == 2) = true := beq_iff_eq.mpr c36
      have c36b1 : (a0_0 != 2) = false := bne_eq_false_iff_eq.mpr c36
      clear c36
      by_cases c37 : a0_3 = 0
      ·rw [if_pos c37] at H
       have c37b0 : (a0_3 == 0) = true := beq_iff_eq.mpr c37
       have c37b1 : (a0_3 != 0) = false := bne_eq_false_iff_eq.mpr c37
       clear c37
       obtain ⟨t303, A38, H⟩ := bindE_ H
       by_cases c39 : t303 = true
       ·subst c39
        replace H := ite_t_ H
        obtain rfl := Option.some.inj H
        have hnb40 := NB297_301.out
        have hnc40 := NB301_297.out
        have hcz41 := blk_cell BK297.out
        have hfz41 := blk_frozen BK297.out
        go_wp2_with (first | (go_at_call 36; (with_reducible refine (impl_RoleOk.calls a0_4 a0_5 true _ A38.out).mono ?_); rintro e w42 ⟨rfl, hb⟩; replace BK297 := bkb_ BK297 hb; replace BK301 := bkb_ BK301 hb; replace HB := hbs_ hb; clear hb; obtain ⟨hcz43, hfz43⟩ := bcf_ BK297; obtain ⟨hcz44, hfz44⟩ := bcf_ BK301))
        go_ret
        exact ⟨eq_, bl_⟩
       ·replace c39 := Bool.eq_false_iff.mpr c39
        subst c39
        replace H := ite_f_ H
        obtain rfl := Option.some.inj H
        have hnb45 := NB297_301.out
        have hnc45 := NB301_297.out
        have hcz46 := blk_cell BK297.out
        have hfz46 := blk_frozen BK297.out
        go_wp2_with (first | (go_at_call 36; (with_reducible refine (impl_RoleOk.calls a0_4 a0_5 false _ A38.out).mono ?_); rintro e w47 ⟨rfl, hb⟩; replace BK297 := bkb_ BK297 hb; replace BK301 := bkb_ BK301 hb; replace HB := hbs_ hb; clear hb))
        go_ret
        exact ⟨eq_, bl_⟩
      ·rw [if_neg c37] at H
       have c37b0 : (a0_3 == 0) = false := beq_eq_false_iff_ne.mpr c37
       have c37b1 : (a0_3 != 0) = true := bne_iff_ne.mpr c37
       obtain rfl := Option.some.inj H
       have hnb48 := NB297_301.out
       have hnc48 := NB301_297.out
       have hcz49 := blk_cell BK297.out
       have hfz49 := blk_frozen BK297.out
       go_wp2
       go_ret
       exact ⟨eq_, bl_⟩
     ·rw [if_neg c36] at H
      have c36b0 : (a0_0 == 2) = false := beq_eq_false_iff_ne.mpr c36
      have c36b1 : (a0_0 != 2) = true := bne_iff_ne.mpr c36
      by_cases c50 : a0_0 = 3
      ·rw [if_pos c50] at H
       have c50b0 : (a0_0 == 3) = true := beq_iff_eq.mpr c50
       have c50b1 : (a0_0 != 3) = false := bne_eq_false_iff_eq.mpr c50
       clear c50
       by_cases c51 : a0_3 = 0
       ·rw [if_pos c51] at H
        have c51b0 : (a0_3 == 0) = true := beq_iff_eq.mpr c51
        have c51b1 : (a0_3 != 0) = false := bne_eq_false_iff_eq.mpr c51
        clear c51
        obtain ⟨t304, A52, H⟩ := bindE_ H
        by_cases c53 : t304 = true
        ·subst c53
         replace H := ite_t_ H
         obtain ⟨t305, A54, H⟩ := bindE_ H
         by_cases c55 : t305 = true
         ·subst c55
          replace H := ite_t_ H
          obtain rfl := Option.some.inj H
          have hnb56 := NB297_301.out
          have hnc56 := NB301_297.out
          have hcz57 := blk_cell BK297.out
          have hfz57 := blk_frozen BK297.out
          go_wp2_with (first | (go_at_call 36; (with_reducible refine (impl_RoleOk.calls a0_4 a0_5 true _ A52.out).mono ?_); rintro e w58 ⟨rfl, hb⟩; replace BK297 := bkb_ BK297 hb; replace BK301 := bkb_ BK301 hb; replace HB := hbs_ hb; clear hb; obtain ⟨hcz59, hfz59⟩ := bcf_ BK297) | (go_at_call 36; (with_reducible refine (impl_RoleOk.calls a0_6 a0_7 true _ A54.out).mono ?_); rintro e w60 ⟨rfl, hb⟩; replace BK297 := bkb_ BK297 hb; replace BK301 := bkb_ BK301 hb; replace HB := hbs_ hb; clear hb; obtain ⟨hcz61, hfz61⟩ := bcf_ BK297))
          go_ret
          exact ⟨eq_, bl_⟩
         ·replace c55 := Bool.eq_false_iff.mpr c55
          subst c55
          replace H := ite_f_ H
          obtain rfl := Option.some.inj H
          have hnb62 := NB297_301.out
          have hnc62 := NB301_297.out
          have hcz63 := blk_cell BK297.out
          have hfz63 := blk_frozen BK297.out
          go_wp2_with (first | (go_at_call 36; (with_reducible refine (impl_RoleOk.calls a0_4 a0_5 true _ A52.out).mono ?_); rintro e w64 ⟨rfl, hb⟩; replace BK297 := bkb_ BK297 hb; replace BK301 := bkb_ BK301 hb; replace HB := hbs_ hb; clear hb; obtain ⟨hcz65, hfz65⟩ := bcf_ BK297) | (go_at_call 36; (with_reducible refine (impl_RoleOk.calls a0_6 a0_7 false _ A54.out).mono ?_); rintro e w66 ⟨rfl, hb⟩; replace BK297 := bkb_ BK297 hb; replace BK301 := bkb_ BK301 hb; replace HB := hbs_ hb; clear hb))
          go_ret
          exact ⟨eq_, bl_⟩
        ·replace c53 := Bool.eq_false_iff.mpr c53
         subst c53
         replace H := ite_f_ H
         obtain rfl := Option.some.inj H
         have hnb67 := NB297_301.out
         have hnc67 := NB301_297.out
         have hcz68 := blk_cell BK297.out
         have hfz68 := blk_frozen BK297.out
         go_wp2_with (first | (go_at_call 36; (with_reducible refine (impl_RoleOk.calls a0_4 a0_5 false _ A52.out).mono ?_); rintro e w69 ⟨rfl, hb⟩; replace BK297 := bkb_ BK297 hb; replace BK301 := bkb_ BK301 hb; replace HB := hbs_ hb; clear hb))
         go_ret
         exact ⟨eq_, bl_⟩
       ·rw [if_neg c51] at H
        have c51b0 : (a0_3 == 0) = false := beq_eq_false_iff_ne.mpr c51
        have c51b1 : (a0_3 != 0) = true := bne_iff_ne.mpr c51
        obtain rfl := Option.some.inj H
        have hnb70 := NB297_301.out
        have hnc70 := NB301_297.out
        have hcz71 := blk_cell BK297.out
        have hfz71 := blk_frozen BK297.out
        go_wp2
        go_ret
        exact ⟨eq_, bl_⟩
      ·rw [if_neg c50] at H
       have c50b0 : (a0_0 == 3) = false := beq_eq_false_iff_ne.mpr c50
       have c50b1 : (a0_0 != 3) = true := bne_iff_ne.mpr c50
       by_cases c72 : a0_0 = 4
       ·rw [if_pos c72] at H
        have c72b0 : (a0_0 == 4) = true := beq_iff_eq.mpr c72
        have c72b1 : (a0_0 != 4) = false := bne_eq_false_iff_eq.mpr c72
        clear c72
        by_cases c73 : a0_3 = 0
        ·rw [if_pos c73] at H
         have c73b0 : (a0_3 == 0) = true := beq_iff_eq.mpr c73
         have c73b1 : (a0_3 != 0) = false := bne_eq_false_iff_eq.mpr c73
         clear c73
         obtain ⟨t306, A74, H⟩ := bindE_ H
         by_cases c75 : t306 = true
         ·subst c75
          replace H := ite_t_ H
          obtain ⟨t307, A76, H⟩ := bindE_ H
          obtain rfl := Option.some.inj H
          have hnb77 := NB297_301.out
          have hnc77 := NB301_297.out
          have hcz78 := blk_cell BK297.out
          have hfz78 := blk_frozen BK297.out
          go_wp2_with (first | (go_at_call 36; (with_reducible refine (impl_RoleOk.calls a0_4 a0_5 true _ A74.out).mono ?_); rintro e w79 ⟨rfl, hb⟩; replace BK297 := bkb_ BK297 hb; replace BK301 := bkb_ BK301 hb; replace HB := hbs_ hb; clear hb; obtain ⟨hcz80, hfz80⟩ := bcf_ BK297) | (go_at_call 36; (with_reducible refine (impl_RoleOk.calls a0_6 a0_7 t307 _ A76.out).mono ?_); rintro e w81 ⟨rfl, hb⟩; replace BK297 := bkb_ BK297 hb; replace BK301 := bkb_ BK301 hb; replace HB := hbs_ hb; clear hb))
          go_ret
          exact ⟨eq_, bl_⟩
         ·replace c75 := Bool.eq_false_iff.mpr c75
          subst c75
          replace H := ite_f_ H
          obtain rfl := Option.some.inj H
          have hnb82 := NB297_301.out
          have hnc82 := NB301_297.out
          have hcz83 := blk_cell BK297.out
          have hfz83 := blk_frozen BK297.out
          go_wp2_with (first | (go_at_call 36; (with_reducible refine (impl_RoleOk.calls a0_4 a0_5 false _ A74.out).mono ?_); rintro e w84 ⟨rfl, hb⟩; replace BK297 := bkb_ BK297 hb; replace BK301 := bkb_ BK301 hb; replace HB := hbs_ hb; clear hb))
          go_ret
          exact ⟨eq_, bl_⟩
        ·rw [if_neg c73] at H
         have c73b0 : (a0_3 == 0) = false := beq_eq_false_iff_ne.mpr c73
         have c73b1 : (a0_3 != 0) = true := bne_iff_ne.mpr c73
         obtain rfl := Option.some.inj H
         have hnb85 := NB297_301.out
         have hnc85 := NB301_297.out
         have hcz86 := blk_cell BK297.out
         have hfz86 := blk_frozen BK297.out
         go_wp2
         go_ret
         exact ⟨eq_, bl_⟩
       ·rw [if_neg c72] at H
        have c72b0 : (a0_0 == 4) = false := beq_eq_false_iff_ne.mpr c72
        have c72b1 : (a0_0 != 4) = true := bne_iff_ne.mpr c72
        obtain rfl := Option.some.inj H
        go_wp2
        go_ret
        exact ⟨eq_, bl_⟩
def impl_Role_38.l0 : Nat → List (S27) → Int → Int → Int → Int → Option (Int)
 | 0, _, _, _, _, _ => none
 | k + 1, x0, x7, x8, x309000, x309001 => if x8 < x7 then (if 0 ≤ x8 then (if x8 < (x0.length : Int) then (if (x309000 == ((rd_T27 x0 x8).f0) && (x309001 == ((rd_T27 x0 x8).f1))) = true then (some x8) else (impl_Role_38.l0 k x0 x7 (wrap64 (x8 + 1)) x309000 x309001)) else (none)) else (none)) else (some (-1))
def impl_Role_38.f (k : Nat) (l0 : List (S27)) (a1_0 : Int) (a1_1 : Int) : Option (Int) := impl_Role_38.l0 k l0 (l0.length : Int) 0 a1_0 a1_1
set_option maxHeartbeats 8000000 in
set_option maxRecDepth 100000 in
theorem impl_Role_38.calls (k : Nat) (A0 : Option Addr) (c0 : Nat) (l0 : List (S27)) (a1_0 : Int) (a1_1 : Int) (r : Int) (w : World) (hr0 : Kd.C k27 w A0 l0.length l0) (hc0 : l0.length ≤ c0) (h : impl_Role_38.f k l0 a1_0 a1_1 = some r) :
  Calls Try.prog 38 #[.slice A0 l0.length c0, .agg #[.int .i64 a1_0, .int .i64 a1_1]] w fun e w' => e = .returned (.int .i64 r) ∧ Below w.heap.size w w' := by
 have hu27 := Try.underlying27
 have HR0 := aa_ hr0
 have HC0 := aa_ hc0
 clear hr0 hc0
 have HB := aa_ (Below.refl w.heap.size w)
 have H : (impl_Role_38.l0 k l0 (l0.length : Int) 0 a1_0 a1_1) = some r := h
 clear h
 have H' := aa_ H
 clear H
 go_enter Try.func38, Try.ntmps38
 go_wp2_with (first | ((with_reducible refine gD_ 3 rfl ?_); refine bx_ (N := 3) (cs := #[.int .i64 a1_0, .int .i64 a1_1]) (t := 27) ?_; intro gb308 hg w3 hbox hb; have BK308 := aa_ (hbox); have GW308 := gs_ hg; have GE308 := gs_ hg; replace HB := hbs_ hb; clear hb hbox hg))
 repeat (go_quiet (first | ((with_reducible refine gD_ 3 rfl ?_); refine bx_ (N := 3) (cs := #[.int .i64 a1_0, .int .i64 a1_1]) (t := 27) ?_; intro gb308 hg w3 hbox hb; have BK308 := aa_ (hbox); have GW308 := gs_ hg; have GE308 := gs_ hg; replace HB := hbs_ hb; clear hb hbox hg)); try go_wp2_with (first | ((with_reducible refine gD_ 3 rfl ?_); refine bx_ (N := 3) (cs := #[.int .i64 a1_0, .int .i64 a1_1]) (t := 27) ?_; intro gb308 hg w3 hbox hb; have BK308 := aa_ (hbox); have GW308 := gs_ hg; have GE308 := gs_ hg; replace HB := hbs_ hb; clear hb hbox hg)))
 go_loopg [8] k (fun kq v8 w' => ∃ (x8_1 : Int), v8 = .int .i64 x8_1 ∧ Aside0 (impl_Role_38.l0 kq l0 (l0.length : Int) x8_1 a1_0 a1_1 = some r) ∧ Aside0 (kq ≤ k) ∧ Aside0 (w'.heap[gb308]? = some (.cells #[.int .i64 a1_0, .int .i64 a1_1] 27 (0, 0))) ∧ Aside0 (Below w.heap.size w w'))
 case atStart => exact ⟨(0), rf_, H', ⟨Nat.le_refl _⟩, ⟨bk_ BK308⟩, ⟨bl_⟩⟩
 case round =>
  clear H'
  try clear p2
  try clear c3
  obtain ⟨x8_1, rfl, HA, HK1, BK308, HB⟩ := hrel
  cases gk with
  | zero => exact absurd HA.out (by simp [impl_Role_38.l0])
  | succ k1 =>
   have H := HA.out
   clear HA
   simp only [impl_Role_38.l0] at H
   by_cases c4 : x8_1 < (l0.length : Int)
   ·rw [if_pos c4] at H
    have c4b0 : decide (x8_1 < (l0.length : Int)) = true := decide_eq_true c4
    clear c4
    obtain ⟨c5b0, H⟩ := ifd_ H
    obtain ⟨c6b0, H⟩ := ifd_ H
    have HC7 := aa_ H
    clear H
    have hcz8 := blk_cell BK308.out
    have hfz8 := blk_frozen BK308.out
    have p309 : 0 ≤ (x8_1 : Int) := od_
    have q309 : x8_1 < (l0.length : Int) := od_
    obtain ⟨ad309, e309, hx309_0, hx309_1⟩ := at_T27 (Kd.C_below HR0.out HB.out) x8_1 p309 q309
    cases e309
    replace p309 := eq_true p309
    replace q309 := eq_true q309
    go_upto_if 16 with (fail)
    repeat (go_quiet (fail); go_upto_if 16 with (fail))
    have H := HC7.out
    clear HC7
    by_cases c9 : (a1_0 == ((rd_T27 l0 x8_1).f0) && (a1_1 == ((rd_T27 l0 x8_1).f1))) = true
    ·rw [if_pos c9] at H
     have c9b0 : (a1_0 == ((rd_T27 l0 x8_1).f0) && (a1_1 == ((rd_T27 l0 x8_1).f1))) = true := c9
     (try (have c9b1 : decide (a1_0 = ((rd_T27 l0 x8_1).f0) && (a1_1 == ((rd_T27 l0 x8_1).f1))) = true := by simpa using c9))
     (try (have c9b2 : (a1_0 == ((rd_T27 l0 x8_1).f0) && (a1_1 == ((rd_T27 l0 x8_1).f1))) = true := by simpa using c9))
     clear c9
     (first | rw [c9b0] | (simp only [i64_w, i32_w]; rw [c9b0]) | skip)
     obtain rfl := Option.some.inj H
     go_wp2
     repeat (go_quiet (fail); try go_wp2)
     go_ret
     exact ⟨eq_, bl_⟩
    ·rw [if_neg c9] at H
     have c9b0 : (a1_0 == ((rd_T27 l0 x8_1).f0) && (a1_1 == ((rd_T27 l0 x8_1).f1))) = false := by simpa using c9
     (try (have c9b1 : decide (a1_0 = ((rd_T27 l0 x8_1).f0) && (a1_1 == ((rd_T27 l0 x8_1).f1))) = false := by simpa using c9))
     (try (have c9b2 : (a1_0 == ((rd_T27 l0 x8_1).f0) && (a1_1 == ((rd_T27 l0 x8_1).f1))) = false := by simpa using c9))
     (try (have c9b3 : ¬ (a1_0 = ((rd_T27 l0 x8_1).f0) && (a1_1 == ((rd_T27 l0 x8_1).f1))) := by simpa using c9))
     clear c9
     (first | rw [c9b0] | (simp only [i64_w, i32_w]; rw [c9b0]) | skip)
     have H' := aa_ H
     clear H
     go_wp2
     repeat (go_quiet (fail); try go_wp2)
     go_roundg k1
     case measure => have := HK1.out; omega
     case rel => exact ⟨(wrap64 (x8_1 + 1)), rf_, H', ⟨by have := HK1.out; omega⟩, ⟨bk_ BK308⟩, ⟨bl_⟩⟩
   ·rw [if_neg c4] at H
    have c4b0 : decide (x8_1 < (l0.length : Int)) = false := decide_eq_false c4
    clear c4
    obtain rfl := Option.some.inj H
    go_wp2
    repeat (go_quiet (fail); try go_wp2)
    go_ret
    exact ⟨eq_, bl_⟩
def impl_Role_25.f (k : Nat) (l0 : List (S27)) (a1_0 : Int) (a1_1 : Int) : Option (Bool) := (impl_Role_38.f k l0 a1_0 a1_1).bind fun t311 => (some (decide (t311 ≥ 0)))
set_option maxHeartbeats 8000000 in
set_option maxRecDepth 100000 in
theorem impl_Role_25.calls (k : Nat) (A0 : Option Addr) (c0 : Nat) (l0 : List (S27)) (a1_0 : Int) (a1_1 : Int) (r : Bool) (w : World) (hr0 : Kd.C k27 w A0 l0.length l0) (hc0 : l0.length ≤ c0) (h : impl_Role_25.f k l0 a1_0 a1_1 = some r) :
  Calls Try.prog 25 #[.slice A0 l0.length c0, .agg #[.int .i64 a1_0, .int .i64 a1_1]] w fun e w' => e = .returned (.bool r) ∧ Below w.heap.size w w' := by
 have hu27 := Try.underlying27
 have HR0 := aa_ hr0
 have HC0 := aa_ hc0
 clear hr0 hc0
 have HB := aa_ (Below.refl w.heap.size w)
 have H : ((impl_Role_38.f k l0 a1_0 a1_1).bind fun t311 => (some (decide (t311 ≥ 0)))) = some r := h
 clear h
 obtain ⟨t311, A3, H⟩ := bindE_ H
 obtain rfl := Option.some.inj H
 go_enter Try.func25, Try.ntmps25
 go_wp2_with (first | ((with_reducible refine gD_ 3 rfl ?_); refine bx_ (N := 3) (cs := #[.int .i64 a1_0, .int .i64 a1_1]) (t := 27) ?_; intro gb310 hg w4 hbox hb; have BK310 := aa_ (hbox); have GW310 := gs_ hg; have GE310 := gs_ hg; replace HB := hbs_ hb; clear hb hbox hg; obtain ⟨hcz5, hfz5⟩ := bcf_ BK310) | ((with_reducible refine gC_ 38 rfl ?_); refine goesC_ (some 7) Try.func38 #[.slice A0 l0.length c0, .agg #[.int .i64 a1_0, .int .i64 a1_1]] ?_; (with_reducible refine (impl_Role_38.calls k _ _ l0 a1_0 a1_1 t311 _ ?side1 ?side2 A3.out).mono ?_); (case side1 => repeat (first | exact (Kd.C_below HR0.out HB.out) | (with_reducible refine Kd.C_alloc ?_ _) | (with_reducible refine Kd.C_drewN ?_ _) | (with_reducible refine Kd.C_drew ?_))); (case side2 => exact HC0.out); rintro e w6 ⟨rfl, hb⟩; refine ⟨_, rfl, ?_⟩; replace BK310 := bkb_ BK310 hb; replace HB := hbs_ hb; clear hb))
 go_ret
 exact ⟨eq_, bl_⟩
end Go.Proofs.Ytcbhmcpdnokbiaa.PA
