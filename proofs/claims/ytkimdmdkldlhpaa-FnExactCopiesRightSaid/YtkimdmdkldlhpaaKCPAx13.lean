import Derived.Test.YtkimdmdkldlhpaaKCPAx1
import Derived.Test.YtkimdmdkldlhpaaKCPAx12
-- printed by wip/tools
namespace Go.Proofs.Ytkimdmdkldlhpaa.PA
open Go.RowKit Go.Proofs.YtkimdmdkldlhpaaW.PrintWords Go.Proofs.YtkimdmdkldlhpaaW.PrintLast Go.Proofs.YtkimdmdkldlhpaaW.PrintMore
attribute [local go_sem] max2_int min2_int max_two min_two max_three min_three max_four min_four
set_option linter.unusedVariables false
set_option linter.unusedSimpArgs false
attribute [local go_sem high] eqA52
def impl_everyOf.l0 : Nat → Int → List (S52) → Bool → List (S42) → Int → Int → Option ((List (S52)) × Bool)
 | 0, _, _, _, _, _, _ => none
 | k + 1, x1, x6, x7, x12, x13, x14 => if x14 < x13 then (if 0 ≤ x14 then (if x14 < (x12.length : Int) then ((impl_shelfAt.f k ((rd_T42 x12 x14).f0) ((rd_T42 x12 x14).f1) ((rd_T42 x12 x14).f2) ((rd_T42 x12 x14).f3) ((rd_T42 x12 x14).f4) ((rd_T42 x12 x14).f5) x1).bind fun t437 => (if t437 ≥ 0 then ((impl_ShelfOf.f k ((rd_T42 x12 x14).f0) ((rd_T42 x12 x14).f1) ((rd_T42 x12 x14).f2) ((rd_T42 x12 x14).f3) ((rd_T42 x12 x14).f4) ((rd_T42 x12 x14).f5) x1).bind fun t438 => ((impl_Merged.f k x6 t438).bind fun t441 => (impl_everyOf.l0 k x1 t441 true x12 x13 (wrap64 (x14 + 1))))) else (impl_everyOf.l0 k x1 x6 x7 x12 x13 (wrap64 (x14 + 1))))) else (none)) else (none)) else (some (x6, x7))
def impl_everyOf.f (k : Nat) (l0_0 : List (S42)) (a1 : Int) : Option ((List (S52)) × Bool) := impl_everyOf.l0 k a1 (([] : List (S52))) false l0_0 (l0_0.length : Int) 0
set_option maxHeartbeats 8000000 in
set_option maxRecDepth 100000 in
theorem impl_everyOf.calls (k : Nat) (A0_0 : Option Addr) (c0_0 : Nat) (l0_0 : List (S42)) (a1 : Int) (r1 : List (S52)) (r2 : Bool) (w : World) (hr0_0 : Kd.C k42 w A0_0 l0_0.length l0_0) (hc0_0 : l0_0.length ≤ c0_0) (h : impl_everyOf.f k l0_0 a1 = some (r1, r2)) :
  Calls Try.prog 21 #[.agg #[.slice A0_0 l0_0.length c0_0], .int .i64 a1] w fun e w' => ∃ v0_ : Value, e = .returned (.tuple #[v0_, .bool r2]) ∧ Kd.R k52 52 w' w.heap.size (fun _ => True) v0_ r1 ∧ Below w.heap.size w w' := by
 have hu29 := Try.underlying29
 have hu42 := Try.underlying42
 have HR0_0 := aa_ hr0_0
 have HC0_0 := aa_ hc0_0
 clear hr0_0 hc0_0
 have HB := aa_ (Below.refl w.heap.size w)
 have H : (impl_everyOf.l0 k a1 (([] : List (S52))) false l0_0 (l0_0.length : Int) 0) = some (r1, r2) := h
 clear h
 obtain ⟨y432, hy432⟩ : ∃ y_ : List (S52), y_ = (([] : List (S52))) := ⟨_, rfl⟩
 replace H : (impl_everyOf.l0 k a1 y432 false l0_0 (l0_0.length : Int) 0) = some (r1, r2) := rh_ hy432 H
 have Ny432 := aa_ hy432
 clear hy432
 have H' := aa_ H
 clear H
 go_enter Try.func21, Try.ntmps21
 go_wp2_with (first | ((with_reducible refine gD_ 2 rfl ?_); refine bx_ (N := 2) (cs := #[.slice A0_0 l0_0.length c0_0]) (t := 29) ?_; intro gb431 hg w3 hbox hb; have BK431 := aa_ (hbox); have GW431 := gs_ hg; have GE431 := gs_ hg; replace HB := hbs_ hb; clear hb hbox hg) | ((with_reducible refine gD_ 10 rfl ?_); refine Kd.R_lit k52 _ 52 ?hg (N := 10) ?hd (xs := ([] : List (S52))) (inner := []) (ok := fun _ => True) (okp := fun _ => True) ?hr ?hp (fun _ hk => hk) trivial (Below.refl _ _) (Nat.le_refl _) (by simp) ?_; (case hd => rfl); (case hg => rfl); (case hr => first | (go_simp; done) | (go_simp; rfl)); (case hp => exact (Reps.none _ _)); intro v433 w4 ho5 hb hg_ hnew_; clear hg_ hnew_; (first | rw [← Ny432.out] at ho5 | (simp only [Int.reduceToNat] at ho5; rw [← Ny432.out] at ho5)); have HO434 := aa_ (Kd.R_lower ho5 bls_); replace BK431 := bkb_ BK431 hb; replace HB := hbs_ hb; clear hb ho5; obtain ⟨hcz6, hfz6⟩ := bcf_ BK431))
 go_loopg [6, 7, 14] k (fun kq v6 v7 v14 w' => ∃ (x6_1 : List (S52)) (x7_1 : Bool) (x14_1 : Int), v7 = .bool x7_1 ∧ v14 = .int .i64 x14_1 ∧ Aside0 (impl_everyOf.l0 kq a1 x6_1 x7_1 l0_0 (l0_0.length : Int) x14_1 = some (r1, r2)) ∧ Aside0 (kq ≤ k) ∧ Aside0 (Kd.R k52 52 w' w.heap.size (fun _ => True) v6 x6_1) ∧ Aside0 (w'.heap[gb431]? = some (.cells #[(.slice A0_0 l0_0.length c0_0)] 29 (0, 0))) ∧ Aside0 (Below w.heap.size w w'))
 case atStart => exact ⟨(y432), (false), (0), rf_, rf_, H', ⟨Nat.le_refl _⟩, ⟨rr_ HO434⟩, ⟨bk_ BK431⟩, ⟨bl_⟩⟩
 case round =>
  clear H'
  try clear c2
  try clear p2
  try clear hcz6
  try clear hfz6
  obtain ⟨x6_1, x7_1, x14_1, rfl, rfl, HA, HK1, HO_6, BK431, HB⟩ := hrel
  cases gk with
  | zero => exact absurd HA.out (by simp [impl_everyOf.l0])
  | succ k1 =>
   have H := HA.out
   clear HA
   simp only [impl_everyOf.l0] at H
   by_cases c7 : x14_1 < (l0_0.length : Int)
   ·rw [if_pos c7] at H
    have c7b0 : decide (x14_1 < (l0_0.length : Int)) = true := decide_eq_true c7
    clear c7
    obtain ⟨c8b0, H⟩ := ifd_ H
    obtain ⟨c9b0, H⟩ := ifd_ H
    obtain ⟨t437, A10, H⟩ := bindE_ H
    have HC11 := aa_ H
    clear H
    have p435 : 0 ≤ (x14_1 : Int) := od_
    have q435 : x14_1 < (l0_0.length : Int) := od_
    obtain ⟨ad435, A435_3, c435_3, A435_4, c435_4, A435_5, c435_5, e435, hx435_0, hx435_1, hx435_2, hx435_3, hx435_4, hx435_5, hl435_3, hi435_3, hl435_4, hi435_4, hl435_5, hi435_5⟩ := at_T42 HR0_0.out x14_1 p435 q435
    cases e435
    replace hx435_0 := cb_ HB hx435_0
    replace hx435_1 := cb_ HB hx435_1
    replace hx435_2 := cb_ HB hx435_2
    replace hx435_3 := cb_ HB hx435_3
    replace hx435_4 := cb_ HB hx435_4
    replace hx435_5 := cb_ HB hx435_5
    have HR435_3 := aa_ hi435_3
    have HC435_3 := aa_ hl435_3
    clear hi435_3 hl435_3
    have HR435_4 := aa_ hi435_4
    have HC435_4 := aa_ hl435_4
    clear hi435_4 hl435_4
    have HR435_5 := aa_ hi435_5
    have HC435_5 := aa_ hl435_5
    clear hi435_5 hl435_5
    replace p435 := eq_true p435
    replace q435 := eq_true q435
    go_upto_if 21 with (first | ((with_reducible refine gD_ 9 rfl ?_); refine bx_ (N := 9) (cs := #[.int .i64 0, .bool false, .int .i64 0, .slice none 0 0, .slice none 0 0, .slice none 0 0]) (t := 42) ?_; intro gb436 hg w12 hbox hb; replace HO_6 := hob_ HO_6 hb; have BK436 := aa_ (hbox); have GW436 := gs_ hg; have GE436 := gs_ hg; replace HB := hbs_ hb; have NB431_436 := nl_ hg BK431; have NB436_431 := nr_ hg BK431; replace BK431 := bkb_ BK431 hb; clear hb hbox hg; have hnb13 := NB436_431.out; have hnc13 := NB431_436.out; obtain ⟨hcz14, hfz14⟩ := bcf_ BK436) | ((with_reducible refine gC_ 24 rfl ?_); refine goesC_ (some 20) Try.func24 #[.agg #[.int .i64 ((rd_T42 l0_0 x14_1).f0), .bool ((rd_T42 l0_0 x14_1).f1), .int .i64 ((rd_T42 l0_0 x14_1).f2), .slice A435_3 ((rd_T42 l0_0 x14_1).f3).length c435_3, .slice A435_4 ((rd_T42 l0_0 x14_1).f4).length c435_4, .slice A435_5 ((rd_T42 l0_0 x14_1).f5).length c435_5], .int .i64 a1] ?_; (with_reducible refine (impl_shelfAt.calls k1 ((rd_T42 l0_0 x14_1).f0) ((rd_T42 l0_0 x14_1).f1) ((rd_T42 l0_0 x14_1).f2) _ _ ((rd_T42 l0_0 x14_1).f3) _ _ ((rd_T42 l0_0 x14_1).f4) _ _ ((rd_T42 l0_0 x14_1).f5) a1 t437 _ ?side1 ?side2 ?side3 ?side4 ?side5 ?side6 A10.out).mono ?_); (case side1 => exact Kd.C_below HR435_3.out bl_); (case side2 => exact HC435_3.out); (case side3 => exact Kd.C_below HR435_4.out bl_); (case side4 => exact HC435_4.out); (case side5 => exact Kd.C_below HR435_5.out bl_); (case side6 => exact HC435_5.out); rintro e w15 ⟨rfl, hb⟩; refine ⟨_, rfl, ?_⟩; replace HO_6 := aa_ (Kd.R_below (by (with_reducible repeat (first | apply Kd.R_alloc | apply Kd.R_drewN | apply Kd.R_drew)); exact (Kd.R_mono (fr6_ (Kd.R_types HO_6.out BK436.out (by decide)) (fun _ hk => hk.2)) (fun _ h_ => h_.1))) hb); replace BK431 := aa_ (blk_below (g := gb431) (o := .cells #[.slice (some ad435) l0_0.length c0_0] 29 (0, 0)) (bk_ BK431) hb); replace BK436 := aa_ (blk_below (g := gb436) (o := .cells #[.int .i64 ((rd_T42 l0_0 x14_1).f0), .bool ((rd_T42 l0_0 x14_1).f1), .int .i64 ((rd_T42 l0_0 x14_1).f2), .slice A435_3 ((rd_T42 l0_0 x14_1).f3).length c435_3, .slice A435_4 ((rd_T42 l0_0 x14_1).f4).length c435_4, .slice A435_5 ((rd_T42 l0_0 x14_1).f5).length c435_5] 42 (0, 0)) (bk_ BK436) hb); replace HB := hbs_ hb; clear hb))
    (try simp only [Act.put, List.setIfInBounds_toArray, List.set_cons_zero, List.set_cons_succ])
    have H := HC11.out
    clear HC11
    by_cases c16 : t437 ≥ 0
    ·rw [if_pos c16] at H
     have c16b0 : decide (0 ≤ t437) = true := decide_eq_true c16
     clear c16
     (first | rw [c16b0] | (simp only [i64_w, i32_w]; rw [c16b0]) | skip)
     obtain ⟨t438, A17, H⟩ := bindE_ H
     obtain ⟨t441, A18, H⟩ := bindE_ H
     have H' := aa_ H
     clear H
     have hnb19 := NB436_431.out
     have hnc19 := NB431_436.out
     have hcz20 := blk_cell BK436.out
     have hfz20 := blk_frozen BK436.out
     go_wp2_with (first | ((with_reducible refine gC_ 27 rfl ?_); refine goesC_ (some 25) Try.func27 #[.agg #[.int .i64 ((rd_T42 l0_0 x14_1).f0), .bool ((rd_T42 l0_0 x14_1).f1), .int .i64 ((rd_T42 l0_0 x14_1).f2), .slice A435_3 ((rd_T42 l0_0 x14_1).f3).length c435_3, .slice A435_4 ((rd_T42 l0_0 x14_1).f4).length c435_4, .slice A435_5 ((rd_T42 l0_0 x14_1).f5).length c435_5], .int .i64 a1] ?_; (with_reducible refine (impl_ShelfOf.calls k1 ((rd_T42 l0_0 x14_1).f0) ((rd_T42 l0_0 x14_1).f1) ((rd_T42 l0_0 x14_1).f2) _ _ ((rd_T42 l0_0 x14_1).f3) _ _ ((rd_T42 l0_0 x14_1).f4) _ _ ((rd_T42 l0_0 x14_1).f5) a1 t438 _ ?side1 ?side2 ?side3 ?side4 ?side5 ?side6 A17.out).mono ?_); (case side1 => repeat (first | exact (Kd.C_below HR435_3.out HB.out) | (with_reducible refine Kd.C_alloc ?_ _) | (with_reducible refine Kd.C_drewN ?_ _) | (with_reducible refine Kd.C_drew ?_))); (case side2 => exact HC435_3.out); (case side3 => repeat (first | exact (Kd.C_below HR435_4.out HB.out) | (with_reducible refine Kd.C_alloc ?_ _) | (with_reducible refine Kd.C_drewN ?_ _) | (with_reducible refine Kd.C_drew ?_))); (case side4 => exact HC435_4.out); (case side5 => repeat (first | exact (Kd.C_below HR435_5.out HB.out) | (with_reducible refine Kd.C_alloc ?_ _) | (with_reducible refine Kd.C_drewN ?_ _) | (with_reducible refine Kd.C_drew ?_))); (case side6 => exact HC435_5.out); rintro e w21 ⟨v439, rfl, ho0, hb⟩; refine ⟨_, rfl, ?_⟩; have HO440 := aa_ (Kd.R_lower (Kd.R_new' ho0 (Kd.R_lt (rr_ HO_6))) bls_); replace HO_6 := aa_ (Kd.R_elder' (rr_ HO_6) (Kd.R_base ho0) hb); replace BK431 := bkb_ BK431 hb; replace BK436 := bkb_ BK436 hb; replace HB := hbs_ hb; (try clear hb ho0); obtain ⟨Ao22, co22, eo22⟩ := Kd.R_slice HO_6.out; subst eo22; obtain ⟨Ao23, co23, eo23⟩ := Kd.R_slice HO440.out; subst eo23) | ((with_reducible refine gC_ 36 rfl ?_); refine goesC_ (some 26) Try.func36 #[.slice Ao22 x6_1.length co22, .slice Ao23 t438.length co23] ?_; (with_reducible refine (impl_Merged.calls k1 _ _ x6_1 _ _ t438 t441 _ ?side1 ?side2 ?side3 ?side4 A18.out).mono ?_); (case side1 => repeat (first | exact (Kd.R_reads' HO_6.out).2.2 | (with_reducible refine Kd.C_alloc ?_ _) | (with_reducible refine Kd.C_drewN ?_ _) | (with_reducible refine Kd.C_drew ?_))); (case side2 => exact (Kd.R_reads' HO_6.out).2.1); (case side3 => repeat (first | exact (Kd.R_reads' HO440.out).2.2 | (with_reducible refine Kd.C_alloc ?_ _) | (with_reducible refine Kd.C_drewN ?_ _) | (with_reducible refine Kd.C_drew ?_))); (case side4 => exact (Kd.R_reads' HO440.out).2.1); rintro e w24 ⟨v442, rfl, ho0, hb⟩; refine ⟨_, rfl, ?_⟩; have HO443 := aa_ (Kd.R_lower (Kd.R_new' (Kd.R_new' ho0 (Kd.R_lt (rr_ HO_6))) (Kd.R_lt (rr_ HO440))) bls_); replace HO_6 := aa_ (Kd.R_elder' (rr_ HO_6) (Kd.R_base ho0) hb); replace HO440 := aa_ (Kd.R_elder' (rr_ HO440) (Kd.R_base ho0) hb); replace BK431 := bkb_ BK431 hb; replace BK436 := bkb_ BK436 hb; replace HB := hbs_ hb; (try clear hb ho0)))
     go_roundg k1
     case measure => have := HK1.out; omega
     case rel => exact ⟨(t441), (true), (wrap64 (x14_1 + 1)), rf_, rf_, H', ⟨by have := HK1.out; omega⟩, ⟨by (with_reducible repeat (first | apply Kd.R_alloc | apply Kd.R_drewN | apply Kd.R_drew)); exact Kd.R_mono HO443.out (fun _ hk => trivial)⟩, ⟨bk_ BK431⟩, ⟨bl_⟩⟩
    ·rw [if_neg c16] at H
     have c16b0 : decide (0 ≤ t437) = false := decide_eq_false c16
     clear c16
     (first | rw [c16b0] | (simp only [i64_w, i32_w]; rw [c16b0]) | skip)
     have H' := aa_ H
     clear H
     go_wp2
     go_roundg k1
     case measure => have := HK1.out; omega
     case rel => exact ⟨(x6_1), (x7_1), (wrap64 (x14_1 + 1)), rf_, rf_, H', ⟨by have := HK1.out; omega⟩, ⟨rr_ HO_6⟩, ⟨bk_ BK431⟩, ⟨bl_⟩⟩
   ·rw [if_neg c7] at H
    have c7b0 : decide (x14_1 < (l0_0.length : Int)) = false := decide_eq_false c7
    clear c7
    simp only [Option.some.injEq, Prod.mk.injEq] at H
    obtain ⟨rfl, rfl⟩ := H
    go_wp2
    go_ret2
    exact ⟨_, eq_, by (with_reducible repeat (first | apply Kd.R_alloc | apply Kd.R_drewN | apply Kd.R_drew)); exact HO_6.out, bl_⟩
def slices_Index_int_int.l0 : Nat → List Int → Int → Int → Int → Option (Int)
 | 0, _, _, _, _ => none
 | k + 1, x0, x1, x7, x8 => if x8 < x7 then (if 0 ≤ x8 then (if x8 < (x0.length : Int) then (if x1 = (rd x0 x8) then (some x8) else (slices_Index_int_int.l0 k x0 x1 x7 (wrap64 (x8 + 1)))) else (none)) else (none)) else (some (-1))
def slices_Index_int_int.f (k : Nat) (l0 : List Int) (a1 : Int) : Option (Int) := slices_Index_int_int.l0 k l0 a1 (l0.length : Int) 0
set_option maxHeartbeats 8000000 in
set_option maxRecDepth 100000 in
theorem slices_Index_int_int.calls (k : Nat) (A0 : Option Addr) (c0 : Nat) (l0 : List Int) (a1 : Int) (r : Int) (w : World) (hr0 : Kd.C (Kd.int .i64) w A0 l0.length l0) (hc0 : l0.length ≤ c0) (h : slices_Index_int_int.f k l0 a1 = some r) :
  Calls Try.prog 41 #[.slice A0 l0.length c0, .int .i64 a1] w fun e w' => e = .returned (.int .i64 r) ∧ Drawn0 w w' := by
 have HR0 := aa_ hr0
 have HC0 := aa_ hc0
 clear hr0 hc0
 have H : (slices_Index_int_int.l0 k l0 a1 (l0.length : Int) 0) = some r := h
 clear h
 have H' := aa_ H
 clear H
 go_enter Try.func41, Try.ntmps41
 go_wp2
 go_loopg [8] k (fun kq v8 w' => ∃ (x8_1 : Int), v8 = .int .i64 x8_1 ∧ Aside0 (slices_Index_int_int.l0 kq l0 a1 (l0.length : Int) x8_1 = some r) ∧ Aside0 (kq ≤ k) ∧ Drawn0 w w')
 case atStart => exact ⟨(0), rf_, H', ⟨Nat.le_refl _⟩, by repeat (first | exact Drawn0.refl _ | apply Drawn0.step)⟩
 case round =>
  clear H'
  try clear p2
  obtain ⟨x8_1, rfl, HA, HK1, ⟨m1, rfl⟩⟩ := hrel
  cases gk with
  | zero => exact absurd HA.out (by simp [slices_Index_int_int.l0])
  | succ k1 =>
   have H := HA.out
   clear HA
   simp only [slices_Index_int_int.l0] at H
   by_cases c3 : x8_1 < (l0.length : Int)
   ·rw [if_pos c3] at H
    have c3b0 : decide (x8_1 < (l0.length : Int)) = true := decide_eq_true c3
    clear c3
    obtain ⟨c4b0, H⟩ := ifd_ H
    obtain ⟨c5b0, H⟩ := ifd_ H
    have HC6 := aa_ H
    clear H
    have p444 : 0 ≤ (x8_1 : Int) := od_
    have q444 : x8_1 < (l0.length : Int) := od_
    obtain ⟨ad444, e444, hx444_0⟩ := Kd.at_int HR0.out x8_1 p444 q444
    cases e444
    replace p444 := eq_true p444
    replace q444 := eq_true q444
    go_upto_if 16 with (fail)
    have H := HC6.out
    clear HC6
    by_cases c7 : a1 = (rd l0 x8_1)
    ·rw [if_pos c7] at H
     have c7b0 : (a1 == (rd l0 x8_1)) = true := beq_iff_eq.mpr c7
     have c7b1 : (a1 != (rd l0 x8_1)) = false := bne_eq_false_iff_eq.mpr c7
     clear c7
     (first | rw [c7b0] | (simp only [i64_w, i32_w]; rw [c7b0]) | skip)
     obtain rfl := Option.some.inj H
     go_wp2
     go_ret
     exact ⟨by first | rfl | (simp; done) | (simp [*]; done), by repeat (first | exact Drawn0.refl _ | apply Drawn0.step)⟩
    ·rw [if_neg c7] at H
     have c7b0 : (a1 == (rd l0 x8_1)) = false := beq_eq_false_iff_ne.mpr c7
     have c7b1 : (a1 != (rd l0 x8_1)) = true := bne_iff_ne.mpr c7
     (first | rw [c7b0] | (simp only [i64_w, i32_w]; rw [c7b0]) | skip)
     have H' := aa_ H
     clear H
     go_wp2
     go_roundg k1
     case measure => have := HK1.out; omega
     case rel => exact ⟨(wrap64 (x8_1 + 1)), rf_, H', ⟨by have := HK1.out; omega⟩, by repeat (first | exact Drawn0.refl _ | apply Drawn0.step)⟩
   ·rw [if_neg c3] at H
    have c3b0 : decide (x8_1 < (l0.length : Int)) = false := decide_eq_false c3
    clear c3
    obtain rfl := Option.some.inj H
    go_wp2
    go_ret
    exact ⟨by first | rfl | (simp; done) | (simp [*]; done), by repeat (first | exact Drawn0.refl _ | apply Drawn0.step)⟩
def slices_Contains_int_int.f (k : Nat) (l0 : List Int) (a1 : Int) : Option (Bool) := (slices_Index_int_int.f k l0 a1).bind fun t445 => (some (decide (t445 ≥ 0)))
set_option maxHeartbeats 8000000 in
set_option maxRecDepth 100000 in
theorem slices_Contains_int_int.calls (k : Nat) (A0 : Option Addr) (c0 : Nat) (l0 : List Int) (a1 : Int) (r : Bool) (w : World) (hr0 : Kd.C (Kd.int .i64) w A0 l0.length l0) (hc0 : l0.length ≤ c0) (h : slices_Contains_int_int.f k l0 a1 = some r) :
  Calls Try.prog 25 #[.slice A0 l0.length c0, .int .i64 a1] w fun e w' => e = .returned (.bool r) ∧ Drawn0 w w' := by
 have HR0 := aa_ hr0
 have HC0 := aa_ hc0
 clear hr0 hc0
 have H : ((slices_Index_int_int.f k l0 a1).bind fun t445 => (some (decide (t445 ≥ 0)))) = some r := h
 clear h
 obtain ⟨t445, A3, H⟩ := bindE_ H
 obtain rfl := Option.some.inj H
 go_enter Try.func25, Try.ntmps25
 go_wp2_with (first | ((with_reducible refine gC_ 41 rfl ?_); refine goesC_ (some 7) Try.func41 #[.slice A0 l0.length c0, .int .i64 a1] ?_; (with_reducible refine (slices_Index_int_int.calls k _ _ l0 a1 t445 _ ?side1 ?side2 A3.out).mono ?_); (case side1 => exact cc_ HR0); (case side2 => exact HC0.out); rintro e w' ⟨rfl, ⟨nd, rfl⟩⟩; refine ⟨_, rfl, ?_⟩))
 go_ret
 exact ⟨by first | rfl | (simp; done) | (simp [*]; done), by repeat (first | exact Drawn0.refl _ | apply Drawn0.step)⟩
def impl_Peer.l0 : Nat → List (S42) → (S42 → Option Bool) → Int → Int → Option (Int)
 | 0, _, _, _, _ => none
 | k + 1, x0, x1, x7, x8 => if x8 < x7 then (if 0 ≤ x8 then (if x8 < (x0.length : Int) then ((x1 (⟨(rd_T42 x0 x8).f0, (rd_T42 x0 x8).f1, (rd_T42 x0 x8).f2, (rd_T42 x0 x8).f3, (rd_T42 x0 x8).f4, (rd_T42 x0 x8).f5⟩ : S42)).bind fun t447 => (if t447 = true then (some x8) else (impl_Peer.l0 k x0 x1 x7 (wrap64 (x8 + 1))))) else (none)) else (none)) else (some (-1))
def impl_Peer.f (k : Nat) (l0 : List (S42)) (a1 : (S42 → Option Bool)) : Option (Int) := impl_Peer.l0 k l0 a1 (l0.length : Int) 0
set_option maxHeartbeats 8000000 in
set_option maxRecDepth 100000 in
theorem impl_Peer.calls (k : Nat) (A0 : Option Addr) (c0 : Nat) (l0 : List (S42)) (a1 : (S42 → Option Bool)) (na1_ : Nat) (ga1_ : Array Value) (r : Int) (w : World) (hr0 : Kd.C k42 w A0 l0.length l0) (hc0 : l0.length ≤ c0) (hq1 : ∀ W_, Below w.heap.size w W_ → FnOk42 a1 na1_ ga1_ W_) (h : impl_Peer.f k l0 a1 = some r) :
  Calls Try.prog 55 #[.slice A0 l0.length c0, .func (.func na1_) #[] ga1_] w fun e w' => e = .returned (.int .i64 r) ∧ Below w.heap.size w w' := by
 have hu42 := Try.underlying42
 have HR0 := aa_ hr0
 have HC0 := aa_ hc0
 clear hr0 hc0
 have HFN1 := aa_ hq1
 have eg1 := (hq1 w (Below.refl _ _)).1
 clear hq1
 have HB := aa_ (Below.refl w.heap.size w)
 have H : (impl_Peer.l0 k l0 a1 (l0.length : Int) 0) = some r := h
 clear h
 have H' := aa_ H
 clear H
 go_enter Try.func55, Try.ntmps55
 go_wp2
 go_loopg [8] k (fun kq v8 w' => ∃ (x8_1 : Int), v8 = .int .i64 x8_1 ∧ Aside0 (impl_Peer.l0 kq l0 a1 (l0.length : Int) x8_1 = some r) ∧ Aside0 (kq ≤ k) ∧ Aside0 (Below w.heap.size w w'))
 case atStart => exact ⟨(0), rf_, H', ⟨Nat.le_refl _⟩, ⟨bl_⟩⟩
 case round =>
  clear H'
  try clear q1
  try clear p2
  obtain ⟨x8_1, rfl, HA, HK1, HB⟩ := hrel
  cases gk with
  | zero => exact absurd HA.out (by simp [impl_Peer.l0])
  | succ k1 =>
   have H := HA.out
   clear HA
   simp only [impl_Peer.l0] at H
   by_cases c3 : x8_1 < (l0.length : Int)
   ·rw [if_pos c3] at H
    have c3b0 : decide (x8_1 < (l0.length : Int)) = true := decide_eq_true c3
    clear c3
    obtain ⟨c4b0, H⟩ := ifd_ H
    obtain ⟨c5b0, H⟩ := ifd_ H
    obtain ⟨t447, A6, H⟩ := bindE_ H
    have HC7 := aa_ H
    clear H
    have p446 : 0 ≤ (x8_1 : Int) := od_
    have q446 : x8_1 < (l0.length : Int) := od_
    obtain ⟨ad446, A446_3, c446_3, A446_4, c446_4, A446_5, c446_5, e446, hx446_0, hx446_1, hx446_2, hx446_3, hx446_4, hx446_5, hl446_3, hi446_3, hl446_4, hi446_4, hl446_5, hi446_5⟩ := at_T42 HR0.out x8_1 p446 q446
    cases e446
    replace hx446_0 := cb_ HB hx446_0
    replace hx446_1 := cb_ HB hx446_1
    replace hx446_2 := cb_ HB hx446_2
    replace hx446_3 := cb_ HB hx446_3
    replace hx446_4 := cb_ HB hx446_4
    replace hx446_5 := cb_ HB hx446_5
    have HR446_3 := aa_ hi446_3
    have HC446_3 := aa_ hl446_3
    clear hi446_3 hl446_3
    have HR446_4 := aa_ hi446_4
    have HC446_4 := aa_ hl446_4
    clear hi446_4 hl446_4
    have HR446_5 := aa_ hi446_5
    have HC446_5 := aa_ hl446_5
    clear hi446_5 hl446_5
    replace p446 := eq_true p446
    replace q446 := eq_true q446
    go_upto_if 16 with (first | (go_at_fn na1_; (refine ((HFN1.out _ bl_).2 _ _ _ _ _ _ _ _ A6.out).mono ?_); rintro e w8 ⟨rfl, hb⟩; replace HB := hbs_ hb; clear hb))
    (try simp only [Act.put, List.setIfInBounds_toArray, List.set_cons_zero, List.set_cons_succ])
    have H := HC7.out
    clear HC7
    by_cases c9 : t447 = true
    ·subst c9
     replace H := ite_t_ H
     obtain rfl := Option.some.inj H
     go_wp2
     go_ret
     exact ⟨eq_, bl_⟩
    ·replace c9 := Bool.eq_false_iff.mpr c9
     subst c9
     replace H := ite_f_ H
     have H' := aa_ H
     clear H
     go_wp2
     go_roundg k1
     case measure => have := HK1.out; omega
     case rel => exact ⟨(wrap64 (x8_1 + 1)), rf_, H', ⟨by have := HK1.out; omega⟩, ⟨bl_⟩⟩
   ·rw [if_neg c3] at H
    have c3b0 : decide (x8_1 < (l0.length : Int)) = false := decide_eq_false c3
    clear c3
    obtain rfl := Option.some.inj H
    go_wp2
    go_ret
    exact ⟨eq_, bl_⟩
-- NOT PRINTED: function 56 (impl_peerHere_1)
def impl_peerHere.f (k : Nat) (l0_0 : List (S42)) (a1 : Int) : Option (Int) := (impl_Peer.f k l0_0 (clo56 a1)).bind fun t450 => (some t450)
set_option maxHeartbeats 8000000 in
set_option maxRecDepth 100000 in
theorem impl_peerHere.calls (k : Nat) (A0_0 : Option Addr) (c0_0 : Nat) (l0_0 : List (S42)) (a1 : Int) (r : Int) (w : World) (hr0_0 : Kd.C k42 w A0_0 l0_0.length l0_0) (hc0_0 : l0_0.length ≤ c0_0) (h : impl_peerHere.f k l0_0 a1 = some r) :
  Calls Try.prog 37 #[.agg #[.slice A0_0 l0_0.length c0_0], .int .i64 a1] w fun e w' => e = .returned (.int .i64 r) ∧ Below w.heap.size w w' := by
 have hu29 := Try.underlying29
 have hmf : ∀ (fn : Fn) (first cap : Array Value) (w : World), (Instr.makeFunc fn first cap).run Try.prog w = .ok (.func fn first cap) w := fun _ _ _ _ => rfl
 have hu3 := Try.underlying3
 have HR0_0 := aa_ hr0_0
 have HC0_0 := aa_ hc0_0
 clear hr0_0 hc0_0
 have HB := aa_ (Below.refl w.heap.size w)
 have H : ((impl_Peer.f k l0_0 (clo56 a1)).bind fun t450 => (some t450)) = some r := h
 clear h
 obtain ⟨t450, A3, H⟩ := bindE_ H
 obtain rfl := Option.some.inj H
 go_enter Try.func37, Try.ntmps37
 go_wp2_with (first | ((with_reducible refine gD_ 2 rfl ?_); refine bx_ (N := 2) (cs := #[.slice A0_0 l0_0.length c0_0]) (t := 29) ?_; intro gb448 hg w4 hbox hb; have BK448 := aa_ (hbox); have GW448 := gs_ hg; have GE448 := gs_ hg; replace HB := hbs_ hb; clear hb hbox hg) | ((with_reducible refine gD_ 3 rfl ?_); refine bx_ (N := 3) (cs := #[.int .i64 a1]) (t := 3) ?_; intro gb449 hg w5 hbox hb; have BK449 := aa_ (hbox); have GW449 := gs_ hg; have GE449 := gs_ hg; replace HB := hbs_ hb; have NB448_449 := nl_ hg BK448; have NB449_448 := nr_ hg BK448; replace BK448 := bkb_ BK448 hb; clear hb hbox hg; have hnb6 := NB448_449.out; have hnc6 := NB449_448.out; obtain ⟨hcz7, hfz7⟩ := bcf_ BK448) | ((with_reducible refine gC_ 55 rfl ?_); refine goesC_ (some 8) Try.func55 #[.slice A0_0 l0_0.length c0_0, .func (.func 56) #[] #[.pointer (some ⟨gb449, 0, none⟩)]] ?_; (with_reducible refine (impl_Peer.calls k _ _ l0_0 (clo56 a1) 56 #[.pointer (some ⟨gb449, 0, none⟩)] t450 _ ?side1 ?side2 ?side3 A3.out).mono ?_); (case side1 => repeat (first | exact (Kd.C_below HR0_0.out HB.out) | (with_reducible refine Kd.C_alloc ?_ _) | (with_reducible refine Kd.C_drewN ?_ _) | (with_reducible refine Kd.C_drew ?_))); (case side2 => exact HC0_0.out); (case side3 => exact fun W_ hW_ => clo56_ok _ _ (bkb_ BK449 hW_).out); rintro e w8 ⟨rfl, hb⟩; refine ⟨_, rfl, ?_⟩; replace BK448 := bkb_ BK448 hb; replace BK449 := bkb_ BK449 hb; replace HB := hbs_ hb; clear hb))
 go_ret
 exact ⟨eq_, bl_⟩
def impl_HoldersOf.l0 : Nat → List Int → List Int → Int → Int → List (S42) → Option (List Int)
 | 0, _, _, _, _, _ => none
 | k + 1, x6, x21, x22, x23, x452000 => if x23 < x22 then (if 0 ≤ x23 then (if x23 < (x21.length : Int) then ((impl_peerHere.f k x452000 (rd x21 x23)).bind fun t458 => (if t458 ≥ 0 then ((slices_Contains_int_int.f k x6 (rd x21 x23)).bind fun t459 => (if t459 = true then (impl_HoldersOf.l0 k x6 x21 x22 (wrap64 (x23 + 1)) x452000) else (if (x6.length : Int) < 3 then (if x6.length < 17592186044416 then (impl_HoldersOf.l0 k (x6 ++ [rd x21 x23]) x21 x22 (wrap64 (x23 + 1)) x452000) else (none)) else (impl_HoldersOf.l0 k x6 x21 x22 (wrap64 (x23 + 1)) x452000)))) else (impl_HoldersOf.l0 k x6 x21 x22 (wrap64 (x23 + 1)) x452000))) else (none)) else (none)) else (some x6)
def impl_HoldersOf.f (k : Nat) (l0_0 : List (S42)) (a1 : Int) : Option (List Int) := (impl_peerHere.f k l0_0 a1).bind fun t452 => (if t452 < 0 then (some ([] : List Int)) else (if 0 ≤ t452 then (if t452 < (l0_0.length : Int) then (impl_HoldersOf.l0 k (([a1] : List Int)) ((rd_T42 l0_0 t452).f3) (((rd_T42 l0_0 t452).f3).length : Int) 0 l0_0) else (none)) else (none)))
set_option maxHeartbeats 8000000 in
set_option maxRecDepth 100000 in
theorem impl_HoldersOf.calls (k : Nat) (A0_0 : Option Addr) (c0_0 : Nat) (l0_0 : List (S42)) (a1 : Int) (r : List Int) (w : World) (hr0_0 : Kd.C k42 w A0_0 l0_0.length l0_0) (hc0_0 : l0_0.length ≤ c0_0) (h : impl_HoldersOf.f k l0_0 a1 = some r) :
  Calls Try.prog 22 #[.agg #[.slice A0_0 l0_0.length c0_0], .int .i64 a1] w fun e w' => ∃ v0_ : Value, e = .returned (v0_) ∧ Kd.R (Kd.int .i64) 3 w' w.heap.size (fun _ => True) v0_ r ∧ Below w.heap.size w w' := by
 have hu29 := Try.underlying29
 have HR0_0 := aa_ hr0_0
 have HC0_0 := aa_ hc0_0
 clear hr0_0 hc0_0
 have HB := aa_ (Below.refl w.heap.size w)
 have H : ((impl_peerHere.f k l0_0 a1).bind fun t452 => (if t452 < 0 then (some ([] : List Int)) else (if 0 ≤ t452 then (if t452 < (l0_0.length : Int) then (impl_HoldersOf.l0 k (([a1] : List Int)) ((rd_T42 l0_0 t452).f3) (((rd_T42 l0_0 t452).f3).length : Int) 0 l0_0) else (none)) else (none)))) = some r := h
 clear h
 obtain ⟨t452, A3, H⟩ := bindE_ H
 have HC4 := aa_ H
 clear H
 go_enter Try.func22, Try.ntmps22
 go_upto_if 13 with (first | ((with_reducible refine gD_ 2 rfl ?_); (try (refine gate_guard (by rfl) ?_; dsimp only)); refine bx_ (N := 2) (cs := #[.slice A0_0 l0_0.length c0_0]) (t := 29) ?_; intro gb451 hg w5 hbox hb; have BK451 := aa_ (hbox); have GW451 := gs_ hg; have GE451 := gs_ hg; replace HB := hbs_ hb; clear hb hbox hg; obtain ⟨hcz6, hfz6⟩ := bcf_ BK451) | ((with_reducible refine gC_ 37 rfl ?_); refine goesC_ (some 11) Try.func37 #[.agg #[.slice A0_0 l0_0.length c0_0], .int .i64 a1] ?_; (with_reducible refine (impl_peerHere.calls k _ _ l0_0 a1 t452 _ ?side1 ?side2 A3.out).mono ?_); (case side1 => repeat (first | exact (Kd.C_below HR0_0.out HB.out) | (with_reducible refine Kd.C_alloc ?_ _) | (with_reducible refine Kd.C_drewN ?_ _) | (with_reducible refine Kd.C_drew ?_))); (case side2 => exact HC0_0.out); rintro e w7 ⟨rfl, hb⟩; refine ⟨_, rfl, ?_⟩; replace BK451 := bkb_ BK451 hb; replace HB := hbs_ hb; clear hb))
 (try simp only [Act.put, List.setIfInBounds_toArray, List.set_cons_zero, List.set_cons_succ])
 have H := HC4.out
 clear HC4
 by_cases c8 : t452 < 0
 ·rw [if_pos c8] at H
  have c8b0 : decide (t452 < 0) = true := decide_eq_true c8
  clear c8
  (first | rw [c8b0] | (simp only [i64_w, i32_w]; rw [c8b0]) | skip)
  obtain rfl := Option.some.inj H
  go_wp2
  go_ret
  exact ⟨_, eq_, by first | exact Kd.R_nil _ _ _ _ _ | exact Kd.N_nil _ _ _ _ _ | exact Kd.V_nil _ _ _ _ _ | exact Kd.Q_nil _ _ _ _ _ | exact Kd.S_nil _ _ _ _ _, bl_⟩
 ·rw [if_neg c8] at H
  have c8b0 : decide (t452 < 0) = false := decide_eq_false c8
  clear c8
  (first | rw [c8b0] | (simp only [i64_w, i32_w]; rw [c8b0]) | skip)
  obtain ⟨y453, hy453⟩ : ∃ y_ : List Int, y_ = (([a1] : List Int)) := ⟨_, rfl⟩
  replace H : (if 0 ≤ t452 then (if t452 < (l0_0.length : Int) then (impl_HoldersOf.l0 k y453 ((rd_T42 l0_0 t452).f3) (((rd_T42 l0_0 t452).f3).length : Int) 0 l0_0) else (none)) else (none)) = some r := rh_ hy453 H
  have Ny453 := aa_ hy453
  clear hy453
  obtain ⟨c9b0, H⟩ := ifd_ H
  obtain ⟨c10b0, H⟩ := ifd_ H
  have H' := aa_ H
  clear H
  go_wp2_with (first | ((with_reducible refine gD_ 15 rfl ?_); (try (refine gate_guard (by rfl) ?_; dsimp only)); refine Kd.R_lit (Kd.int .i64) _ 3 ?hg (N := 15) ?hd (xs := ([a1] : List Int)) (inner := [.int .i64 a1]) (ok := fun _ => True) (okp := fun _ => True) ?hr ?hp (fun _ hk => hk) trivial (Below.refl _ _) (Nat.le_refl _) (by simp) ?_; (case hd => rfl); (case hg => rfl); (case hr => first | (go_simp; done) | (go_simp; rfl)); (case hp => exact (Reps.one (show Kd.M (Kd.int .i64) _ _ _ a1 [.int .i64 a1] from rfl) (Reps.none _ _))); intro v454 w11 ho12 hb hg_ hnew_; clear hg_ hnew_; (first | rw [← Ny453.out] at ho12 | (simp only [Int.reduceToNat] at ho12; rw [← Ny453.out] at ho12)); have HO455 := aa_ (Kd.R_lower ho12 bls_); replace BK451 := bkb_ BK451 hb; replace HB := hbs_ hb; clear hb ho12; obtain ⟨hcz13, hfz13⟩ := bcf_ BK451; have p456 : 0 ≤ (t452 : Int) := od_; have q456 : t452 < (l0_0.length : Int) := od_; obtain ⟨ad456, A456_3, c456_3, A456_4, c456_4, A456_5, c456_5, e456, hx456_0, hx456_1, hx456_2, hx456_3, hx456_4, hx456_5, hl456_3, hi456_3, hl456_4, hi456_4, hl456_5, hi456_5⟩ := at_T42 HR0_0.out t452 p456 q456; cases e456; replace hx456_0 := cb_ HB hx456_0; replace hx456_1 := cb_ HB hx456_1; replace hx456_2 := cb_ HB hx456_2; replace hx456_3 := cb_ HB hx456_3; replace hx456_4 := cb_ HB hx456_4; replace hx456_5 := cb_ HB hx456_5; have HR456_3 := aa_ hi456_3; have HC456_3 := aa_ hl456_3; clear hi456_3 hl456_3; have HR456_4 := aa_ hi456_4; have HC456_4 := aa_ hl456_4; clear hi456_4 hl456_4; have HR456_5 := aa_ hi456_5; have HC456_5 := aa_ hl456_5; clear hi456_5 hl456_5; replace p456 := eq_true p456; replace q456 := eq_true q456))
  go_loopg [6, 23] k (fun kq v6 v23 w' => ∃ (x6_1 : List Int) (x23_1 : Int), v23 = .int .i64 x23_1 ∧ Aside0 (impl_HoldersOf.l0 kq x6_1 ((rd_T42 l0_0 t452).f3) (((rd_T42 l0_0 t452).f3).length : Int) x23_1 l0_0 = some r) ∧ Aside0 (kq ≤ k) ∧ Aside0 (Kd.R (Kd.int .i64) 3 w' w.heap.size (fun _ => True) v6 x6_1) ∧ Aside0 (w'.heap[gb451]? = some (.cells #[(.slice (some ad456) l0_0.length c0_0)] 29 (0, 0))) ∧ Aside0 (Below w.heap.size w w'))
  case atStart => exact ⟨(y453), (0), rf_, H', ⟨Nat.le_refl _⟩, ⟨rr_ HO455⟩, ⟨bk_ BK451⟩, ⟨bl_⟩⟩
  case round =>
   clear H'
   try clear c1
   try clear c2
   try clear p2
   try clear c3
   try clear c4
   try clear p4
   try clear q4
   try clear hx4
   try clear c8
   try clear c8b0
   try clear c9
   try clear c9b0
   try clear c10
   try clear c10b0
   try clear hcz13
   try clear hcz6
   try clear hfz13
   try clear hfz6
   try clear hx456_0
   try clear hx456_1
   try clear hx456_2
   try clear hx456_3
   try clear hx456_4
   try clear hx456_5
   try clear p456
   try clear q456
   obtain ⟨x6_1, x23_1, rfl, HA, HK1, HO_6, BK451, HB⟩ := hrel
   cases gk with
   | zero => exact absurd HA.out (by simp [impl_HoldersOf.l0])
   | succ k1 =>
    have H := HA.out
    clear HA
    simp only [impl_HoldersOf.l0] at H
    by_cases c14 : x23_1 < (((rd_T42 l0_0 t452).f3).length : Int)
    ·rw [if_pos c14] at H
     have c14b0 : decide (x23_1 < (((rd_T42 l0_0 t452).f3).length : Int)) = true := decide_eq_true c14
     clear c14
     obtain ⟨c15b0, H⟩ := ifd_ H
     obtain ⟨c16b0, H⟩ := ifd_ H
     obtain ⟨t458, A17, H⟩ := bindE_ H
     by_cases c18 : t458 ≥ 0
     ·rw [if_pos c18] at H
      have c18b0 : decide (0 ≤ t458) = true := decide_eq_true c18
      clear c18
      obtain ⟨t459, A19, H⟩ := bindE_ H
      by_cases c20 : t459 = true
      ·subst c20
       replace H := ite_t_ H
       have H' := aa_ H
       clear H
       have p457 : 0 ≤ (x23_1 : Int) := od_
       have q457 : x23_1 < (((rd_T42 l0_0 t452).f3).length : Int) := od_
       obtain ⟨ad457, e457, hx457_0⟩ := Kd.at_int (Kd.C_below HR456_3.out HB.out) x23_1 p457 q457
       cases e457
       replace p457 := eq_true p457
       replace q457 := eq_true q457
       have hcz21 := blk_cell BK451.out
       have hfz21 := blk_frozen BK451.out
       go_wp2_with (first | ((with_reducible refine gC_ 37 rfl ?_); refine goesC_ (some 29) Try.func37 #[.agg #[.slice (some ad456) l0_0.length c0_0], .int .i64 (rd ((rd_T42 l0_0 t452).f3) x23_1)] ?_; (with_reducible refine (impl_peerHere.calls k1 _ _ l0_0 (rd ((rd_T42 l0_0 t452).f3) x23_1) t458 _ ?side1 ?side2 A17.out).mono ?_); (case side1 => repeat (first | exact (Kd.C_below HR0_0.out HB.out) | (with_reducible refine Kd.C_alloc ?_ _) | (with_reducible refine Kd.C_drewN ?_ _) | (with_reducible refine Kd.C_drew ?_))); (case side2 => exact HC0_0.out); rintro e w22 ⟨rfl, hb⟩; refine ⟨_, rfl, ?_⟩; replace HO_6 := hob_ HO_6 hb; replace BK451 := bkb_ BK451 hb; replace HB := hbs_ hb; clear hb; obtain ⟨Ao23, co23, eo23⟩ := Kd.R_slice HO_6.out; subst eo23) | (go_at_call 25; (with_reducible refine (slices_Contains_int_int.calls k1 _ _ x6_1 (rd ((rd_T42 l0_0 t452).f3) x23_1) true _ ?side1 ?side2 A19.out).mono ?_); (case side1 => repeat (first | exact (Kd.R_reads' HO_6.out).2.2 | (with_reducible refine Kd.C_alloc ?_ _) | (with_reducible refine Kd.C_drewN ?_ _) | (with_reducible refine Kd.C_drew ?_))); (case side2 => exact (Kd.R_reads' HO_6.out).2.1); rintro e w' ⟨rfl, ⟨nd, rfl⟩⟩))
       go_roundg k1
       case measure => have := HK1.out; omega
       case rel => exact ⟨(x6_1), (wrap64 (x23_1 + 1)), rf_, H', ⟨by have := HK1.out; omega⟩, ⟨rr_ HO_6⟩, ⟨bk_ BK451⟩, ⟨bl_⟩⟩
      ·replace c20 := Bool.eq_false_iff.mpr c20
       subst c20
       replace H := ite_f_ H
       have HC24 := aa_ H
       clear H
       have p457 : 0 ≤ (x23_1 : Int) := od_
       have q457 : x23_1 < (((rd_T42 l0_0 t452).f3).length : Int) := od_
       obtain ⟨ad457, e457, hx457_0⟩ := Kd.at_int (Kd.C_below HR456_3.out HB.out) x23_1 p457 q457
       cases e457
       replace p457 := eq_true p457
       replace q457 := eq_true q457
       have hcz25 := blk_cell BK451.out
       have hfz25 := blk_frozen BK451.out
       go_upto_if 41 with (first | ((with_reducible refine gC_ 37 rfl ?_); refine goesC_ (some 29) Try.func37 #[.agg #[.slice (some ad456) l0_0.length c0_0], .int .i64 (rd ((rd_T42 l0_0 t452).f3) x23_1)] ?_; (with_reducible refine (impl_peerHere.calls k1 _ _ l0_0 (rd ((rd_T42 l0_0 t452).f3) x23_1) t458 _ ?side1 ?side2 A17.out).mono ?_); (case side1 => repeat (first | exact (Kd.C_below HR0_0.out HB.out) | (with_reducible refine Kd.C_alloc ?_ _) | (with_reducible refine Kd.C_drewN ?_ _) | (with_reducible refine Kd.C_drew ?_))); (case side2 => exact HC0_0.out); rintro e w26 ⟨rfl, hb⟩; refine ⟨_, rfl, ?_⟩; replace HO_6 := hob_ HO_6 hb; replace BK451 := bkb_ BK451 hb; replace HB := hbs_ hb; clear hb; obtain ⟨Ao27, co27, eo27⟩ := Kd.R_slice HO_6.out; subst eo27) | (go_at_call 25; (with_reducible refine (slices_Contains_int_int.calls k1 _ _ x6_1 (rd ((rd_T42 l0_0 t452).f3) x23_1) false _ ?side1 ?side2 A19.out).mono ?_); (case side1 => repeat (first | exact (Kd.R_reads' HO_6.out).2.2 | (with_reducible refine Kd.C_alloc ?_ _) | (with_reducible refine Kd.C_drewN ?_ _) | (with_reducible refine Kd.C_drew ?_))); (case side2 => exact (Kd.R_reads' HO_6.out).2.1); rintro e w' ⟨rfl, ⟨nd, rfl⟩⟩))
       (try simp only [Act.put, List.setIfInBounds_toArray, List.set_cons_zero, List.set_cons_succ])
       have H := HC24.out
       clear HC24
       by_cases c28 : (x6_1.length : Int) < 3
       ·rw [if_pos c28] at H
        have c28b0 : decide ((x6_1.length : Int) < 3) = true := decide_eq_true c28
        have c28b1 : decide (x6_1.length < 3) = true := decide_eq_true (by omega)
        clear c28
        (first | rw [c28b0] | (simp only [i64_w, i32_w]; rw [c28b0]) | (have cz_ := c28b0; simp only [Int.ofNat_lt, Int.ofNat_le, gt_iff_lt, ge_iff_le] at cz_; rw [cz_]; clear cz_) | skip)
        obtain ⟨c29, H⟩ := ifn_ H
        have LMc29 := aa_ c29
        clear c29
        obtain ⟨y460, hy460⟩ : ∃ y_ : List Int, y_ = (x6_1 ++ [rd ((rd_T42 l0_0 t452).f3) x23_1]) := ⟨_, rfl⟩
        replace H : (impl_HoldersOf.l0 k1 y460 ((rd_T42 l0_0 t452).f3) (((rd_T42 l0_0 t452).f3).length : Int) (wrap64 (x23_1 + 1)) l0_0) = some r := rh_ hy460 H
        have Ny460 := aa_ hy460
        clear hy460
        have H' := aa_ H
        clear H
        go_wp2_with (first | ((with_reducible refine gate_builtin (b := .append) (xs := #[.tmp 42, .tmp 44]) rfl ?_); (try (refine gate_guard (by rfl) ?_; dsimp only)); at_builtin; refine Kd.R_append (Kd.int .i64) (w0 := w) w.heap.size rfl (.tmp 42) (.tmp 44) 34 3 (.int .i64 0) 8 rfl Try.underlying34 info3 rfl (by decide) (by omega) (.slice Ao27 x6_1.length co27) x6_1 (rd ((rd_T42 l0_0 t452).f3) x23_1) [.int .i64 (rd ((rd_T42 l0_0 t452).f3) x23_1)] (fun _ => True) (fun _ => False) rfl rfl ?aP (fun _ hk => hk.elim) ?aF ?aO ?aB ?aS ?aL ?_; (case aP => exact rfl); (case aB => exact bl_); (case aF => exact (fun _ _ => trivial)); (case aO => exact (rr_ HO_6)); (case aS => exact bls_); (case aL => have := LMc29.out; omega); intro v461 w30 ho hb hg hat; rw [← Ny460.out] at ho; replace BK451 := aa_ (blk_grown (g := gb451) (o := .cells #[.slice (some ad456) l0_0.length c0_0] 29 (0, 0)) (bk_ BK451) hg (Kd.R_ne HO_6.out BK451.out (by decide))); replace HB := aa_ (hb); have HO462 := aa_ (ho); clear HO_6; clear ho hb hg hat))
        go_roundg k1
        case measure => have := HK1.out; omega
        case rel => exact ⟨(y460), (wrap64 (x23_1 + 1)), rf_, H', ⟨by have := HK1.out; omega⟩, ⟨rr_ HO462⟩, ⟨bk_ BK451⟩, ⟨bl_⟩⟩
       ·rw [if_neg c28] at H
        have c28b0 : decide ((x6_1.length : Int) < 3) = false := decide_eq_false c28
        have c28b1 : decide (x6_1.length < 3) = false := decide_eq_false (by omega)
        clear c28
        (first | rw [c28b0] | (simp only [i64_w, i32_w]; rw [c28b0]) | (have cz_ := c28b0; simp only [Int.ofNat_lt, Int.ofNat_le, gt_iff_lt, ge_iff_le] at cz_; rw [cz_]; clear cz_) | skip)
        have H' := aa_ H
        clear H
        go_wp2
        go_roundg k1
        case measure => have := HK1.out; omega
        case rel => exact ⟨(x6_1), (wrap64 (x23_1 + 1)), rf_, H', ⟨by have := HK1.out; omega⟩, ⟨rr_ HO_6⟩, ⟨bk_ BK451⟩, ⟨bl_⟩⟩
     ·rw [if_neg c18] at H
      have c18b0 : decide (0 ≤ t458) = false := decide_eq_false c18
      clear c18
      have H' := aa_ H
      clear H
      have p457 : 0 ≤ (x23_1 : Int) := od_
      have q457 : x23_1 < (((rd_T42 l0_0 t452).f3).length : Int) := od_
      obtain ⟨ad457, e457, hx457_0⟩ := Kd.at_int (Kd.C_below HR456_3.out HB.out) x23_1 p457 q457
      cases e457
      replace p457 := eq_true p457
      replace q457 := eq_true q457
      have hcz31 := blk_cell BK451.out
      have hfz31 := blk_frozen BK451.out
      go_wp2_with (first | ((with_reducible refine gC_ 37 rfl ?_); refine goesC_ (some 29) Try.func37 #[.agg #[.slice (some ad456) l0_0.length c0_0], .int .i64 (rd ((rd_T42 l0_0 t452).f3) x23_1)] ?_; (with_reducible refine (impl_peerHere.calls k1 _ _ l0_0 (rd ((rd_T42 l0_0 t452).f3) x23_1) t458 _ ?side1 ?side2 A17.out).mono ?_); (case side1 => repeat (first | exact (Kd.C_below HR0_0.out HB.out) | (with_reducible refine Kd.C_alloc ?_ _) | (with_reducible refine Kd.C_drewN ?_ _) | (with_reducible refine Kd.C_drew ?_))); (case side2 => exact HC0_0.out); rintro e w32 ⟨rfl, hb⟩; refine ⟨_, rfl, ?_⟩; replace HO_6 := hob_ HO_6 hb; replace BK451 := bkb_ BK451 hb; replace HB := hbs_ hb; clear hb))
      go_roundg k1
      case measure => have := HK1.out; omega
      case rel => exact ⟨(x6_1), (wrap64 (x23_1 + 1)), rf_, H', ⟨by have := HK1.out; omega⟩, ⟨rr_ HO_6⟩, ⟨bk_ BK451⟩, ⟨bl_⟩⟩
    ·rw [if_neg c14] at H
     have c14b0 : decide (x23_1 < (((rd_T42 l0_0 t452).f3).length : Int)) = false := decide_eq_false c14
     clear c14
     obtain rfl := Option.some.inj H
     go_wp2
     go_ret
     exact ⟨_, eq_, by (with_reducible repeat (first | apply Kd.R_alloc | apply Kd.R_drewN | apply Kd.R_drew)); exact HO_6.out, bl_⟩
def impl_place.f (a0 : Int) : Option (Int) := some (Int.tmod (wrap64 ((Int.tmod a0 256) + 256)) 256)
set_option maxHeartbeats 8000000 in
set_option maxRecDepth 100000 in
theorem impl_place.calls (a0 : Int) (r : Int) (w : World) (h : impl_place.f a0 = some r) :
  Calls Try.prog 57 #[.int .i64 a0] w fun e w' => e = .returned (.int .i64 r) ∧ Drawn0 w w' := by
 have H : (some (Int.tmod (wrap64 ((Int.tmod a0 256) + 256)) 256)) = some r := h
 clear h
 obtain rfl := Option.some.inj H
 go_enter Try.func57, Try.ntmps57
 go_wp2
 go_ret
 exact ⟨by first | rfl | (simp; done) | (simp [*]; done), by repeat (first | exact Drawn0.refl _ | apply Drawn0.step)⟩
def impl_Ahead.f (a0 : Int) (a1 : Int) : Option (Int) := (impl_place.f a1).bind fun t463 => ((impl_place.f a0).bind fun t464 => ((impl_place.f (wrap64 (t463 - t464))).bind fun t465 => (some t465)))
set_option maxHeartbeats 8000000 in
set_option maxRecDepth 100000 in
theorem impl_Ahead.calls (a0 : Int) (a1 : Int) (r : Int) (w : World) (h : impl_Ahead.f a0 a1 = some r) :
  Calls Try.prog 38 #[.int .i64 a0, .int .i64 a1] w fun e w' => e = .returned (.int .i64 r) ∧ Drawn0 w w' := by
 have H : ((impl_place.f a1).bind fun t463 => ((impl_place.f a0).bind fun t464 => ((impl_place.f (wrap64 (t463 - t464))).bind fun t465 => (some t465)))) = some r := h
 clear h
 obtain ⟨t463, A3, H⟩ := bindE_ H
 obtain ⟨t464, A4, H⟩ := bindE_ H
 obtain ⟨t465, A5, H⟩ := bindE_ H
 obtain rfl := Option.some.inj H
 go_enter Try.func38, Try.ntmps38
 go_wp2_with (first | ((with_reducible refine gC_ 57 rfl ?_); refine goesC_ (some 6) Try.func57 #[.int .i64 a1] ?_; (with_reducible refine (impl_place.calls a1 t463 _ A3.out).mono ?_); rintro e w' ⟨rfl, ⟨nd, rfl⟩⟩; refine ⟨_, rfl, ?_⟩) | ((with_reducible refine gC_ 57 rfl ?_); refine goesC_ (some 8) Try.func57 #[.int .i64 a0] ?_; (with_reducible refine (impl_place.calls a0 t464 _ A4.out).mono ?_); rintro e w' ⟨rfl, ⟨nd, rfl⟩⟩; refine ⟨_, rfl, ?_⟩) | ((with_reducible refine gC_ 57 rfl ?_); refine goesC_ (some 10) Try.func57 #[.int .i64 (wrap64 (t463 - t464))] ?_; (with_reducible refine (impl_place.calls (wrap64 (t463 - t464)) t465 _ A5.out).mono ?_); rintro e w' ⟨rfl, ⟨nd, rfl⟩⟩; refine ⟨_, rfl, ?_⟩))
 go_ret
 exact ⟨by first | rfl | (simp; done) | (simp [*]; done), by repeat (first | exact Drawn0.refl _ | apply Drawn0.step)⟩
def impl_OwnerOf.l0 : Nat → List Int → Int → Int → List Int → Int → Int → Option (Int)
 | 0, _, _, _, _, _, _ => none
 | k + 1, x0, x1, x5, x8, x9, x10 => if x10 < x9 then (if 0 ≤ x10 then (if x10 < (x8.length : Int) then (if x5 < 0 then (impl_OwnerOf.l0 k x0 x1 x10 x8 x9 (wrap64 (x10 + 1))) else ((impl_Ahead.f x1 (rd x8 x10)).bind fun t468 => (if 0 ≤ x5 then (if x5 < (x0.length : Int) then ((impl_Ahead.f x1 (rd x0 x5)).bind fun t470 => (if t468 < t470 then (impl_OwnerOf.l0 k x0 x1 x10 x8 x9 (wrap64 (x10 + 1))) else (impl_OwnerOf.l0 k x0 x1 x5 x8 x9 (wrap64 (x10 + 1))))) else (none)) else (none)))) else (none)) else (none)) else (if x5 < 0 then (some (-1)) else (if 0 ≤ x5 then (if x5 < (x0.length : Int) then (some (rd x0 x5)) else (none)) else (none)))
def impl_OwnerOf.f (k : Nat) (l0 : List Int) (a1 : Int) : Option (Int) := impl_OwnerOf.l0 k l0 a1 (-1) l0 (l0.length : Int) 0
set_option maxHeartbeats 8000000 in
set_option maxRecDepth 100000 in
theorem impl_OwnerOf.calls (k : Nat) (A0 : Option Addr) (c0 : Nat) (l0 : List Int) (a1 : Int) (r : Int) (w : World) (hr0 : Kd.C (Kd.int .i64) w A0 l0.length l0) (hc0 : l0.length ≤ c0) (h : impl_OwnerOf.f k l0 a1 = some r) :
  Calls Try.prog 23 #[.slice A0 l0.length c0, .int .i64 a1] w fun e w' => e = .returned (.int .i64 r) ∧ Drawn0 w w' := by
 have HR0 := aa_ hr0
 have HC0 := aa_ hc0
 clear hr0 hc0
 have H : (impl_OwnerOf.l0 k l0 a1 (-1) l0 (l0.length : Int) 0) = some r := h
 clear h
 have H' := aa_ H
 clear H
 go_enter Try.func23, Try.ntmps23
 go_wp2
 repeat (go_quiet (fail); try go_wp2)
 go_loopg [5, 10] k (fun kq v5 v10 w' => ∃ (x5_1 : Int) (x10_1 : Int), v5 = .int .i64 x5_1 ∧ v10 = .int .i64 x10_1 ∧ Aside0 (impl_OwnerOf.l0 kq l0 a1 x5_1 l0 (l0.length : Int) x10_1 = some r) ∧ Aside0 (kq ≤ k) ∧ Drawn0 w w')
 case atStart => exact ⟨((-1)), (0), rf_, rf_, H', ⟨Nat.le_refl _⟩, by repeat (first | exact Drawn0.refl _ | apply Drawn0.step)⟩
 case round =>
  clear H'
  try clear c2
  try clear p2
  obtain ⟨x5_1, x10_1, rfl, rfl, HA, HK1, ⟨m1, rfl⟩⟩ := hrel
  cases gk with
  | zero => exact absurd HA.out (by simp [impl_OwnerOf.l0])
  | succ k1 =>
   have H := HA.out
   clear HA
   simp only [impl_OwnerOf.l0] at H
   by_cases c3 : x10_1 < (l0.length : Int)
   ·rw [if_pos c3] at H
    have c3b0 : decide (x10_1 < (l0.length : Int)) = true := decide_eq_true c3
    clear c3
    obtain ⟨c4b0, H⟩ := ifd_ H
    obtain ⟨c5b0, H⟩ := ifd_ H
    by_cases c6 : x5_1 < 0
    ·rw [if_pos c6] at H
     have c6b0 : decide (x5_1 < 0) = true := decide_eq_true c6
     clear c6
     have H' := aa_ H
     clear H
     have p467 : 0 ≤ (x10_1 : Int) := od_
     have q467 : x10_1 < (l0.length : Int) := od_
     obtain ⟨ad467, e467, hx467_0⟩ := Kd.at_int HR0.out x10_1 p467 q467
     cases e467
     replace p467 := eq_true p467
     replace q467 := eq_true q467
     go_wp2
     repeat (go_quiet (fail); try go_wp2)
     go_roundg k1
     case measure => have := HK1.out; omega
     case rel => exact ⟨(x10_1), (wrap64 (x10_1 + 1)), rf_, rf_, H', ⟨by have := HK1.out; omega⟩, by repeat (first | exact Drawn0.refl _ | apply Drawn0.step)⟩
    ·rw [if_neg c6] at H
     have c6b0 : decide (x5_1 < 0) = false := decide_eq_false c6
     clear c6
     obtain ⟨t468, A7, H⟩ := bindE_ H
     obtain ⟨c8b0, H⟩ := ifd_ H
     obtain ⟨c9b0, H⟩ := ifd_ H
     obtain ⟨t470, A10, H⟩ := bindE_ H
     have HC11 := aa_ H
     clear H
     have p467 : 0 ≤ (x10_1 : Int) := od_
     have q467 : x10_1 < (l0.length : Int) := od_
     obtain ⟨ad467, e467, hx467_0⟩ := Kd.at_int HR0.out x10_1 p467 q467
     cases e467
     replace p467 := eq_true p467
     replace q467 := eq_true q467
     go_upto_if 28 with (first | (go_at_call 38; (with_reducible refine (impl_Ahead.calls a1 (rd l0 x10_1) t468 _ A7.out).mono ?_); rintro e w' ⟨rfl, ⟨nd, rfl⟩⟩; (try first | exact ⟨rfl, _, World.drewN_drewN _ _ _⟩ | exact ⟨rfl, _, Eq.trans (World.drewN_drewN _ _ _) (congrArg (World.drewN _) (Nat.add_assoc _ _ _))⟩); have p469 : 0 ≤ (x5_1 : Int) := od_; have q469 : x5_1 < (l0.length : Int) := od_; obtain ⟨ad469, e469, hx469_0⟩ := Kd.at_int HR0.out x5_1 p469 q469; obtain rfl : ad467 = ad469 := (by injection e469); replace p469 := eq_true p469; replace q469 := eq_true q469) | (go_at_call 38; (with_reducible refine (impl_Ahead.calls a1 (rd l0 x5_1) t470 _ A10.out).mono ?_); rintro e w' ⟨rfl, ⟨nd, rfl⟩⟩; (try first | exact ⟨rfl, _, World.drewN_drewN _ _ _⟩ | exact ⟨rfl, _, Eq.trans (World.drewN_drewN _ _ _) (congrArg (World.drewN _) (Nat.add_assoc _ _ _))⟩)))
     repeat (go_quiet (first | (go_at_call 38; (with_reducible refine (impl_Ahead.calls a1 (rd l0 x10_1) t468 _ A7.out).mono ?_); rintro e w' ⟨rfl, ⟨nd, rfl⟩⟩; (try first | exact ⟨rfl, _, World.drewN_drewN _ _ _⟩ | exact ⟨rfl, _, Eq.trans (World.drewN_drewN _ _ _) (congrArg (World.drewN _) (Nat.add_assoc _ _ _))⟩); have p469 : 0 ≤ (x5_1 : Int) := od_; have q469 : x5_1 < (l0.length : Int) := od_; obtain ⟨ad469, e469, hx469_0⟩ := Kd.at_int HR0.out x5_1 p469 q469; obtain rfl : ad467 = ad469 := (by injection e469); replace p469 := eq_true p469; replace q469 := eq_true q469) | (go_at_call 38; (with_reducible refine (impl_Ahead.calls a1 (rd l0 x5_1) t470 _ A10.out).mono ?_); rintro e w' ⟨rfl, ⟨nd, rfl⟩⟩; (try first | exact ⟨rfl, _, World.drewN_drewN _ _ _⟩ | exact ⟨rfl, _, Eq.trans (World.drewN_drewN _ _ _) (congrArg (World.drewN _) (Nat.add_assoc _ _ _))⟩))); go_upto_if 28 with (first | (go_at_call 38; (with_reducible refine (impl_Ahead.calls a1 (rd l0 x10_1) t468 _ A7.out).mono ?_); rintro e w' ⟨rfl, ⟨nd, rfl⟩⟩; (try first | exact ⟨rfl, _, World.drewN_drewN _ _ _⟩ | exact ⟨rfl, _, Eq.trans (World.drewN_drewN _ _ _) (congrArg (World.drewN _) (Nat.add_assoc _ _ _))⟩); have p469 : 0 ≤ (x5_1 : Int) := od_; have q469 : x5_1 < (l0.length : Int) := od_; obtain ⟨ad469, e469, hx469_0⟩ := Kd.at_int HR0.out x5_1 p469 q469; obtain rfl : ad467 = ad469 := (by injection e469); replace p469 := eq_true p469; replace q469 := eq_true q469) | (go_at_call 38; (with_reducible refine (impl_Ahead.calls a1 (rd l0 x5_1) t470 _ A10.out).mono ?_); rintro e w' ⟨rfl, ⟨nd, rfl⟩⟩; (try first | exact ⟨rfl, _, World.drewN_drewN _ _ _⟩ | exact ⟨rfl, _, Eq.trans (World.drewN_drewN _ _ _) (congrArg (World.drewN _) (Nat.add_assoc _ _ _))⟩))))
     (try simp only [Act.put, List.setIfInBounds_toArray, List.set_cons_zero, List.set_cons_succ])
     have H := HC11.out
     clear HC11
     by_cases c12 : t468 < t470
     ·rw [if_pos c12] at H
      have c12b0 : decide (t468 < t470) = true := decide_eq_true c12
      clear c12
      (first | rw [c12b0] | (simp only [i64_w, i32_w]; rw [c12b0]) | skip)
      have H' := aa_ H
      clear H
      go_wp2
      repeat (go_quiet (fail); try go_wp2)
      go_roundg k1
      case measure => have := HK1.out; omega
      case rel => exact ⟨(x10_1), (wrap64 (x10_1 + 1)), rf_, rf_, H', ⟨by have := HK1.out; omega⟩, by repeat (first | exact Drawn0.refl _ | apply Drawn0.step)⟩
     ·rw [if_neg c12] at H
      have c12b0 : decide (t468 < t470) = false := decide_eq_false c12
      clear c12
      (first | rw [c12b0] | (simp only [i64_w, i32_w]; rw [c12b0]) | skip)
      have H' := aa_ H
      clear H
      go_wp2
      repeat (go_quiet (fail); try go_wp2)
      go_roundg k1
      case measure => have := HK1.out; omega
      case rel => exact ⟨(x5_1), (wrap64 (x10_1 + 1)), rf_, rf_, H', ⟨by have := HK1.out; omega⟩, by repeat (first | exact Drawn0.refl _ | apply Drawn0.step)⟩
   ·rw [if_neg c3] at H
    have c3b0 : decide (x10_1 < (l0.length : Int)) = false := decide_eq_false c3
    clear c3
    by_cases c13 : x5_1 < 0
    ·rw [if_pos c13] at H
     have c13b0 : decide (x5_1 < 0) = true := decide_eq_true c13
     clear c13
     obtain rfl := Option.some.inj H
     go_wp2
     repeat (go_quiet (fail); try go_wp2)
     go_ret
     exact ⟨by first | rfl | (simp; done) | (simp [*]; done), by repeat (first | exact Drawn0.refl _ | apply Drawn0.step)⟩
    ·rw [if_neg c13] at H
     have c13b0 : decide (x5_1 < 0) = false := decide_eq_false c13
     clear c13
     obtain ⟨c14b0, H⟩ := ifd_ H
     obtain ⟨c15b0, H⟩ := ifd_ H
     obtain rfl := Option.some.inj H
     have p466 : 0 ≤ (x5_1 : Int) := od_
     have q466 : x5_1 < (l0.length : Int) := od_
     obtain ⟨ad466, e466, hx466_0⟩ := Kd.at_int HR0.out x5_1 p466 q466
     cases e466
     replace p466 := eq_true p466
     replace q466 := eq_true q466
     go_wp2
     repeat (go_quiet (fail); try go_wp2)
     go_ret
     exact ⟨by first | rfl | (simp; done) | (simp [*]; done), by repeat (first | exact Drawn0.refl _ | apply Drawn0.step)⟩
def impl_Item_26.l0 : Nat → List (S52) → List (S52) → Int → Int → Option (Bool)
 | 0, _, _, _, _ => none
 | k + 1, x0, x1, x12, x13 => if x13 < x12 then (if 0 ≤ x13 then (if x13 < (x0.length : Int) then (if x13 < (x1.length : Int) then (if (!((((rd_T52 x0 x13).f0).toList) == (((rd_T52 x1 x13).f0).toList)) || (!(((rd_T52 x0 x13).f1) == ((rd_T52 x1 x13).f1)))) = true then (some false) else (impl_Item_26.l0 k x0 x1 x12 (wrap64 (x13 + 1)))) else (none)) else (none)) else (none)) else (some true)
def impl_Item_26.f (k : Nat) (l0 : List (S52)) (l1 : List (S52)) : Option (Bool) := if (l0.length : Int) = (l1.length : Int) then (impl_Item_26.l0 k l0 l1 (l0.length : Int) 0) else (some false)
set_option maxHeartbeats 8000000 in
set_option maxRecDepth 100000 in
theorem impl_Item_26.calls (k : Nat) (A0 : Option Addr) (c0 : Nat) (l0 : List (S52)) (A1 : Option Addr) (c1 : Nat) (l1 : List (S52)) (r : Bool) (w : World) (hr0 : Kd.C k52 w A0 l0.length l0) (hc0 : l0.length ≤ c0) (hr1 : Kd.C k52 w A1 l1.length l1) (hc1 : l1.length ≤ c1) (h : impl_Item_26.f k l0 l1 = some r) :
  Calls Try.prog 26 #[.slice A0 l0.length c0, .slice A1 l1.length c1] w fun e w' => e = .returned (.bool r) ∧ Drawn0 w w' := by
 have hu52 := Try.underlying52
 have HR0 := aa_ hr0
 have HC0 := aa_ hc0
 clear hr0 hc0
 have HR1 := aa_ hr1
 have HC1 := aa_ hc1
 clear hr1 hc1
 have H : (if (l0.length : Int) = (l1.length : Int) then (impl_Item_26.l0 k l0 l1 (l0.length : Int) 0) else (some false)) = some r := h
 clear h
 by_cases c3 : (l0.length : Int) = (l1.length : Int)
 ·rw [if_pos c3] at H
  have c3b0 : ((l0.length : Int) == (l1.length : Int)) = true := beq_iff_eq.mpr c3
  have c3b1 : ((l0.length : Int) != (l1.length : Int)) = false := bne_eq_false_iff_eq.mpr c3
  have c3b2 : (l0.length == l1.length) = true := by first | simpa using c3 | (simp at c3 ⊢; omega)
  clear c3
  have H' := aa_ H
  clear H
  go_enter Try.func26, Try.ntmps26
  go_wp2
  repeat (go_quiet (fail); try go_wp2)
  go_loopg [13] k (fun kq v13 w' => ∃ (x13_1 : Int), v13 = .int .i64 x13_1 ∧ Aside0 (impl_Item_26.l0 kq l0 l1 (l0.length : Int) x13_1 = some r) ∧ Aside0 (kq ≤ k) ∧ Drawn0 w w')
  case atStart => exact ⟨(0), rf_, H', ⟨Nat.le_refl _⟩, by repeat (first | exact Drawn0.refl _ | apply Drawn0.step)⟩
  case round =>
   clear H'
   try clear c1
   try clear c2
   try clear p2
   try clear c3
   try clear c3b0
   try clear c3b1
   try clear c3b2
   obtain ⟨x13_1, rfl, HA, HK1, ⟨m1, rfl⟩⟩ := hrel
   cases gk with
   | zero => exact absurd HA.out (by simp [impl_Item_26.l0])
   | succ k1 =>
    have H := HA.out
    clear HA
    simp only [impl_Item_26.l0] at H
    by_cases c4 : x13_1 < (l0.length : Int)
    ·rw [if_pos c4] at H
     have c4b0 : decide (x13_1 < (l0.length : Int)) = true := decide_eq_true c4
     clear c4
     obtain ⟨c5b0, H⟩ := ifd_ H
     obtain ⟨c6b0, H⟩ := ifd_ H
     obtain ⟨c7b0, H⟩ := ifd_ H
     by_cases c8 : (!((((rd_T52 l0 x13_1).f0).toList) == (((rd_T52 l1 x13_1).f0).toList)) || (!(((rd_T52 l0 x13_1).f1) == ((rd_T52 l1 x13_1).f1)))) = true
     ·rw [if_pos c8] at H
      have c8b0 : (!((((rd_T52 l0 x13_1).f0).toList) == (((rd_T52 l1 x13_1).f0).toList)) || (!(((rd_T52 l0 x13_1).f1) == ((rd_T52 l1 x13_1).f1)))) = true := c8
      clear c8
      obtain rfl := Option.some.inj H
      have p471 : 0 ≤ (x13_1 : Int) := od_
      have q471 : x13_1 < (l0.length : Int) := od_
      obtain ⟨ad471, e471, hx471_0, hx471_1⟩ := at_T52 HR0.out x13_1 p471 q471
      cases e471
      replace p471 := eq_true p471
      replace q471 := eq_true q471
      have p472 : 0 ≤ (x13_1 : Int) := od_
      have q472 : x13_1 < (l1.length : Int) := od_
      obtain ⟨ad472, e472, hx472_0, hx472_1⟩ := at_T52 HR1.out x13_1 p472 q472
      cases e472
      replace p472 := eq_true p472
      replace q472 := eq_true q472
      go_wp2
      repeat (go_quiet (fail); try go_wp2)
      go_ret
      exact ⟨by first | rfl | (simp; done) | (simp [*]; done), by repeat (first | exact Drawn0.refl _ | apply Drawn0.step)⟩
     ·rw [if_neg c8] at H
      have c8b0 : (!((((rd_T52 l0 x13_1).f0).toList) == (((rd_T52 l1 x13_1).f0).toList)) || (!(((rd_T52 l0 x13_1).f1) == ((rd_T52 l1 x13_1).f1)))) = false := by simpa using c8
      clear c8
      have H' := aa_ H
      clear H
      have p471 : 0 ≤ (x13_1 : Int) := od_
      have q471 : x13_1 < (l0.length : Int) := od_
      obtain ⟨ad471, e471, hx471_0, hx471_1⟩ := at_T52 HR0.out x13_1 p471 q471
      cases e471
      replace p471 := eq_true p471
      replace q471 := eq_true q471
      have p472 : 0 ≤ (x13_1 : Int) := od_
      have q472 : x13_1 < (l1.length : Int) := od_
      obtain ⟨ad472, e472, hx472_0, hx472_1⟩ := at_T52 HR1.out x13_1 p472 q472
      cases e472
      replace p472 := eq_true p472
      replace q472 := eq_true q472
      go_wp2
      repeat (go_quiet (fail); try go_wp2)
      go_roundg k1
      case measure => have := HK1.out; omega
      case rel => exact ⟨(wrap64 (x13_1 + 1)), rf_, H', ⟨by have := HK1.out; omega⟩, by repeat (first | exact Drawn0.refl _ | apply Drawn0.step)⟩
    ·rw [if_neg c4] at H
     have c4b0 : decide (x13_1 < (l0.length : Int)) = false := decide_eq_false c4
     clear c4
     obtain rfl := Option.some.inj H
     go_wp2
     repeat (go_quiet (fail); try go_wp2)
     go_ret
     exact ⟨by first | rfl | (simp; done) | (simp [*]; done), by repeat (first | exact Drawn0.refl _ | apply Drawn0.step)⟩
 ·rw [if_neg c3] at H
  have c3b0 : ((l0.length : Int) == (l1.length : Int)) = false := beq_eq_false_iff_ne.mpr c3
  have c3b1 : ((l0.length : Int) != (l1.length : Int)) = true := bne_iff_ne.mpr c3
  have c3b2 : (l0.length == l1.length) = false := by first | simpa using c3 | (simp at c3 ⊢; omega)
  obtain rfl := Option.some.inj H
  go_enter Try.func26, Try.ntmps26
  go_wp2
  repeat (go_quiet (fail); try go_wp2)
  go_ret
  exact ⟨by first | rfl | (simp; done) | (simp [*]; done), by repeat (first | exact Drawn0.refl _ | apply Drawn0.step)⟩
end Go.Proofs.Ytkimdmdkldlhpaa.PA
