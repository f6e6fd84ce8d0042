import Derived.Test.YtnoklfpnmopkpaaKPPEx18
-- printed by wip/tools
namespace Go.Proofs.Ytnoklfpnmopkpaa.PE
open Go.RowKit Go.Proofs.YtnoklfpnmopkpaaW.PrintWords Go.Proofs.YtnoklfpnmopkpaaW.PrintLast Go.Proofs.YtnoklfpnmopkpaaW.PrintMore
attribute [local go_sem] max2_int min2_int max_two min_two max_three min_three max_four min_four
set_option linter.unusedVariables false
set_option linter.unusedSimpArgs false
attribute [local go_sem high] eqA55
mutual
def spec_FactsOf.l0 : Nat → List (S74) → List (S63) → Bool → Option ((List (S63)))
 | 0, _, _, _ => none
 | k + 1, x0, x3, x4 => if x4 = true then (spec_FactsOf.l1 k x0 x3 false 0) else (some x3)
def spec_FactsOf.l1 : Nat → List (S74) → List (S63) → Bool → Int → Option ((List (S63)))
 | 0, _, _, _, _ => none
 | k + 1, x0, x3, x4, x5 => if x5 < (x0.length : Int) then (if 0 ≤ x5 then ((spec_Follows.f k x3 ((rd_T74 x0 x5).f0) ((rd_T74 x0 x5).f1.f0) ((rd_T74 x0 x5).f1.f1) ((rd_T74 x0 x5).f2) ((rd_T74 x0 x5).f3.f0) ((rd_T74 x0 x5).f3.f1) ((rd_T74 x0 x5).f4.f0) ((rd_T74 x0 x5).f4.f1) ((rd_T74 x0 x5).f5) ((rd_T74 x0 x5).f6)).bind fun t676 => (if (t676.length : Int) > (x3.length : Int) then (spec_FactsOf.l1 k x0 t676 true (wrap64 (x5 + 1))) else (spec_FactsOf.l1 k x0 t676 x4 (wrap64 (x5 + 1))))) else (none)) else (spec_FactsOf.l0 k x0 x3 x4)
end
def spec_FactsOf.f (k : Nat) (l0 : List (S74)) : Option ((List (S63))) := spec_FactsOf.l0 k l0 (([] : List (S63))) true
set_option maxHeartbeats 8000000 in
set_option maxRecDepth 100000 in
theorem spec_FactsOf.calls (k : Nat) (A0 : Option Addr) (c0 : Nat) (l0 : List (S74)) (r : List (S63)) (w : World) (hr0 : Kd.C k74 w A0 l0.length l0) (hc0 : l0.length ≤ c0) (h : spec_FactsOf.f k l0 = some r) :
  Calls Try.prog 36 #[.slice A0 l0.length c0] w fun e w' => ∃ v0_ : Value, e = .returned (v0_) ∧ Kd.R k63 63 w' w.heap.size (fun _ => True) v0_ r ∧ Below w.heap.size w w' := by
 have hu74 := Try.underlying74
 have HR0 := aa_ hr0
 have HC0 := aa_ hc0
 clear hr0 hc0
 have HB := aa_ (Below.refl w.heap.size w)
 have H : (spec_FactsOf.l0 k l0 (([] : List (S63))) true) = some r := h
 clear h
 obtain ⟨y672, hy672⟩ : ∃ y_ : List (S63), y_ = (([] : List (S63))) := ⟨_, rfl⟩
 replace H : (spec_FactsOf.l0 k l0 y672 true) = some r := rh_ hy672 H
 have Ny672 := aa_ hy672
 clear hy672
 have H' := aa_ H
 clear H
 go_enter Try.func36, Try.ntmps36
 go_wp2_with (first | ((with_reducible refine gD_ 7 rfl ?_); refine Kd.R_lit k63 _ 63 ?hg (N := 7) ?hd (xs := ([] : List (S63))) (inner := []) (ok := fun _ => True) (okp := fun _ => True) ?hr ?hp (fun _ hk => hk) trivial (Below.refl _ _) (Nat.le_refl _) (by simp) ?_; (case hd => rfl); (case hg => rfl); (case hr => first | (go_simp; done) | (go_simp; rfl)); (case hp => exact (Reps.none _ _)); intro v673 w2 ho3 hb hg_ hnew_; clear hg_ hnew_; (first | rw [← Ny672.out] at ho3 | (simp only [Int.reduceToNat] at ho3; rw [← Ny672.out] at ho3)); have HO674 := aa_ (Kd.R_lower ho3 bls_); replace HB := hbs_ hb; clear hb ho3))
 go_loopg [3, 4] k (fun kq v3 v4 w' => ∃ (x3_1 : List (S63)) (x4_1 : Bool), v4 = .bool x4_1 ∧ Aside0 (spec_FactsOf.l0 kq l0 x3_1 x4_1 = some r) ∧ Aside0 (kq ≤ k) ∧ Aside0 (Kd.R k63 63 w' w.heap.size (fun _ => True) v3 x3_1) ∧ Aside0 (Below w.heap.size w w'))
 case atStart => exact ⟨(y672), (true), rf_, H', ⟨Nat.le_refl _⟩, ⟨rr_ HO674⟩, ⟨bl_⟩⟩
 case round =>
  clear H'
  try clear p2
  try clear c3
  obtain ⟨x3_1, x4_1, rfl, HA, HK1, HO_3, HB⟩ := hrel
  cases gk with
  | zero => exact absurd HA.out (by simp [spec_FactsOf.l0])
  | succ k1 =>
   have H := HA.out
   clear HA
   simp only [spec_FactsOf.l0] at H
   by_cases c4 : x4_1 = true
   ·subst c4
    replace H := ite_t_ H
    have H' := aa_ H
    clear H
    go_wp2
    go_loopg [3, 4, 5] k1 (fun kq v3 v4 v5 w' => ∃ (x3_2 : List (S63)) (x4_2 : Bool) (x5_2 : Int), v4 = .bool x4_2 ∧ v5 = .int .i64 x5_2 ∧ Aside0 (spec_FactsOf.l1 kq l0 x3_2 x4_2 x5_2 = some r) ∧ Aside0 (kq ≤ k1) ∧ Aside0 (Kd.R k63 63 w' w.heap.size (fun _ => True) v3 x3_2) ∧ Aside0 (Below w.heap.size w w'))
    case atStart => exact ⟨(x3_1), (false), (0), rf_, rf_, H', ⟨Nat.le_refl _⟩, ⟨rr_ HO_3⟩, ⟨bl_⟩⟩
    case round =>
     clear H'
     try clear p2
     try clear c3
     try clear c4
     try clear p2
     obtain ⟨x3_2, x4_2, x5_2, rfl, rfl, HA, HK2, HO_3, HB⟩ := hrel
     cases gk with
     | zero => exact absurd HA.out (by simp [spec_FactsOf.l1])
     | succ k2 =>
      have H := HA.out
      clear HA
      simp only [spec_FactsOf.l1] at H
      by_cases c5 : x5_2 < (l0.length : Int)
      ·rw [if_pos c5] at H
       have c5b0 : decide (x5_2 < (l0.length : Int)) = true := decide_eq_true c5
       clear c5
       obtain ⟨c6b0, H⟩ := ifd_ H
       obtain ⟨t676, A7, H⟩ := bindE_ H
       have HC8 := aa_ H
       clear H
       have p675 : 0 ≤ (x5_2 : Int) := od_
       have q675 : x5_2 < (l0.length : Int) := od_
       obtain ⟨ad675, e675, hx675_0, hx675_1, hx675_2, hx675_3, hx675_4, hx675_5, hx675_6, hx675_7, hx675_8, hx675_9⟩ := at_T74 (Kd.C_below HR0.out HB.out) x5_2 p675 q675
       cases e675
       replace p675 := eq_true p675
       replace q675 := eq_true q675
       obtain ⟨Ao9, co9, eo9⟩ := Kd.R_slice HO_3.out
       subst eo9
       go_upto_if 25 with (first | ((with_reducible refine gC_ 55 rfl ?_); refine goesC_ (some 20) Try.func55 #[.slice Ao9 x3_2.length co9, .agg #[.int .i64 ((rd_T74 l0 x5_2).f0), .int .i64 ((rd_T74 l0 x5_2).f1.f0), .int .i64 ((rd_T74 l0 x5_2).f1.f1), .int .i64 ((rd_T74 l0 x5_2).f2), .int .i64 ((rd_T74 l0 x5_2).f3.f0), .int .i64 ((rd_T74 l0 x5_2).f3.f1), .int .i64 ((rd_T74 l0 x5_2).f4.f0), .int .i64 ((rd_T74 l0 x5_2).f4.f1), .int .i64 ((rd_T74 l0 x5_2).f5), .int .i64 ((rd_T74 l0 x5_2).f6)]] ?_; (with_reducible refine (spec_Follows.calls k2 _ _ x3_2 ((rd_T74 l0 x5_2).f0) ((rd_T74 l0 x5_2).f1.f0) ((rd_T74 l0 x5_2).f1.f1) ((rd_T74 l0 x5_2).f2) ((rd_T74 l0 x5_2).f3.f0) ((rd_T74 l0 x5_2).f3.f1) ((rd_T74 l0 x5_2).f4.f0) ((rd_T74 l0 x5_2).f4.f1) ((rd_T74 l0 x5_2).f5) ((rd_T74 l0 x5_2).f6) t676 _ ?side1 ?side2 A7.out).mono ?_); (case side1 => repeat (first | exact (Kd.R_reads' HO_3.out).2.2 | (with_reducible refine Kd.C_alloc ?_ _) | (with_reducible refine Kd.C_drewN ?_ _) | (with_reducible refine Kd.C_drew ?_))); (case side2 => exact (Kd.R_reads' HO_3.out).2.1); rintro e w10 ⟨v677, rfl, ho0, hb⟩; refine ⟨_, rfl, ?_⟩; have HO678 := aa_ (Kd.R_lower (Kd.R_new' ho0 (Kd.R_lt (rr_ HO_3))) bls_); replace HO_3 := aa_ (Kd.R_elder' (rr_ HO_3) (Kd.R_base ho0) hb); replace HB := hbs_ hb; (try clear hb ho0); obtain ⟨Ao11, co11, eo11⟩ := Kd.R_slice HO678.out; subst eo11))
       (try simp only [Act.put, List.setIfInBounds_toArray, List.set_cons_zero, List.set_cons_succ])
       have H := HC8.out
       clear HC8
       by_cases c12 : (t676.length : Int) > (x3_2.length : Int)
       ·rw [if_pos c12] at H
        have c12b0 : decide ((x3_2.length : Int) < (t676.length : Int)) = true := decide_eq_true c12
        have c12b1 : decide (x3_2.length < t676.length) = true := decide_eq_true (Int.ofNat_lt.mp c12)
        clear c12
        (first | rw [c12b0] | (simp only [i64_w, i32_w]; rw [c12b0]) | (have cz_ := c12b0; simp only [Int.ofNat_lt, Int.ofNat_le, gt_iff_lt, ge_iff_le] at cz_; rw [cz_]; clear cz_) | skip)
        have H' := aa_ H
        clear H
        go_wp2
        go_roundg k2
        case measure => have := HK1.out; have := HK2.out; omega
        case rel => exact ⟨(t676), (true), (wrap64 (x5_2 + 1)), rf_, rf_, H', ⟨by have := HK1.out; have := HK2.out; omega⟩, ⟨by (with_reducible repeat (first | apply Kd.R_alloc | apply Kd.R_drewN | apply Kd.R_drew)); exact Kd.R_mono HO678.out (fun _ hk => trivial)⟩, ⟨bl_⟩⟩
       ·rw [if_neg c12] at H
        have c12b0 : decide ((x3_2.length : Int) < (t676.length : Int)) = false := decide_eq_false c12
        have c12b1 : decide (x3_2.length < t676.length) = false := decide_eq_false (fun h => c12 (Int.ofNat_lt.mpr h))
        clear c12
        (first | rw [c12b0] | (simp only [i64_w, i32_w]; rw [c12b0]) | (have cz_ := c12b0; simp only [Int.ofNat_lt, Int.ofNat_le, gt_iff_lt, ge_iff_le] at cz_; rw [cz_]; clear cz_) | skip)
        have H' := aa_ H
        clear H
        go_wp2
        go_roundg k2
        case measure => have := HK1.out; have := HK2.out; omega
        case rel => exact ⟨(t676), (x4_2), (wrap64 (x5_2 + 1)), rf_, rf_, H', ⟨by have := HK1.out; have := HK2.out; omega⟩, ⟨by (with_reducible repeat (first | apply Kd.R_alloc | apply Kd.R_drewN | apply Kd.R_drew)); exact Kd.R_mono HO678.out (fun _ hk => trivial)⟩, ⟨bl_⟩⟩
      ·rw [if_neg c5] at H
       have c5b0 : decide (x5_2 < (l0.length : Int)) = false := decide_eq_false c5
       clear c5
       have H' := aa_ H
       clear H
       go_wp2
       go_roundg k2
       case measure => have := HK1.out; have := HK2.out; omega
       case rel => exact ⟨(x3_2), (x4_2), rf_, H', ⟨by have := HK1.out; have := HK2.out; omega⟩, ⟨rr_ HO_3⟩, ⟨bl_⟩⟩
   ·replace c4 := Bool.eq_false_iff.mpr c4
    subst c4
    replace H := ite_f_ H
    obtain rfl := Option.some.inj H
    go_wp2
    go_ret
    exact ⟨_, eq_, by (with_reducible repeat (first | apply Kd.R_alloc | apply Kd.R_drewN | apply Kd.R_drew)); exact HO_3.out, bl_⟩
def spec_Decides.l0 : Nat → Int → List (S63) → List Bool → Int → List (S57) → Option (Bool)
 | 0, _, _, _, _, _ => none
 | k + 1, x2, x7, x8, x9, x680000 => if x9 < (x680000.length : Int) then (if 0 ≤ x9 then (if ((rd_T57 x680000 x9).f0) = 1 then ((spec_l06Has.f k x7 ((rd_T57 x680000 x9).f1.f0) ((rd_T57 x680000 x9).f1.f1) x2).bind fun t690 => (if x8.length < 140737488355328 then (spec_Decides.l0 k x2 x7 (x8 ++ [t690]) (wrap64 (x9 + 1)) x680000) else (none))) else (if ((rd_T57 x680000 x9).f0) = 2 then (if 0 ≤ ((rd_T57 x680000 x9).f2) then (if ((rd_T57 x680000 x9).f2) < (x8.length : Int) then (if rdOf false x8 ((rd_T57 x680000 x9).f2) = true then (if 0 ≤ ((rd_T57 x680000 x9).f3) then (if ((rd_T57 x680000 x9).f3) < (x8.length : Int) then (if x8.length < 140737488355328 then (spec_Decides.l0 k x2 x7 (x8 ++ [rdOf false x8 ((rd_T57 x680000 x9).f3)]) (wrap64 (x9 + 1)) x680000) else (none)) else (none)) else (none)) else (if x8.length < 140737488355328 then (spec_Decides.l0 k x2 x7 (x8 ++ [false]) (wrap64 (x9 + 1)) x680000) else (none))) else (none)) else (none)) else (if ((rd_T57 x680000 x9).f0) = 3 then (if 0 ≤ ((rd_T57 x680000 x9).f2) then (if ((rd_T57 x680000 x9).f2) < (x8.length : Int) then (if rdOf false x8 ((rd_T57 x680000 x9).f2) = true then (if x8.length < 140737488355328 then (spec_Decides.l0 k x2 x7 (x8 ++ [true]) (wrap64 (x9 + 1)) x680000) else (none)) else (if 0 ≤ ((rd_T57 x680000 x9).f3) then (if ((rd_T57 x680000 x9).f3) < (x8.length : Int) then (if x8.length < 140737488355328 then (spec_Decides.l0 k x2 x7 (x8 ++ [rdOf false x8 ((rd_T57 x680000 x9).f3)]) (wrap64 (x9 + 1)) x680000) else (none)) else (none)) else (none))) else (none)) else (none)) else (if 0 ≤ ((rd_T57 x680000 x9).f2) then (if ((rd_T57 x680000 x9).f2) < (x8.length : Int) then (if x8.length < 140737488355328 then (spec_Decides.l0 k x2 x7 (x8 ++ [!(rdOf false x8 ((rd_T57 x680000 x9).f2))]) (wrap64 (x9 + 1)) x680000) else (none)) else (none)) else (none))))) else (none)) else (if 0 ≤ (wrap64 ((x8.length : Int) - 1)) then (if (wrap64 ((x8.length : Int) - 1)) < (x8.length : Int) then (some (rdOf false x8 (wrap64 ((x8.length : Int) - 1)))) else (none)) else (none))
def spec_Decides.f (k : Nat) (l0 : List (S74)) (l1_0 : List (S57)) (a2 : Int) : Option (Bool) := (spec_PolicyOk.f k l1_0).bind fun t680 => (if t680 = true then ((spec_FactsOf.f k l0).bind fun t681 => (spec_Decides.l0 k a2 t681 (([] : List Bool)) 0 l1_0)) else (some false))
set_option maxHeartbeats 8000000 in
set_option maxRecDepth 100000 in
theorem spec_Decides.calls (k : Nat) (A0 : Option Addr) (c0 : Nat) (l0 : List (S74)) (A1_0 : Option Addr) (c1_0 : Nat) (l1_0 : List (S57)) (a2 : Int) (r : Bool) (w : World) (hr0 : Kd.C k74 w A0 l0.length l0) (hc0 : l0.length ≤ c0) (hr1_0 : Kd.C k57 w A1_0 l1_0.length l1_0) (hc1_0 : l1_0.length ≤ c1_0) (h : spec_Decides.f k l0 l1_0 a2 = some r) :
  Calls Try.prog 13 #[.slice A0 l0.length c0, .agg #[.slice A1_0 l1_0.length c1_0], .int .i64 a2] w fun e w' => e = .returned (.bool r) ∧ Below w.heap.size w w' := by
 have hu27 := Try.underlying27
 have hu57 := Try.underlying57
 have hu55 := Try.underlying55
 have hu63 := Try.underlying63
 have HR0 := aa_ hr0
 have HC0 := aa_ hc0
 clear hr0 hc0
 have HR1_0 := aa_ hr1_0
 have HC1_0 := aa_ hc1_0
 clear hr1_0 hc1_0
 have HB := aa_ (Below.refl w.heap.size w)
 have H : ((spec_PolicyOk.f k l1_0).bind fun t680 => (if t680 = true then ((spec_FactsOf.f k l0).bind fun t681 => (spec_Decides.l0 k a2 t681 (([] : List Bool)) 0 l1_0)) else (some false))) = some r := h
 clear h
 obtain ⟨t680, A4, H⟩ := bindE_ H
 have HC5 := aa_ H
 clear H
 go_enter Try.func13, Try.ntmps13
 go_upto_if 14 with (first | ((with_reducible refine gD_ 4 rfl ?_); refine bx_ (N := 4) (cs := #[.slice A1_0 l1_0.length c1_0]) (t := 27) ?_; intro gb679 hg w6 hbox hb; have BK679 := aa_ (hbox); have GW679 := gs_ hg; have GE679 := gs_ hg; replace HB := hbs_ hb; clear hb hbox hg; obtain ⟨hcz7, hfz7⟩ := bcf_ BK679) | ((with_reducible refine gC_ 15 rfl ?_); refine goesC_ (some 13) Try.func15 #[.agg #[.slice A1_0 l1_0.length c1_0]] ?_; (with_reducible refine (spec_PolicyOk.calls k _ _ l1_0 t680 _ ?side1 ?side2 A4.out).mono ?_); (case side1 => repeat (first | exact (Kd.C_below HR1_0.out HB.out) | (with_reducible refine Kd.C_alloc ?_ _) | (with_reducible refine Kd.C_drewN ?_ _) | (with_reducible refine Kd.C_drew ?_))); (case side2 => exact HC1_0.out); rintro e w8 ⟨rfl, hb⟩; refine ⟨_, rfl, ?_⟩; replace BK679 := bkb_ BK679 hb; replace HB := hbs_ hb; clear hb))
 (try simp only [Act.put, List.setIfInBounds_toArray, List.set_cons_zero, List.set_cons_succ])
 have H := HC5.out
 clear HC5
 by_cases c9 : t680 = true
 ·subst c9
  replace H := ite_t_ H
  obtain ⟨t681, A10, H⟩ := bindE_ H
  obtain ⟨y684, hy684⟩ : ∃ y_ : List Bool, y_ = (([] : List Bool)) := ⟨_, rfl⟩
  replace H : (spec_Decides.l0 k a2 t681 y684 0 l1_0) = some r := rh_ hy684 H
  have Ny684 := aa_ hy684
  clear hy684
  have H' := aa_ H
  clear H
  go_wp2_with (first | ((with_reducible refine gC_ 36 rfl ?_); refine goesC_ (some 16) Try.func36 #[.slice A0 l0.length c0] ?_; (with_reducible refine (spec_FactsOf.calls k _ _ l0 t681 _ ?side1 ?side2 A10.out).mono ?_); (case side1 => repeat (first | exact (Kd.C_below HR0.out HB.out) | (with_reducible refine Kd.C_alloc ?_ _) | (with_reducible refine Kd.C_drewN ?_ _) | (with_reducible refine Kd.C_drew ?_))); (case side2 => exact HC0.out); rintro e w11 ⟨v682, rfl, ho0, hb⟩; refine ⟨_, rfl, ?_⟩; have HO683 := aa_ (Kd.R_lower ho0 bls_); replace BK679 := bkb_ BK679 hb; replace HB := hbs_ hb; (try clear hb ho0)) | ((with_reducible refine gD_ 17 rfl ?_); refine Kd.R_lit Kd.bool _ 4 ?hg (N := 17) ?hd (xs := ([] : List Bool)) (inner := []) (ok := fun _ => True) (okp := fun _ => True) ?hr ?hp (fun _ hk => hk) trivial (Below.refl _ _) (Nat.le_refl _) (by simp) ?_; (case hd => rfl); (case hg => rfl); (case hr => first | (go_simp; done) | (go_simp; rfl)); (case hp => exact (Reps.none _ _)); intro v685 w12 ho13 hb hg_ hnew_; clear hg_ hnew_; (first | rw [← Ny684.out] at ho13 | (simp only [Int.reduceToNat] at ho13; rw [← Ny684.out] at ho13)); replace HO683 := hob_ HO683 hb; have HO686 := aa_ (Kd.R_lower ho13 bls_); replace BK679 := bkb_ BK679 hb; replace HB := hbs_ hb; clear hb ho13))
  go_loopg [8, 9] k (fun kq v8 v9 w' => ∃ (x8_1 : List Bool) (x9_1 : Int), v9 = .int .i64 x9_1 ∧ Aside0 (spec_Decides.l0 kq a2 t681 x8_1 x9_1 l1_0 = some r) ∧ Aside0 (kq ≤ k) ∧ Aside0 (Kd.R k63 63 w' w.heap.size (fun _ => True) v682 t681) ∧ Aside0 (Kd.R Kd.bool 4 w' w.heap.size (fun _ => True) v8 x8_1) ∧ Aside0 (w'.heap[gb679]? = some (.cells #[(.slice A1_0 l1_0.length c1_0)] 27 (0, 0))) ∧ Aside0 (Below w.heap.size w w'))
  case atStart => exact ⟨(y684), (0), rf_, H', ⟨Nat.le_refl _⟩, ⟨rr_ HO683⟩, ⟨rr_ HO686⟩, ⟨bk_ BK679⟩, ⟨bl_⟩⟩
  case round =>
   clear H'
   try clear c1
   try clear p2
   try clear c3
   try clear c9
   try clear c13
   try clear hcz7
   try clear hfz7
   obtain ⟨x8_1, x9_1, rfl, HA, HK1, HO_7, HO_8, BK679, HB⟩ := hrel
   cases gk with
   | zero => exact absurd HA.out (by simp [spec_Decides.l0])
   | succ k1 =>
    have H := HA.out
    clear HA
    simp only [spec_Decides.l0] at H
    by_cases c14 : x9_1 < (l1_0.length : Int)
    ·rw [if_pos c14] at H
     have c14b0 : decide (x9_1 < (l1_0.length : Int)) = true := decide_eq_true c14
     clear c14
     (first | rw [c14b0] | (simp only [i64_w, i32_w]; rw [c14b0]) | (have cz_ := c14b0; simp only [Int.ofNat_lt, Int.ofNat_le, gt_iff_lt, ge_iff_le] at cz_; rw [cz_]; clear cz_) | skip)
     obtain ⟨c15b0, H⟩ := ifd_ H
     have HC16 := aa_ H
     clear H
     have hcz17 := blk_cell BK679.out
     have hfz17 := blk_frozen BK679.out
     have p688 : 0 ≤ (x9_1 : Int) := od_
     have q688 : x9_1 < (l1_0.length : Int) := od_
     obtain ⟨ad688, e688, hx688_0, hx688_1, hx688_2, hx688_3, hx688_4⟩ := at_T57 (Kd.C_below HR1_0.out HB.out) x9_1 p688 q688
     cases e688
     replace p688 := eq_true p688
     replace q688 := eq_true q688
     go_upto_if 38 with (first | ((with_reducible refine gD_ 10 rfl ?_); refine bx_ (N := 10) (cs := #[.int .i64 0, .int .i64 0, .int .i64 0, .int .i64 0, .int .i64 0]) (t := 57) ?_; intro gb689 hg w18 hbox hb; replace HO_7 := hob_ HO_7 hb; replace HO_8 := hob_ HO_8 hb; have BK689 := aa_ (hbox); have GW689 := gs_ hg; have GE689 := gs_ hg; replace HB := hbs_ hb; have NB679_689 := nl_ hg BK679; have NB689_679 := nr_ hg BK679; replace BK679 := bkb_ BK679 hb; clear hb hbox hg; have hnb19 := NB689_679.out; have hnc19 := NB679_689.out; obtain ⟨hcz20, hfz20⟩ := bcf_ BK689))
     have n0_ : Aside0 (Kd.R k63 63 (((((w18.setCell ⟨gb689, 0, none⟩ (.int .i64 ((rd_T57 l1_0 x9_1).f0))).setCell ⟨gb689, 1, none⟩ (.int .i64 ((rd_T57 l1_0 x9_1).f1.f0))).setCell ⟨gb689, 2, none⟩ (.int .i64 ((rd_T57 l1_0 x9_1).f1.f1))).setCell ⟨gb689, 3, none⟩ (.int .i64 ((rd_T57 l1_0 x9_1).f2))).setCell ⟨gb689, 4, none⟩ (.int .i64 ((rd_T57 l1_0 x9_1).f3))) w.heap.size (fun _ => True) v682 t681) := ⟨by (with_reducible repeat (first | apply Kd.R_alloc | apply Kd.R_drewN | apply Kd.R_drew)); exact Kd.R_mono (fr5_ (Kd.R_types HO_7.out BK689.out (by decide)) (fun _ hk => hk.2)) (fun _ hk => trivial)⟩
     have n1_ : Aside0 (Kd.R Kd.bool 4 (((((w18.setCell ⟨gb689, 0, none⟩ (.int .i64 ((rd_T57 l1_0 x9_1).f0))).setCell ⟨gb689, 1, none⟩ (.int .i64 ((rd_T57 l1_0 x9_1).f1.f0))).setCell ⟨gb689, 2, none⟩ (.int .i64 ((rd_T57 l1_0 x9_1).f1.f1))).setCell ⟨gb689, 3, none⟩ (.int .i64 ((rd_T57 l1_0 x9_1).f2))).setCell ⟨gb689, 4, none⟩ (.int .i64 ((rd_T57 l1_0 x9_1).f3))) w.heap.size (fun _ => True) u8 x8_1) := ⟨by (with_reducible repeat (first | apply Kd.R_alloc | apply Kd.R_drewN | apply Kd.R_drew)); exact Kd.R_mono (fr5_ (Kd.R_types HO_8.out BK689.out (by decide)) (fun _ hk => hk.2)) (fun _ hk => trivial)⟩
     have n2_ : Aside0 ((((((w18.setCell ⟨gb689, 0, none⟩ (.int .i64 ((rd_T57 l1_0 x9_1).f0))).setCell ⟨gb689, 1, none⟩ (.int .i64 ((rd_T57 l1_0 x9_1).f1.f0))).setCell ⟨gb689, 2, none⟩ (.int .i64 ((rd_T57 l1_0 x9_1).f1.f1))).setCell ⟨gb689, 3, none⟩ (.int .i64 ((rd_T57 l1_0 x9_1).f2))).setCell ⟨gb689, 4, none⟩ (.int .i64 ((rd_T57 l1_0 x9_1).f3))).heap[gb679]? = some (.cells #[.slice (some ad688) l1_0.length c1_0] 27 (0, 0))) := ⟨bk_ BK679⟩
     have n3_ : Aside0 ((((((w18.setCell ⟨gb689, 0, none⟩ (.int .i64 ((rd_T57 l1_0 x9_1).f0))).setCell ⟨gb689, 1, none⟩ (.int .i64 ((rd_T57 l1_0 x9_1).f1.f0))).setCell ⟨gb689, 2, none⟩ (.int .i64 ((rd_T57 l1_0 x9_1).f1.f1))).setCell ⟨gb689, 3, none⟩ (.int .i64 ((rd_T57 l1_0 x9_1).f2))).setCell ⟨gb689, 4, none⟩ (.int .i64 ((rd_T57 l1_0 x9_1).f3))).heap[gb689]? = some (.cells #[.int .i64 ((rd_T57 l1_0 x9_1).f0), .int .i64 ((rd_T57 l1_0 x9_1).f1.f0), .int .i64 ((rd_T57 l1_0 x9_1).f1.f1), .int .i64 ((rd_T57 l1_0 x9_1).f2), .int .i64 ((rd_T57 l1_0 x9_1).f3)] 57 (0, 0))) := ⟨bk_ BK689⟩
     have n4_ : Aside0 (Below w.heap.size w (((((w18.setCell ⟨gb689, 0, none⟩ (.int .i64 ((rd_T57 l1_0 x9_1).f0))).setCell ⟨gb689, 1, none⟩ (.int .i64 ((rd_T57 l1_0 x9_1).f1.f0))).setCell ⟨gb689, 2, none⟩ (.int .i64 ((rd_T57 l1_0 x9_1).f1.f1))).setCell ⟨gb689, 3, none⟩ (.int .i64 ((rd_T57 l1_0 x9_1).f2))).setCell ⟨gb689, 4, none⟩ (.int .i64 ((rd_T57 l1_0 x9_1).f3)))) := ⟨bl_⟩
     (try clear HO_7)
     (try clear HO_8)
     (try clear BK679)
     (try clear BK689)
     (try clear HB)
     generalize (((((w18.setCell ⟨gb689, 0, none⟩ (.int .i64 ((rd_T57 l1_0 x9_1).f0))).setCell ⟨gb689, 1, none⟩ (.int .i64 ((rd_T57 l1_0 x9_1).f1.f0))).setCell ⟨gb689, 2, none⟩ (.int .i64 ((rd_T57 l1_0 x9_1).f1.f1))).setCell ⟨gb689, 3, none⟩ (.int .i64 ((rd_T57 l1_0 x9_1).f2))).setCell ⟨gb689, 4, none⟩ (.int .i64 ((rd_T57 l1_0 x9_1).f3))) = w21 at n0_ n1_ n2_ n3_ n4_ ⊢
     have HO_7 := n0_
     have HO_8 := n1_
     have BK679 := n2_
     have BK689 := n3_
     have HB := n4_
     clear n0_ n1_ n2_ n3_ n4_
     (try simp only [Act.put, List.setIfInBounds_toArray, List.set_cons_zero, List.set_cons_succ])
     have H := HC16.out
     clear HC16
     by_cases c22 : ((rd_T57 l1_0 x9_1).f0) = 1
     ·rw [if_pos c22] at H
      have c22b0 : (((rd_T57 l1_0 x9_1).f0) == 1) = true := beq_iff_eq.mpr c22
      have c22b1 : (((rd_T57 l1_0 x9_1).f0) != 1) = false := bne_eq_false_iff_eq.mpr c22
      clear c22
      (first | rw [c22b0] | (simp only [i64_w, i32_w]; rw [c22b0]) | skip)
      obtain ⟨t690, A23, H⟩ := bindE_ H
      obtain ⟨c24, H⟩ := ifn_ H
      have LMc24 := aa_ c24
      clear c24
      obtain ⟨y691, hy691⟩ : ∃ y_ : List Bool, y_ = (x8_1 ++ [t690]) := ⟨_, rfl⟩
      replace H : (spec_Decides.l0 k1 a2 t681 y691 (wrap64 (x9_1 + 1)) l1_0) = some r := rh_ hy691 H
      have Ny691 := aa_ hy691
      clear hy691
      have H' := aa_ H
      clear H
      have hnb25 := NB689_679.out
      have hnc25 := NB679_689.out
      have hcz26 := blk_cell BK689.out
      have hfz26 := blk_frozen BK689.out
      obtain ⟨Ao27, co27, eo27⟩ := Kd.R_slice HO_7.out
      subst eo27
      go_wp2_with (first | ((with_reducible refine gC_ 37 rfl ?_); refine goesC_ (some 45) Try.func37 #[.slice Ao27 t681.length co27, .agg #[.int .i64 ((rd_T57 l1_0 x9_1).f1.f0), .int .i64 ((rd_T57 l1_0 x9_1).f1.f1), .int .i64 a2]] ?_; (with_reducible refine (spec_l06Has.calls k1 _ _ t681 ((rd_T57 l1_0 x9_1).f1.f0) ((rd_T57 l1_0 x9_1).f1.f1) a2 t690 _ ?side1 ?side2 A23.out).mono ?_); (case side1 => repeat (first | exact (Kd.R_reads' HO_7.out).2.2 | (with_reducible refine Kd.C_alloc ?_ _) | (with_reducible refine Kd.C_drewN ?_ _) | (with_reducible refine Kd.C_drew ?_))); (case side2 => exact (Kd.R_reads' HO_7.out).2.1); rintro e w28 ⟨rfl, hb⟩; refine ⟨_, rfl, ?_⟩; replace HO_7 := hob_ HO_7 hb; replace HO_8 := hob_ HO_8 hb; replace BK679 := bkb_ BK679 hb; replace BK689 := bkb_ BK689 hb; replace HB := hbs_ hb; clear hb) | ((with_reducible refine gate_builtin (b := .append) (xs := #[.tmp 74, .tmp 76]) rfl ?_); at_builtin; refine Kd.R_append Kd.bool (w0 := w) w.heap.size rfl (.tmp 74) (.tmp 76) 60 4 (.bool false) 1 rfl Try.underlying60 info4 rfl (by decide) (by omega) u8 x8_1 t690 [.bool t690] (fun _ => True) (fun _ => False) rfl rfl ?aP (fun _ hk => hk.elim) ?aF ?aO ?aB ?aS ?aL ?_; (case aP => exact rfl); (case aB => exact bl_); (case aF => exact (fun _ _ => trivial)); (case aO => exact (rr_ HO_8)); (case aS => exact bls_); (case aL => have := LMc24.out; omega); intro v692 w29 ho hb hg hat; rw [← Ny691.out] at ho; replace HO_7 := aa_ (Kd.R_over' (rr_ HO_7) (Kd.R_typed (rr_ HO_8)) (by decide) hg); replace BK679 := aa_ (blk_grown (g := gb679) (o := .cells #[.slice (some ad688) l1_0.length c1_0] 27 (0, 0)) (bk_ BK679) hg (Kd.R_ne HO_8.out BK679.out (by decide))); replace BK689 := aa_ (blk_grown (g := gb689) (o := .cells #[.int .i64 ((rd_T57 l1_0 x9_1).f0), .int .i64 ((rd_T57 l1_0 x9_1).f1.f0), .int .i64 ((rd_T57 l1_0 x9_1).f1.f1), .int .i64 ((rd_T57 l1_0 x9_1).f2), .int .i64 ((rd_T57 l1_0 x9_1).f3)] 57 (0, 0)) (bk_ BK689) hg (Kd.R_ne HO_8.out BK689.out (by decide))); replace HB := aa_ (hb); have HO693 := aa_ (ho); clear HO_8; clear ho hb hg hat))
      go_roundg k1
      case measure => have := HK1.out; omega
      case rel => exact ⟨(y691), (wrap64 (x9_1 + 1)), rf_, H', ⟨by have := HK1.out; omega⟩, ⟨rr_ HO_7⟩, ⟨rr_ HO693⟩, ⟨bk_ BK679⟩, ⟨bl_⟩⟩
     ·rw [if_neg c22] at H
      have c22b0 : (((rd_T57 l1_0 x9_1).f0) == 1) = false := beq_eq_false_iff_ne.mpr c22
      have c22b1 : (((rd_T57 l1_0 x9_1).f0) != 1) = true := bne_iff_ne.mpr c22
      (first | rw [c22b0] | (simp only [i64_w, i32_w]; rw [c22b0]) | skip)
      by_cases c30 : ((rd_T57 l1_0 x9_1).f0) = 2
      ·rw [if_pos c30] at H
       have c30b0 : (((rd_T57 l1_0 x9_1).f0) == 2) = true := beq_iff_eq.mpr c30
       have c30b1 : (((rd_T57 l1_0 x9_1).f0) != 2) = false := bne_eq_false_iff_eq.mpr c30
       clear c30
       obtain ⟨c31b0, H⟩ := ifd_ H
       obtain ⟨c32b0, H⟩ := ifd_ H
       obtain ⟨bq33, hbq33⟩ : ∃ b_ : Bool, b_ = (rdOf false x8_1 ((rd_T57 l1_0 x9_1).f2)) := ⟨_, rfl⟩
       replace H : (if bq33 = true then (if 0 ≤ ((rd_T57 l1_0 x9_1).f3) then (if ((rd_T57 l1_0 x9_1).f3) < (x8_1.length : Int) then (if x8_1.length < 140737488355328 then (spec_Decides.l0 k1 a2 t681 (x8_1 ++ [rdOf false x8_1 ((rd_T57 l1_0 x9_1).f3)]) (wrap64 (x9_1 + 1)) l1_0) else (none)) else (none)) else (none)) else (if x8_1.length < 140737488355328 then (spec_Decides.l0 k1 a2 t681 (x8_1 ++ [false]) (wrap64 (x9_1 + 1)) l1_0) else (none))) = some r := by rw [← hbq33] at H; exact H
       have Nbq33 := aa_ hbq33
       clear hbq33
       by_cases c34 : bq33 = true
       ·subst c34
        replace H := ite_t_ H
        obtain ⟨c35b0, H⟩ := ifd_ H
        obtain ⟨c36b0, H⟩ := ifd_ H
        obtain ⟨c37, H⟩ := ifn_ H
        have LMc37 := aa_ c37
        clear c37
        obtain ⟨y696, hy696⟩ : ∃ y_ : List Bool, y_ = (x8_1 ++ [rdOf false x8_1 ((rd_T57 l1_0 x9_1).f3)]) := ⟨_, rfl⟩
        replace H : (spec_Decides.l0 k1 a2 t681 y696 (wrap64 (x9_1 + 1)) l1_0) = some r := rh_ hy696 H
        have Ny696 := aa_ hy696
        clear hy696
        have H' := aa_ H
        clear H
        have hnb38 := NB689_679.out
        have hnc38 := NB679_689.out
        have hcz39 := blk_cell BK689.out
        have hfz39 := blk_frozen BK689.out
        obtain ⟨Ao40, co40, eo40⟩ := Kd.R_slice HO_8.out
        subst eo40
        have p694 : 0 ≤ (((rd_T57 l1_0 x9_1).f2) : Int) := od_
        have q694 : ((rd_T57 l1_0 x9_1).f2) < (x8_1.length : Int) := od_
        obtain ⟨ad694, e694, hx694_0⟩ := Kd.at_bool (Kd.R_reads' HO_8.out).2.2 ((rd_T57 l1_0 x9_1).f2) p694 q694
        (try rw [← Nbq33.out] at hx694_0)
        cases e694
        replace p694 := eq_true p694
        replace q694 := eq_true q694
        have p695 : 0 ≤ (((rd_T57 l1_0 x9_1).f3) : Int) := od_
        have q695 : ((rd_T57 l1_0 x9_1).f3) < (x8_1.length : Int) := od_
        obtain ⟨ad695, e695, hx695_0⟩ := Kd.at_bool (Kd.R_reads' HO_8.out).2.2 ((rd_T57 l1_0 x9_1).f3) p695 q695
        (try rw [← Nbq33.out] at hx695_0)
        obtain rfl : ad694 = ad695 := (by injection e695)
        replace p695 := eq_true p695
        replace q695 := eq_true q695
        go_wp2_with (first | ((with_reducible refine gate_builtin (b := .append) (xs := #[.tmp 74, .tmp 76]) rfl ?_); at_builtin; refine Kd.R_append Kd.bool (w0 := w) w.heap.size rfl (.tmp 74) (.tmp 76) 60 4 (.bool false) 1 rfl Try.underlying60 info4 rfl (by decide) (by omega) (.slice (some ad694) x8_1.length co40) x8_1 (rdOf false x8_1 ((rd_T57 l1_0 x9_1).f3)) [.bool (rdOf false x8_1 ((rd_T57 l1_0 x9_1).f3))] (fun _ => True) (fun _ => False) rfl rfl ?aP (fun _ hk => hk.elim) ?aF ?aO ?aB ?aS ?aL ?_; (case aP => exact rfl); (case aB => exact bl_); (case aF => exact (fun _ _ => trivial)); (case aO => exact (rr_ HO_8)); (case aS => exact bls_); (case aL => have := LMc37.out; omega); intro v697 w41 ho hb hg hat; rw [← Ny696.out] at ho; replace HO_7 := aa_ (Kd.R_over' (rr_ HO_7) (Kd.R_typed (rr_ HO_8)) (by decide) hg); replace BK679 := aa_ (blk_grown (g := gb679) (o := .cells #[.slice (some ad688) l1_0.length c1_0] 27 (0, 0)) (bk_ BK679) hg (Kd.R_ne HO_8.out BK679.out (by decide))); replace BK689 := aa_ (blk_grown (g := gb689) (o := .cells #[.int .i64 ((rd_T57 l1_0 x9_1).f0), .int .i64 ((rd_T57 l1_0 x9_1).f1.f0), .int .i64 ((rd_T57 l1_0 x9_1).f1.f1), .int .i64 ((rd_T57 l1_0 x9_1).f2), .int .i64 ((rd_T57 l1_0 x9_1).f3)] 57 (0, 0)) (bk_ BK689) hg (Kd.R_ne HO_8.out BK689.out (by decide))); replace HB := aa_ (hb); have HO698 := aa_ (ho); clear HO_8; clear ho hb hg hat))
        go_roundg k1
        case measure => have := HK1.out; omega
        case rel => exact ⟨(y696), (wrap64 (x9_1 + 1)), rf_, H', ⟨by have := HK1.out; omega⟩, ⟨rr_ HO_7⟩, ⟨rr_ HO698⟩, ⟨bk_ BK679⟩, ⟨bl_⟩⟩
       ·replace c34 := Bool.eq_false_iff.mpr c34
        subst c34
        replace H := ite_f_ H
        obtain ⟨c42, H⟩ := ifn_ H
        have LMc42 := aa_ c42
        clear c42
        obtain ⟨y699, hy699⟩ : ∃ y_ : List Bool, y_ = (x8_1 ++ [false]) := ⟨_, rfl⟩
        replace H : (spec_Decides.l0 k1 a2 t681 y699 (wrap64 (x9_1 + 1)) l1_0) = some r := rh_ hy699 H
        have Ny699 := aa_ hy699
        clear hy699
        have H' := aa_ H
        clear H
        have hnb43 := NB689_679.out
        have hnc43 := NB679_689.out
        have hcz44 := blk_cell BK689.out
        have hfz44 := blk_frozen BK689.out
        obtain ⟨Ao45, co45, eo45⟩ := Kd.R_slice HO_8.out
        subst eo45
        have p694 : 0 ≤ (((rd_T57 l1_0 x9_1).f2) : Int) := od_
        have q694 : ((rd_T57 l1_0 x9_1).f2) < (x8_1.length : Int) := od_
        obtain ⟨ad694, e694, hx694_0⟩ := Kd.at_bool (Kd.R_reads' HO_8.out).2.2 ((rd_T57 l1_0 x9_1).f2) p694 q694
        (try rw [← Nbq33.out] at hx694_0)
        cases e694
        replace p694 := eq_true p694
        replace q694 := eq_true q694
        go_wp2_with (first | ((with_reducible refine gate_builtin (b := .append) (xs := #[.tmp 74, .tmp 76]) rfl ?_); at_builtin; refine Kd.R_append Kd.bool (w0 := w) w.heap.size rfl (.tmp 74) (.tmp 76) 60 4 (.bool false) 1 rfl Try.underlying60 info4 rfl (by decide) (by omega) (.slice (some ad694) x8_1.length co45) x8_1 false [.bool false] (fun _ => True) (fun _ => False) rfl rfl ?aP (fun _ hk => hk.elim) ?aF ?aO ?aB ?aS ?aL ?_; (case aP => exact rfl); (case aB => exact bl_); (case aF => exact (fun _ _ => trivial)); (case aO => exact (rr_ HO_8)); (case aS => exact bls_); (case aL => have := LMc42.out; omega); intro v700 w46 ho hb hg hat; rw [← Ny699.out] at ho; replace HO_7 := aa_ (Kd.R_over' (rr_ HO_7) (Kd.R_typed (rr_ HO_8)) (by decide) hg); replace BK679 := aa_ (blk_grown (g := gb679) (o := .cells #[.slice (some ad688) l1_0.length c1_0] 27 (0, 0)) (bk_ BK679) hg (Kd.R_ne HO_8.out BK679.out (by decide))); replace BK689 := aa_ (blk_grown (g := gb689) (o := .cells #[.int .i64 ((rd_T57 l1_0 x9_1).f0), .int .i64 ((rd_T57 l1_0 x9_1).f1.f0), .int .i64 ((rd_T57 l1_0 x9_1).f1.f1), .int .i64 ((rd_T57 l1_0 x9_1).f2), .int .i64 ((rd_T57 l1_0 x9_1).f3)] 57 (0, 0)) (bk_ BK689) hg (Kd.R_ne HO_8.out BK689.out (by decide))); replace HB := aa_ (hb); have HO701 := aa_ (ho); clear HO_8; clear ho hb hg hat))
        go_roundg k1
        case measure => have := HK1.out; omega
        case rel => exact ⟨(y699), (wrap64 (x9_1 + 1)), rf_, H', ⟨by have := HK1.out; omega⟩, ⟨rr_ HO_7⟩, ⟨rr_ HO701⟩, ⟨bk_ BK679⟩, ⟨bl_⟩⟩
      ·rw [if_neg c30] at H
       have c30b0 : (((rd_T57 l1_0 x9_1).f0) == 2) = false := beq_eq_false_iff_ne.mpr c30
       have c30b1 : (((rd_T57 l1_0 x9_1).f0) != 2) = true := bne_iff_ne.mpr c30
       by_cases c47 : ((rd_T57 l1_0 x9_1).f0) = 3
       ·rw [if_pos c47] at H
        have c47b0 : (((rd_T57 l1_0 x9_1).f0) == 3) = true := beq_iff_eq.mpr c47
        have c47b1 : (((rd_T57 l1_0 x9_1).f0) != 3) = false := bne_eq_false_iff_eq.mpr c47
        clear c47
        obtain ⟨c48b0, H⟩ := ifd_ H
        obtain ⟨c49b0, H⟩ := ifd_ H
        obtain ⟨bq50, hbq50⟩ : ∃ b_ : Bool, b_ = (rdOf false x8_1 ((rd_T57 l1_0 x9_1).f2)) := ⟨_, rfl⟩
        replace H : (if bq50 = true then (if x8_1.length < 140737488355328 then (spec_Decides.l0 k1 a2 t681 (x8_1 ++ [true]) (wrap64 (x9_1 + 1)) l1_0) else (none)) else (if 0 ≤ ((rd_T57 l1_0 x9_1).f3) then (if ((rd_T57 l1_0 x9_1).f3) < (x8_1.length : Int) then (if x8_1.length < 140737488355328 then (spec_Decides.l0 k1 a2 t681 (x8_1 ++ [rdOf false x8_1 ((rd_T57 l1_0 x9_1).f3)]) (wrap64 (x9_1 + 1)) l1_0) else (none)) else (none)) else (none))) = some r := by rw [← hbq50] at H; exact H
        have Nbq50 := aa_ hbq50
        clear hbq50
        by_cases c51 : bq50 = true
        ·subst c51
         replace H := ite_t_ H
         obtain ⟨c52, H⟩ := ifn_ H
         have LMc52 := aa_ c52
         clear c52
         obtain ⟨y703, hy703⟩ : ∃ y_ : List Bool, y_ = (x8_1 ++ [true]) := ⟨_, rfl⟩
         replace H : (spec_Decides.l0 k1 a2 t681 y703 (wrap64 (x9_1 + 1)) l1_0) = some r := rh_ hy703 H
         have Ny703 := aa_ hy703
         clear hy703
         have H' := aa_ H
         clear H
         have hnb53 := NB689_679.out
         have hnc53 := NB679_689.out
         have hcz54 := blk_cell BK689.out
         have hfz54 := blk_frozen BK689.out
         obtain ⟨Ao55, co55, eo55⟩ := Kd.R_slice HO_8.out
         subst eo55
         have p702 : 0 ≤ (((rd_T57 l1_0 x9_1).f2) : Int) := od_
         have q702 : ((rd_T57 l1_0 x9_1).f2) < (x8_1.length : Int) := od_
         obtain ⟨ad702, e702, hx702_0⟩ := Kd.at_bool (Kd.R_reads' HO_8.out).2.2 ((rd_T57 l1_0 x9_1).f2) p702 q702
         (try rw [← Nbq50.out] at hx702_0)
         cases e702
         replace p702 := eq_true p702
         replace q702 := eq_true q702
         go_wp2_with (first | ((with_reducible refine gate_builtin (b := .append) (xs := #[.tmp 74, .tmp 76]) rfl ?_); at_builtin; refine Kd.R_append Kd.bool (w0 := w) w.heap.size rfl (.tmp 74) (.tmp 76) 60 4 (.bool false) 1 rfl Try.underlying60 info4 rfl (by decide) (by omega) (.slice (some ad702) x8_1.length co55) x8_1 true [.bool true] (fun _ => True) (fun _ => False) rfl rfl ?aP (fun _ hk => hk.elim) ?aF ?aO ?aB ?aS ?aL ?_; (case aP => exact rfl); (case aB => exact bl_); (case aF => exact (fun _ _ => trivial)); (case aO => exact (rr_ HO_8)); (case aS => exact bls_); (case aL => have := LMc52.out; omega); intro v704 w56 ho hb hg hat; rw [← Ny703.out] at ho; replace HO_7 := aa_ (Kd.R_over' (rr_ HO_7) (Kd.R_typed (rr_ HO_8)) (by decide) hg); replace BK679 := aa_ (blk_grown (g := gb679) (o := .cells #[.slice (some ad688) l1_0.length c1_0] 27 (0, 0)) (bk_ BK679) hg (Kd.R_ne HO_8.out BK679.out (by decide))); replace BK689 := aa_ (blk_grown (g := gb689) (o := .cells #[.int .i64 ((rd_T57 l1_0 x9_1).f0), .int .i64 ((rd_T57 l1_0 x9_1).f1.f0), .int .i64 ((rd_T57 l1_0 x9_1).f1.f1), .int .i64 ((rd_T57 l1_0 x9_1).f2), .int .i64 ((rd_T57 l1_0 x9_1).f3)] 57 (0, 0)) (bk_ BK689) hg (Kd.R_ne HO_8.out BK689.out (by decide))); replace HB := aa_ (hb); have HO705 := aa_ (ho); clear HO_8; clear ho hb hg hat))
         go_roundg k1
         case measure => have := HK1.out; omega
         case rel => exact ⟨(y703), (wrap64 (x9_1 + 1)), rf_, H', ⟨by have := HK1.out; omega⟩, ⟨rr_ HO_7⟩, ⟨rr_ HO705⟩, ⟨bk_ BK679⟩, ⟨bl_⟩⟩
        ·replace c51 := Bool.eq_false_iff.mpr c51
         subst c51
         replace H := ite_f_ H
         obtain ⟨c57b0, H⟩ := ifd_ H
         obtain ⟨c58b0, H⟩ := ifd_ H
         obtain ⟨c59, H⟩ := ifn_ H
         have LMc59 := aa_ c59
         clear c59
         obtain ⟨y707, hy707⟩ : ∃ y_ : List Bool, y_ = (x8_1 ++ [rdOf false x8_1 ((rd_T57 l1_0 x9_1).f3)]) := ⟨_, rfl⟩
         replace H : (spec_Decides.l0 k1 a2 t681 y707 (wrap64 (x9_1 + 1)) l1_0) = some r := rh_ hy707 H
         have Ny707 := aa_ hy707
         clear hy707
         have H' := aa_ H
         clear H
         have hnb60 := NB689_679.out
         have hnc60 := NB679_689.out
         have hcz61 := blk_cell BK689.out
         have hfz61 := blk_frozen BK689.out
         obtain ⟨Ao62, co62, eo62⟩ := Kd.R_slice HO_8.out
         subst eo62
         have p702 : 0 ≤ (((rd_T57 l1_0 x9_1).f2) : Int) := od_
         have q702 : ((rd_T57 l1_0 x9_1).f2) < (x8_1.length : Int) := od_
         obtain ⟨ad702, e702, hx702_0⟩ := Kd.at_bool (Kd.R_reads' HO_8.out).2.2 ((rd_T57 l1_0 x9_1).f2) p702 q702
         (try rw [← Nbq50.out] at hx702_0)
         cases e702
         replace p702 := eq_true p702
         replace q702 := eq_true q702
         have p706 : 0 ≤ (((rd_T57 l1_0 x9_1).f3) : Int) := od_
         have q706 : ((rd_T57 l1_0 x9_1).f3) < (x8_1.length : Int) := od_
         obtain ⟨ad706, e706, hx706_0⟩ := Kd.at_bool (Kd.R_reads' HO_8.out).2.2 ((rd_T57 l1_0 x9_1).f3) p706 q706
         (try rw [← Nbq50.out] at hx706_0)
         obtain rfl : ad702 = ad706 := (by injection e706)
         replace p706 := eq_true p706
         replace q706 := eq_true q706
         go_wp2_with (first | ((with_reducible refine gate_builtin (b := .append) (xs := #[.tmp 74, .tmp 76]) rfl ?_); at_builtin; refine Kd.R_append Kd.bool (w0 := w) w.heap.size rfl (.tmp 74) (.tmp 76) 60 4 (.bool false) 1 rfl Try.underlying60 info4 rfl (by decide) (by omega) (.slice (some ad702) x8_1.length co62) x8_1 (rdOf false x8_1 ((rd_T57 l1_0 x9_1).f3)) [.bool (rdOf false x8_1 ((rd_T57 l1_0 x9_1).f3))] (fun _ => True) (fun _ => False) rfl rfl ?aP (fun _ hk => hk.elim) ?aF ?aO ?aB ?aS ?aL ?_; (case aP => exact rfl); (case aB => exact bl_); (case aF => exact (fun _ _ => trivial)); (case aO => exact (rr_ HO_8)); (case aS => exact bls_); (case aL => have := LMc59.out; omega); intro v708 w63 ho hb hg hat; rw [← Ny707.out] at ho; replace HO_7 := aa_ (Kd.R_over' (rr_ HO_7) (Kd.R_typed (rr_ HO_8)) (by decide) hg); replace BK679 := aa_ (blk_grown (g := gb679) (o := .cells #[.slice (some ad688) l1_0.length c1_0] 27 (0, 0)) (bk_ BK679) hg (Kd.R_ne HO_8.out BK679.out (by decide))); replace BK689 := aa_ (blk_grown (g := gb689) (o := .cells #[.int .i64 ((rd_T57 l1_0 x9_1).f0), .int .i64 ((rd_T57 l1_0 x9_1).f1.f0), .int .i64 ((rd_T57 l1_0 x9_1).f1.f1), .int .i64 ((rd_T57 l1_0 x9_1).f2), .int .i64 ((rd_T57 l1_0 x9_1).f3)] 57 (0, 0)) (bk_ BK689) hg (Kd.R_ne HO_8.out BK689.out (by decide))); replace HB := aa_ (hb); have HO709 := aa_ (ho); clear HO_8; clear ho hb hg hat))
         go_roundg k1
         case measure => have := HK1.out; omega
         case rel => exact ⟨(y707), (wrap64 (x9_1 + 1)), rf_, H', ⟨by have := HK1.out; omega⟩, ⟨rr_ HO_7⟩, ⟨rr_ HO709⟩, ⟨bk_ BK679⟩, ⟨bl_⟩⟩
       ·rw [if_neg c47] at H
        have c47b0 : (((rd_T57 l1_0 x9_1).f0) == 3) = false := beq_eq_false_iff_ne.mpr c47
        have c47b1 : (((rd_T57 l1_0 x9_1).f0) != 3) = true := bne_iff_ne.mpr c47
        obtain ⟨c64b0, H⟩ := ifd_ H
        obtain ⟨c65b0, H⟩ := ifd_ H
        obtain ⟨c66, H⟩ := ifn_ H
        have LMc66 := aa_ c66
        clear c66
        obtain ⟨y711, hy711⟩ : ∃ y_ : List Bool, y_ = (x8_1 ++ [!(rdOf false x8_1 ((rd_T57 l1_0 x9_1).f2))]) := ⟨_, rfl⟩
        replace H : (spec_Decides.l0 k1 a2 t681 y711 (wrap64 (x9_1 + 1)) l1_0) = some r := rh_ hy711 H
        have Ny711 := aa_ hy711
        clear hy711
        have H' := aa_ H
        clear H
        have hnb67 := NB689_679.out
        have hnc67 := NB679_689.out
        have hcz68 := blk_cell BK689.out
        have hfz68 := blk_frozen BK689.out
        obtain ⟨Ao69, co69, eo69⟩ := Kd.R_slice HO_8.out
        subst eo69
        have p710 : 0 ≤ (((rd_T57 l1_0 x9_1).f2) : Int) := od_
        have q710 : ((rd_T57 l1_0 x9_1).f2) < (x8_1.length : Int) := od_
        obtain ⟨ad710, e710, hx710_0⟩ := Kd.at_bool (Kd.R_reads' HO_8.out).2.2 ((rd_T57 l1_0 x9_1).f2) p710 q710
        cases e710
        replace p710 := eq_true p710
        replace q710 := eq_true q710
        go_wp2_with (first | ((with_reducible refine gate_builtin (b := .append) (xs := #[.tmp 74, .tmp 76]) rfl ?_); at_builtin; refine Kd.R_append Kd.bool (w0 := w) w.heap.size rfl (.tmp 74) (.tmp 76) 60 4 (.bool false) 1 rfl Try.underlying60 info4 rfl (by decide) (by omega) (.slice (some ad710) x8_1.length co69) x8_1 (!(rdOf false x8_1 ((rd_T57 l1_0 x9_1).f2))) [.bool (!(rdOf false x8_1 ((rd_T57 l1_0 x9_1).f2)))] (fun _ => True) (fun _ => False) rfl rfl ?aP (fun _ hk => hk.elim) ?aF ?aO ?aB ?aS ?aL ?_; (case aP => exact rfl); (case aB => exact bl_); (case aF => exact (fun _ _ => trivial)); (case aO => exact (rr_ HO_8)); (case aS => exact bls_); (case aL => have := LMc66.out; omega); intro v712 w70 ho hb hg hat; rw [← Ny711.out] at ho; replace HO_7 := aa_ (Kd.R_over' (rr_ HO_7) (Kd.R_typed (rr_ HO_8)) (by decide) hg); replace BK679 := aa_ (blk_grown (g := gb679) (o := .cells #[.slice (some ad688) l1_0.length c1_0] 27 (0, 0)) (bk_ BK679) hg (Kd.R_ne HO_8.out BK679.out (by decide))); replace BK689 := aa_ (blk_grown (g := gb689) (o := .cells #[.int .i64 ((rd_T57 l1_0 x9_1).f0), .int .i64 ((rd_T57 l1_0 x9_1).f1.f0), .int .i64 ((rd_T57 l1_0 x9_1).f1.f1), .int .i64 ((rd_T57 l1_0 x9_1).f2), .int .i64 ((rd_T57 l1_0 x9_1).f3)] 57 (0, 0)) (bk_ BK689) hg (Kd.R_ne HO_8.out BK689.out (by decide))); replace HB := aa_ (hb); have HO713 := aa_ (ho); clear HO_8; clear ho hb hg hat))
        go_roundg k1
        case measure => have := HK1.out; omega
        case rel => exact ⟨(y711), (wrap64 (x9_1 + 1)), rf_, H', ⟨by have := HK1.out; omega⟩, ⟨rr_ HO_7⟩, ⟨rr_ HO713⟩, ⟨bk_ BK679⟩, ⟨bl_⟩⟩
    ·rw [if_neg c14] at H
     have c14b0 : decide (x9_1 < (l1_0.length : Int)) = false := decide_eq_false c14
     clear c14
     (first | rw [c14b0] | (simp only [i64_w, i32_w]; rw [c14b0]) | (have cz_ := c14b0; simp only [Int.ofNat_lt, Int.ofNat_le, gt_iff_lt, ge_iff_le] at cz_; rw [cz_]; clear cz_) | skip)
     obtain ⟨ji71, hji71⟩ : ∃ j_ : Int, (wrap64 ((x8_1.length : Int) - 1)) = j_ := ⟨_, rfl⟩
     replace H : (if 0 ≤ (ji71) then (if (ji71) < (x8_1.length : Int) then (some (rdOf false x8_1 (ji71))) else (none)) else (none)) = some r := by first | (rw [hji71] at H; exact H) | (simp only [hji71] at H ⊢; exact H)
     have hji71w : (IntKind.i64.wrap ((x8_1.length : Int) - 1)) = ji71 := (i64_w _).trans hji71
     obtain ⟨c72b0, H⟩ := ifd_ H
     obtain ⟨c73b0, H⟩ := ifd_ H
     obtain rfl := Option.some.inj H
     have hcz74 := blk_cell BK679.out
     have hfz74 := blk_frozen BK679.out
     obtain ⟨Ao75, co75, eo75⟩ := Kd.R_slice HO_8.out
     subst eo75
     have p687 : 0 ≤ ((ji71) : Int) := od_
     have q687 : (ji71) < (x8_1.length : Int) := od_
     obtain ⟨ad687, e687, hx687_0⟩ := Kd.at_bool (Kd.R_reads' HO_8.out).2.2 (ji71) p687 q687
     cases e687
     replace p687 := eq_true p687
     replace q687 := eq_true q687
     go_wp2
     go_ret
     exact ⟨by first | rfl | (simp [errW_none, errW_some] <;> rfl) | (simp only [← hji71]; first | rfl | (simp [errW_none, errW_some] <;> rfl)) | (simp [*, errW_none, errW_some] <;> rfl), bl_⟩
 ·replace c9 := Bool.eq_false_iff.mpr c9
  subst c9
  replace H := ite_f_ H
  obtain rfl := Option.some.inj H
  go_wp2
  go_ret
  exact ⟨eq_, bl_⟩
def laws_sameRoles.l0 : Nat → List (S55) → List (S55) → Int → Option (Bool)
 | 0, _, _, _ => none
 | k + 1, x0, x1, x5 => if x5 < (x0.length : Int) then (if 0 ≤ x5 then (if x5 < (x1.length : Int) then (if (!(((rd_T55 x0 x5).f0) == ((rd_T55 x1 x5).f0)) || (!(((rd_T55 x0 x5).f1) == ((rd_T55 x1 x5).f1)))) = true then (some false) else (laws_sameRoles.l0 k x0 x1 (wrap64 (x5 + 1)))) else (none)) else (none)) else (some true)
def laws_sameRoles.f (k : Nat) (l0 : List (S55)) (l1 : List (S55)) : Option (Bool) := if (l0.length : Int) = (l1.length : Int) then (laws_sameRoles.l0 k l0 l1 0) else (some false)
set_option maxHeartbeats 8000000 in
set_option maxRecDepth 100000 in
theorem laws_sameRoles.calls (k : Nat) (A0 : Option Addr) (c0 : Nat) (l0 : List (S55)) (A1 : Option Addr) (c1 : Nat) (l1 : List (S55)) (r : Bool) (w : World) (hr0 : Kd.C k55 w A0 l0.length l0) (hc0 : l0.length ≤ c0) (hr1 : Kd.C k55 w A1 l1.length l1) (hc1 : l1.length ≤ c1) (h : laws_sameRoles.f k l0 l1 = some r) :
  Calls Try.prog 16 #[.slice A0 l0.length c0, .slice A1 l1.length c1] w fun e w' => e = .returned (.bool r) ∧ Drawn0 w w' := by
 have hu55 := Try.underlying55
 have HR0 := aa_ hr0
 have HC0 := aa_ hc0
 clear hr0 hc0
 have HR1 := aa_ hr1
 have HC1 := aa_ hc1
 clear hr1 hc1
 have H : (if (l0.length : Int) = (l1.length : Int) then (laws_sameRoles.l0 k l0 l1 0) else (some false)) = some r := h
 clear h
 by_cases c3 : (l0.length : Int) = (l1.length : Int)
 ·rw [if_pos c3] at H
  have c3b0 : ((l0.length : Int) == (l1.length : Int)) = true := beq_iff_eq.mpr c3
  have c3b1 : ((l0.length : Int) != (l1.length : Int)) = false := bne_eq_false_iff_eq.mpr c3
  have c3b2 : (l0.length == l1.length) = true := by first | simpa using c3 | (simp at c3 ⊢; omega)
  clear c3
  have H' := aa_ H
  clear H
  go_enter Try.func16, Try.ntmps16
  go_wp2
  repeat (go_quiet (fail); try go_wp2)
  go_loopg [5] k (fun kq v5 w' => ∃ (x5_1 : Int), v5 = .int .i64 x5_1 ∧ Aside0 (laws_sameRoles.l0 kq l0 l1 x5_1 = some r) ∧ Aside0 (kq ≤ k) ∧ Drawn0 w w')
  case atStart => exact ⟨(0), rf_, H', ⟨Nat.le_refl _⟩, by repeat (first | exact Drawn0.refl _ | apply Drawn0.step)⟩
  case round =>
   clear H'
   try clear c1
   try clear p2
   try clear c3
   try clear c3b0
   try clear c3b1
   try clear c3b2
   obtain ⟨x5_1, rfl, HA, HK1, ⟨m1, rfl⟩⟩ := hrel
   cases gk with
   | zero => exact absurd HA.out (by simp [laws_sameRoles.l0])
   | succ k1 =>
    have H := HA.out
    clear HA
    simp only [laws_sameRoles.l0] at H
    by_cases c4 : x5_1 < (l0.length : Int)
    ·rw [if_pos c4] at H
     have c4b0 : decide (x5_1 < (l0.length : Int)) = true := decide_eq_true c4
     clear c4
     obtain ⟨c5b0, H⟩ := ifd_ H
     obtain ⟨c6b0, H⟩ := ifd_ H
     have HC7 := aa_ H
     clear H
     have p714 : 0 ≤ (x5_1 : Int) := od_
     have q714 : x5_1 < (l0.length : Int) := od_
     obtain ⟨ad714, e714, hx714_0, hx714_1⟩ := at_T55 HR0.out x5_1 p714 q714
     cases e714
     replace p714 := eq_true p714
     replace q714 := eq_true q714
     have p715 : 0 ≤ (x5_1 : Int) := od_
     have q715 : x5_1 < (l1.length : Int) := od_
     obtain ⟨ad715, e715, hx715_0, hx715_1⟩ := at_T55 HR1.out x5_1 p715 q715
     cases e715
     replace p715 := eq_true p715
     replace q715 := eq_true q715
     go_upto_if 25 with (fail)
     repeat (go_quiet (fail); go_upto_if 25 with (fail))
     have H := HC7.out
     clear HC7
     by_cases c8 : (!(((rd_T55 l0 x5_1).f0) == ((rd_T55 l1 x5_1).f0)) || (!(((rd_T55 l0 x5_1).f1) == ((rd_T55 l1 x5_1).f1)))) = true
     ·rw [if_pos c8] at H
      have c8b0 : (!(((rd_T55 l0 x5_1).f0) == ((rd_T55 l1 x5_1).f0)) || (!(((rd_T55 l0 x5_1).f1) == ((rd_T55 l1 x5_1).f1)))) = true := c8
      clear c8
      (first | rw [c8b0] | (simp only [i64_w, i32_w]; rw [c8b0]) | skip)
      obtain rfl := Option.some.inj H
      go_wp2
      repeat (go_quiet (fail); try go_wp2)
      go_ret
      exact ⟨by first | rfl | (simp; done) | (simp [*]; done), by repeat (first | exact Drawn0.refl _ | apply Drawn0.step)⟩
     ·rw [if_neg c8] at H
      have c8b0 : (!(((rd_T55 l0 x5_1).f0) == ((rd_T55 l1 x5_1).f0)) || (!(((rd_T55 l0 x5_1).f1) == ((rd_T55 l1 x5_1).f1)))) = false := by simpa using c8
      clear c8
      (first | rw [c8b0] | (simp only [i64_w, i32_w]; rw [c8b0]) | skip)
      have H' := aa_ H
      clear H
      go_wp2
      repeat (go_quiet (fail); try go_wp2)
      go_roundg k1
      case measure => have := HK1.out; omega
      case rel => exact ⟨(wrap64 (x5_1 + 1)), rf_, H', ⟨by have := HK1.out; omega⟩, by repeat (first | exact Drawn0.refl _ | apply Drawn0.step)⟩
    ·rw [if_neg c4] at H
     have c4b0 : decide (x5_1 < (l0.length : Int)) = false := decide_eq_false c4
     clear c4
     obtain rfl := Option.some.inj H
     go_wp2
     repeat (go_quiet (fail); try go_wp2)
     go_ret
     exact ⟨by first | rfl | (simp; done) | (simp [*]; done), by repeat (first | exact Drawn0.refl _ | apply Drawn0.step)⟩
 ·rw [if_neg c3] at H
  have c3b0 : ((l0.length : Int) == (l1.length : Int)) = false := beq_eq_false_iff_ne.mpr c3
  have c3b1 : ((l0.length : Int) != (l1.length : Int)) = true := bne_iff_ne.mpr c3
  have c3b2 : (l0.length == l1.length) = false := by first | simpa using c3 | (simp at c3 ⊢; omega)
  obtain rfl := Option.some.inj H
  go_enter Try.func16, Try.ntmps16
  go_wp2
  repeat (go_quiet (fail); try go_wp2)
  go_ret
  exact ⟨by first | rfl | (simp; done) | (simp [*]; done), by repeat (first | exact Drawn0.refl _ | apply Drawn0.step)⟩
def impl_Role_56.l0 : Nat → List (S55) → Int → Int → Int → Int → Option (Int)
 | 0, _, _, _, _, _ => none
 | k + 1, x0, x7, x8, x717000, x717001 => if x8 < x7 then (if 0 ≤ x8 then (if x8 < (x0.length : Int) then (if (x717000 == ((rd_T55 x0 x8).f0) && (x717001 == ((rd_T55 x0 x8).f1))) = true then (some x8) else (impl_Role_56.l0 k x0 x7 (wrap64 (x8 + 1)) x717000 x717001)) else (none)) else (none)) else (some (-1))
def impl_Role_56.f (k : Nat) (l0 : List (S55)) (a1_0 : Int) (a1_1 : Int) : Option (Int) := impl_Role_56.l0 k l0 (l0.length : Int) 0 a1_0 a1_1
set_option maxHeartbeats 8000000 in
set_option maxRecDepth 100000 in
theorem impl_Role_56.calls (k : Nat) (A0 : Option Addr) (c0 : Nat) (l0 : List (S55)) (a1_0 : Int) (a1_1 : Int) (r : Int) (w : World) (hr0 : Kd.C k55 w A0 l0.length l0) (hc0 : l0.length ≤ c0) (h : impl_Role_56.f k l0 a1_0 a1_1 = some r) :
  Calls Try.prog 56 #[.slice A0 l0.length c0, .agg #[.int .i64 a1_0, .int .i64 a1_1]] w fun e w' => e = .returned (.int .i64 r) ∧ Below w.heap.size w w' := by
 have hu55 := Try.underlying55
 have HR0 := aa_ hr0
 have HC0 := aa_ hc0
 clear hr0 hc0
 have HB := aa_ (Below.refl w.heap.size w)
 have H : (impl_Role_56.l0 k l0 (l0.length : Int) 0 a1_0 a1_1) = some r := h
 clear h
 have H' := aa_ H
 clear H
 go_enter Try.func56, Try.ntmps56
 go_wp2_with (first | ((with_reducible refine gD_ 3 rfl ?_); refine bx_ (N := 3) (cs := #[.int .i64 a1_0, .int .i64 a1_1]) (t := 55) ?_; intro gb716 hg w3 hbox hb; have BK716 := aa_ (hbox); have GW716 := gs_ hg; have GE716 := gs_ hg; replace HB := hbs_ hb; clear hb hbox hg))
 repeat (go_quiet (first | ((with_reducible refine gD_ 3 rfl ?_); refine bx_ (N := 3) (cs := #[.int .i64 a1_0, .int .i64 a1_1]) (t := 55) ?_; intro gb716 hg w3 hbox hb; have BK716 := aa_ (hbox); have GW716 := gs_ hg; have GE716 := gs_ hg; replace HB := hbs_ hb; clear hb hbox hg)); try go_wp2_with (first | ((with_reducible refine gD_ 3 rfl ?_); refine bx_ (N := 3) (cs := #[.int .i64 a1_0, .int .i64 a1_1]) (t := 55) ?_; intro gb716 hg w3 hbox hb; have BK716 := aa_ (hbox); have GW716 := gs_ hg; have GE716 := gs_ hg; replace HB := hbs_ hb; clear hb hbox hg)))
 go_loopg [8] k (fun kq v8 w' => ∃ (x8_1 : Int), v8 = .int .i64 x8_1 ∧ Aside0 (impl_Role_56.l0 kq l0 (l0.length : Int) x8_1 a1_0 a1_1 = some r) ∧ Aside0 (kq ≤ k) ∧ Aside0 (w'.heap[gb716]? = some (.cells #[.int .i64 a1_0, .int .i64 a1_1] 55 (0, 0))) ∧ Aside0 (Below w.heap.size w w'))
 case atStart => exact ⟨(0), rf_, H', ⟨Nat.le_refl _⟩, ⟨bk_ BK716⟩, ⟨bl_⟩⟩
 case round =>
  clear H'
  try clear p2
  obtain ⟨x8_1, rfl, HA, HK1, BK716, HB⟩ := hrel
  cases gk with
  | zero => exact absurd HA.out (by simp [impl_Role_56.l0])
  | succ k1 =>
   have H := HA.out
   clear HA
   simp only [impl_Role_56.l0] at H
   by_cases c4 : x8_1 < (l0.length : Int)
   ·rw [if_pos c4] at H
    have c4b0 : decide (x8_1 < (l0.length : Int)) = true := decide_eq_true c4
    clear c4
    obtain ⟨c5b0, H⟩ := ifd_ H
    obtain ⟨c6b0, H⟩ := ifd_ H
    have HC7 := aa_ H
    clear H
    have hcz8 := blk_cell BK716.out
    have hfz8 := blk_frozen BK716.out
    have p717 : 0 ≤ (x8_1 : Int) := od_
    have q717 : x8_1 < (l0.length : Int) := od_
    obtain ⟨ad717, e717, hx717_0, hx717_1⟩ := at_T55 (Kd.C_below HR0.out HB.out) x8_1 p717 q717
    cases e717
    replace p717 := eq_true p717
    replace q717 := eq_true q717
    go_upto_if 16 with (fail)
    repeat (go_quiet (fail); go_upto_if 16 with (fail))
    have H := HC7.out
    clear HC7
    by_cases c9 : (a1_0 == ((rd_T55 l0 x8_1).f0) && (a1_1 == ((rd_T55 l0 x8_1).f1))) = true
    ·rw [if_pos c9] at H
     have c9b0 : (a1_0 == ((rd_T55 l0 x8_1).f0) && (a1_1 == ((rd_T55 l0 x8_1).f1))) = true := c9
     (try (have c9b1 : decide (a1_0 = ((rd_T55 l0 x8_1).f0) && (a1_1 == ((rd_T55 l0 x8_1).f1))) = true := by simpa using c9))
     (try (have c9b2 : (a1_0 == ((rd_T55 l0 x8_1).f0) && (a1_1 == ((rd_T55 l0 x8_1).f1))) = true := by simpa using c9))
     clear c9
     (first | rw [c9b0] | (simp only [i64_w, i32_w]; rw [c9b0]) | skip)
     obtain rfl := Option.some.inj H
     go_wp2
     repeat (go_quiet (fail); try go_wp2)
     go_ret
     exact ⟨eq_, bl_⟩
    ·rw [if_neg c9] at H
     have c9b0 : (a1_0 == ((rd_T55 l0 x8_1).f0) && (a1_1 == ((rd_T55 l0 x8_1).f1))) = false := by simpa using c9
     (try (have c9b1 : decide (a1_0 = ((rd_T55 l0 x8_1).f0) && (a1_1 == ((rd_T55 l0 x8_1).f1))) = false := by simpa using c9))
     (try (have c9b2 : (a1_0 == ((rd_T55 l0 x8_1).f0) && (a1_1 == ((rd_T55 l0 x8_1).f1))) = false := by simpa using c9))
     (try (have c9b3 : ¬ (a1_0 = ((rd_T55 l0 x8_1).f0) && (a1_1 == ((rd_T55 l0 x8_1).f1))) := by simpa using c9))
     clear c9
     (first | rw [c9b0] | (simp only [i64_w, i32_w]; rw [c9b0]) | skip)
     have H' := aa_ H
     clear H
     go_wp2
     repeat (go_quiet (fail); try go_wp2)
     go_roundg k1
     case measure => have := HK1.out; omega
     case rel => exact ⟨(wrap64 (x8_1 + 1)), rf_, H', ⟨by have := HK1.out; omega⟩, ⟨bk_ BK716⟩, ⟨bl_⟩⟩
   ·rw [if_neg c4] at H
    have c4b0 : decide (x8_1 < (l0.length : Int)) = false := decide_eq_false c4
    clear c4
    obtain rfl := Option.some.inj H
    go_wp2
    repeat (go_quiet (fail); try go_wp2)
    go_ret
    exact ⟨eq_, bl_⟩
def impl_Role_43.f (k : Nat) (l0 : List (S55)) (a1_0 : Int) (a1_1 : Int) : Option (Bool) := (impl_Role_56.f k l0 a1_0 a1_1).bind fun t719 => (some (decide (t719 ≥ 0)))
set_option maxHeartbeats 8000000 in
set_option maxRecDepth 100000 in
theorem impl_Role_43.calls (k : Nat) (A0 : Option Addr) (c0 : Nat) (l0 : List (S55)) (a1_0 : Int) (a1_1 : Int) (r : Bool) (w : World) (hr0 : Kd.C k55 w A0 l0.length l0) (hc0 : l0.length ≤ c0) (h : impl_Role_43.f k l0 a1_0 a1_1 = some r) :
  Calls Try.prog 43 #[.slice A0 l0.length c0, .agg #[.int .i64 a1_0, .int .i64 a1_1]] w fun e w' => e = .returned (.bool r) ∧ Below w.heap.size w w' := by
 have hu55 := Try.underlying55
 have HR0 := aa_ hr0
 have HC0 := aa_ hc0
 clear hr0 hc0
 have HB := aa_ (Below.refl w.heap.size w)
 have H : ((impl_Role_56.f k l0 a1_0 a1_1).bind fun t719 => (some (decide (t719 ≥ 0)))) = some r := h
 clear h
 obtain ⟨t719, A3, H⟩ := bindE_ H
 obtain rfl := Option.some.inj H
 go_enter Try.func43, Try.ntmps43
 go_wp2_with (first | ((with_reducible refine gD_ 3 rfl ?_); refine bx_ (N := 3) (cs := #[.int .i64 a1_0, .int .i64 a1_1]) (t := 55) ?_; intro gb718 hg w4 hbox hb; have BK718 := aa_ (hbox); have GW718 := gs_ hg; have GE718 := gs_ hg; replace HB := hbs_ hb; clear hb hbox hg; obtain ⟨hcz5, hfz5⟩ := bcf_ BK718) | ((with_reducible refine gC_ 56 rfl ?_); refine goesC_ (some 7) Try.func56 #[.slice A0 l0.length c0, .agg #[.int .i64 a1_0, .int .i64 a1_1]] ?_; (with_reducible refine (impl_Role_56.calls k _ _ l0 a1_0 a1_1 t719 _ ?side1 ?side2 A3.out).mono ?_); (case side1 => repeat (first | exact (Kd.C_below HR0.out HB.out) | (with_reducible refine Kd.C_alloc ?_ _) | (with_reducible refine Kd.C_drewN ?_ _) | (with_reducible refine Kd.C_drew ?_))); (case side2 => exact HC0.out); rintro e w6 ⟨rfl, hb⟩; refine ⟨_, rfl, ?_⟩; replace BK718 := bkb_ BK718 hb; replace HB := hbs_ hb; clear hb))
 go_ret
 exact ⟨eq_, bl_⟩
end Go.Proofs.Ytnoklfpnmopkpaa.PE
