import Derived.Test.YtnoklfpnmopkpaaKPPEx19
-- printed by wip/tools
namespace Go.Proofs.Ytnoklfpnmopkpaa.PE
open Go.RowKit Go.Proofs.YtnoklfpnmopkpaaW.PrintWords Go.Proofs.YtnoklfpnmopkpaaW.PrintLast Go.Proofs.YtnoklfpnmopkpaaW.PrintMore
attribute [local go_sem] max2_int min2_int max_two min_two max_three min_three max_four min_four
set_option linter.unusedVariables false
set_option linter.unusedSimpArgs false
attribute [local go_sem high] eqA55
def impl_PolicyRoles.l0 : Nat → List (S55) → List (S57) → Int → Int → Option ((List (S55)))
 | 0, _, _, _, _ => none
 | k + 1, x3, x11, x12, x13 => if x13 < x12 then (if 0 ≤ x13 then (if x13 < (x11.length : Int) then (if ((rd_T57 x11 x13).f0) = 1 then ((impl_Role_43.f k x3 ((rd_T57 x11 x13).f1.f0) ((rd_T57 x11 x13).f1.f1)).bind fun t727 => (if t727 = true then (impl_PolicyRoles.l0 k x3 x11 x12 (wrap64 (x13 + 1))) else (if x3.length < 8796093022208 then (impl_PolicyRoles.l0 k (x3 ++ [(⟨(rd_T57 x11 x13).f1.f0, (rd_T57 x11 x13).f1.f1⟩ : S55)]) x11 x12 (wrap64 (x13 + 1))) else (none)))) else (impl_PolicyRoles.l0 k x3 x11 x12 (wrap64 (x13 + 1)))) else (none)) else (none)) else (some x3)
def impl_PolicyRoles.f (k : Nat) (l0_0 : List (S57)) : Option ((List (S55))) := (impl_PolicyOk.f k l0_0).bind fun t721 => (if t721 = true then (impl_PolicyRoles.l0 k (([] : List (S55))) l0_0 (l0_0.length : Int) 0) else (some ([] : List (S55))))
set_option maxHeartbeats 8000000 in
set_option maxRecDepth 100000 in
theorem impl_PolicyRoles.calls (k : Nat) (A0_0 : Option Addr) (c0_0 : Nat) (l0_0 : List (S57)) (r : List (S55)) (w : World) (hr0_0 : Kd.C k57 w A0_0 l0_0.length l0_0) (hc0_0 : l0_0.length ≤ c0_0) (h : impl_PolicyRoles.f k l0_0 = some r) :
  Calls Try.prog 17 #[.agg #[.slice A0_0 l0_0.length c0_0]] w fun e w' => ∃ v0_ : Value, e = .returned (v0_) ∧ Kd.R k55 55 w' w.heap.size (fun _ => True) v0_ r ∧ Below w.heap.size w w' := by
 have hu27 := Try.underlying27
 have hu57 := Try.underlying57
 have hu55 := Try.underlying55
 have HR0_0 := aa_ hr0_0
 have HC0_0 := aa_ hc0_0
 clear hr0_0 hc0_0
 have HB := aa_ (Below.refl w.heap.size w)
 have H : ((impl_PolicyOk.f k l0_0).bind fun t721 => (if t721 = true then (impl_PolicyRoles.l0 k (([] : List (S55))) l0_0 (l0_0.length : Int) 0) else (some ([] : List (S55))))) = some r := h
 clear h
 obtain ⟨t721, A2, H⟩ := bindE_ H
 have HC3 := aa_ H
 clear H
 go_enter Try.func17, Try.ntmps17
 go_upto_if 8 with (first | ((with_reducible refine gD_ 1 rfl ?_); refine bx_ (N := 1) (cs := #[.slice A0_0 l0_0.length c0_0]) (t := 27) ?_; intro gb720 hg w4 hbox hb; have BK720 := aa_ (hbox); have GW720 := gs_ hg; have GE720 := gs_ hg; replace HB := hbs_ hb; clear hb hbox hg; obtain ⟨hcz5, hfz5⟩ := bcf_ BK720) | ((with_reducible refine gC_ 14 rfl ?_); refine goesC_ (some 7) Try.func14 #[.agg #[.slice A0_0 l0_0.length c0_0]] ?_; (with_reducible refine (impl_PolicyOk.calls k _ _ l0_0 t721 _ ?side1 ?side2 A2.out).mono ?_); (case side1 => repeat (first | exact (Kd.C_below HR0_0.out HB.out) | (with_reducible refine Kd.C_alloc ?_ _) | (with_reducible refine Kd.C_drewN ?_ _) | (with_reducible refine Kd.C_drew ?_))); (case side2 => exact HC0_0.out); rintro e w6 ⟨rfl, hb⟩; refine ⟨_, rfl, ?_⟩; replace BK720 := bkb_ BK720 hb; replace HB := hbs_ hb; clear hb))
 (try simp only [Act.put, List.setIfInBounds_toArray, List.set_cons_zero, List.set_cons_succ])
 have H := HC3.out
 clear HC3
 by_cases c7 : t721 = true
 ·subst c7
  replace H := ite_t_ H
  obtain ⟨y722, hy722⟩ : ∃ y_ : List (S55), y_ = (([] : List (S55))) := ⟨_, rfl⟩
  replace H : (impl_PolicyRoles.l0 k y722 l0_0 (l0_0.length : Int) 0) = some r := rh_ hy722 H
  have Ny722 := aa_ hy722
  clear hy722
  have H' := aa_ H
  clear H
  go_wp2_with (first | ((with_reducible refine gD_ 9 rfl ?_); refine Kd.R_lit k55 _ 55 ?hg (N := 9) ?hd (xs := ([] : List (S55))) (inner := []) (ok := fun _ => True) (okp := fun _ => True) ?hr ?hp (fun _ hk => hk) trivial (Below.refl _ _) (Nat.le_refl _) (by simp) ?_; (case hd => rfl); (case hg => rfl); (case hr => first | (go_simp; done) | (go_simp; rfl)); (case hp => exact (Reps.none _ _)); intro v723 w8 ho9 hb hg_ hnew_; clear hg_ hnew_; (first | rw [← Ny722.out] at ho9 | (simp only [Int.reduceToNat] at ho9; rw [← Ny722.out] at ho9)); have HO724 := aa_ (Kd.R_lower ho9 bls_); replace BK720 := bkb_ BK720 hb; replace HB := hbs_ hb; clear hb ho9; obtain ⟨hcz10, hfz10⟩ := bcf_ BK720))
  go_loopg [3, 13] k (fun kq v3 v13 w' => ∃ (x3_1 : List (S55)) (x13_1 : Int), v13 = .int .i64 x13_1 ∧ Aside0 (impl_PolicyRoles.l0 kq x3_1 l0_0 (l0_0.length : Int) x13_1 = some r) ∧ Aside0 (kq ≤ k) ∧ Aside0 (Kd.R k55 55 w' w.heap.size (fun _ => True) v3 x3_1) ∧ Aside0 (w'.heap[gb720]? = some (.cells #[(.slice A0_0 l0_0.length c0_0)] 27 (0, 0))) ∧ Aside0 (Below w.heap.size w w'))
  case atStart => exact ⟨(y722), (0), rf_, H', ⟨Nat.le_refl _⟩, ⟨rr_ HO724⟩, ⟨bk_ BK720⟩, ⟨bl_⟩⟩
  case round =>
   clear H'
   try clear c1
   try clear p2
   try clear c7
   try clear hcz10
   try clear hcz5
   try clear hfz10
   try clear hfz5
   obtain ⟨x3_1, x13_1, rfl, HA, HK1, HO_3, BK720, HB⟩ := hrel
   cases gk with
   | zero => exact absurd HA.out (by simp [impl_PolicyRoles.l0])
   | succ k1 =>
    have H := HA.out
    clear HA
    simp only [impl_PolicyRoles.l0] at H
    by_cases c11 : x13_1 < (l0_0.length : Int)
    ·rw [if_pos c11] at H
     have c11b0 : decide (x13_1 < (l0_0.length : Int)) = true := decide_eq_true c11
     clear c11
     (first | rw [c11b0] | (simp only [i64_w, i32_w]; rw [c11b0]) | (have cz_ := c11b0; simp only [Int.ofNat_lt, Int.ofNat_le, gt_iff_lt, ge_iff_le] at cz_; rw [cz_]; clear cz_) | skip)
     obtain ⟨c12b0, H⟩ := ifd_ H
     obtain ⟨c13b0, H⟩ := ifd_ H
     by_cases c14 : ((rd_T57 l0_0 x13_1).f0) = 1
     ·rw [if_pos c14] at H
      have c14b0 : (((rd_T57 l0_0 x13_1).f0) == 1) = true := beq_iff_eq.mpr c14
      have c14b1 : (((rd_T57 l0_0 x13_1).f0) != 1) = false := bne_eq_false_iff_eq.mpr c14
      clear c14
      obtain ⟨t727, A15, H⟩ := bindE_ H
      have HC16 := aa_ H
      clear H
      have p725 : 0 ≤ (x13_1 : Int) := od_
      have q725 : x13_1 < (l0_0.length : Int) := od_
      obtain ⟨ad725, e725, hx725_0, hx725_1, hx725_2, hx725_3, hx725_4⟩ := at_T57 (Kd.C_below HR0_0.out HB.out) x13_1 p725 q725
      cases e725
      replace p725 := eq_true p725
      replace q725 := eq_true q725
      go_upto_if 26 with (first | ((with_reducible refine gD_ 5 rfl ?_); refine bx_ (N := 5) (cs := #[.int .i64 0, .int .i64 0, .int .i64 0, .int .i64 0, .int .i64 0]) (t := 57) ?_; intro gb726 hg w17 hbox hb; replace HO_3 := hob_ HO_3 hb; have BK726 := aa_ (hbox); have GW726 := gs_ hg; have GE726 := gs_ hg; replace HB := hbs_ hb; have NB720_726 := nl_ hg BK720; have NB726_720 := nr_ hg BK720; replace BK720 := bkb_ BK720 hb; clear hb hbox hg; have hnb18 := NB726_720.out; have hnc18 := NB720_726.out; obtain ⟨hcz19, hfz19⟩ := bcf_ BK726; obtain ⟨Ao20, co20, eo20⟩ := Kd.R_slice HO_3.out; subst eo20) | (go_at_call 43; (with_reducible refine (impl_Role_43.calls k1 _ _ x3_1 ((rd_T57 l0_0 x13_1).f1.f0) ((rd_T57 l0_0 x13_1).f1.f1) t727 _ ?side1 ?side2 A15.out).mono ?_); (case side1 => refine (Kd.R_reads' (e := 55) (base := w.heap.size) (ok := fun k_ => True) (n := x3_1.length) (c := co20) ?_).2.2; exact (by (with_reducible repeat (first | apply Kd.R_alloc | apply Kd.R_drewN | apply Kd.R_drew)); exact (Kd.R_mono (fr5_ (Kd.R_types HO_3.out BK726.out (by decide)) (fun _ hk => hk.2)) (fun _ h_ => h_.1)))); (case side2 => exact (Kd.R_reads' HO_3.out).2.1); rintro e w21 ⟨rfl, hb⟩; replace HO_3 := aa_ (Kd.R_below (by (with_reducible repeat (first | apply Kd.R_alloc | apply Kd.R_drewN | apply Kd.R_drew)); exact (Kd.R_mono (fr5_ (Kd.R_types HO_3.out BK726.out (by decide)) (fun _ hk => hk.2)) (fun _ h_ => h_.1))) hb); replace BK720 := aa_ (blk_below (g := gb720) (o := .cells #[.slice (some ad725) l0_0.length c0_0] 27 (0, 0)) (bk_ BK720) hb); replace BK726 := aa_ (blk_below (g := gb726) (o := .cells #[.int .i64 ((rd_T57 l0_0 x13_1).f0), .int .i64 ((rd_T57 l0_0 x13_1).f1.f0), .int .i64 ((rd_T57 l0_0 x13_1).f1.f1), .int .i64 ((rd_T57 l0_0 x13_1).f2), .int .i64 ((rd_T57 l0_0 x13_1).f3)] 57 (0, 0)) (bk_ BK726) hb); replace HB := hbs_ hb; clear hb))
      (try simp only [Act.put, List.setIfInBounds_toArray, List.set_cons_zero, List.set_cons_succ])
      have H := HC16.out
      clear HC16
      by_cases c22 : t727 = true
      ·subst c22
       replace H := ite_t_ H
       have H' := aa_ H
       clear H
       go_wp2
       go_roundg k1
       case measure => have := HK1.out; omega
       case rel => exact ⟨(x3_1), (wrap64 (x13_1 + 1)), rf_, H', ⟨by have := HK1.out; omega⟩, ⟨rr_ HO_3⟩, ⟨bk_ BK720⟩, ⟨bl_⟩⟩
      ·replace c22 := Bool.eq_false_iff.mpr c22
       subst c22
       replace H := ite_f_ H
       obtain ⟨c23, H⟩ := ifn_ H
       have LMc23 := aa_ c23
       clear c23
       obtain ⟨y728, hy728⟩ : ∃ y_ : List (S55), y_ = (x3_1 ++ [(⟨(rd_T57 l0_0 x13_1).f1.f0, (rd_T57 l0_0 x13_1).f1.f1⟩ : S55)]) := ⟨_, rfl⟩
       replace H : (impl_PolicyRoles.l0 k1 y728 l0_0 (l0_0.length : Int) (wrap64 (x13_1 + 1))) = some r := rh_ hy728 H
       have Ny728 := aa_ hy728
       clear hy728
       have H' := aa_ H
       clear H
       have hnb24 := NB726_720.out
       have hnc24 := NB720_726.out
       have hcz25 := blk_cell BK726.out
       have hfz25 := blk_frozen BK726.out
       go_wp2_with (first | ((with_reducible refine gate_builtin (b := .append) (xs := #[.tmp 27, .tmp 30]) rfl ?_); at_builtin; refine Kd.R_append k55 (w0 := w) w.heap.size rfl (.tmp 27) (.tmp 30) 37 55 (.agg #[(.int .i64 0), (.int .i64 0)]) 16 rfl Try.underlying37 info55 rfl (by decide) (by omega) (.slice Ao20 x3_1.length co20) x3_1 (⟨(rd_T57 l0_0 x13_1).f1.f0, (rd_T57 l0_0 x13_1).f1.f1⟩ : S55) [.int .i64 ((rd_T57 l0_0 x13_1).f1.f0), .int .i64 ((rd_T57 l0_0 x13_1).f1.f1)] (fun _ => True) (fun _ => False) rfl rfl ?aP (fun _ hk => hk.elim) ?aF ?aO ?aB ?aS ?aL ?_; (case aP => exact k55_mkM _ _ _ (⟨(rd_T57 l0_0 x13_1).f1.f0, (rd_T57 l0_0 x13_1).f1.f1⟩ : S55)); (case aB => exact bl_); (case aF => exact (fun _ _ => trivial)); (case aO => exact (rr_ HO_3)); (case aS => exact bls_); (case aL => have := LMc23.out; omega); intro v729 w26 ho hb hg hat; rw [← Ny728.out] at ho; replace BK720 := aa_ (blk_grown (g := gb720) (o := .cells #[.slice (some ad725) l0_0.length c0_0] 27 (0, 0)) (bk_ BK720) hg (Kd.R_ne HO_3.out BK720.out (by decide))); replace BK726 := aa_ (blk_grown (g := gb726) (o := .cells #[.int .i64 ((rd_T57 l0_0 x13_1).f0), .int .i64 ((rd_T57 l0_0 x13_1).f1.f0), .int .i64 ((rd_T57 l0_0 x13_1).f1.f1), .int .i64 ((rd_T57 l0_0 x13_1).f2), .int .i64 ((rd_T57 l0_0 x13_1).f3)] 57 (0, 0)) (bk_ BK726) hg (Kd.R_ne HO_3.out BK726.out (by decide))); replace HB := aa_ (hb); have HO730 := aa_ (ho); clear HO_3; clear ho hb hg hat))
       go_roundg k1
       case measure => have := HK1.out; omega
       case rel => exact ⟨(y728), (wrap64 (x13_1 + 1)), rf_, H', ⟨by have := HK1.out; omega⟩, ⟨rr_ HO730⟩, ⟨bk_ BK720⟩, ⟨bl_⟩⟩
     ·rw [if_neg c14] at H
      have c14b0 : (((rd_T57 l0_0 x13_1).f0) == 1) = false := beq_eq_false_iff_ne.mpr c14
      have c14b1 : (((rd_T57 l0_0 x13_1).f0) != 1) = true := bne_iff_ne.mpr c14
      have H' := aa_ H
      clear H
      have p725 : 0 ≤ (x13_1 : Int) := od_
      have q725 : x13_1 < (l0_0.length : Int) := od_
      obtain ⟨ad725, e725, hx725_0, hx725_1, hx725_2, hx725_3, hx725_4⟩ := at_T57 (Kd.C_below HR0_0.out HB.out) x13_1 p725 q725
      cases e725
      replace p725 := eq_true p725
      replace q725 := eq_true q725
      go_wp2_with (first | ((with_reducible refine gD_ 5 rfl ?_); refine bx_ (N := 5) (cs := #[.int .i64 0, .int .i64 0, .int .i64 0, .int .i64 0, .int .i64 0]) (t := 57) ?_; intro gb726 hg w27 hbox hb; replace HO_3 := hob_ HO_3 hb; have BK726 := aa_ (hbox); have GW726 := gs_ hg; have GE726 := gs_ hg; replace HB := hbs_ hb; have NB720_726 := nl_ hg BK720; have NB726_720 := nr_ hg BK720; replace BK720 := bkb_ BK720 hb; clear hb hbox hg; have hnb28 := NB726_720.out; have hnc28 := NB720_726.out; obtain ⟨hcz29, hfz29⟩ := bcf_ BK726))
      go_roundg k1
      case measure => have := HK1.out; omega
      case rel => exact ⟨(x3_1), (wrap64 (x13_1 + 1)), rf_, H', ⟨by have := HK1.out; omega⟩, ⟨by (with_reducible repeat (first | apply Kd.R_alloc | apply Kd.R_drewN | apply Kd.R_drew)); exact Kd.R_mono (fr5_ (Kd.R_types HO_3.out BK726.out (by decide)) (fun _ hk => hk.2)) (fun _ hk => trivial)⟩, ⟨bk_ BK720⟩, ⟨bl_⟩⟩
    ·rw [if_neg c11] at H
     have c11b0 : decide (x13_1 < (l0_0.length : Int)) = false := decide_eq_false c11
     clear c11
     (first | rw [c11b0] | (simp only [i64_w, i32_w]; rw [c11b0]) | (have cz_ := c11b0; simp only [Int.ofNat_lt, Int.ofNat_le, gt_iff_lt, ge_iff_le] at cz_; rw [cz_]; clear cz_) | skip)
     obtain rfl := Option.some.inj H
     go_wp2
     go_ret
     exact ⟨_, eq_, by (with_reducible repeat (first | apply Kd.R_alloc | apply Kd.R_drewN | apply Kd.R_drew)); exact HO_3.out, bl_⟩
 ·replace c7 := Bool.eq_false_iff.mpr c7
  subst c7
  replace H := ite_f_ H
  obtain rfl := Option.some.inj H
  go_wp2
  go_ret
  exact ⟨_, eq_, by first | exact Kd.R_nil _ _ _ _ _ | exact Kd.N_nil _ _ _ _ _ | exact Kd.V_nil _ _ _ _ _ | exact Kd.Q_nil _ _ _ _ _ | exact Kd.S_nil _ _ _ _ _, bl_⟩
def spec_l13Done.l0 : Nat → List (S55) → Int → Int → Int → Option (Bool)
 | 0, _, _, _, _ => none
 | k + 1, x0, x5, x732000, x732001 => if x5 < (x0.length : Int) then (if 0 ≤ x5 then (if (((rd_T55 x0 x5).f0) == x732000 && (((rd_T55 x0 x5).f1) == x732001)) = true then (some true) else (spec_l13Done.l0 k x0 (wrap64 (x5 + 1)) x732000 x732001)) else (none)) else (some false)
def spec_l13Done.f (k : Nat) (l0 : List (S55)) (a1_0 : Int) (a1_1 : Int) : Option (Bool) := spec_l13Done.l0 k l0 0 a1_0 a1_1
set_option maxHeartbeats 8000000 in
set_option maxRecDepth 100000 in
theorem spec_l13Done.calls (k : Nat) (A0 : Option Addr) (c0 : Nat) (l0 : List (S55)) (a1_0 : Int) (a1_1 : Int) (r : Bool) (w : World) (hr0 : Kd.C k55 w A0 l0.length l0) (hc0 : l0.length ≤ c0) (h : spec_l13Done.f k l0 a1_0 a1_1 = some r) :
  Calls Try.prog 57 #[.slice A0 l0.length c0, .agg #[.int .i64 a1_0, .int .i64 a1_1]] w fun e w' => e = .returned (.bool r) ∧ Below w.heap.size w w' := by
 have hu55 := Try.underlying55
 have HR0 := aa_ hr0
 have HC0 := aa_ hc0
 clear hr0 hc0
 have HB := aa_ (Below.refl w.heap.size w)
 have H : (spec_l13Done.l0 k l0 0 a1_0 a1_1) = some r := h
 clear h
 have H' := aa_ H
 clear H
 go_enter Try.func57, Try.ntmps57
 go_wp2_with (first | ((with_reducible refine gD_ 3 rfl ?_); refine bx_ (N := 3) (cs := #[.int .i64 a1_0, .int .i64 a1_1]) (t := 55) ?_; intro gb731 hg w3 hbox hb; have BK731 := aa_ (hbox); have GW731 := gs_ hg; have GE731 := gs_ hg; replace HB := hbs_ hb; clear hb hbox hg))
 repeat (go_quiet (first | ((with_reducible refine gD_ 3 rfl ?_); refine bx_ (N := 3) (cs := #[.int .i64 a1_0, .int .i64 a1_1]) (t := 55) ?_; intro gb731 hg w3 hbox hb; have BK731 := aa_ (hbox); have GW731 := gs_ hg; have GE731 := gs_ hg; replace HB := hbs_ hb; clear hb hbox hg)); try go_wp2_with (first | ((with_reducible refine gD_ 3 rfl ?_); refine bx_ (N := 3) (cs := #[.int .i64 a1_0, .int .i64 a1_1]) (t := 55) ?_; intro gb731 hg w3 hbox hb; have BK731 := aa_ (hbox); have GW731 := gs_ hg; have GE731 := gs_ hg; replace HB := hbs_ hb; clear hb hbox hg)))
 go_loopg [5] k (fun kq v5 w' => ∃ (x5_1 : Int), v5 = .int .i64 x5_1 ∧ Aside0 (spec_l13Done.l0 kq l0 x5_1 a1_0 a1_1 = some r) ∧ Aside0 (kq ≤ k) ∧ Aside0 (w'.heap[gb731]? = some (.cells #[.int .i64 a1_0, .int .i64 a1_1] 55 (0, 0))) ∧ Aside0 (Below w.heap.size w w'))
 case atStart => exact ⟨(0), rf_, H', ⟨Nat.le_refl _⟩, ⟨bk_ BK731⟩, ⟨bl_⟩⟩
 case round =>
  clear H'
  try clear p2
  obtain ⟨x5_1, rfl, HA, HK1, BK731, HB⟩ := hrel
  cases gk with
  | zero => exact absurd HA.out (by simp [spec_l13Done.l0])
  | succ k1 =>
   have H := HA.out
   clear HA
   simp only [spec_l13Done.l0] at H
   by_cases c4 : x5_1 < (l0.length : Int)
   ·rw [if_pos c4] at H
    have c4b0 : decide (x5_1 < (l0.length : Int)) = true := decide_eq_true c4
    clear c4
    obtain ⟨c5b0, H⟩ := ifd_ H
    have HC6 := aa_ H
    clear H
    have p732 : 0 ≤ (x5_1 : Int) := od_
    have q732 : x5_1 < (l0.length : Int) := od_
    obtain ⟨ad732, e732, hx732_0, hx732_1⟩ := at_T55 (Kd.C_below HR0.out HB.out) x5_1 p732 q732
    cases e732
    replace p732 := eq_true p732
    replace q732 := eq_true q732
    have hcz7 := blk_cell BK731.out
    have hfz7 := blk_frozen BK731.out
    go_upto_if 17 with (fail)
    repeat (go_quiet (fail); go_upto_if 17 with (fail))
    have H := HC6.out
    clear HC6
    by_cases c8 : (((rd_T55 l0 x5_1).f0) == a1_0 && (((rd_T55 l0 x5_1).f1) == a1_1)) = true
    ·rw [if_pos c8] at H
     have c8b0 : (((rd_T55 l0 x5_1).f0) == a1_0 && (((rd_T55 l0 x5_1).f1) == a1_1)) = true := c8
     (try (have c8b1 : decide (((rd_T55 l0 x5_1).f0) = a1_0 && (((rd_T55 l0 x5_1).f1) == a1_1)) = true := by simpa using c8))
     (try (have c8b2 : (((rd_T55 l0 x5_1).f0) == a1_0 && (((rd_T55 l0 x5_1).f1) == a1_1)) = true := by simpa using c8))
     clear c8
     (first | rw [c8b0] | (simp only [i64_w, i32_w]; rw [c8b0]) | skip)
     obtain rfl := Option.some.inj H
     go_wp2
     repeat (go_quiet (fail); try go_wp2)
     go_ret
     exact ⟨eq_, bl_⟩
    ·rw [if_neg c8] at H
     have c8b0 : (((rd_T55 l0 x5_1).f0) == a1_0 && (((rd_T55 l0 x5_1).f1) == a1_1)) = false := by simpa using c8
     (try (have c8b1 : decide (((rd_T55 l0 x5_1).f0) = a1_0 && (((rd_T55 l0 x5_1).f1) == a1_1)) = false := by simpa using c8))
     (try (have c8b2 : (((rd_T55 l0 x5_1).f0) == a1_0 && (((rd_T55 l0 x5_1).f1) == a1_1)) = false := by simpa using c8))
     (try (have c8b3 : ¬ (((rd_T55 l0 x5_1).f0) = a1_0 && (((rd_T55 l0 x5_1).f1) == a1_1)) := by simpa using c8))
     clear c8
     (first | rw [c8b0] | (simp only [i64_w, i32_w]; rw [c8b0]) | skip)
     have H' := aa_ H
     clear H
     go_wp2
     repeat (go_quiet (fail); try go_wp2)
     go_roundg k1
     case measure => have := HK1.out; omega
     case rel => exact ⟨(wrap64 (x5_1 + 1)), rf_, H', ⟨by have := HK1.out; omega⟩, ⟨bk_ BK731⟩, ⟨bl_⟩⟩
   ·rw [if_neg c4] at H
    have c4b0 : decide (x5_1 < (l0.length : Int)) = false := decide_eq_false c4
    clear c4
    obtain rfl := Option.some.inj H
    go_wp2
    repeat (go_quiet (fail); try go_wp2)
    go_ret
    exact ⟨eq_, bl_⟩
def spec_l18Add.f (k : Nat) (l0 : List (S55)) (a1_0 : Int) (a1_1 : Int) : Option ((List (S55))) := (spec_l13Done.f k l0 a1_0 a1_1).bind fun t734 => (if t734 = true then (some l0) else ((some (([] : List (S55)) : List (S55))).bind fun y735 => (if y735.length + l0.length < 8796093022208 then ((some (y735 ++ l0 : List (S55))).bind fun y738 => ((some (([(⟨a1_0, a1_1⟩ : S55)] : List (S55)) : List (S55))).bind fun y741 => (if y738.length + y741.length < 8796093022208 then (some (y738 ++ y741)) else (none)))) else (none))))
set_option maxHeartbeats 8000000 in
set_option maxRecDepth 100000 in
theorem spec_l18Add.calls (k : Nat) (P0_ : Nat → Prop) (u9000_ : Value) (l0 : List (S55)) (a1_0 : Int) (a1_1 : Int) (r : List (S55)) (w0 w : World) (hB : Below w0.heap.size w0 w) (ho0 : Kd.R k55 55 w w0.heap.size P0_ u9000_ l0) (h : spec_l18Add.f k l0 a1_0 a1_1 = some r) :
  Calls Try.prog 44 #[u9000_, .agg #[.int .i64 a1_0, .int .i64 a1_1]] w fun e w' => ∃ v0_ : Value, e = .returned (v0_) ∧ Kd.R k55 55 w' w0.heap.size (fun k_ => (P0_ k_ ∨ w.heap.size ≤ k_)) v0_ r ∧ Below w0.heap.size w0 w' ∧ Kept w w' (fun k_ => P0_ k_) := by
 have hu55 := Try.underlying55
 have HO0 := aa_ (show Kd.R k55 55 w w0.heap.size (fun k_ => (P0_ k_ ∨ w.heap.size ≤ k_)) u9000_ l0 from Kd.R_mono ho0 (fun k_ hk => (.inl hk)))
 have HK := aa_ (Kept.refl w (fun k_ => P0_ k_))
 have HW0 := aa_ hB.size
 have HB := aa_ hB
 clear hB
 have H : ((spec_l13Done.f k l0 a1_0 a1_1).bind fun t734 => (if t734 = true then (some l0) else ((some (([] : List (S55)) : List (S55))).bind fun y735 => (if y735.length + l0.length < 8796093022208 then ((some (y735 ++ l0 : List (S55))).bind fun y738 => ((some (([(⟨a1_0, a1_1⟩ : S55)] : List (S55)) : List (S55))).bind fun y741 => (if y738.length + y741.length < 8796093022208 then (some (y738 ++ y741)) else (none)))) else (none))))) = some r := h
 clear h
 obtain ⟨t734, A3, H⟩ := bindE_ H
 have HC4 := aa_ H
 clear H
 go_enter Try.func44, Try.ntmps44
 go_upto_if 7 with (first | ((with_reducible refine gD_ 3 rfl ?_); refine bx_ (N := 3) (cs := #[.int .i64 a1_0, .int .i64 a1_1]) (t := 55) ?_; intro gb733 hg w5 hbox hb; replace HO0 := aa_ (Kd.R_below (Kd.R_elderB (rr_ HO0) gb733 (Nat.le_of_eq hg.symm)) hb); have BK733 := aa_ (hbox); have GW733 := aa_ ((by rw [hg]; exact (by first | exact HK.out.1 | exact (show Kept w _ (fun k_ => P0_ k_) from by repeat (first | (with_reducible first | exact HK.out | apply Kept.alloc | apply Kept.drewN | apply Kept.drew) | exact HK.out)).1) : w.heap.size ≤ gb733)); replace HK := aa_ (Kept.below (S := (fun k_ => P0_ k_)) (by repeat (first | (with_reducible first | exact HK.out | apply Kept.alloc | apply Kept.drewN | apply Kept.drew) | exact HK.out)) hb); have GE733 := aa_ ((by rw [hg]; exact bls_ : w0.heap.size ≤ gb733)); replace HB := hbs_ hb; clear hb hbox hg; obtain ⟨hcz6, hfz6⟩ := bcf_ BK733; obtain ⟨Ao7, co7, eo7⟩ := Kd.R_slice HO0.out; subst eo7) | ((with_reducible refine gC_ 57 rfl ?_); refine goesC_ (some 7) Try.func57 #[.slice Ao7 l0.length co7, .agg #[.int .i64 a1_0, .int .i64 a1_1]] ?_; (with_reducible refine (spec_l13Done.calls k _ _ l0 a1_0 a1_1 t734 _ ?side1 ?side2 A3.out).mono ?_); (case side1 => repeat (first | exact (Kd.R_reads' HO0.out).2.2 | (with_reducible refine Kd.C_alloc ?_ _) | (with_reducible refine Kd.C_drewN ?_ _) | (with_reducible refine Kd.C_drew ?_))); (case side2 => exact (Kd.R_reads' HO0.out).2.1); rintro e w8 ⟨rfl, hb⟩; refine ⟨_, rfl, ?_⟩; replace HO0 := hob_ HO0 hb; replace BK733 := bkb_ BK733 hb; replace HK := aa_ (Kept.below (S := (fun k_ => P0_ k_)) (by repeat (first | (with_reducible first | exact HK.out | apply Kept.alloc | apply Kept.drewN | apply Kept.drew | refine Kept.setCell ?_ (.inr GW733.out) _) | exact HK.out)) hb); replace HB := hbs_ hb; clear hb))
 (try simp only [Act.put, List.setIfInBounds_toArray, List.set_cons_zero, List.set_cons_succ])
 have H := HC4.out
 clear HC4
 by_cases c9 : t734 = true
 ·subst c9
  replace H := ite_t_ H
  obtain rfl := Option.some.inj H
  go_wp2
  go_ret
  exact ⟨_, eq_, by (with_reducible repeat (first | apply Kd.R_alloc | apply Kd.R_drewN | apply Kd.R_drew)); exact Kd.R_mono HO0.out (fun _ hk => hk.1), bl_, by repeat (first | (with_reducible first | exact HK.out | apply Kept.alloc | apply Kept.drewN | apply Kept.drew | refine Kept.setCell ?_ (.inr GW733.out) _) | exact HK.out)⟩
 ·replace c9 := Bool.eq_false_iff.mpr c9
  subst c9
  replace H := ite_f_ H
  obtain ⟨y735, hy735⟩ : ∃ y_ : List (S55), y_ = (([] : List (S55))) := ⟨_, rfl⟩
  replace H : (if y735.length + l0.length < 8796093022208 then ((some (y735 ++ l0 : List (S55))).bind fun y738 => ((some (([(⟨a1_0, a1_1⟩ : S55)] : List (S55)) : List (S55))).bind fun y741 => (if y738.length + y741.length < 8796093022208 then (some (y738 ++ y741)) else (none)))) else (none)) = some r := rh_ hy735 H
  have Ny735 := aa_ hy735
  clear hy735
  obtain ⟨c10, H⟩ := ifn_ H
  have LMc10 := aa_ c10
  clear c10
  obtain ⟨y738, hy738⟩ : ∃ y_ : List (S55), y_ = (y735 ++ l0) := ⟨_, rfl⟩
  replace H : ((some (([(⟨a1_0, a1_1⟩ : S55)] : List (S55)) : List (S55))).bind fun y741 => (if y738.length + y741.length < 8796093022208 then (some (y738 ++ y741)) else (none))) = some r := rh_ hy738 H
  have Ny738 := aa_ hy738
  clear hy738
  obtain ⟨y741, hy741⟩ : ∃ y_ : List (S55), y_ = (([(⟨a1_0, a1_1⟩ : S55)] : List (S55))) := ⟨_, rfl⟩
  replace H : (if y738.length + y741.length < 8796093022208 then (some (y738 ++ y741)) else (none)) = some r := rh_ hy741 H
  have Ny741 := aa_ hy741
  clear hy741
  obtain ⟨c11, H⟩ := ifn_ H
  have LMc11 := aa_ c11
  clear c11
  obtain ⟨y744, hy744⟩ : ∃ y_ : List (S55), y_ = (y738 ++ y741) := ⟨_, rfl⟩
  replace H : (some y744) = some r := rh_ hy744 H
  have Ny744 := aa_ hy744
  clear hy744
  obtain rfl := Option.some.inj H
  try go_wp2
  replace HO0 := aa_ (Kd.R_drew HO0.out)
  replace BK733 := aa_ (blk_drew BK733.out)
  replace HK := aa_ (Kept.drew HK.out)
  replace HB := aa_ (below_drew1 HB.out)
  refine start_ (n := 7) (S := fun w' => w'.cell? ⟨gb733, 0, none⟩ = some (.int .i64 a1_0) ∧ w'.cell? ⟨gb733, 1, none⟩ = some (.int .i64 a1_1)) (ds := []) (ba_ 7 0) (by kernel_rfl) rfl rfl ⟨(blk_cell BK733.out 0).trans rfl, (blk_cell BK733.out 1).trans rfl⟩ (fun hHeld => ?_)
  generalize w8.drew = w12 at HO0 BK733 HK HB hHeld ⊢
  refine pure_ (i := 1) (N := some 10) (v := ?_) (a' := ?_) (ba_ 7 2) rfl rfl (by kernel_rfl) (fun _ _ _ h => h) (Or.inl ⟨by rfl, ?_⟩) ?_ ?_
  rotate_left
  ·intro w'
   go_simp
   with_reducible rfl
  rotate_left
  ·simp only [Act.put, List.setIfInBounds_toArray, List.set_cons_zero, List.set_cons_succ, i64_w, i32_w]
   rfl
  refine take_ (i := 3) (N := some 12) (v := ?_) (a' := ?_) (ba_ 7 10) rfl rfl (by kernel_rfl) (fun _ _ _ h => h) (Or.inl ⟨by rfl, ?_⟩) hHeld ?_ ?_
  rotate_left
  ·rintro w' ⟨s0, s1⟩
   go_simp
   with_reducible rfl
  rotate_left
  ·simp only [Act.put, List.setIfInBounds_toArray, List.set_cons_zero, List.set_cons_succ, i64_w, i32_w]
   rfl
  refine join_ (σ := Value × Value × Value) 2 (ba_ 7 31) (fun s_ => [(9, s_.1), (11, s_.2.1), (13, s_.2.2)]) (fun s_ w' => (w'.cell? ⟨gb733, 0, none⟩ = some (.int .i64 a1_0) ∧ w'.cell? ⟨gb733, 1, none⟩ = some (.int .i64 a1_1)) ∧ (Kd.R k55 55 w' w0.heap.size (fun k_ => (P0_ k_ ∨ w.heap.size ≤ k_) ∧ some k_ ≠ (s_.2.1 : Value).ownBlock ∧ some k_ ≠ (s_.2.2 : Value).ownBlock ∧ k_ ≠ gb733) (.slice Ao7 l0.length co7) l0) ∧ (Kd.R k55 55 w' w0.heap.size (fun k_ => (P0_ k_ ∨ w.heap.size ≤ k_) ∧ some k_ ≠ (.slice Ao7 l0.length co7 : Value).ownBlock ∧ some k_ ≠ (s_.2.2 : Value).ownBlock ∧ k_ ≠ gb733) s_.2.1 y738) ∧ (Kd.R k55 55 w' w0.heap.size (fun k_ => (P0_ k_ ∨ w.heap.size ≤ k_) ∧ some k_ ≠ (.slice Ao7 l0.length co7 : Value).ownBlock ∧ some k_ ≠ (s_.2.1 : Value).ownBlock ∧ k_ ≠ gb733) s_.2.2 y741) ∧ (w'.heap[gb733]? = some (.cells #[.int .i64 a1_0, .int .i64 a1_1] 55 (0, 0))) ∧ (Kept w w' (fun k_ => P0_ k_)) ∧ (Below w0.heap.size w0 w')) ?_ ?_
  rotate_left
  ·intro hCont
   refine two_ (i := 0) (j := 4) (Ni := some 9) (Nj := some 13) (ba_ 7 11) (ba_ 7 26) rfl rfl rfl rfl (by kernel_rfl) (by decide) (by decide) (fun K hK => ?_) (fun K hK => ?_)
   ·skip
    refine Kd.R_lit_step k55 _ 55 ?hg (N := 9) ?hd (xs := ([] : List (S55))) (inner := []) (ok := fun _ => True) (okp := fun _ => True) ?hr ?hp (fun _ hk => hk) trivial (Below.refl _ _) (Nat.le_refl _) (by simp) ?_; (case hd => rfl); (case hg => rfl); (case hr => first | (go_simp; done) | (go_simp; rfl)); (case hp => exact (Reps.none _ _))
    intro v736 w13 ho14 hb hg_ hnew_
    clear hg_ hnew_
    (first | rw [← Ny735.out] at ho14 | (simp only [Int.reduceToNat] at ho14; rw [← Ny735.out] at ho14))
    have HO737 := aa_ (Kd.R_lower (Kd.R_newB (Kd.R_new' (Kd.R_newM (M := fun k_ => (P0_ k_ ∨ w.heap.size ≤ k_)) ho14 (by first | exact HK.out.1 | exact (show Kept w _ (fun k_ => P0_ k_) from by repeat (first | (with_reducible first | exact HK.out | apply Kept.alloc | apply Kept.drewN | apply Kept.drew | refine Kept.setCell ?_ (.inr GW733.out) _) | exact HK.out)).1) (fun k_ h_ => .inr h_)) (Kd.R_lt (rr_ HO0))) (g := gb733) (o := .cells #[.int .i64 a1_0, .int .i64 a1_1] 55 (0, 0)) (bk_ BK733)) bls_)
    replace HO0 := aa_ (Kd.R_elder' (rr_ HO0) (Kd.R_base ho14) hb)
    replace BK733 := bkb_ BK733 hb
    replace HK := aa_ (Kept.below (S := (fun k_ => P0_ k_)) (by repeat (first | (with_reducible first | exact HK.out | apply Kept.alloc | apply Kept.drewN | apply Kept.drew | refine Kept.setCell ?_ (.inr GW733.out) _) | exact HK.out)) hb)
    replace HB := hbs_ hb
    clear hb ho14
    refine hK.out _ _ ⟨(blk_cell BK733.out 0).trans rfl, (blk_cell BK733.out 1).trans rfl⟩ (fun hHeld => ?_)
    clear hK K
    refine norm_ (a' := ?_) ?_ ?_
    rotate_left
    ·show Act.put _ (some 9) _ = _
     simp only [Act.put, List.setIfInBounds_toArray, List.set_cons_zero, List.set_cons_succ, i64_w, i32_w]
     rfl
    refine two_ (i := 2) (j := 4) (Ni := some 11) (Nj := some 13) (ba_ 7 15) (ba_ 7 27) rfl rfl rfl rfl (by kernel_rfl) (by decide) (by decide) (fun K hK => ?_) (fun K hK => ?_)
    ·skip
     refine Kd.R_append_rows_step k55 (w0 := w0) w0.heap.size (by rfl) (.tmp 9) (.tmp 10) 37 55 (.agg #[(.int .i64 0), (.int .i64 0)]) 16 rfl Try.underlying37 info55 rfl (by decide) (by omega) v736 y735 l0 _ _ _ (fun k_ => (P0_ k_ ∨ w.heap.size ≤ k_) ∧ some k_ ≠ (.slice Ao7 l0.length co7 : Value).ownBlock ∧ k_ ≠ gb733) (fun _ => False) rfl rfl ?aO ?aR (fun _ _ h => h) (fun _ h => h.elim) ?aF ?aB ?aS ?aL ?_
     (case aR => repeat (first | exact (Kd.R_reads' HO0.out).2.2 | (with_reducible refine Kd.C_alloc ?_ _) | (with_reducible refine Kd.C_drewN ?_ _) | (with_reducible refine Kd.C_drew ?_)))
     (case aB => exact bl_)
     (case aF => exact (fun k_ hk => ⟨(.inr (Nat.le_trans (by first | exact HK.out.1 | exact (show Kept w _ (fun k_ => P0_ k_) from by repeat (first | (with_reducible first | exact HK.out | apply Kept.alloc | apply Kept.drewN | apply Kept.drew | refine Kept.setCell ?_ (.inr GW733.out) _) | exact HK.out)).1) hk)), Kd.fresh' (Kd.R_lt (rr_ HO0)) k_ hk, Kd.freshB (g := gb733) (o := .cells #[.int .i64 a1_0, .int .i64 a1_1] 55 (0, 0)) (bk_ BK733) k_ hk⟩))
     (case aO => exact (by (with_reducible repeat (first | apply Kd.R_alloc | apply Kd.R_drewN | apply Kd.R_drew)); exact Kd.R_mono HO737.out (fun _ hk => ⟨hk.1.1.1, ⟨hk.1.2, hk.2⟩⟩)))
     (case aS => exact bls_)
     (case aL => have := LMc10.out; omega)
     intro v739 w15 ho hb hg hat
     rw [← Ny738.out] at ho
     replace HO0 := aa_ (Kd.R_after (ok := (fun k_ => (P0_ k_ ∨ w.heap.size ≤ k_) ∧ k_ ≠ gb733)) (rr_ HO0) hg hat)
     replace BK733 := aa_ (blk_grown (g := gb733) (o := .cells #[.int .i64 a1_0, .int .i64 a1_1] 55 (0, 0)) (bk_ BK733) hg (Kd.R_away HO737.out (fun _ hk => hk.2)))
     replace HB := aa_ (hb)
     replace HK := aa_ (Kept.of_grown (S := (fun k_ => P0_ k_)) hg (by repeat (first | (with_reducible first | exact HK.out | apply Kept.alloc | apply Kept.drewN | apply Kept.drew | refine Kept.setCell ?_ (.inr GW733.out) _) | exact HK.out)) (fun k_ e_ => (HO737.out.1 k_ e_).1.1.1))
     have HO740 := aa_ (ho)
     clear HO737
     clear ho hb hg hat
     refine hK.out _ _ ⟨(blk_cell BK733.out 0).trans rfl, (blk_cell BK733.out 1).trans rfl⟩ (fun hHeld => ?_)
     clear hK K
     refine norm_ (a' := ?_) ?_ ?_
     rotate_left
     ·show Act.put _ (some 11) _ = _
      simp only [Act.put, List.setIfInBounds_toArray, List.set_cons_zero, List.set_cons_succ, i64_w, i32_w]
      rfl
     refine one_ (i := 4) (N := some 13) (ba_ 7 31) rfl rfl (by kernel_rfl) (by decide) (fun K hK => ?_)
     refine Kd.R_lit_step k55 _ 55 ?hg (N := 13) ?hd (xs := ([(⟨a1_0, a1_1⟩ : S55)] : List (S55))) (inner := [.int .i64 a1_0, .int .i64 a1_1]) (ok := fun _ => True) (okp := fun _ => True) ?hr ?hp (fun _ hk => hk) trivial (Below.refl _ _) (Nat.le_refl _) (by simp) ?_; (case hd => rfl); (case hg => rfl); (case hr => first | (go_simp; done) | (go_simp; rfl)); (case hp => exact (Reps.c2 (show Kd.M k55 _ _ _ (⟨a1_0, a1_1⟩ : S55) [.int .i64 a1_0, .int .i64 a1_1] from (k55_mkM _ _ _ (⟨a1_0, a1_1⟩ : S55) )) (Reps.none _ _)))
     intro v742 w16 ho17 hb hg_ hnew_
     clear hg_ hnew_
     (first | rw [← Ny741.out] at ho17 | (simp only [Int.reduceToNat] at ho17; rw [← Ny741.out] at ho17))
     have HO743 := aa_ (Kd.R_lower (Kd.R_newB (Kd.R_new' (Kd.R_new' (Kd.R_newM (M := fun k_ => (P0_ k_ ∨ w.heap.size ≤ k_)) ho17 (by first | exact HK.out.1 | exact (show Kept w _ (fun k_ => P0_ k_) from by repeat (first | (with_reducible first | exact HK.out | apply Kept.alloc | apply Kept.drewN | apply Kept.drew | refine Kept.setCell ?_ (.inr GW733.out) _) | exact HK.out)).1) (fun k_ h_ => .inr h_)) (Kd.R_lt (rr_ HO0))) (Kd.R_lt (rr_ HO740))) (g := gb733) (o := .cells #[.int .i64 a1_0, .int .i64 a1_1] 55 (0, 0)) (bk_ BK733)) bls_)
     replace HO0 := aa_ (Kd.R_elder' (rr_ HO0) (Kd.R_base ho17) hb)
     replace HO740 := aa_ (Kd.R_elder' (rr_ HO740) (Kd.R_base ho17) hb)
     replace BK733 := bkb_ BK733 hb
     replace HK := aa_ (Kept.below (S := (fun k_ => P0_ k_)) (by repeat (first | (with_reducible first | exact HK.out | apply Kept.alloc | apply Kept.drewN | apply Kept.drew | refine Kept.setCell ?_ (.inr GW733.out) _) | exact HK.out)) hb)
     replace HB := hbs_ hb
     clear hb ho17
     refine hK.out _ _ ⟨(blk_cell BK733.out 0).trans rfl, (blk_cell BK733.out 1).trans rfl⟩ (fun hHeld => ?_)
     clear hK K
     refine norm_ (a' := ?_) ?_ ?_
     rotate_left
     ·show Act.put _ (some 13) _ = _
      simp only [Act.put, List.setIfInBounds_toArray, List.set_cons_zero, List.set_cons_succ, i64_w, i32_w]
      rfl
     exact norm_ (by simp only [putAll, Act.put, List.setIfInBounds_toArray, List.set_cons_zero, List.set_cons_succ]) (hCont (v736, v739, v742) _ ⟨hHeld, (by (with_reducible repeat (first | apply Kd.R_alloc | apply Kd.R_drewN | apply Kd.R_drew)); exact Kd.R_mono HO0.out (fun _ hk => ⟨hk.1.1.1, ⟨hk.1.2, ⟨hk.2, hk.1.1.2⟩⟩⟩)), (by (with_reducible repeat (first | apply Kd.R_alloc | apply Kd.R_drewN | apply Kd.R_drew)); exact Kd.R_mono HO740.out (fun _ hk => ⟨hk.1.1, ⟨hk.1.2.1, ⟨hk.2, hk.1.2.2⟩⟩⟩)), (by (with_reducible repeat (first | apply Kd.R_alloc | apply Kd.R_drewN | apply Kd.R_drew)); exact Kd.R_mono HO743.out (fun _ hk => ⟨hk.1.1.1.1, ⟨hk.1.1.2, ⟨hk.1.2, hk.2⟩⟩⟩)), (bk_ BK733), (by repeat (first | (with_reducible first | exact HK.out | apply Kept.alloc | apply Kept.drewN | apply Kept.drew | refine Kept.setCell ?_ (.inr GW733.out) _) | exact HK.out)), bl_⟩)
    ·skip
     refine Kd.R_lit_step k55 _ 55 ?hg (N := 13) ?hd (xs := ([(⟨a1_0, a1_1⟩ : S55)] : List (S55))) (inner := [.int .i64 a1_0, .int .i64 a1_1]) (ok := fun _ => True) (okp := fun _ => True) ?hr ?hp (fun _ hk => hk) trivial (Below.refl _ _) (Nat.le_refl _) (by simp) ?_; (case hd => rfl); (case hg => rfl); (case hr => first | (go_simp; done) | (go_simp; rfl)); (case hp => exact (Reps.c2 (show Kd.M k55 _ _ _ (⟨a1_0, a1_1⟩ : S55) [.int .i64 a1_0, .int .i64 a1_1] from (k55_mkM _ _ _ (⟨a1_0, a1_1⟩ : S55) )) (Reps.none _ _)))
     intro v742 w15 ho16 hb hg_ hnew_
     clear hg_ hnew_
     (first | rw [← Ny741.out] at ho16 | (simp only [Int.reduceToNat] at ho16; rw [← Ny741.out] at ho16))
     have HO743 := aa_ (Kd.R_lower (Kd.R_newB (Kd.R_new' (Kd.R_new' (Kd.R_newM (M := fun k_ => (P0_ k_ ∨ w.heap.size ≤ k_)) ho16 (by first | exact HK.out.1 | exact (show Kept w _ (fun k_ => P0_ k_) from by repeat (first | (with_reducible first | exact HK.out | apply Kept.alloc | apply Kept.drewN | apply Kept.drew | refine Kept.setCell ?_ (.inr GW733.out) _) | exact HK.out)).1) (fun k_ h_ => .inr h_)) (Kd.R_lt (rr_ HO0))) (Kd.R_lt (rr_ HO737))) (g := gb733) (o := .cells #[.int .i64 a1_0, .int .i64 a1_1] 55 (0, 0)) (bk_ BK733)) bls_)
     replace HO0 := aa_ (Kd.R_elder' (rr_ HO0) (Kd.R_base ho16) hb)
     replace HO737 := aa_ (Kd.R_elder' (rr_ HO737) (Kd.R_base ho16) hb)
     replace BK733 := bkb_ BK733 hb
     replace HK := aa_ (Kept.below (S := (fun k_ => P0_ k_)) (by repeat (first | (with_reducible first | exact HK.out | apply Kept.alloc | apply Kept.drewN | apply Kept.drew | refine Kept.setCell ?_ (.inr GW733.out) _) | exact HK.out)) hb)
     replace HB := hbs_ hb
     clear hb ho16
     refine hK.out _ _ ⟨(blk_cell BK733.out 0).trans rfl, (blk_cell BK733.out 1).trans rfl⟩ (fun hHeld => ?_)
     clear hK K
     refine norm_ (a' := ?_) ?_ ?_
     rotate_left
     ·show Act.put _ (some 13) _ = _
      simp only [Act.put, List.setIfInBounds_toArray, List.set_cons_zero, List.set_cons_succ, i64_w, i32_w]
      rfl
     refine one_ (i := 2) (N := some 11) (ba_ 7 31) rfl rfl (by kernel_rfl) (by decide) (fun K hK => ?_)
     refine Kd.R_append_rows_step k55 (w0 := w0) w0.heap.size (by rfl) (.tmp 9) (.tmp 10) 37 55 (.agg #[(.int .i64 0), (.int .i64 0)]) 16 rfl Try.underlying37 info55 rfl (by decide) (by omega) v736 y735 l0 _ _ _ (fun k_ => (P0_ k_ ∨ w.heap.size ≤ k_) ∧ some k_ ≠ (.slice Ao7 l0.length co7 : Value).ownBlock ∧ some k_ ≠ (v742 : Value).ownBlock ∧ k_ ≠ gb733) (fun _ => False) rfl rfl ?aO ?aR (fun _ _ h => h) (fun _ h => h.elim) ?aF ?aB ?aS ?aL ?_
     (case aR => repeat (first | exact (Kd.R_reads' HO0.out).2.2 | (with_reducible refine Kd.C_alloc ?_ _) | (with_reducible refine Kd.C_drewN ?_ _) | (with_reducible refine Kd.C_drew ?_)))
     (case aB => exact bl_)
     (case aF => exact (fun k_ hk => ⟨(.inr (Nat.le_trans (by first | exact HK.out.1 | exact (show Kept w _ (fun k_ => P0_ k_) from by repeat (first | (with_reducible first | exact HK.out | apply Kept.alloc | apply Kept.drewN | apply Kept.drew | refine Kept.setCell ?_ (.inr GW733.out) _) | exact HK.out)).1) hk)), Kd.fresh' (Kd.R_lt (rr_ HO0)) k_ hk, Kd.fresh' (Kd.R_lt (rr_ HO743)) k_ hk, Kd.freshB (g := gb733) (o := .cells #[.int .i64 a1_0, .int .i64 a1_1] 55 (0, 0)) (bk_ BK733) k_ hk⟩))
     (case aO => exact (by (with_reducible repeat (first | apply Kd.R_alloc | apply Kd.R_drewN | apply Kd.R_drew)); exact Kd.R_mono HO737.out (fun _ hk => ⟨hk.1.1.1.1, ⟨hk.1.1.2, ⟨hk.2, hk.1.2⟩⟩⟩)))
     (case aS => exact bls_)
     (case aL => have := LMc10.out; omega)
     intro v739 w17 ho hb hg hat
     rw [← Ny738.out] at ho
     replace HO0 := aa_ (Kd.R_after (ok := (fun k_ => (P0_ k_ ∨ w.heap.size ≤ k_) ∧ some k_ ≠ (v742 : Value).ownBlock ∧ k_ ≠ gb733)) (by (with_reducible repeat (first | apply Kd.R_alloc | apply Kd.R_drewN | apply Kd.R_drew)); exact Kd.R_mono HO0.out (fun _ hk => ⟨⟨hk.1.1.1, ⟨hk.2, hk.1.1.2⟩⟩, hk.1.2⟩)) hg hat)
     replace BK733 := aa_ (blk_grown (g := gb733) (o := .cells #[.int .i64 a1_0, .int .i64 a1_1] 55 (0, 0)) (bk_ BK733) hg (Kd.R_away HO737.out (fun _ hk => hk.1.2)))
     replace HO743 := aa_ (Kd.R_after (ok := (fun k_ => (P0_ k_ ∨ w.heap.size ≤ k_) ∧ some k_ ≠ (.slice Ao7 l0.length co7 : Value).ownBlock ∧ k_ ≠ gb733)) (by (with_reducible repeat (first | apply Kd.R_alloc | apply Kd.R_drewN | apply Kd.R_drew)); exact Kd.R_mono HO743.out (fun _ hk => ⟨⟨hk.1.1.1.1, ⟨hk.1.1.2, hk.2⟩⟩, hk.1.2⟩)) hg hat)
     replace HB := aa_ (hb)
     replace HK := aa_ (Kept.of_grown (S := (fun k_ => P0_ k_)) hg (by repeat (first | (with_reducible first | exact HK.out | apply Kept.alloc | apply Kept.drewN | apply Kept.drew | refine Kept.setCell ?_ (.inr GW733.out) _) | exact HK.out)) (fun k_ e_ => (HO737.out.1 k_ e_).1.1.1.1))
     have HO740 := aa_ (ho)
     clear HO737
     clear ho hb hg hat
     refine hK.out _ _ ⟨(blk_cell BK733.out 0).trans rfl, (blk_cell BK733.out 1).trans rfl⟩ (fun hHeld => ?_)
     clear hK K
     refine norm_ (a' := ?_) ?_ ?_
     rotate_left
     ·show Act.put _ (some 11) _ = _
      simp only [Act.put, List.setIfInBounds_toArray, List.set_cons_zero, List.set_cons_succ, i64_w, i32_w]
      rfl
     exact norm_ (by simp only [putAll, Act.put, List.setIfInBounds_toArray, List.set_cons_zero, List.set_cons_succ]) (hCont (v736, v739, v742) _ ⟨hHeld, (by (with_reducible repeat (first | apply Kd.R_alloc | apply Kd.R_drewN | apply Kd.R_drew)); exact Kd.R_mono HO0.out (fun _ hk => ⟨hk.1.1, ⟨hk.2, ⟨hk.1.2.1, hk.1.2.2⟩⟩⟩)), (rr_ HO740), (by (with_reducible repeat (first | apply Kd.R_alloc | apply Kd.R_drewN | apply Kd.R_drew)); exact Kd.R_mono HO743.out (fun _ hk => ⟨hk.1.1, ⟨hk.1.2.1, ⟨hk.2, hk.1.2.2⟩⟩⟩)), (bk_ BK733), (by repeat (first | (with_reducible first | exact HK.out | apply Kept.alloc | apply Kept.drewN | apply Kept.drew | refine Kept.setCell ?_ (.inr GW733.out) _) | exact HK.out)), bl_⟩)
   ·skip
    refine Kd.R_lit_step k55 _ 55 ?hg (N := 13) ?hd (xs := ([(⟨a1_0, a1_1⟩ : S55)] : List (S55))) (inner := [.int .i64 a1_0, .int .i64 a1_1]) (ok := fun _ => True) (okp := fun _ => True) ?hr ?hp (fun _ hk => hk) trivial (Below.refl _ _) (Nat.le_refl _) (by simp) ?_; (case hd => rfl); (case hg => rfl); (case hr => first | (go_simp; done) | (go_simp; rfl)); (case hp => exact (Reps.c2 (show Kd.M k55 _ _ _ (⟨a1_0, a1_1⟩ : S55) [.int .i64 a1_0, .int .i64 a1_1] from (k55_mkM _ _ _ (⟨a1_0, a1_1⟩ : S55) )) (Reps.none _ _)))
    intro v742 w13 ho14 hb hg_ hnew_
    clear hg_ hnew_
    (first | rw [← Ny741.out] at ho14 | (simp only [Int.reduceToNat] at ho14; rw [← Ny741.out] at ho14))
    have HO743 := aa_ (Kd.R_lower (Kd.R_newB (Kd.R_new' (Kd.R_newM (M := fun k_ => (P0_ k_ ∨ w.heap.size ≤ k_)) ho14 (by first | exact HK.out.1 | exact (show Kept w _ (fun k_ => P0_ k_) from by repeat (first | (with_reducible first | exact HK.out | apply Kept.alloc | apply Kept.drewN | apply Kept.drew | refine Kept.setCell ?_ (.inr GW733.out) _) | exact HK.out)).1) (fun k_ h_ => .inr h_)) (Kd.R_lt (rr_ HO0))) (g := gb733) (o := .cells #[.int .i64 a1_0, .int .i64 a1_1] 55 (0, 0)) (bk_ BK733)) bls_)
    replace HO0 := aa_ (Kd.R_elder' (rr_ HO0) (Kd.R_base ho14) hb)
    replace BK733 := bkb_ BK733 hb
    replace HK := aa_ (Kept.below (S := (fun k_ => P0_ k_)) (by repeat (first | (with_reducible first | exact HK.out | apply Kept.alloc | apply Kept.drewN | apply Kept.drew | refine Kept.setCell ?_ (.inr GW733.out) _) | exact HK.out)) hb)
    replace HB := hbs_ hb
    clear hb ho14
    refine hK.out _ _ ⟨(blk_cell BK733.out 0).trans rfl, (blk_cell BK733.out 1).trans rfl⟩ (fun hHeld => ?_)
    clear hK K
    refine norm_ (a' := ?_) ?_ ?_
    rotate_left
    ·show Act.put _ (some 13) _ = _
     simp only [Act.put, List.setIfInBounds_toArray, List.set_cons_zero, List.set_cons_succ, i64_w, i32_w]
     rfl
    refine one_ (i := 0) (N := some 9) (ba_ 7 27) rfl rfl (by kernel_rfl) (by decide) (fun K hK => ?_)
    refine Kd.R_lit_step k55 _ 55 ?hg (N := 9) ?hd (xs := ([] : List (S55))) (inner := []) (ok := fun _ => True) (okp := fun _ => True) ?hr ?hp (fun _ hk => hk) trivial (Below.refl _ _) (Nat.le_refl _) (by simp) ?_; (case hd => rfl); (case hg => rfl); (case hr => first | (go_simp; done) | (go_simp; rfl)); (case hp => exact (Reps.none _ _))
    intro v736 w15 ho16 hb hg_ hnew_
    clear hg_ hnew_
    (first | rw [← Ny735.out] at ho16 | (simp only [Int.reduceToNat] at ho16; rw [← Ny735.out] at ho16))
    have HO737 := aa_ (Kd.R_lower (Kd.R_newB (Kd.R_new' (Kd.R_new' (Kd.R_newM (M := fun k_ => (P0_ k_ ∨ w.heap.size ≤ k_)) ho16 (by first | exact HK.out.1 | exact (show Kept w _ (fun k_ => P0_ k_) from by repeat (first | (with_reducible first | exact HK.out | apply Kept.alloc | apply Kept.drewN | apply Kept.drew | refine Kept.setCell ?_ (.inr GW733.out) _) | exact HK.out)).1) (fun k_ h_ => .inr h_)) (Kd.R_lt (rr_ HO0))) (Kd.R_lt (rr_ HO743))) (g := gb733) (o := .cells #[.int .i64 a1_0, .int .i64 a1_1] 55 (0, 0)) (bk_ BK733)) bls_)
    replace HO0 := aa_ (Kd.R_elder' (rr_ HO0) (Kd.R_base ho16) hb)
    replace HO743 := aa_ (Kd.R_elder' (rr_ HO743) (Kd.R_base ho16) hb)
    replace BK733 := bkb_ BK733 hb
    replace HK := aa_ (Kept.below (S := (fun k_ => P0_ k_)) (by repeat (first | (with_reducible first | exact HK.out | apply Kept.alloc | apply Kept.drewN | apply Kept.drew | refine Kept.setCell ?_ (.inr GW733.out) _) | exact HK.out)) hb)
    replace HB := hbs_ hb
    clear hb ho16
    refine hK.out _ _ ⟨(blk_cell BK733.out 0).trans rfl, (blk_cell BK733.out 1).trans rfl⟩ (fun hHeld => ?_)
    clear hK K
    refine norm_ (a' := ?_) ?_ ?_
    rotate_left
    ·show Act.put _ (some 9) _ = _
     simp only [Act.put, List.setIfInBounds_toArray, List.set_cons_zero, List.set_cons_succ, i64_w, i32_w]
     rfl
    refine one_ (i := 2) (N := some 11) (ba_ 7 31) rfl rfl (by kernel_rfl) (by decide) (fun K hK => ?_)
    refine Kd.R_append_rows_step k55 (w0 := w0) w0.heap.size (by rfl) (.tmp 9) (.tmp 10) 37 55 (.agg #[(.int .i64 0), (.int .i64 0)]) 16 rfl Try.underlying37 info55 rfl (by decide) (by omega) v736 y735 l0 _ _ _ (fun k_ => (P0_ k_ ∨ w.heap.size ≤ k_) ∧ some k_ ≠ (.slice Ao7 l0.length co7 : Value).ownBlock ∧ some k_ ≠ (v742 : Value).ownBlock ∧ k_ ≠ gb733) (fun _ => False) rfl rfl ?aO ?aR (fun _ _ h => h) (fun _ h => h.elim) ?aF ?aB ?aS ?aL ?_
    (case aR => repeat (first | exact (Kd.R_reads' HO0.out).2.2 | (with_reducible refine Kd.C_alloc ?_ _) | (with_reducible refine Kd.C_drewN ?_ _) | (with_reducible refine Kd.C_drew ?_)))
    (case aB => exact bl_)
    (case aF => exact (fun k_ hk => ⟨(.inr (Nat.le_trans (by first | exact HK.out.1 | exact (show Kept w _ (fun k_ => P0_ k_) from by repeat (first | (with_reducible first | exact HK.out | apply Kept.alloc | apply Kept.drewN | apply Kept.drew | refine Kept.setCell ?_ (.inr GW733.out) _) | exact HK.out)).1) hk)), Kd.fresh' (Kd.R_lt (rr_ HO0)) k_ hk, Kd.fresh' (Kd.R_lt (rr_ HO743)) k_ hk, Kd.freshB (g := gb733) (o := .cells #[.int .i64 a1_0, .int .i64 a1_1] 55 (0, 0)) (bk_ BK733) k_ hk⟩))
    (case aO => exact (by (with_reducible repeat (first | apply Kd.R_alloc | apply Kd.R_drewN | apply Kd.R_drew)); exact Kd.R_mono HO737.out (fun _ hk => ⟨hk.1.1.1.1, ⟨hk.1.1.2, ⟨hk.1.2, hk.2⟩⟩⟩)))
    (case aS => exact bls_)
    (case aL => have := LMc10.out; omega)
    intro v739 w17 ho hb hg hat
    rw [← Ny738.out] at ho
    replace HO0 := aa_ (Kd.R_after (ok := (fun k_ => (P0_ k_ ∨ w.heap.size ≤ k_) ∧ some k_ ≠ (v742 : Value).ownBlock ∧ k_ ≠ gb733)) (by (with_reducible repeat (first | apply Kd.R_alloc | apply Kd.R_drewN | apply Kd.R_drew)); exact Kd.R_mono HO0.out (fun _ hk => ⟨⟨hk.1.1.1, ⟨hk.1.2, hk.1.1.2⟩⟩, hk.2⟩)) hg hat)
    replace BK733 := aa_ (blk_grown (g := gb733) (o := .cells #[.int .i64 a1_0, .int .i64 a1_1] 55 (0, 0)) (bk_ BK733) hg (Kd.R_away HO737.out (fun _ hk => hk.2)))
    replace HO743 := aa_ (Kd.R_after (ok := (fun k_ => (P0_ k_ ∨ w.heap.size ≤ k_) ∧ some k_ ≠ (.slice Ao7 l0.length co7 : Value).ownBlock ∧ k_ ≠ gb733)) (by (with_reducible repeat (first | apply Kd.R_alloc | apply Kd.R_drewN | apply Kd.R_drew)); exact Kd.R_mono HO743.out (fun _ hk => ⟨⟨hk.1.1.1.1, ⟨hk.1.1.2, hk.1.2⟩⟩, hk.2⟩)) hg hat)
    replace HB := aa_ (hb)
    replace HK := aa_ (Kept.of_grown (S := (fun k_ => P0_ k_)) hg (by repeat (first | (with_reducible first | exact HK.out | apply Kept.alloc | apply Kept.drewN | apply Kept.drew | refine Kept.setCell ?_ (.inr GW733.out) _) | exact HK.out)) (fun k_ e_ => (HO737.out.1 k_ e_).1.1.1.1))
    have HO740 := aa_ (ho)
    clear HO737
    clear ho hb hg hat
    refine hK.out _ _ ⟨(blk_cell BK733.out 0).trans rfl, (blk_cell BK733.out 1).trans rfl⟩ (fun hHeld => ?_)
    clear hK K
    refine norm_ (a' := ?_) ?_ ?_
    rotate_left
    ·show Act.put _ (some 11) _ = _
     simp only [Act.put, List.setIfInBounds_toArray, List.set_cons_zero, List.set_cons_succ, i64_w, i32_w]
     rfl
    exact norm_ (by simp only [putAll, Act.put, List.setIfInBounds_toArray, List.set_cons_zero, List.set_cons_succ]) (hCont (v736, v739, v742) _ ⟨hHeld, (by (with_reducible repeat (first | apply Kd.R_alloc | apply Kd.R_drewN | apply Kd.R_drew)); exact Kd.R_mono HO0.out (fun _ hk => ⟨hk.1.1, ⟨hk.2, ⟨hk.1.2.1, hk.1.2.2⟩⟩⟩)), (rr_ HO740), (by (with_reducible repeat (first | apply Kd.R_alloc | apply Kd.R_drewN | apply Kd.R_drew)); exact Kd.R_mono HO743.out (fun _ hk => ⟨hk.1.1, ⟨hk.1.2.1, ⟨hk.2, hk.1.2.2⟩⟩⟩)), (bk_ BK733), (by repeat (first | (with_reducible first | exact HK.out | apply Kept.alloc | apply Kept.drewN | apply Kept.drew | refine Kept.setCell ?_ (.inr GW733.out) _) | exact HK.out)), bl_⟩)
  rintro ⟨v736, v739, v742⟩ w18 ⟨hS_, h0_, h1_, h2_, h3_, h4_, h5_⟩
  have n0_ : Aside0 (Kd.R k55 55 w18 w0.heap.size (fun k_ => (P0_ k_ ∨ w.heap.size ≤ k_) ∧ some k_ ≠ (v739 : Value).ownBlock ∧ some k_ ≠ (v742 : Value).ownBlock ∧ k_ ≠ gb733) (.slice Ao7 l0.length co7) l0) := ⟨h0_⟩
  have n1_ : Aside0 (Kd.R k55 55 w18 w0.heap.size (fun k_ => (P0_ k_ ∨ w.heap.size ≤ k_) ∧ some k_ ≠ (.slice Ao7 l0.length co7 : Value).ownBlock ∧ some k_ ≠ (v742 : Value).ownBlock ∧ k_ ≠ gb733) v739 y738) := ⟨h1_⟩
  have n2_ : Aside0 (Kd.R k55 55 w18 w0.heap.size (fun k_ => (P0_ k_ ∨ w.heap.size ≤ k_) ∧ some k_ ≠ (.slice Ao7 l0.length co7 : Value).ownBlock ∧ some k_ ≠ (v739 : Value).ownBlock ∧ k_ ≠ gb733) v742 y741) := ⟨h2_⟩
  have n3_ : Aside0 (w18.heap[gb733]? = some (.cells #[.int .i64 a1_0, .int .i64 a1_1] 55 (0, 0))) := ⟨h3_⟩
  have n4_ : Aside0 (Kept w w18 (fun k_ => P0_ k_)) := ⟨h4_⟩
  have n5_ : Aside0 (Below w0.heap.size w0 w18) := ⟨h5_⟩
  clear HO0
  clear BK733
  clear HK
  clear HB
  clear h0_ h1_ h2_ h3_ h4_ h5_
  have HO0 := n0_
  have HO740 := n1_
  have HO743 := n2_
  have BK733 := n3_
  have HK := n4_
  have HB := n5_
  clear n0_ n1_ n2_ n3_ n4_ n5_
  have hHeld : w18.cell? ⟨gb733, 0, none⟩ = some (.int .i64 a1_0) ∧ w18.cell? ⟨gb733, 1, none⟩ = some (.int .i64 a1_1) := hS_
  obtain ⟨Ao20, co20, eo20⟩ := Kd.R_slice HO743.out
  (first | subst eo20 | (injection eo20 with f1_ f2_ f3_; have f4_ := f1_.symm; have f5_ := f3_.symm; clear f1_ f2_ f3_; subst f4_; subst f5_))
  refine norm_ (a' := ?_) ?_ ?_
  rotate_left
  ·simp only [putAll, Act.put, List.setIfInBounds_toArray, List.set_cons_zero, List.set_cons_succ]
   rfl
  refine one_ (i := 5) (N := some 14) (ba_ 7 63) rfl rfl (by kernel_rfl) (by decide) (fun K hK => ?_)
  refine Kd.R_append_rows_step k55 (w0 := w0) w0.heap.size (by rfl) (.tmp 11) (.tmp 13) 37 55 (.agg #[(.int .i64 0), (.int .i64 0)]) 16 rfl Try.underlying37 info55 rfl (by decide) (by omega) v739 y738 y741 _ _ _ (fun k_ => (P0_ k_ ∨ w.heap.size ≤ k_) ∧ some k_ ≠ (.slice Ao7 l0.length co7 : Value).ownBlock ∧ some k_ ≠ (.slice Ao20 y741.length co20 : Value).ownBlock ∧ k_ ≠ gb733) (fun _ => False) rfl rfl ?aO ?aR (fun _ _ h => h) (fun _ h => h.elim) ?aF ?aB ?aS ?aL ?_
  (case aR => repeat (first | exact (Kd.R_reads' HO743.out).2.2 | (with_reducible refine Kd.C_alloc ?_ _) | (with_reducible refine Kd.C_drewN ?_ _) | (with_reducible refine Kd.C_drew ?_)))
  (case aB => exact bl_)
  (case aF => exact (fun k_ hk => ⟨(.inr (Nat.le_trans (by first | exact HK.out.1 | exact (show Kept w _ (fun k_ => P0_ k_) from by repeat (first | (with_reducible first | exact HK.out | apply Kept.alloc | apply Kept.drewN | apply Kept.drew | refine Kept.setCell ?_ (.inr GW733.out) _) | exact HK.out)).1) hk)), Kd.fresh' (Kd.R_lt (rr_ HO0)) k_ hk, Kd.fresh' (Kd.R_lt (rr_ HO743)) k_ hk, Kd.freshB (g := gb733) (o := .cells #[.int .i64 a1_0, .int .i64 a1_1] 55 (0, 0)) (bk_ BK733) k_ hk⟩))
  (case aO => exact (rr_ HO740))
  (case aS => exact bls_)
  (case aL => have := LMc11.out; omega)
  intro v745 w19 ho hb hg hat
  rw [← Ny744.out] at ho
  replace HO0 := aa_ (Kd.R_after (ok := (fun k_ => (P0_ k_ ∨ w.heap.size ≤ k_) ∧ some k_ ≠ (.slice Ao20 y741.length co20 : Value).ownBlock ∧ k_ ≠ gb733)) (by (with_reducible repeat (first | apply Kd.R_alloc | apply Kd.R_drewN | apply Kd.R_drew)); exact Kd.R_mono HO0.out (fun _ hk => ⟨⟨hk.1, ⟨hk.2.2.1, hk.2.2.2⟩⟩, hk.2.1⟩)) hg hat)
  replace BK733 := aa_ (blk_grown (g := gb733) (o := .cells #[.int .i64 a1_0, .int .i64 a1_1] 55 (0, 0)) (bk_ BK733) hg (Kd.R_away HO740.out (fun _ hk => hk.2.2.2)))
  replace HO743 := aa_ (Kd.R_after (ok := (fun k_ => (P0_ k_ ∨ w.heap.size ≤ k_) ∧ some k_ ≠ (.slice Ao7 l0.length co7 : Value).ownBlock ∧ k_ ≠ gb733)) (by (with_reducible repeat (first | apply Kd.R_alloc | apply Kd.R_drewN | apply Kd.R_drew)); exact Kd.R_mono HO743.out (fun _ hk => ⟨⟨hk.1, ⟨hk.2.1, hk.2.2.2⟩⟩, hk.2.2.1⟩)) hg hat)
  replace HB := aa_ (hb)
  replace HK := aa_ (Kept.of_grown (S := (fun k_ => P0_ k_)) hg (by repeat (first | (with_reducible first | exact HK.out | apply Kept.alloc | apply Kept.drewN | apply Kept.drew | refine Kept.setCell ?_ (.inr GW733.out) _) | exact HK.out)) (fun k_ e_ => (HO740.out.1 k_ e_).1))
  have HO746 := aa_ (ho)
  clear HO740
  clear ho hb hg hat
  refine hK.out _ _ ⟨(blk_cell BK733.out 0).trans rfl, (blk_cell BK733.out 1).trans rfl⟩ (fun hHeld => ?_)
  clear hK K
  refine norm_ (a' := ?_) ?_ ?_
  rotate_left
  ·show Act.put _ (some 14) _ = _
   simp only [Act.put, List.setIfInBounds_toArray, List.set_cons_zero, List.set_cons_succ, i64_w, i32_w]
   rfl
  refine pure_ (i := 6) (N := some 4) (v := ?_) (a' := ?_) (ba_ 7 127) rfl rfl (by kernel_rfl) (fun _ _ _ h => h) (Or.inl ⟨by rfl, ?_⟩) ?_ ?_
  rotate_left
  ·intro w'
   go_simp
   with_reducible rfl
  rotate_left
  ·simp only [Act.put, List.setIfInBounds_toArray, List.set_cons_zero, List.set_cons_succ, i64_w, i32_w]
   rfl
  refine done_ (by kernel_rfl) ?_
  try go_wp2
  go_ret
  exact ⟨_, eq_, by (with_reducible repeat (first | apply Kd.R_alloc | apply Kd.R_drewN | apply Kd.R_drew)); exact Kd.R_mono HO746.out (fun _ hk => hk.1), bl_, by repeat (first | (with_reducible first | exact HK.out | apply Kept.alloc | apply Kept.drewN | apply Kept.drew | refine Kept.setCell ?_ (.inr GW733.out) _) | exact HK.out)⟩
def spec_PolicyRoles.l0 : Nat → List (S55) → Int → List (S57) → Option ((List (S55)))
 | 0, _, _, _ => none
 | k + 1, x3, x4, x748000 => if x4 < (x748000.length : Int) then (if 0 ≤ x4 then (if ((rd_T57 x748000 x4).f0) = 1 then ((spec_l18Add.f k x3 ((rd_T57 x748000 x4).f1.f0) ((rd_T57 x748000 x4).f1.f1)).bind fun t754 => (spec_PolicyRoles.l0 k t754 (wrap64 (x4 + 1)) x748000)) else (spec_PolicyRoles.l0 k x3 (wrap64 (x4 + 1)) x748000)) else (none)) else (some x3)
def spec_PolicyRoles.f (k : Nat) (l0_0 : List (S57)) : Option ((List (S55))) := (some (([] : List (S55)) : List (S55))).bind fun y748 => ((spec_PolicyOk.f k l0_0).bind fun t751 => (if t751 = true then (spec_PolicyRoles.l0 k y748 0 l0_0) else (some y748)))
set_option maxHeartbeats 8000000 in
set_option maxRecDepth 100000 in
theorem spec_PolicyRoles.calls (k : Nat) (A0_0 : Option Addr) (c0_0 : Nat) (l0_0 : List (S57)) (r : List (S55)) (w : World) (hr0_0 : Kd.C k57 w A0_0 l0_0.length l0_0) (hc0_0 : l0_0.length ≤ c0_0) (h : spec_PolicyRoles.f k l0_0 = some r) :
  Calls Try.prog 18 #[.agg #[.slice A0_0 l0_0.length c0_0]] w fun e w' => ∃ v0_ : Value, e = .returned (v0_) ∧ Kd.R k55 55 w' w.heap.size (fun _ => True) v0_ r ∧ Below w.heap.size w w' := by
 have hu27 := Try.underlying27
 have hu55 := Try.underlying55
 have HR0_0 := aa_ hr0_0
 have HC0_0 := aa_ hc0_0
 clear hr0_0 hc0_0
 have HB := aa_ (Below.refl w.heap.size w)
 have H : ((some (([] : List (S55)) : List (S55))).bind fun y748 => ((spec_PolicyOk.f k l0_0).bind fun t751 => (if t751 = true then (spec_PolicyRoles.l0 k y748 0 l0_0) else (some y748)))) = some r := h
 clear h
 obtain ⟨y748, hy748⟩ : ∃ y_ : List (S55), y_ = (([] : List (S55))) := ⟨_, rfl⟩
 replace H : ((spec_PolicyOk.f k l0_0).bind fun t751 => (if t751 = true then (spec_PolicyRoles.l0 k y748 0 l0_0) else (some y748))) = some r := rh_ hy748 H
 have Ny748 := aa_ hy748
 clear hy748
 obtain ⟨t751, A2, H⟩ := bindE_ H
 have HC3 := aa_ H
 clear H
 go_enter Try.func18, Try.ntmps18
 go_upto_if 8 with (first | ((with_reducible refine gD_ 1 rfl ?_); refine bx_ (N := 1) (cs := #[.slice A0_0 l0_0.length c0_0]) (t := 27) ?_; intro gb747 hg w4 hbox hb; have BK747 := aa_ (hbox); have GW747 := gs_ hg; have GE747 := gs_ hg; replace HB := hbs_ hb; clear hb hbox hg) | ((with_reducible refine gD_ 5 rfl ?_); refine Kd.R_lit k55 _ 55 ?hg (N := 5) ?hd (xs := ([] : List (S55))) (inner := []) (ok := fun _ => True) (okp := fun _ => True) ?hr ?hp (fun _ hk => hk) trivial (Below.refl _ _) (Nat.le_refl _) (by simp) ?_; (case hd => rfl); (case hg => rfl); (case hr => first | (go_simp; done) | (go_simp; rfl)); (case hp => exact (Reps.none _ _)); intro v749 w5 ho6 hb hg_ hnew_; clear hg_ hnew_; (first | rw [← Ny748.out] at ho6 | (simp only [Int.reduceToNat] at ho6; rw [← Ny748.out] at ho6)); have HO750 := aa_ (Kd.R_lower ho6 bls_); replace BK747 := bkb_ BK747 hb; replace HB := hbs_ hb; clear hb ho6; obtain ⟨hcz7, hfz7⟩ := bcf_ BK747) | ((with_reducible refine gC_ 15 rfl ?_); refine goesC_ (some 7) Try.func15 #[.agg #[.slice A0_0 l0_0.length c0_0]] ?_; (with_reducible refine (spec_PolicyOk.calls k _ _ l0_0 t751 _ ?side1 ?side2 A2.out).mono ?_); (case side1 => repeat (first | exact (Kd.C_below HR0_0.out HB.out) | (with_reducible refine Kd.C_alloc ?_ _) | (with_reducible refine Kd.C_drewN ?_ _) | (with_reducible refine Kd.C_drew ?_))); (case side2 => exact HC0_0.out); rintro e w8 ⟨rfl, hb⟩; refine ⟨_, rfl, ?_⟩; replace HO750 := hob_ HO750 hb; replace BK747 := bkb_ BK747 hb; replace HB := hbs_ hb; clear hb))
 (try simp only [Act.put, List.setIfInBounds_toArray, List.set_cons_zero, List.set_cons_succ])
 have H := HC3.out
 clear HC3
 by_cases c9 : t751 = true
 ·subst c9
  replace H := ite_t_ H
  have H' := aa_ H
  clear H
  go_wp2
  go_loopg [3, 4] k (fun kq v3 v4 w' => ∃ (x3_1 : List (S55)) (x4_1 : Int), v4 = .int .i64 x4_1 ∧ Aside0 (spec_PolicyRoles.l0 kq x3_1 x4_1 l0_0 = some r) ∧ Aside0 (kq ≤ k) ∧ Aside0 (Kd.R k55 55 w' w.heap.size (fun _ => True) v3 x3_1) ∧ Aside0 (w'.heap[gb747]? = some (.cells #[(.slice A0_0 l0_0.length c0_0)] 27 (0, 0))) ∧ Aside0 (Below w.heap.size w w'))
  case atStart => exact ⟨(y748), (0), rf_, H', ⟨Nat.le_refl _⟩, ⟨rr_ HO750⟩, ⟨bk_ BK747⟩, ⟨bl_⟩⟩
  case round =>
   clear H'
   try clear c1
   try clear p2
   try clear c9
   try clear hcz7
   try clear hfz7
   obtain ⟨x3_1, x4_1, rfl, HA, HK1, HO_3, BK747, HB⟩ := hrel
   cases gk with
   | zero => exact absurd HA.out (by simp [spec_PolicyRoles.l0])
   | succ k1 =>
    have H := HA.out
    clear HA
    simp only [spec_PolicyRoles.l0] at H
    by_cases c10 : x4_1 < (l0_0.length : Int)
    ·rw [if_pos c10] at H
     have c10b0 : decide (x4_1 < (l0_0.length : Int)) = true := decide_eq_true c10
     clear c10
     (first | rw [c10b0] | (simp only [i64_w, i32_w]; rw [c10b0]) | (have cz_ := c10b0; simp only [Int.ofNat_lt, Int.ofNat_le, gt_iff_lt, ge_iff_le] at cz_; rw [cz_]; clear cz_) | skip)
     obtain ⟨c11b0, H⟩ := ifd_ H
     have HC12 := aa_ H
     clear H
     have hcz13 := blk_cell BK747.out
     have hfz13 := blk_frozen BK747.out
     have p752 : 0 ≤ (x4_1 : Int) := od_
     have q752 : x4_1 < (l0_0.length : Int) := od_
     obtain ⟨ad752, e752, hx752_0, hx752_1, hx752_2, hx752_3, hx752_4⟩ := at_T57 (Kd.C_below HR0_0.out HB.out) x4_1 p752 q752
     cases e752
     replace p752 := eq_true p752
     replace q752 := eq_true q752
     go_upto_if 23 with (fail)
     have H := HC12.out
     clear HC12
     by_cases c14 : ((rd_T57 l0_0 x4_1).f0) = 1
     ·rw [if_pos c14] at H
      have c14b0 : (((rd_T57 l0_0 x4_1).f0) == 1) = true := beq_iff_eq.mpr c14
      have c14b1 : (((rd_T57 l0_0 x4_1).f0) != 1) = false := bne_eq_false_iff_eq.mpr c14
      clear c14
      (first | rw [c14b0] | (simp only [i64_w, i32_w]; rw [c14b0]) | skip)
      obtain ⟨t754, A15, H⟩ := bindE_ H
      have H' := aa_ H
      clear H
      have hcz16 := blk_cell BK747.out
      have hfz16 := blk_frozen BK747.out
      have p753 : 0 ≤ (x4_1 : Int) := od_
      have q753 : x4_1 < (l0_0.length : Int) := od_
      obtain ⟨ad753, e753, hx753_0, hx753_1, hx753_2, hx753_3, hx753_4⟩ := at_T57 HR0_0.out x4_1 p753 q753
      obtain rfl : ad752 = ad753 := (by injection e753)
      replace hx753_0 := cb_ HB hx753_0
      replace hx753_1 := cb_ HB hx753_1
      replace hx753_2 := cb_ HB hx753_2
      replace hx753_3 := cb_ HB hx753_3
      replace hx753_4 := cb_ HB hx753_4
      replace p753 := eq_true p753
      replace q753 := eq_true q753
      obtain ⟨Ao17, co17, eo17⟩ := Kd.R_slice HO_3.out
      subst eo17
      go_wp2_with (first | ((with_reducible refine gC_ 44 rfl ?_); refine goesC_ (some 31) Try.func44 #[.slice Ao17 x3_1.length co17, .agg #[.int .i64 ((rd_T57 l0_0 x4_1).f1.f0), .int .i64 ((rd_T57 l0_0 x4_1).f1.f1)]] ?_; (with_reducible refine (spec_l18Add.calls k1 (fun k_ => some k_ = (.slice Ao17 x3_1.length co17 : Value).ownBlock) (.slice Ao17 x3_1.length co17) x3_1 ((rd_T57 l0_0 x4_1).f1.f0) ((rd_T57 l0_0 x4_1).f1.f1) t754 w _ ?side1 ?side2 A15.out).mono ?_); (case side1 => repeat (first | (with_reducible first | exact HB.out | apply below_alloc | apply pw_below_drewN | apply below_drew1 | refine below_set ?_ GE747.out) | exact HB.out)); (case side2 => exact Kd.R_tight rfl HO_3.out); rintro e w18 ⟨v755, rfl, ho0, hb, hkp⟩; refine ⟨_, rfl, ?_⟩; replace BK747 := aa_ (blk_kept (bk_ BK747) hkp (fun hs_ => (fun e_ => (Kd.R_ne HO_3.out BK747.out (by decide)) e_) hs_)); have HO756 := aa_ (Kd.R_mono (ok' := fun k_ => True) ho0 (fun k_ hk_ => trivial)); replace HB := aa_ (hb); clear HO_3; (try clear hb hkp ho0)))
      go_roundg k1
      case measure => have := HK1.out; omega
      case rel => exact ⟨(t754), (wrap64 (x4_1 + 1)), rf_, H', ⟨by have := HK1.out; omega⟩, ⟨rr_ HO756⟩, ⟨bk_ BK747⟩, ⟨bl_⟩⟩
     ·rw [if_neg c14] at H
      have c14b0 : (((rd_T57 l0_0 x4_1).f0) == 1) = false := beq_eq_false_iff_ne.mpr c14
      have c14b1 : (((rd_T57 l0_0 x4_1).f0) != 1) = true := bne_iff_ne.mpr c14
      (first | rw [c14b0] | (simp only [i64_w, i32_w]; rw [c14b0]) | skip)
      have H' := aa_ H
      clear H
      go_wp2
      go_roundg k1
      case measure => have := HK1.out; omega
      case rel => exact ⟨(x3_1), (wrap64 (x4_1 + 1)), rf_, H', ⟨by have := HK1.out; omega⟩, ⟨rr_ HO_3⟩, ⟨bk_ BK747⟩, ⟨bl_⟩⟩
    ·rw [if_neg c10] at H
     have c10b0 : decide (x4_1 < (l0_0.length : Int)) = false := decide_eq_false c10
     clear c10
     (first | rw [c10b0] | (simp only [i64_w, i32_w]; rw [c10b0]) | (have cz_ := c10b0; simp only [Int.ofNat_lt, Int.ofNat_le, gt_iff_lt, ge_iff_le] at cz_; rw [cz_]; clear cz_) | skip)
     obtain rfl := Option.some.inj H
     have hcz19 := blk_cell BK747.out
     have hfz19 := blk_frozen BK747.out
     go_wp2
     go_ret
     exact ⟨_, eq_, by (with_reducible repeat (first | apply Kd.R_alloc | apply Kd.R_drewN | apply Kd.R_drew)); exact HO_3.out, bl_⟩
 ·replace c9 := Bool.eq_false_iff.mpr c9
  subst c9
  replace H := ite_f_ H
  obtain rfl := Option.some.inj H
  go_wp2
  go_ret
  exact ⟨_, eq_, by (with_reducible repeat (first | apply Kd.R_alloc | apply Kd.R_drewN | apply Kd.R_drew)); exact HO750.out, bl_⟩
end Go.Proofs.Ytnoklfpnmopkpaa.PE
