import Derived.Test.YtkimdmdkldlhpaaKCPAx0
-- printed by wip/tools
namespace Go.Proofs.Ytkimdmdkldlhpaa.PA
open Go.RowKit Go.Proofs.YtkimdmdkldlhpaaW.PrintWords Go.Proofs.YtkimdmdkldlhpaaW.PrintLast Go.Proofs.YtkimdmdkldlhpaaW.PrintMore
attribute [local go_sem] max2_int min2_int max_two min_two max_three min_three max_four min_four
set_option linter.unusedVariables false
set_option linter.unusedSimpArgs false
mutual
def spec_HereOf.l0 : Nat → List Int → Int → List (S42) → Option (List Int)
 | 0, _, _, _ => none
 | k + 1, x3, x4, x135000 => if x4 < (x135000.length : Int) then (if 0 ≤ x4 then (if ((rd_T42 x135000 x4).f1 = true) then (spec_HereOf.l1 k x3 x4 (([] : List Int)) false 0 x135000) else (spec_HereOf.l0 k x3 (wrap64 (x4 + 1)) x135000)) else (none)) else (some x3)
def spec_HereOf.l1 : Nat → List Int → Int → List Int → Bool → Int → List (S42) → Option (List Int)
 | 0, _, _, _, _, _, _ => none
 | k + 1, x3, x4, x5, x6, x7, x135000 => if x7 < (x3.length : Int) then (if x6 = true then (if 0 ≤ x7 then (if x5.length < 17592186044416 then (spec_HereOf.l1 k x3 x4 (x5 ++ [rd x3 x7]) x6 (wrap64 (x7 + 1)) x135000) else (none)) else (none)) else (if 0 ≤ x4 then (if x4 < (x135000.length : Int) then (if 0 ≤ x7 then (if ((rd_T42 x135000 x4).f0) < (rd x3 x7) then (if x5.length < 17592186044416 then ((some (x5 ++ [(rd_T42 x135000 x4).f0] : List Int)).bind fun y149 => (if y149.length < 17592186044416 then (spec_HereOf.l1 k x3 x4 (y149 ++ [rd x3 x7]) true (wrap64 (x7 + 1)) x135000) else (none))) else (none)) else (if x5.length < 17592186044416 then (spec_HereOf.l1 k x3 x4 (x5 ++ [rd x3 x7]) x6 (wrap64 (x7 + 1)) x135000) else (none))) else (none)) else (none)) else (none))) else (if x6 = true then (spec_HereOf.l0 k x5 (wrap64 (x4 + 1)) x135000) else (if 0 ≤ x4 then (if x4 < (x135000.length : Int) then (if x5.length < 17592186044416 then (spec_HereOf.l0 k (x5 ++ [(rd_T42 x135000 x4).f0]) (wrap64 (x4 + 1)) x135000) else (none)) else (none)) else (none)))
end
def spec_HereOf.f (k : Nat) (l0_0 : List (S42)) : Option (List Int) := spec_HereOf.l0 k (([] : List Int)) 0 l0_0
set_option maxHeartbeats 8000000 in
set_option maxRecDepth 100000 in
theorem spec_HereOf.calls (k : Nat) (A0_0 : Option Addr) (c0_0 : Nat) (l0_0 : List (S42)) (r : List Int) (w : World) (hr0_0 : Kd.C k42 w A0_0 l0_0.length l0_0) (hc0_0 : l0_0.length ≤ c0_0) (h : spec_HereOf.f k l0_0 = some r) :
  Calls Try.prog 11 #[.agg #[.slice A0_0 l0_0.length c0_0]] w fun e w' => ∃ v0_ : Value, e = .returned (v0_) ∧ Kd.R (Kd.int .i64) 3 w' w.heap.size (fun _ => True) v0_ r ∧ Below w.heap.size w w' := by
 have hu29 := Try.underlying29
 have HR0_0 := aa_ hr0_0
 have HC0_0 := aa_ hc0_0
 clear hr0_0 hc0_0
 have HB := aa_ (Below.refl w.heap.size w)
 have H : (spec_HereOf.l0 k (([] : List Int)) 0 l0_0) = some r := h
 clear h
 obtain ⟨y135, hy135⟩ : ∃ y_ : List Int, y_ = (([] : List Int)) := ⟨_, rfl⟩
 replace H : (spec_HereOf.l0 k y135 0 l0_0) = some r := rh_ hy135 H
 have Ny135 := aa_ hy135
 clear hy135
 have H' := aa_ H
 clear H
 go_enter Try.func11, Try.ntmps11
 go_wp2_with (first | ((with_reducible refine gD_ 1 rfl ?_); refine bx_ (N := 1) (cs := #[.slice A0_0 l0_0.length c0_0]) (t := 29) ?_; intro gb134 hg w2 hbox hb; have BK134 := aa_ (hbox); have GW134 := gs_ hg; have GE134 := gs_ hg; replace HB := hbs_ hb; clear hb hbox hg) | ((with_reducible refine gD_ 8 rfl ?_); refine Kd.R_lit (Kd.int .i64) _ 3 ?hg (N := 8) ?hd (xs := ([] : List Int)) (inner := []) (ok := fun _ => True) (okp := fun _ => True) ?hr ?hp (fun _ hk => hk) trivial (Below.refl _ _) (Nat.le_refl _) (by simp) ?_; (case hd => rfl); (case hg => rfl); (case hr => first | (go_simp; done) | (go_simp; rfl)); (case hp => exact (Reps.none _ _)); intro v136 w3 ho4 hb hg_ hnew_; clear hg_ hnew_; (first | rw [← Ny135.out] at ho4 | (simp only [Int.reduceToNat] at ho4; rw [← Ny135.out] at ho4)); have HO137 := aa_ (Kd.R_lower ho4 bls_); replace BK134 := bkb_ BK134 hb; replace HB := hbs_ hb; clear hb ho4))
 repeat (go_quiet (first | ((with_reducible refine gD_ 1 rfl ?_); refine bx_ (N := 1) (cs := #[.slice A0_0 l0_0.length c0_0]) (t := 29) ?_; intro gb134 hg w2 hbox hb; have BK134 := aa_ (hbox); have GW134 := gs_ hg; have GE134 := gs_ hg; replace HB := hbs_ hb; clear hb hbox hg) | ((with_reducible refine gD_ 8 rfl ?_); refine Kd.R_lit (Kd.int .i64) _ 3 ?hg (N := 8) ?hd (xs := ([] : List Int)) (inner := []) (ok := fun _ => True) (okp := fun _ => True) ?hr ?hp (fun _ hk => hk) trivial (Below.refl _ _) (Nat.le_refl _) (by simp) ?_; (case hd => rfl); (case hg => rfl); (case hr => first | (go_simp; done) | (go_simp; rfl)); (case hp => exact (Reps.none _ _)); intro v136 w3 ho4 hb hg_ hnew_; clear hg_ hnew_; (first | rw [← Ny135.out] at ho4 | (simp only [Int.reduceToNat] at ho4; rw [← Ny135.out] at ho4)); have HO137 := aa_ (Kd.R_lower ho4 bls_); replace BK134 := bkb_ BK134 hb; replace HB := hbs_ hb; clear hb ho4)); try go_wp2_with (first | ((with_reducible refine gD_ 1 rfl ?_); refine bx_ (N := 1) (cs := #[.slice A0_0 l0_0.length c0_0]) (t := 29) ?_; intro gb134 hg w2 hbox hb; have BK134 := aa_ (hbox); have GW134 := gs_ hg; have GE134 := gs_ hg; replace HB := hbs_ hb; clear hb hbox hg) | ((with_reducible refine gD_ 8 rfl ?_); refine Kd.R_lit (Kd.int .i64) _ 3 ?hg (N := 8) ?hd (xs := ([] : List Int)) (inner := []) (ok := fun _ => True) (okp := fun _ => True) ?hr ?hp (fun _ hk => hk) trivial (Below.refl _ _) (Nat.le_refl _) (by simp) ?_; (case hd => rfl); (case hg => rfl); (case hr => first | (go_simp; done) | (go_simp; rfl)); (case hp => exact (Reps.none _ _)); intro v136 w3 ho4 hb hg_ hnew_; clear hg_ hnew_; (first | rw [← Ny135.out] at ho4 | (simp only [Int.reduceToNat] at ho4; rw [← Ny135.out] at ho4)); have HO137 := aa_ (Kd.R_lower ho4 bls_); replace BK134 := bkb_ BK134 hb; replace HB := hbs_ hb; clear hb ho4)))
 go_loopg [3, 4] k (fun kq v3 v4 w' => ∃ (x3_1 : List Int) (x4_1 : Int), v4 = .int .i64 x4_1 ∧ Aside0 (spec_HereOf.l0 kq x3_1 x4_1 l0_0 = some r) ∧ Aside0 (kq ≤ k) ∧ Aside0 (Kd.R (Kd.int .i64) 3 w' w.heap.size (fun _ => True) v3 x3_1) ∧ Aside0 (w'.heap[gb134]? = some (.cells #[(.slice A0_0 l0_0.length c0_0)] 29 (0, 0))) ∧ Aside0 (Below w.heap.size w w'))
 case atStart => exact ⟨(y135), (0), rf_, H', ⟨Nat.le_refl _⟩, ⟨rr_ HO137⟩, ⟨bk_ BK134⟩, ⟨bl_⟩⟩
 case round =>
  clear H'
  try clear c1
  try clear p2
  obtain ⟨x3_1, x4_1, rfl, HA, HK1, HO_3, BK134, HB⟩ := hrel
  cases gk with
  | zero => exact absurd HA.out (by simp [spec_HereOf.l0])
  | succ k1 =>
   have H := HA.out
   clear HA
   simp only [spec_HereOf.l0] at H
   by_cases c5 : x4_1 < (l0_0.length : Int)
   ·rw [if_pos c5] at H
    have c5b0 : decide (x4_1 < (l0_0.length : Int)) = true := decide_eq_true c5
    clear c5
    obtain ⟨c6b0, H⟩ := ifd_ H
    have HC7 := aa_ H
    clear H
    have hcz8 := blk_cell BK134.out
    have hfz8 := blk_frozen BK134.out
    have p138 : 0 ≤ (x4_1 : Int) := od_
    have q138 : x4_1 < (l0_0.length : Int) := od_
    obtain ⟨ad138, A138_3, c138_3, A138_4, c138_4, A138_5, c138_5, e138, hx138_0, hx138_1, hx138_2, hx138_3, hx138_4, hx138_5, hl138_3, hi138_3, hl138_4, hi138_4, hl138_5, hi138_5⟩ := at_T42 HR0_0.out x4_1 p138 q138
    cases e138
    replace hx138_0 := cb_ HB hx138_0
    replace hx138_1 := cb_ HB hx138_1
    replace hx138_2 := cb_ HB hx138_2
    replace hx138_3 := cb_ HB hx138_3
    replace hx138_4 := cb_ HB hx138_4
    replace hx138_5 := cb_ HB hx138_5
    have HR138_3 := aa_ hi138_3
    have HC138_3 := aa_ hl138_3
    clear hi138_3 hl138_3
    have HR138_4 := aa_ hi138_4
    have HC138_4 := aa_ hl138_4
    clear hi138_4 hl138_4
    have HR138_5 := aa_ hi138_5
    have HC138_5 := aa_ hl138_5
    clear hi138_5 hl138_5
    replace p138 := eq_true p138
    replace q138 := eq_true q138
    go_upto_if 22 with (fail)
    repeat (go_quiet (fail); go_upto_if 22 with (fail))
    have H := HC7.out
    clear HC7
    obtain ⟨bq9, hbq9⟩ : ∃ b_ : Bool, b_ = ((rd_T42 l0_0 x4_1).f1) := ⟨_, rfl⟩
    replace H : (if (bq9 = true) then (spec_HereOf.l1 k1 x3_1 x4_1 (([] : List Int)) false 0 l0_0) else (spec_HereOf.l0 k1 x3_1 (wrap64 (x4_1 + 1)) l0_0)) = some r := by rw [← hbq9] at H; exact H
    have Nbq9 := aa_ hbq9
    clear hbq9
    (try rw [← Nbq9.out])
    by_cases c10 : (bq9 = true)
    ·subst c10
     replace H := ite_t_ H
     obtain ⟨y139, hy139⟩ : ∃ y_ : List Int, y_ = (([] : List Int)) := ⟨_, rfl⟩
     replace H : (spec_HereOf.l1 k1 x3_1 x4_1 y139 false 0 l0_0) = some r := rh_ hy139 H
     have Ny139 := aa_ hy139
     clear hy139
     have H' := aa_ H
     clear H
     go_wp2_with (first | ((with_reducible refine gD_ 23 rfl ?_); refine Kd.R_lit (Kd.int .i64) _ 3 ?hg (N := 23) ?hd (xs := ([] : List Int)) (inner := []) (ok := fun _ => True) (okp := fun _ => True) ?hr ?hp (fun _ hk => hk) trivial (Below.refl _ _) (Nat.le_refl _) (by simp) ?_; (case hd => rfl); (case hg => rfl); (case hr => first | (go_simp; done) | (go_simp; rfl)); (case hp => exact (Reps.none _ _)); intro v140 w11 ho12 hb hg_ hnew_; clear hg_ hnew_; (first | rw [← Ny139.out] at ho12 | (simp only [Int.reduceToNat] at ho12; rw [← Ny139.out] at ho12)); have HO141 := aa_ (Kd.R_lower (Kd.R_new' ho12 (Kd.R_lt (rr_ HO_3))) bls_); replace HO_3 := aa_ (Kd.R_elder' (rr_ HO_3) (Kd.R_base ho12) hb); replace BK134 := bkb_ BK134 hb; replace HB := hbs_ hb; clear hb ho12))
     repeat (go_quiet (first | ((with_reducible refine gD_ 23 rfl ?_); refine Kd.R_lit (Kd.int .i64) _ 3 ?hg (N := 23) ?hd (xs := ([] : List Int)) (inner := []) (ok := fun _ => True) (okp := fun _ => True) ?hr ?hp (fun _ hk => hk) trivial (Below.refl _ _) (Nat.le_refl _) (by simp) ?_; (case hd => rfl); (case hg => rfl); (case hr => first | (go_simp; done) | (go_simp; rfl)); (case hp => exact (Reps.none _ _)); intro v140 w11 ho12 hb hg_ hnew_; clear hg_ hnew_; (first | rw [← Ny139.out] at ho12 | (simp only [Int.reduceToNat] at ho12; rw [← Ny139.out] at ho12)); have HO141 := aa_ (Kd.R_lower (Kd.R_new' ho12 (Kd.R_lt (rr_ HO_3))) bls_); replace HO_3 := aa_ (Kd.R_elder' (rr_ HO_3) (Kd.R_base ho12) hb); replace BK134 := bkb_ BK134 hb; replace HB := hbs_ hb; clear hb ho12)); try go_wp2_with (first | ((with_reducible refine gD_ 23 rfl ?_); refine Kd.R_lit (Kd.int .i64) _ 3 ?hg (N := 23) ?hd (xs := ([] : List Int)) (inner := []) (ok := fun _ => True) (okp := fun _ => True) ?hr ?hp (fun _ hk => hk) trivial (Below.refl _ _) (Nat.le_refl _) (by simp) ?_; (case hd => rfl); (case hg => rfl); (case hr => first | (go_simp; done) | (go_simp; rfl)); (case hp => exact (Reps.none _ _)); intro v140 w11 ho12 hb hg_ hnew_; clear hg_ hnew_; (first | rw [← Ny139.out] at ho12 | (simp only [Int.reduceToNat] at ho12; rw [← Ny139.out] at ho12)); have HO141 := aa_ (Kd.R_lower (Kd.R_new' ho12 (Kd.R_lt (rr_ HO_3))) bls_); replace HO_3 := aa_ (Kd.R_elder' (rr_ HO_3) (Kd.R_base ho12) hb); replace BK134 := bkb_ BK134 hb; replace HB := hbs_ hb; clear hb ho12)))
     go_loopg [5, 6, 7] k1 (fun kq v5 v6 v7 w' => ∃ (x5_2 : List Int) (x6_2 : Bool) (x7_2 : Int), v6 = .bool x6_2 ∧ v7 = .int .i64 x7_2 ∧ Aside0 (spec_HereOf.l1 kq x3_1 x4_1 x5_2 x6_2 x7_2 l0_0 = some r) ∧ Aside0 (kq ≤ k1) ∧ Aside0 (Kd.R (Kd.int .i64) 3 w' w.heap.size (fun k_ => some k_ ≠ (v5 : Value).ownBlock) u3 x3_1) ∧ Aside0 (Kd.R (Kd.int .i64) 3 w' w.heap.size (fun k_ => some k_ ≠ (u3 : Value).ownBlock) v5 x5_2) ∧ Aside0 (w'.heap[gb134]? = some (.cells #[(.slice (some ad138) l0_0.length c0_0)] 29 (0, 0))) ∧ Aside0 (Below w.heap.size w w'))
     case atStart => exact ⟨(y139), (false), (0), rf_, rf_, H', ⟨Nat.le_refl _⟩, ⟨by (with_reducible repeat (first | apply Kd.R_alloc | apply Kd.R_drewN | apply Kd.R_drew)); exact Kd.R_mono HO_3.out (fun _ hk => hk.2)⟩, ⟨by (with_reducible repeat (first | apply Kd.R_alloc | apply Kd.R_drewN | apply Kd.R_drew)); exact Kd.R_mono HO141.out (fun _ hk => hk.2)⟩, ⟨bk_ BK134⟩, ⟨bl_⟩⟩
     case round =>
      clear H'
      try clear c1
      try clear p1
      try clear q1
      try clear hx1
      try clear p2
      try clear c5
      try clear c5b0
      try clear c6
      try clear c6b0
      try clear p6
      try clear q9
      try clear c10
      try clear c11
      try clear hcz8
      try clear hfz8
      try clear hx138_0
      try clear hx138_1
      try clear hx138_2
      try clear hx138_3
      try clear hx138_4
      try clear hx138_5
      try clear p138
      try clear p2
      try clear q138
      obtain ⟨x5_2, x6_2, x7_2, rfl, rfl, HA, HK2, HO_3, HO_5, BK134, HB⟩ := hrel
      cases gk with
      | zero => exact absurd HA.out (by simp [spec_HereOf.l1])
      | succ k2 =>
       have H := HA.out
       clear HA
       simp only [spec_HereOf.l1] at H
       by_cases c13 : x7_2 < (x3_1.length : Int)
       ·rw [if_pos c13] at H
        have c13b0 : decide (x7_2 < (x3_1.length : Int)) = true := decide_eq_true c13
        clear c13
        by_cases c14 : x6_2 = true
        ·subst c14
         replace H := ite_t_ H
         obtain ⟨c15b0, H⟩ := ifd_ H
         obtain ⟨c16, H⟩ := ifn_ H
         have LMc16 := aa_ c16
         clear c16
         obtain ⟨y143, hy143⟩ : ∃ y_ : List Int, y_ = (x5_2 ++ [rd x3_1 x7_2]) := ⟨_, rfl⟩
         replace H : (spec_HereOf.l1 k2 x3_1 x4_1 y143 true (wrap64 (x7_2 + 1)) l0_0) = some r := rh_ hy143 H
         have Ny143 := aa_ hy143
         clear hy143
         have H' := aa_ H
         clear H
         obtain ⟨Ao17, co17, eo17⟩ := Kd.R_slice HO_3.out
         subst eo17
         have p142 : 0 ≤ (x7_2 : Int) := od_
         have q142 : x7_2 < (x3_1.length : Int) := od_
         obtain ⟨ad142, e142, hx142_0⟩ := Kd.at_int (Kd.R_reads' HO_3.out).2.2 x7_2 p142 q142
         cases e142
         replace p142 := eq_true p142
         replace q142 := eq_true q142
         go_wp2_with (first | ((with_reducible refine gate_builtin (b := .append) (xs := #[.tmp 54, .tmp 59]) rfl ?_); at_builtin; refine Kd.R_append (Kd.int .i64) (w0 := w) w.heap.size rfl (.tmp 54) (.tmp 59) 34 3 (.int .i64 0) 8 rfl Try.underlying34 info3 rfl (by decide) (by omega) u5 x5_2 (rd x3_1 x7_2) [.int .i64 (rd x3_1 x7_2)] (fun k_ => some k_ ≠ (.slice (some ad142) x3_1.length co17 : Value).ownBlock) (fun _ => False) rfl rfl ?aP (fun _ hk => hk.elim) ?aF ?aO ?aB ?aS ?aL ?_; (case aP => exact rfl); (case aB => exact bl_); (case aF => exact (fun k_ hk => Kd.fresh' (Kd.R_lt (rr_ HO_3)) k_ hk)); (case aO => exact (rr_ HO_5)); (case aS => exact bls_); (case aL => have := LMc16.out; omega); intro v144 w18 ho hb hg hat; rw [← Ny143.out] at ho; replace HO_3 := aa_ (Kd.R_after (ok := (fun _ => True)) (by (with_reducible repeat (first | apply Kd.R_alloc | apply Kd.R_drewN | apply Kd.R_drew)); exact Kd.R_mono HO_3.out (fun _ hk => ⟨trivial, hk⟩)) hg hat); replace BK134 := aa_ (blk_grown (g := gb134) (o := .cells #[.slice (some ad138) l0_0.length c0_0] 29 (0, 0)) (bk_ BK134) hg (Kd.R_ne HO_5.out BK134.out (by decide))); replace HB := aa_ (hb); have HO145 := aa_ (ho); clear HO_5; clear ho hb hg hat))
         repeat (go_quiet (first | ((with_reducible refine gate_builtin (b := .append) (xs := #[.tmp 54, .tmp 59]) rfl ?_); at_builtin; refine Kd.R_append (Kd.int .i64) (w0 := w) w.heap.size rfl (.tmp 54) (.tmp 59) 34 3 (.int .i64 0) 8 rfl Try.underlying34 info3 rfl (by decide) (by omega) u5 x5_2 (rd x3_1 x7_2) [.int .i64 (rd x3_1 x7_2)] (fun k_ => some k_ ≠ (.slice (some ad142) x3_1.length co17 : Value).ownBlock) (fun _ => False) rfl rfl ?aP (fun _ hk => hk.elim) ?aF ?aO ?aB ?aS ?aL ?_; (case aP => exact rfl); (case aB => exact bl_); (case aF => exact (fun k_ hk => Kd.fresh' (Kd.R_lt (rr_ HO_3)) k_ hk)); (case aO => exact (rr_ HO_5)); (case aS => exact bls_); (case aL => have := LMc16.out; omega); intro v144 w18 ho hb hg hat; rw [← Ny143.out] at ho; replace HO_3 := aa_ (Kd.R_after (ok := (fun _ => True)) (by (with_reducible repeat (first | apply Kd.R_alloc | apply Kd.R_drewN | apply Kd.R_drew)); exact Kd.R_mono HO_3.out (fun _ hk => ⟨trivial, hk⟩)) hg hat); replace BK134 := aa_ (blk_grown (g := gb134) (o := .cells #[.slice (some ad138) l0_0.length c0_0] 29 (0, 0)) (bk_ BK134) hg (Kd.R_ne HO_5.out BK134.out (by decide))); replace HB := aa_ (hb); have HO145 := aa_ (ho); clear HO_5; clear ho hb hg hat)); try go_wp2_with (first | ((with_reducible refine gate_builtin (b := .append) (xs := #[.tmp 54, .tmp 59]) rfl ?_); at_builtin; refine Kd.R_append (Kd.int .i64) (w0 := w) w.heap.size rfl (.tmp 54) (.tmp 59) 34 3 (.int .i64 0) 8 rfl Try.underlying34 info3 rfl (by decide) (by omega) u5 x5_2 (rd x3_1 x7_2) [.int .i64 (rd x3_1 x7_2)] (fun k_ => some k_ ≠ (.slice (some ad142) x3_1.length co17 : Value).ownBlock) (fun _ => False) rfl rfl ?aP (fun _ hk => hk.elim) ?aF ?aO ?aB ?aS ?aL ?_; (case aP => exact rfl); (case aB => exact bl_); (case aF => exact (fun k_ hk => Kd.fresh' (Kd.R_lt (rr_ HO_3)) k_ hk)); (case aO => exact (rr_ HO_5)); (case aS => exact bls_); (case aL => have := LMc16.out; omega); intro v144 w18 ho hb hg hat; rw [← Ny143.out] at ho; replace HO_3 := aa_ (Kd.R_after (ok := (fun _ => True)) (by (with_reducible repeat (first | apply Kd.R_alloc | apply Kd.R_drewN | apply Kd.R_drew)); exact Kd.R_mono HO_3.out (fun _ hk => ⟨trivial, hk⟩)) hg hat); replace BK134 := aa_ (blk_grown (g := gb134) (o := .cells #[.slice (some ad138) l0_0.length c0_0] 29 (0, 0)) (bk_ BK134) hg (Kd.R_ne HO_5.out BK134.out (by decide))); replace HB := aa_ (hb); have HO145 := aa_ (ho); clear HO_5; clear ho hb hg hat)))
         go_roundg k2
         case measure => have := HK1.out; have := HK2.out; omega
         case rel => exact ⟨(y143), (true), (wrap64 (x7_2 + 1)), rf_, rf_, H', ⟨by have := HK1.out; have := HK2.out; omega⟩, ⟨by (with_reducible repeat (first | apply Kd.R_alloc | apply Kd.R_drewN | apply Kd.R_drew)); exact Kd.R_mono HO_3.out (fun _ hk => hk.2)⟩, ⟨rr_ HO145⟩, ⟨bk_ BK134⟩, ⟨bl_⟩⟩
        ·replace c14 := Bool.eq_false_iff.mpr c14
         subst c14
         replace H := ite_f_ H
         obtain ⟨c19b0, H⟩ := ifd_ H
         obtain ⟨c20b0, H⟩ := ifd_ H
         obtain ⟨c21b0, H⟩ := ifd_ H
         have HC22 := aa_ H
         clear H
         obtain ⟨Ao23, co23, eo23⟩ := Kd.R_slice HO_3.out
         subst eo23
         have hcz24 := blk_cell BK134.out
         have hfz24 := blk_frozen BK134.out
         have p146 : 0 ≤ (x4_1 : Int) := od_
         have q146 : x4_1 < (l0_0.length : Int) := od_
         obtain ⟨ad146, A146_3, c146_3, A146_4, c146_4, A146_5, c146_5, e146, hx146_0, hx146_1, hx146_2, hx146_3, hx146_4, hx146_5, hl146_3, hi146_3, hl146_4, hi146_4, hl146_5, hi146_5⟩ := at_T42 HR0_0.out x4_1 p146 q146
         (try rw [← Nbq9.out] at hx146_1)
         obtain rfl : ad138 = ad146 := (by injection e146)
         replace hx146_0 := cb_ HB hx146_0
         replace hx146_1 := cb_ HB hx146_1
         replace hx146_2 := cb_ HB hx146_2
         replace hx146_3 := cb_ HB hx146_3
         replace hx146_4 := cb_ HB hx146_4
         replace hx146_5 := cb_ HB hx146_5
         have HR146_3 := aa_ hi146_3
         have HC146_3 := aa_ hl146_3
         clear hi146_3 hl146_3
         have HR146_4 := aa_ hi146_4
         have HC146_4 := aa_ hl146_4
         clear hi146_4 hl146_4
         have HR146_5 := aa_ hi146_5
         have HC146_5 := aa_ hl146_5
         clear hi146_5 hl146_5
         replace p146 := eq_true p146
         replace q146 := eq_true q146
         have p147 : 0 ≤ (x7_2 : Int) := od_
         have q147 : x7_2 < (x3_1.length : Int) := od_
         obtain ⟨ad147, e147, hx147_0⟩ := Kd.at_int (Kd.R_reads' HO_3.out).2.2 x7_2 p147 q147
         cases e147
         replace p147 := eq_true p147
         replace q147 := eq_true q147
         go_upto_if 44 with (fail)
         repeat (go_quiet (fail); go_upto_if 44 with (fail))
         have H := HC22.out
         clear HC22
         by_cases c25 : ((rd_T42 l0_0 x4_1).f0) < (rd x3_1 x7_2)
         ·rw [if_pos c25] at H
          have c25b0 : decide (((rd_T42 l0_0 x4_1).f0) < (rd x3_1 x7_2)) = true := decide_eq_true c25
          clear c25
          (first | rw [c25b0] | (simp only [i64_w, i32_w]; rw [c25b0]) | skip)
          obtain ⟨c26, H⟩ := ifn_ H
          have LMc26 := aa_ c26
          clear c26
          obtain ⟨y149, hy149⟩ : ∃ y_ : List Int, y_ = (x5_2 ++ [(rd_T42 l0_0 x4_1).f0]) := ⟨_, rfl⟩
          replace H : (if y149.length < 17592186044416 then (spec_HereOf.l1 k2 x3_1 x4_1 (y149 ++ [rd x3_1 x7_2]) true (wrap64 (x7_2 + 1)) l0_0) else (none)) = some r := rh_ hy149 H
          have Ny149 := aa_ hy149
          clear hy149
          obtain ⟨c27, H⟩ := ifn_ H
          have LMc27 := aa_ c27
          clear c27
          obtain ⟨y153, hy153⟩ : ∃ y_ : List Int, y_ = (y149 ++ [rd x3_1 x7_2]) := ⟨_, rfl⟩
          replace H : (spec_HereOf.l1 k2 x3_1 x4_1 y153 true (wrap64 (x7_2 + 1)) l0_0) = some r := rh_ hy153 H
          have Ny153 := aa_ hy153
          clear hy153
          have H' := aa_ H
          clear H
          have hcz28 := blk_cell BK134.out
          have hfz28 := blk_frozen BK134.out
          have p148 : 0 ≤ (x4_1 : Int) := od_
          have q148 : x4_1 < (l0_0.length : Int) := od_
          obtain ⟨ad148, A148_3, c148_3, A148_4, c148_4, A148_5, c148_5, e148, hx148_0, hx148_1, hx148_2, hx148_3, hx148_4, hx148_5, hl148_3, hi148_3, hl148_4, hi148_4, hl148_5, hi148_5⟩ := at_T42 HR0_0.out x4_1 p148 q148
          (try rw [← Nbq9.out] at hx148_1)
          obtain rfl : ad138 = ad148 := (by injection e148)
          replace hx148_0 := cb_ HB hx148_0
          replace hx148_1 := cb_ HB hx148_1
          replace hx148_2 := cb_ HB hx148_2
          replace hx148_3 := cb_ HB hx148_3
          replace hx148_4 := cb_ HB hx148_4
          replace hx148_5 := cb_ HB hx148_5
          have HR148_3 := aa_ hi148_3
          have HC148_3 := aa_ hl148_3
          clear hi148_3 hl148_3
          have HR148_4 := aa_ hi148_4
          have HC148_4 := aa_ hl148_4
          clear hi148_4 hl148_4
          have HR148_5 := aa_ hi148_5
          have HC148_5 := aa_ hl148_5
          clear hi148_5 hl148_5
          replace p148 := eq_true p148
          replace q148 := eq_true q148
          go_wp2_with (first | ((with_reducible refine gate_builtin (b := .append) (xs := #[.tmp 45, .tmp 52]) rfl ?_); at_builtin; refine Kd.R_append (Kd.int .i64) (w0 := w) w.heap.size rfl (.tmp 45) (.tmp 52) 34 3 (.int .i64 0) 8 rfl Try.underlying34 info3 rfl (by decide) (by omega) u5 x5_2 ((rd_T42 l0_0 x4_1).f0) [.int .i64 ((rd_T42 l0_0 x4_1).f0)] (fun k_ => some k_ ≠ (.slice (some ad147) x3_1.length co23 : Value).ownBlock) (fun _ => False) rfl rfl ?aP (fun _ hk => hk.elim) ?aF ?aO ?aB ?aS ?aL ?_; (case aP => exact rfl); (case aB => exact bl_); (case aF => exact (fun k_ hk => Kd.fresh' (Kd.R_lt (rr_ HO_3)) k_ hk)); (case aO => exact (rr_ HO_5)); (case aS => exact bls_); (case aL => have := LMc26.out; omega); intro v150 w29 ho hb hg hat; rw [← Ny149.out] at ho; replace HO_3 := aa_ (Kd.R_after (ok := (fun _ => True)) (by (with_reducible repeat (first | apply Kd.R_alloc | apply Kd.R_drewN | apply Kd.R_drew)); exact Kd.R_mono HO_3.out (fun _ hk => ⟨trivial, hk⟩)) hg hat); replace BK134 := aa_ (blk_grown (g := gb134) (o := .cells #[.slice (some ad138) l0_0.length c0_0] 29 (0, 0)) (bk_ BK134) hg (Kd.R_ne HO_5.out BK134.out (by decide))); replace HB := aa_ (hb); have HO151 := aa_ (ho); clear HO_5; clear ho hb hg hat; have p152 : 0 ≤ (x7_2 : Int) := od_; have q152 : x7_2 < (x3_1.length : Int) := od_; obtain ⟨ad152, e152, hx152_0⟩ := Kd.at_int (Kd.R_reads' HO_3.out).2.2 x7_2 p152 q152; obtain rfl : ad147 = ad152 := (by injection e152); replace p152 := eq_true p152; replace q152 := eq_true q152) | ((with_reducible refine gate_builtin (b := .append) (xs := #[.tmp 54, .tmp 59]) rfl ?_); at_builtin; refine Kd.R_append (Kd.int .i64) (w0 := w) w.heap.size rfl (.tmp 54) (.tmp 59) 34 3 (.int .i64 0) 8 rfl Try.underlying34 info3 rfl (by decide) (by omega) v150 y149 (rd x3_1 x7_2) [.int .i64 (rd x3_1 x7_2)] (fun k_ => some k_ ≠ (.slice (some ad147) x3_1.length co23 : Value).ownBlock) (fun _ => False) rfl rfl ?aP (fun _ hk => hk.elim) ?aF ?aO ?aB ?aS ?aL ?_; (case aP => exact rfl); (case aB => exact bl_); (case aF => exact (fun k_ hk => Kd.fresh' (Kd.R_lt (rr_ HO_3)) k_ hk)); (case aO => exact (rr_ HO151)); (case aS => exact bls_); (case aL => have := LMc27.out; omega); intro v154 w30 ho hb hg hat; rw [← Ny153.out] at ho; replace HO_3 := aa_ (Kd.R_after (ok := (fun _ => True)) (rr_ HO_3) hg hat); replace BK134 := aa_ (blk_grown (g := gb134) (o := .cells #[.slice (some ad138) l0_0.length c0_0] 29 (0, 0)) (bk_ BK134) hg (Kd.R_ne HO151.out BK134.out (by decide))); replace HB := aa_ (hb); have HO155 := aa_ (ho); clear HO151; clear ho hb hg hat))
          repeat (go_quiet (first | ((with_reducible refine gate_builtin (b := .append) (xs := #[.tmp 45, .tmp 52]) rfl ?_); at_builtin; refine Kd.R_append (Kd.int .i64) (w0 := w) w.heap.size rfl (.tmp 45) (.tmp 52) 34 3 (.int .i64 0) 8 rfl Try.underlying34 info3 rfl (by decide) (by omega) u5 x5_2 ((rd_T42 l0_0 x4_1).f0) [.int .i64 ((rd_T42 l0_0 x4_1).f0)] (fun k_ => some k_ ≠ (.slice (some ad147) x3_1.length co23 : Value).ownBlock) (fun _ => False) rfl rfl ?aP (fun _ hk => hk.elim) ?aF ?aO ?aB ?aS ?aL ?_; (case aP => exact rfl); (case aB => exact bl_); (case aF => exact (fun k_ hk => Kd.fresh' (Kd.R_lt (rr_ HO_3)) k_ hk)); (case aO => exact (rr_ HO_5)); (case aS => exact bls_); (case aL => have := LMc26.out; omega); intro v150 w29 ho hb hg hat; rw [← Ny149.out] at ho; replace HO_3 := aa_ (Kd.R_after (ok := (fun _ => True)) (by (with_reducible repeat (first | apply Kd.R_alloc | apply Kd.R_drewN | apply Kd.R_drew)); exact Kd.R_mono HO_3.out (fun _ hk => ⟨trivial, hk⟩)) hg hat); replace BK134 := aa_ (blk_grown (g := gb134) (o := .cells #[.slice (some ad138) l0_0.length c0_0] 29 (0, 0)) (bk_ BK134) hg (Kd.R_ne HO_5.out BK134.out (by decide))); replace HB := aa_ (hb); have HO151 := aa_ (ho); clear HO_5; clear ho hb hg hat; have p152 : 0 ≤ (x7_2 : Int) := od_; have q152 : x7_2 < (x3_1.length : Int) := od_; obtain ⟨ad152, e152, hx152_0⟩ := Kd.at_int (Kd.R_reads' HO_3.out).2.2 x7_2 p152 q152; obtain rfl : ad147 = ad152 := (by injection e152); replace p152 := eq_true p152; replace q152 := eq_true q152) | ((with_reducible refine gate_builtin (b := .append) (xs := #[.tmp 54, .tmp 59]) rfl ?_); at_builtin; refine Kd.R_append (Kd.int .i64) (w0 := w) w.heap.size rfl (.tmp 54) (.tmp 59) 34 3 (.int .i64 0) 8 rfl Try.underlying34 info3 rfl (by decide) (by omega) v150 y149 (rd x3_1 x7_2) [.int .i64 (rd x3_1 x7_2)] (fun k_ => some k_ ≠ (.slice (some ad147) x3_1.length co23 : Value).ownBlock) (fun _ => False) rfl rfl ?aP (fun _ hk => hk.elim) ?aF ?aO ?aB ?aS ?aL ?_; (case aP => exact rfl); (case aB => exact bl_); (case aF => exact (fun k_ hk => Kd.fresh' (Kd.R_lt (rr_ HO_3)) k_ hk)); (case aO => exact (rr_ HO151)); (case aS => exact bls_); (case aL => have := LMc27.out; omega); intro v154 w30 ho hb hg hat; rw [← Ny153.out] at ho; replace HO_3 := aa_ (Kd.R_after (ok := (fun _ => True)) (rr_ HO_3) hg hat); replace BK134 := aa_ (blk_grown (g := gb134) (o := .cells #[.slice (some ad138) l0_0.length c0_0] 29 (0, 0)) (bk_ BK134) hg (Kd.R_ne HO151.out BK134.out (by decide))); replace HB := aa_ (hb); have HO155 := aa_ (ho); clear HO151; clear ho hb hg hat)); try go_wp2_with (first | ((with_reducible refine gate_builtin (b := .append) (xs := #[.tmp 45, .tmp 52]) rfl ?_); at_builtin; refine Kd.R_append (Kd.int .i64) (w0 := w) w.heap.size rfl (.tmp 45) (.tmp 52) 34 3 (.int .i64 0) 8 rfl Try.underlying34 info3 rfl (by decide) (by omega) u5 x5_2 ((rd_T42 l0_0 x4_1).f0) [.int .i64 ((rd_T42 l0_0 x4_1).f0)] (fun k_ => some k_ ≠ (.slice (some ad147) x3_1.length co23 : Value).ownBlock) (fun _ => False) rfl rfl ?aP (fun _ hk => hk.elim) ?aF ?aO ?aB ?aS ?aL ?_; (case aP => exact rfl); (case aB => exact bl_); (case aF => exact (fun k_ hk => Kd.fresh' (Kd.R_lt (rr_ HO_3)) k_ hk)); (case aO => exact (rr_ HO_5)); (case aS => exact bls_); (case aL => have := LMc26.out; omega); intro v150 w29 ho hb hg hat; rw [← Ny149.out] at ho; replace HO_3 := aa_ (Kd.R_after (ok := (fun _ => True)) (by (with_reducible repeat (first | apply Kd.R_alloc | apply Kd.R_drewN | apply Kd.R_drew)); exact Kd.R_mono HO_3.out (fun _ hk => ⟨trivial, hk⟩)) hg hat); replace BK134 := aa_ (blk_grown (g := gb134) (o := .cells #[.slice (some ad138) l0_0.length c0_0] 29 (0, 0)) (bk_ BK134) hg (Kd.R_ne HO_5.out BK134.out (by decide))); replace HB := aa_ (hb); have HO151 := aa_ (ho); clear HO_5; clear ho hb hg hat; have p152 : 0 ≤ (x7_2 : Int) := od_; have q152 : x7_2 < (x3_1.length : Int) := od_; obtain ⟨ad152, e152, hx152_0⟩ := Kd.at_int (Kd.R_reads' HO_3.out).2.2 x7_2 p152 q152; obtain rfl : ad147 = ad152 := (by injection e152); replace p152 := eq_true p152; replace q152 := eq_true q152) | ((with_reducible refine gate_builtin (b := .append) (xs := #[.tmp 54, .tmp 59]) rfl ?_); at_builtin; refine Kd.R_append (Kd.int .i64) (w0 := w) w.heap.size rfl (.tmp 54) (.tmp 59) 34 3 (.int .i64 0) 8 rfl Try.underlying34 info3 rfl (by decide) (by omega) v150 y149 (rd x3_1 x7_2) [.int .i64 (rd x3_1 x7_2)] (fun k_ => some k_ ≠ (.slice (some ad147) x3_1.length co23 : Value).ownBlock) (fun _ => False) rfl rfl ?aP (fun _ hk => hk.elim) ?aF ?aO ?aB ?aS ?aL ?_; (case aP => exact rfl); (case aB => exact bl_); (case aF => exact (fun k_ hk => Kd.fresh' (Kd.R_lt (rr_ HO_3)) k_ hk)); (case aO => exact (rr_ HO151)); (case aS => exact bls_); (case aL => have := LMc27.out; omega); intro v154 w30 ho hb hg hat; rw [← Ny153.out] at ho; replace HO_3 := aa_ (Kd.R_after (ok := (fun _ => True)) (rr_ HO_3) hg hat); replace BK134 := aa_ (blk_grown (g := gb134) (o := .cells #[.slice (some ad138) l0_0.length c0_0] 29 (0, 0)) (bk_ BK134) hg (Kd.R_ne HO151.out BK134.out (by decide))); replace HB := aa_ (hb); have HO155 := aa_ (ho); clear HO151; clear ho hb hg hat)))
          go_roundg k2
          case measure => have := HK1.out; have := HK2.out; omega
          case rel => exact ⟨(y153), (true), (wrap64 (x7_2 + 1)), rf_, rf_, H', ⟨by have := HK1.out; have := HK2.out; omega⟩, ⟨by (with_reducible repeat (first | apply Kd.R_alloc | apply Kd.R_drewN | apply Kd.R_drew)); exact Kd.R_mono HO_3.out (fun _ hk => hk.2)⟩, ⟨rr_ HO155⟩, ⟨bk_ BK134⟩, ⟨bl_⟩⟩
         ·rw [if_neg c25] at H
          have c25b0 : decide (((rd_T42 l0_0 x4_1).f0) < (rd x3_1 x7_2)) = false := decide_eq_false c25
          clear c25
          (first | rw [c25b0] | (simp only [i64_w, i32_w]; rw [c25b0]) | skip)
          obtain ⟨c31, H⟩ := ifn_ H
          have LMc31 := aa_ c31
          clear c31
          obtain ⟨y157, hy157⟩ : ∃ y_ : List Int, y_ = (x5_2 ++ [rd x3_1 x7_2]) := ⟨_, rfl⟩
          replace H : (spec_HereOf.l1 k2 x3_1 x4_1 y157 false (wrap64 (x7_2 + 1)) l0_0) = some r := rh_ hy157 H
          have Ny157 := aa_ hy157
          clear hy157
          have H' := aa_ H
          clear H
          have p156 : 0 ≤ (x7_2 : Int) := od_
          have q156 : x7_2 < (x3_1.length : Int) := od_
          obtain ⟨ad156, e156, hx156_0⟩ := Kd.at_int (Kd.R_reads' HO_3.out).2.2 x7_2 p156 q156
          obtain rfl : ad147 = ad156 := (by injection e156)
          replace p156 := eq_true p156
          replace q156 := eq_true q156
          go_wp2_with (first | ((with_reducible refine gate_builtin (b := .append) (xs := #[.tmp 54, .tmp 59]) rfl ?_); at_builtin; refine Kd.R_append (Kd.int .i64) (w0 := w) w.heap.size rfl (.tmp 54) (.tmp 59) 34 3 (.int .i64 0) 8 rfl Try.underlying34 info3 rfl (by decide) (by omega) u5 x5_2 (rd x3_1 x7_2) [.int .i64 (rd x3_1 x7_2)] (fun k_ => some k_ ≠ (.slice (some ad147) x3_1.length co23 : Value).ownBlock) (fun _ => False) rfl rfl ?aP (fun _ hk => hk.elim) ?aF ?aO ?aB ?aS ?aL ?_; (case aP => exact rfl); (case aB => exact bl_); (case aF => exact (fun k_ hk => Kd.fresh' (Kd.R_lt (rr_ HO_3)) k_ hk)); (case aO => exact (rr_ HO_5)); (case aS => exact bls_); (case aL => have := LMc31.out; omega); intro v158 w32 ho hb hg hat; rw [← Ny157.out] at ho; replace HO_3 := aa_ (Kd.R_after (ok := (fun _ => True)) (by (with_reducible repeat (first | apply Kd.R_alloc | apply Kd.R_drewN | apply Kd.R_drew)); exact Kd.R_mono HO_3.out (fun _ hk => ⟨trivial, hk⟩)) hg hat); replace BK134 := aa_ (blk_grown (g := gb134) (o := .cells #[.slice (some ad138) l0_0.length c0_0] 29 (0, 0)) (bk_ BK134) hg (Kd.R_ne HO_5.out BK134.out (by decide))); replace HB := aa_ (hb); have HO159 := aa_ (ho); clear HO_5; clear ho hb hg hat))
          repeat (go_quiet (first | ((with_reducible refine gate_builtin (b := .append) (xs := #[.tmp 54, .tmp 59]) rfl ?_); at_builtin; refine Kd.R_append (Kd.int .i64) (w0 := w) w.heap.size rfl (.tmp 54) (.tmp 59) 34 3 (.int .i64 0) 8 rfl Try.underlying34 info3 rfl (by decide) (by omega) u5 x5_2 (rd x3_1 x7_2) [.int .i64 (rd x3_1 x7_2)] (fun k_ => some k_ ≠ (.slice (some ad147) x3_1.length co23 : Value).ownBlock) (fun _ => False) rfl rfl ?aP (fun _ hk => hk.elim) ?aF ?aO ?aB ?aS ?aL ?_; (case aP => exact rfl); (case aB => exact bl_); (case aF => exact (fun k_ hk => Kd.fresh' (Kd.R_lt (rr_ HO_3)) k_ hk)); (case aO => exact (rr_ HO_5)); (case aS => exact bls_); (case aL => have := LMc31.out; omega); intro v158 w32 ho hb hg hat; rw [← Ny157.out] at ho; replace HO_3 := aa_ (Kd.R_after (ok := (fun _ => True)) (by (with_reducible repeat (first | apply Kd.R_alloc | apply Kd.R_drewN | apply Kd.R_drew)); exact Kd.R_mono HO_3.out (fun _ hk => ⟨trivial, hk⟩)) hg hat); replace BK134 := aa_ (blk_grown (g := gb134) (o := .cells #[.slice (some ad138) l0_0.length c0_0] 29 (0, 0)) (bk_ BK134) hg (Kd.R_ne HO_5.out BK134.out (by decide))); replace HB := aa_ (hb); have HO159 := aa_ (ho); clear HO_5; clear ho hb hg hat)); try go_wp2_with (first | ((with_reducible refine gate_builtin (b := .append) (xs := #[.tmp 54, .tmp 59]) rfl ?_); at_builtin; refine Kd.R_append (Kd.int .i64) (w0 := w) w.heap.size rfl (.tmp 54) (.tmp 59) 34 3 (.int .i64 0) 8 rfl Try.underlying34 info3 rfl (by decide) (by omega) u5 x5_2 (rd x3_1 x7_2) [.int .i64 (rd x3_1 x7_2)] (fun k_ => some k_ ≠ (.slice (some ad147) x3_1.length co23 : Value).ownBlock) (fun _ => False) rfl rfl ?aP (fun _ hk => hk.elim) ?aF ?aO ?aB ?aS ?aL ?_; (case aP => exact rfl); (case aB => exact bl_); (case aF => exact (fun k_ hk => Kd.fresh' (Kd.R_lt (rr_ HO_3)) k_ hk)); (case aO => exact (rr_ HO_5)); (case aS => exact bls_); (case aL => have := LMc31.out; omega); intro v158 w32 ho hb hg hat; rw [← Ny157.out] at ho; replace HO_3 := aa_ (Kd.R_after (ok := (fun _ => True)) (by (with_reducible repeat (first | apply Kd.R_alloc | apply Kd.R_drewN | apply Kd.R_drew)); exact Kd.R_mono HO_3.out (fun _ hk => ⟨trivial, hk⟩)) hg hat); replace BK134 := aa_ (blk_grown (g := gb134) (o := .cells #[.slice (some ad138) l0_0.length c0_0] 29 (0, 0)) (bk_ BK134) hg (Kd.R_ne HO_5.out BK134.out (by decide))); replace HB := aa_ (hb); have HO159 := aa_ (ho); clear HO_5; clear ho hb hg hat)))
          go_roundg k2
          case measure => have := HK1.out; have := HK2.out; omega
          case rel => exact ⟨(y157), (false), (wrap64 (x7_2 + 1)), rf_, rf_, H', ⟨by have := HK1.out; have := HK2.out; omega⟩, ⟨by (with_reducible repeat (first | apply Kd.R_alloc | apply Kd.R_drewN | apply Kd.R_drew)); exact Kd.R_mono HO_3.out (fun _ hk => hk.2)⟩, ⟨rr_ HO159⟩, ⟨bk_ BK134⟩, ⟨bl_⟩⟩
       ·rw [if_neg c13] at H
        have c13b0 : decide (x7_2 < (x3_1.length : Int)) = false := decide_eq_false c13
        clear c13
        by_cases c33 : x6_2 = true
        ·subst c33
         replace H := ite_t_ H
         have H' := aa_ H
         clear H
         obtain ⟨Ao34, co34, eo34⟩ := Kd.R_slice HO_3.out
         subst eo34
         go_wp2
         repeat (go_quiet (fail); try go_wp2)
         go_roundg k2
         case measure => have := HK1.out; have := HK2.out; omega
         case rel => exact ⟨(x5_2), (wrap64 (x4_1 + 1)), rf_, H', ⟨by have := HK1.out; have := HK2.out; omega⟩, ⟨by (with_reducible repeat (first | apply Kd.R_alloc | apply Kd.R_drewN | apply Kd.R_drew)); exact Kd.R_mono HO_5.out (fun _ hk => trivial)⟩, ⟨bk_ BK134⟩, ⟨bl_⟩⟩
        ·replace c33 := Bool.eq_false_iff.mpr c33
         subst c33
         replace H := ite_f_ H
         obtain ⟨c35b0, H⟩ := ifd_ H
         obtain ⟨c36b0, H⟩ := ifd_ H
         obtain ⟨c37, H⟩ := ifn_ H
         have LMc37 := aa_ c37
         clear c37
         obtain ⟨y161, hy161⟩ : ∃ y_ : List Int, y_ = (x5_2 ++ [(rd_T42 l0_0 x4_1).f0]) := ⟨_, rfl⟩
         replace H : (spec_HereOf.l0 k2 y161 (wrap64 (x4_1 + 1)) l0_0) = some r := rh_ hy161 H
         have Ny161 := aa_ hy161
         clear hy161
         have H' := aa_ H
         clear H
         obtain ⟨Ao38, co38, eo38⟩ := Kd.R_slice HO_3.out
         subst eo38
         have hcz39 := blk_cell BK134.out
         have hfz39 := blk_frozen BK134.out
         have p160 : 0 ≤ (x4_1 : Int) := od_
         have q160 : x4_1 < (l0_0.length : Int) := od_
         obtain ⟨ad160, A160_3, c160_3, A160_4, c160_4, A160_5, c160_5, e160, hx160_0, hx160_1, hx160_2, hx160_3, hx160_4, hx160_5, hl160_3, hi160_3, hl160_4, hi160_4, hl160_5, hi160_5⟩ := at_T42 HR0_0.out x4_1 p160 q160
         (try rw [← Nbq9.out] at hx160_1)
         obtain rfl : ad138 = ad160 := (by injection e160)
         replace hx160_0 := cb_ HB hx160_0
         replace hx160_1 := cb_ HB hx160_1
         replace hx160_2 := cb_ HB hx160_2
         replace hx160_3 := cb_ HB hx160_3
         replace hx160_4 := cb_ HB hx160_4
         replace hx160_5 := cb_ HB hx160_5
         have HR160_3 := aa_ hi160_3
         have HC160_3 := aa_ hl160_3
         clear hi160_3 hl160_3
         have HR160_4 := aa_ hi160_4
         have HC160_4 := aa_ hl160_4
         clear hi160_4 hl160_4
         have HR160_5 := aa_ hi160_5
         have HC160_5 := aa_ hl160_5
         clear hi160_5 hl160_5
         replace p160 := eq_true p160
         replace q160 := eq_true q160
         go_wp2_with (first | ((with_reducible refine gate_builtin (b := .append) (xs := #[.tmp 63, .tmp 70]) rfl ?_); at_builtin; refine Kd.R_append (Kd.int .i64) (w0 := w) w.heap.size rfl (.tmp 63) (.tmp 70) 34 3 (.int .i64 0) 8 rfl Try.underlying34 info3 rfl (by decide) (by omega) u5 x5_2 ((rd_T42 l0_0 x4_1).f0) [.int .i64 ((rd_T42 l0_0 x4_1).f0)] (fun k_ => some k_ ≠ (.slice Ao38 x3_1.length co38 : Value).ownBlock) (fun _ => False) rfl rfl ?aP (fun _ hk => hk.elim) ?aF ?aO ?aB ?aS ?aL ?_; (case aP => exact rfl); (case aB => exact bl_); (case aF => exact (fun k_ hk => Kd.fresh' (Kd.R_lt (rr_ HO_3)) k_ hk)); (case aO => exact (rr_ HO_5)); (case aS => exact bls_); (case aL => have := LMc37.out; omega); intro v162 w40 ho hb hg hat; rw [← Ny161.out] at ho; replace HO_3 := aa_ (Kd.R_after (ok := (fun _ => True)) (by (with_reducible repeat (first | apply Kd.R_alloc | apply Kd.R_drewN | apply Kd.R_drew)); exact Kd.R_mono HO_3.out (fun _ hk => ⟨trivial, hk⟩)) hg hat); replace BK134 := aa_ (blk_grown (g := gb134) (o := .cells #[.slice (some ad138) l0_0.length c0_0] 29 (0, 0)) (bk_ BK134) hg (Kd.R_ne HO_5.out BK134.out (by decide))); replace HB := aa_ (hb); have HO163 := aa_ (ho); clear HO_5; clear ho hb hg hat))
         repeat (go_quiet (first | ((with_reducible refine gate_builtin (b := .append) (xs := #[.tmp 63, .tmp 70]) rfl ?_); at_builtin; refine Kd.R_append (Kd.int .i64) (w0 := w) w.heap.size rfl (.tmp 63) (.tmp 70) 34 3 (.int .i64 0) 8 rfl Try.underlying34 info3 rfl (by decide) (by omega) u5 x5_2 ((rd_T42 l0_0 x4_1).f0) [.int .i64 ((rd_T42 l0_0 x4_1).f0)] (fun k_ => some k_ ≠ (.slice Ao38 x3_1.length co38 : Value).ownBlock) (fun _ => False) rfl rfl ?aP (fun _ hk => hk.elim) ?aF ?aO ?aB ?aS ?aL ?_; (case aP => exact rfl); (case aB => exact bl_); (case aF => exact (fun k_ hk => Kd.fresh' (Kd.R_lt (rr_ HO_3)) k_ hk)); (case aO => exact (rr_ HO_5)); (case aS => exact bls_); (case aL => have := LMc37.out; omega); intro v162 w40 ho hb hg hat; rw [← Ny161.out] at ho; replace HO_3 := aa_ (Kd.R_after (ok := (fun _ => True)) (by (with_reducible repeat (first | apply Kd.R_alloc | apply Kd.R_drewN | apply Kd.R_drew)); exact Kd.R_mono HO_3.out (fun _ hk => ⟨trivial, hk⟩)) hg hat); replace BK134 := aa_ (blk_grown (g := gb134) (o := .cells #[.slice (some ad138) l0_0.length c0_0] 29 (0, 0)) (bk_ BK134) hg (Kd.R_ne HO_5.out BK134.out (by decide))); replace HB := aa_ (hb); have HO163 := aa_ (ho); clear HO_5; clear ho hb hg hat)); try go_wp2_with (first | ((with_reducible refine gate_builtin (b := .append) (xs := #[.tmp 63, .tmp 70]) rfl ?_); at_builtin; refine Kd.R_append (Kd.int .i64) (w0 := w) w.heap.size rfl (.tmp 63) (.tmp 70) 34 3 (.int .i64 0) 8 rfl Try.underlying34 info3 rfl (by decide) (by omega) u5 x5_2 ((rd_T42 l0_0 x4_1).f0) [.int .i64 ((rd_T42 l0_0 x4_1).f0)] (fun k_ => some k_ ≠ (.slice Ao38 x3_1.length co38 : Value).ownBlock) (fun _ => False) rfl rfl ?aP (fun _ hk => hk.elim) ?aF ?aO ?aB ?aS ?aL ?_; (case aP => exact rfl); (case aB => exact bl_); (case aF => exact (fun k_ hk => Kd.fresh' (Kd.R_lt (rr_ HO_3)) k_ hk)); (case aO => exact (rr_ HO_5)); (case aS => exact bls_); (case aL => have := LMc37.out; omega); intro v162 w40 ho hb hg hat; rw [← Ny161.out] at ho; replace HO_3 := aa_ (Kd.R_after (ok := (fun _ => True)) (by (with_reducible repeat (first | apply Kd.R_alloc | apply Kd.R_drewN | apply Kd.R_drew)); exact Kd.R_mono HO_3.out (fun _ hk => ⟨trivial, hk⟩)) hg hat); replace BK134 := aa_ (blk_grown (g := gb134) (o := .cells #[.slice (some ad138) l0_0.length c0_0] 29 (0, 0)) (bk_ BK134) hg (Kd.R_ne HO_5.out BK134.out (by decide))); replace HB := aa_ (hb); have HO163 := aa_ (ho); clear HO_5; clear ho hb hg hat)))
         go_roundg k2
         case measure => have := HK1.out; have := HK2.out; omega
         case rel => exact ⟨(y161), (wrap64 (x4_1 + 1)), rf_, H', ⟨by have := HK1.out; have := HK2.out; omega⟩, ⟨by (with_reducible repeat (first | apply Kd.R_alloc | apply Kd.R_drewN | apply Kd.R_drew)); exact Kd.R_mono HO163.out (fun _ hk => trivial)⟩, ⟨bk_ BK134⟩, ⟨bl_⟩⟩
    ·replace c10 := Bool.eq_false_iff.mpr c10
     subst c10
     replace H := ite_f_ H
     have H' := aa_ H
     clear H
     go_wp2
     repeat (go_quiet (fail); try go_wp2)
     go_roundg k1
     case measure => have := HK1.out; omega
     case rel => exact ⟨(x3_1), (wrap64 (x4_1 + 1)), rf_, H', ⟨by have := HK1.out; omega⟩, ⟨rr_ HO_3⟩, ⟨bk_ BK134⟩, ⟨bl_⟩⟩
   ·rw [if_neg c5] at H
    have c5b0 : decide (x4_1 < (l0_0.length : Int)) = false := decide_eq_false c5
    clear c5
    obtain rfl := Option.some.inj H
    have hcz41 := blk_cell BK134.out
    have hfz41 := blk_frozen BK134.out
    go_wp2
    repeat (go_quiet (fail); try go_wp2)
    go_ret
    exact ⟨_, eq_, by (with_reducible repeat (first | apply Kd.R_alloc | apply Kd.R_drewN | apply Kd.R_drew)); exact HO_3.out, bl_⟩
def spec_ShelfOf.l0 : Nat → Int → Int → Int → Bool → Int → List Int → List Int → List (S61) → Option ((List (S52)))
 | 0, _, _, _, _, _, _, _, _ => none
 | k + 1, x1, x5, x165000, x165001, x165002, x165003, x165004, x165005 => if x5 < (x165005.length : Int) then (if 0 ≤ x5 then (if ((rd_T61 x165005 x5).f0) = x1 then ((some (([] : List (S52)) : List (S52))).bind fun y166 => (if y166.length + ((rd_T61 x165005 x5).f1).length < 5864062014805 then (some (y166 ++ ((rd_T61 x165005 x5).f1))) else (none))) else (spec_ShelfOf.l0 k x1 (wrap64 (x5 + 1)) x165000 x165001 x165002 x165003 x165004 x165005)) else (none)) else (some (([] : List (S52))))
def spec_ShelfOf.f (k : Nat) (a0_0 : Int) (a0_1 : Bool) (a0_2 : Int) (l0_3 : List Int) (l0_4 : List Int) (l0_5 : List (S61)) (a1 : Int) : Option ((List (S52))) := spec_ShelfOf.l0 k a1 0 a0_0 a0_1 a0_2 l0_3 l0_4 l0_5
set_option maxHeartbeats 8000000 in
set_option maxRecDepth 100000 in
theorem spec_ShelfOf.calls (k : Nat) (a0_0 : Int) (a0_1 : Bool) (a0_2 : Int) (A0_3 : Option Addr) (c0_3 : Nat) (l0_3 : List Int) (A0_4 : Option Addr) (c0_4 : Nat) (l0_4 : List Int) (A0_5 : Option Addr) (c0_5 : Nat) (l0_5 : List (S61)) (a1 : Int) (r : List (S52)) (w : World) (hr0_3 : Kd.C (Kd.int .i64) w A0_3 l0_3.length l0_3) (hc0_3 : l0_3.length ≤ c0_3) (hr0_4 : Kd.C (Kd.int .i64) w A0_4 l0_4.length l0_4) (hc0_4 : l0_4.length ≤ c0_4) (hr0_5 : Kd.C k61 w A0_5 l0_5.length l0_5) (hc0_5 : l0_5.length ≤ c0_5) (h : spec_ShelfOf.f k a0_0 a0_1 a0_2 l0_3 l0_4 l0_5 a1 = some r) :
  Calls Try.prog 17 #[.agg #[.int .i64 a0_0, .bool a0_1, .int .i64 a0_2, .slice A0_3 l0_3.length c0_3, .slice A0_4 l0_4.length c0_4, .slice A0_5 l0_5.length c0_5], .int .i64 a1] w fun e w' => ∃ v0_ : Value, e = .returned (v0_) ∧ Kd.R k52 52 w' w.heap.size (fun _ => True) v0_ r ∧ Below w.heap.size w w' := by
 have hu42 := Try.underlying42
 have HR0_3 := aa_ hr0_3
 have HC0_3 := aa_ hc0_3
 clear hr0_3 hc0_3
 have HR0_4 := aa_ hr0_4
 have HC0_4 := aa_ hc0_4
 clear hr0_4 hc0_4
 have HR0_5 := aa_ hr0_5
 have HC0_5 := aa_ hc0_5
 clear hr0_5 hc0_5
 have HB := aa_ (Below.refl w.heap.size w)
 have H : (spec_ShelfOf.l0 k a1 0 a0_0 a0_1 a0_2 l0_3 l0_4 l0_5) = some r := h
 clear h
 have H' := aa_ H
 clear H
 go_enter Try.func17, Try.ntmps17
 go_wp2_with (first | ((with_reducible refine gD_ 2 rfl ?_); refine bx_ (N := 2) (cs := #[.int .i64 a0_0, .bool a0_1, .int .i64 a0_2, .slice A0_3 l0_3.length c0_3, .slice A0_4 l0_4.length c0_4, .slice A0_5 l0_5.length c0_5]) (t := 42) ?_; intro gb164 hg w3 hbox hb; have BK164 := aa_ (hbox); have GW164 := gs_ hg; have GE164 := gs_ hg; replace HB := hbs_ hb; clear hb hbox hg))
 go_loopg [5] k (fun kq v5 w' => ∃ (x5_1 : Int), v5 = .int .i64 x5_1 ∧ Aside0 (spec_ShelfOf.l0 kq a1 x5_1 a0_0 a0_1 a0_2 l0_3 l0_4 l0_5 = some r) ∧ Aside0 (kq ≤ k) ∧ Aside0 (w'.heap[gb164]? = some (.cells #[.int .i64 a0_0, .bool a0_1, .int .i64 a0_2, (.slice A0_3 l0_3.length c0_3), (.slice A0_4 l0_4.length c0_4), (.slice A0_5 l0_5.length c0_5)] 42 (0, 0))) ∧ Aside0 (Below w.heap.size w w'))
 case atStart => exact ⟨(0), rf_, H', ⟨Nat.le_refl _⟩, ⟨bk_ BK164⟩, ⟨bl_⟩⟩
 case round =>
  clear H'
  try clear c1
  try clear p2
  obtain ⟨x5_1, rfl, HA, HK1, BK164, HB⟩ := hrel
  cases gk with
  | zero => exact absurd HA.out (by simp [spec_ShelfOf.l0])
  | succ k1 =>
   have H := HA.out
   clear HA
   simp only [spec_ShelfOf.l0] at H
   by_cases c4 : x5_1 < (l0_5.length : Int)
   ·rw [if_pos c4] at H
    have c4b0 : decide (x5_1 < (l0_5.length : Int)) = true := decide_eq_true c4
    clear c4
    obtain ⟨c5b0, H⟩ := ifd_ H
    have HC6 := aa_ H
    clear H
    have hcz7 := blk_cell BK164.out
    have hfz7 := blk_frozen BK164.out
    have p165 : 0 ≤ (x5_1 : Int) := od_
    have q165 : x5_1 < (l0_5.length : Int) := od_
    obtain ⟨ad165, A165_1, c165_1, e165, hx165_0, hx165_1, hl165_1, hi165_1⟩ := at_T61 HR0_5.out x5_1 p165 q165
    cases e165
    replace hx165_0 := cb_ HB hx165_0
    replace hx165_1 := cb_ HB hx165_1
    have HR165_1 := aa_ hi165_1
    have HC165_1 := aa_ hl165_1
    clear hi165_1 hl165_1
    replace p165 := eq_true p165
    replace q165 := eq_true q165
    go_upto_if 20 with (fail)
    have H := HC6.out
    clear HC6
    by_cases c8 : ((rd_T61 l0_5 x5_1).f0) = a1
    ·rw [if_pos c8] at H
     have c8b0 : (((rd_T61 l0_5 x5_1).f0) == a1) = true := beq_iff_eq.mpr c8
     have c8b1 : (((rd_T61 l0_5 x5_1).f0) != a1) = false := bne_eq_false_iff_eq.mpr c8
     clear c8
     (first | rw [c8b0] | (simp only [i64_w, i32_w]; rw [c8b0]) | skip)
     obtain ⟨y166, hy166⟩ : ∃ y_ : List (S52), y_ = (([] : List (S52))) := ⟨_, rfl⟩
     replace H : (if y166.length + ((rd_T61 l0_5 x5_1).f1).length < 5864062014805 then (some (y166 ++ ((rd_T61 l0_5 x5_1).f1))) else (none)) = some r := rh_ hy166 H
     have Ny166 := aa_ hy166
     clear hy166
     obtain ⟨c9, H⟩ := ifn_ H
     have LMc9 := aa_ c9
     clear c9
     obtain ⟨y170, hy170⟩ : ∃ y_ : List (S52), y_ = (y166 ++ ((rd_T61 l0_5 x5_1).f1)) := ⟨_, rfl⟩
     replace H : (some y170) = some r := rh_ hy170 H
     have Ny170 := aa_ hy170
     clear hy170
     obtain rfl := Option.some.inj H
     go_wp2_with (first | ((with_reducible refine gD_ 21 rfl ?_); refine Kd.R_lit k52 _ 52 ?hg (N := 21) ?hd (xs := ([] : List (S52))) (inner := []) (ok := fun _ => True) (okp := fun _ => True) ?hr ?hp (fun _ hk => hk) trivial (Below.refl _ _) (Nat.le_refl _) (by simp) ?_; (case hd => rfl); (case hg => rfl); (case hr => first | (go_simp; done) | (go_simp; rfl)); (case hp => exact (Reps.none _ _)); intro v167 w10 ho11 hb hg_ hnew_; clear hg_ hnew_; (first | rw [← Ny166.out] at ho11 | (simp only [Int.reduceToNat] at ho11; rw [← Ny166.out] at ho11)); have HO168 := aa_ (Kd.R_lower ho11 bls_); replace BK164 := bkb_ BK164 hb; replace HB := hbs_ hb; clear hb ho11; obtain ⟨hcz12, hfz12⟩ := bcf_ BK164; have p169 : 0 ≤ (x5_1 : Int) := od_; have q169 : x5_1 < (l0_5.length : Int) := od_; obtain ⟨ad169, A169_1, c169_1, e169, hx169_0, hx169_1, hl169_1, hi169_1⟩ := at_T61 HR0_5.out x5_1 p169 q169; obtain rfl : ad165 = ad169 := (by injection e169); replace hx169_0 := cb_ HB hx169_0; replace hx169_1 := cb_ HB hx169_1; have HR169_1 := aa_ hi169_1; have HC169_1 := aa_ hl169_1; clear hi169_1 hl169_1; replace p169 := eq_true p169; replace q169 := eq_true q169) | ((with_reducible refine gate_builtin (b := .append) (xs := #[.tmp 21, .tmp 27]) rfl ?_); at_builtin; refine Kd.R_append_rows k52 (w0 := w) w.heap.size rfl (.tmp 21) (.tmp 27) 36 52 (.agg #[(.string ⟨#[]⟩), (.bool false)]) 24 rfl Try.underlying36 info52 rfl (by decide) (by omega) v167 y166 ((rd_T61 l0_5 x5_1).f1) _ _ _ (fun _ => True) (fun _ => False) rfl rfl ?aO ?aR (fun _ _ h => h) (fun _ h => h.elim) ?aF ?aB ?aS ?aL ?_; (case aR => repeat (first | exact (Kd.C_below HR169_1.out HB.out) | (with_reducible refine Kd.C_alloc ?_ _) | (with_reducible refine Kd.C_drewN ?_ _) | (with_reducible refine Kd.C_drew ?_))); (case aB => exact bl_); (case aF => exact (fun _ _ => trivial)); (case aO => exact (rr_ HO168)); (case aS => exact bls_); (case aL => have := LMc9.out; omega); intro v171 w13 ho hb hg hat; rw [← Ny170.out] at ho; replace BK164 := aa_ (blk_grown (g := gb164) (o := .cells #[.int .i64 a0_0, .bool a0_1, .int .i64 a0_2, .slice A0_3 l0_3.length c0_3, .slice A0_4 l0_4.length c0_4, .slice (some ad165) l0_5.length c0_5] 42 (0, 0)) (bk_ BK164) hg (Kd.R_ne HO168.out BK164.out (by decide))); replace HB := aa_ (hb); have HO172 := aa_ (ho); clear HO168; clear ho hb hg hat))
     go_ret
     exact ⟨_, eq_, by (with_reducible repeat (first | apply Kd.R_alloc | apply Kd.R_drewN | apply Kd.R_drew)); exact HO172.out, bl_⟩
    ·rw [if_neg c8] at H
     have c8b0 : (((rd_T61 l0_5 x5_1).f0) == a1) = false := beq_eq_false_iff_ne.mpr c8
     have c8b1 : (((rd_T61 l0_5 x5_1).f0) != a1) = true := bne_iff_ne.mpr c8
     (first | rw [c8b0] | (simp only [i64_w, i32_w]; rw [c8b0]) | skip)
     have H' := aa_ H
     clear H
     go_wp2
     go_roundg k1
     case measure => have := HK1.out; omega
     case rel => exact ⟨(wrap64 (x5_1 + 1)), rf_, H', ⟨by have := HK1.out; omega⟩, ⟨bk_ BK164⟩, ⟨bl_⟩⟩
   ·rw [if_neg c4] at H
    have c4b0 : decide (x5_1 < (l0_5.length : Int)) = false := decide_eq_false c4
    clear c4
    obtain ⟨y173, hy173⟩ : ∃ y_ : List (S52), y_ = (([] : List (S52))) := ⟨_, rfl⟩
    replace H : (some y173) = some r := rh_ hy173 H
    have Ny173 := aa_ hy173
    clear hy173
    obtain rfl := Option.some.inj H
    have hcz14 := blk_cell BK164.out
    have hfz14 := blk_frozen BK164.out
    go_wp2_with (first | ((with_reducible refine gD_ 29 rfl ?_); refine Kd.R_lit k52 _ 52 ?hg (N := 29) ?hd (xs := ([] : List (S52))) (inner := []) (ok := fun _ => True) (okp := fun _ => True) ?hr ?hp (fun _ hk => hk) trivial (Below.refl _ _) (Nat.le_refl _) (by simp) ?_; (case hd => rfl); (case hg => rfl); (case hr => first | (go_simp; done) | (go_simp; rfl)); (case hp => exact (Reps.none _ _)); intro v174 w15 ho16 hb hg_ hnew_; clear hg_ hnew_; (first | rw [← Ny173.out] at ho16 | (simp only [Int.reduceToNat] at ho16; rw [← Ny173.out] at ho16)); have HO175 := aa_ (Kd.R_lower ho16 bls_); replace BK164 := bkb_ BK164 hb; replace HB := hbs_ hb; clear hb ho16))
    go_ret
    exact ⟨_, eq_, by (with_reducible repeat (first | apply Kd.R_alloc | apply Kd.R_drewN | apply Kd.R_drew)); exact HO175.out, bl_⟩
end Go.Proofs.Ytkimdmdkldlhpaa.PA
