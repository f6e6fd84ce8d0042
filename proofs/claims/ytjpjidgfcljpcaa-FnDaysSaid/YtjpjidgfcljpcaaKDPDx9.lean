import Derived.Test.YtjpjidgfcljpcaaKDPDx8
-- A text of this claim: written by the session's own program out of the translation (wip/tools). Lean checks it.
namespace Go.Proofs.Ytjpjidgfcljpcaa.PD
open Go.RowKit Go.Proofs.YtjpjidgfcljpcaaW.PrintWords Go.Proofs.YtjpjidgfcljpcaaW.PrintLast Go.Proofs.YtjpjidgfcljpcaaW.PrintMore
attribute [local go_sem] max2_int min2_int max_two min_two max_three min_three max_four min_four   -- for this text's walks alone
set_option linter.unusedVariables false
set_option linter.unusedSimpArgs false
attribute [local go_sem high] eqA49
def impl_whoOf.l0 : Nat → List Int → List (S51) → Int → Int → Int → Int → Option (List Int)
 | 0, _, _, _, _, _, _ => none
 | k + 1, x5, x9, x10, x11, x320000, x320001 => if x11 < x10 then (if 0 ≤ x11 then (if x11 < (x9.length : Int) then (if (((rd_T51 x9 x11).f0.f0) == x320000 && (((rd_T51 x9 x11).f0.f1) == x320001)) = true then ((impl_factOk.f ((rd_T51 x9 x11).f0.f0) ((rd_T51 x9 x11).f0.f1) ((rd_T51 x9 x11).f1)).bind fun t325 => (if t325 = true then (if x5.length < 17592186044416 then (impl_whoOf.l0 k (x5 ++ [x11]) x9 x10 (wrap64 (x11 + 1)) x320000 x320001) else (none)) else (impl_whoOf.l0 k x5 x9 x10 (wrap64 (x11 + 1)) x320000 x320001))) else (impl_whoOf.l0 k x5 x9 x10 (wrap64 (x11 + 1)) x320000 x320001)) else (none)) else (none)) else (some x5)
def impl_whoOf.f (k : Nat) (l0 : List (S51)) (a1_0 : Int) (a1_1 : Int) : Option (List Int) := impl_whoOf.l0 k (([] : List Int)) l0 (l0.length : Int) 0 a1_0 a1_1
set_option maxHeartbeats 8000000 in
set_option maxRecDepth 100000 in
theorem impl_whoOf.calls (k : Nat) (A0 : Option Addr) (c0 : Nat) (l0 : List (S51)) (a1_0 : Int) (a1_1 : Int) (r : List Int) (w : World) (hr0 : Kd.C k51 w A0 l0.length l0) (hc0 : l0.length ≤ c0) (h : impl_whoOf.f k l0 a1_0 a1_1 = some r) :
  Calls Try.prog 204 #[.slice A0 l0.length c0, .agg #[.int .i64 a1_0, .int .i64 a1_1]] w fun e w' => ∃ v0_ : Value, e = .returned (v0_) ∧ Kd.R (Kd.int .i64) 3 w' w.heap.size (fun _ => True) v0_ r ∧ Below w.heap.size w w' := by
 have hu49 := Try.underlying49
 have hu51 := Try.underlying51
 have HR0 := Aside0.mk hr0
 have HC0 := Aside0.mk hc0
 clear hr0 hc0
 have HB := Aside0.mk (Below.refl w.heap.size w)
 have H : (impl_whoOf.l0 k (([] : List Int)) l0 (l0.length : Int) 0 a1_0 a1_1) = some r := h
 clear h
 obtain ⟨y320, hy320⟩ : ∃ y_ : List Int, y_ = (([] : List Int)) := ⟨_, rfl⟩
 replace H : (impl_whoOf.l0 k y320 l0 (l0.length : Int) 0 a1_0 a1_1) = some r := by first | (rw [hy320]; with_reducible exact H) | (have H2_ := (Option.bind_some _ _).symm.trans H; rw [hy320]; with_reducible exact H2_) | (have H2_ := (Option.bind_some _ _).symm.trans H; with_reducible exact H2_) | with_reducible exact H | (rw [hy320]; exact H) | exact H
 have Ny320 := Aside0.mk hy320
 clear hy320
 have H' := Aside0.mk H
 clear H
 go_enter Try.func204, Try.ntmps204
 go_wp2_with (first | ((with_reducible refine gate_dst (N := 3) rfl ?_); refine box_event ?hg (N := 3) ?hd (cs := #[.int .i64 a1_0, .int .i64 a1_1]) (t := 49) ?hr ?_; (case hd => rfl); (case hg => rfl); (case hr => first | (go_simp; done) | (go_simp; rfl)); intro gb319 hg w3 hbox hb; have BK319 := Aside0.mk (hbox); have GW319 := gs_ hg; have GE319 := gs_ hg; replace HB := hbs_ hb; clear hb hbox hg) | ((with_reducible refine gate_dst (N := 8) rfl ?_); refine Kd.R_lit (Kd.int .i64) _ 3 ?hg (N := 8) ?hd (xs := ([] : List Int)) (inner := []) (ok := fun _ => True) (okp := fun _ => True) ?hr ?hp (fun _ hk => hk) trivial (Below.refl _ _) (Nat.le_refl _) (by simp) ?_; (case hd => rfl); (case hg => rfl); (case hr => first | (go_simp; done) | (go_simp; rfl)); (case hp => exact (Reps.none _ _)); intro v321 w4 ho5 hb hg_ hnew_; clear hg_ hnew_; (first | rw [← Ny320.out] at ho5 | (simp only [Int.reduceToNat] at ho5; rw [← Ny320.out] at ho5)); have HO322 := Aside0.mk (Kd.R_lower ho5 bls_); replace BK319 := bkb_ BK319 hb; replace HB := hbs_ hb; clear hb ho5))
 go_loopg [5, 11] k (fun kq v5 v11 w' => ∃ (x5_1 : List Int) (x11_1 : Int), v11 = .int .i64 x11_1 ∧ Aside0 (impl_whoOf.l0 kq x5_1 l0 (l0.length : Int) x11_1 a1_0 a1_1 = some r) ∧ Aside0 (kq ≤ k) ∧ Aside0 (Kd.R (Kd.int .i64) 3 w' w.heap.size (fun _ => True) v5 x5_1) ∧ Aside0 (w'.heap[gb319]? = some (.cells #[.int .i64 a1_0, .int .i64 a1_1] 49 (0, 0))) ∧ Aside0 (Below w.heap.size w w'))
 case atStart => exact ⟨(y320), (0), (by first | rfl | (simp; done) | (simp [*]; done)), H', ⟨Nat.le_refl _⟩, ⟨by (with_reducible repeat (first | apply Kd.R_alloc | apply Kd.R_drewN | apply Kd.R_drew)); exact HO322.out⟩, ⟨bk_ BK319⟩, ⟨bl_⟩⟩
 case round =>
  clear H'
  try clear c2
  try clear p2
  obtain ⟨x5_1, x11_1, rfl, HA, HK1, HO_5, BK319, HB⟩ := hrel
  cases gk with
  | zero => exact absurd HA.out (by simp [impl_whoOf.l0])
  | succ k1 =>
   have H := HA.out
   clear HA
   simp only [impl_whoOf.l0] at H
   by_cases c6 : x11_1 < (l0.length : Int)
   ·rw [if_pos c6] at H
    have c6b0 : decide (x11_1 < (l0.length : Int)) = true := decide_eq_true c6
    clear c6
    by_cases c7 : 0 ≤ x11_1
    ·rw [if_pos c7] at H
     have c7b0 : decide (0 ≤ x11_1) = true := decide_eq_true c7
     clear c7
     by_cases c8 : x11_1 < (l0.length : Int)
     ·rw [if_pos c8] at H
      have c8b0 : decide (x11_1 < (l0.length : Int)) = true := decide_eq_true c8
      clear c8
      by_cases c9 : (((rd_T51 l0 x11_1).f0.f0) == a1_0 && (((rd_T51 l0 x11_1).f0.f1) == a1_1)) = true
      ·rw [if_pos c9] at H
       have c9b0 : (((rd_T51 l0 x11_1).f0.f0) == a1_0 && (((rd_T51 l0 x11_1).f0.f1) == a1_1)) = true := c9
       (try (have c9b1 : decide (((rd_T51 l0 x11_1).f0.f0) = a1_0 && (((rd_T51 l0 x11_1).f0.f1) == a1_1)) = true := by simpa using c9))
       (try (have c9b2 : (((rd_T51 l0 x11_1).f0.f0) == a1_0 && (((rd_T51 l0 x11_1).f0.f1) == a1_1)) = true := by simpa using c9))
       clear c9
       obtain ⟨t325, A10, H⟩ := bindE_ H
       by_cases c11 : t325 = true
       ·subst c11
        replace H := ite_t_ H
        by_cases c12 : x5_1.length < 17592186044416
        ·rw [if_pos c12] at H
         have LMc12 := Aside0.mk c12
         clear c12
         obtain ⟨y326, hy326⟩ : ∃ y_ : List Int, y_ = (x5_1 ++ [x11_1]) := ⟨_, rfl⟩
         replace H : (impl_whoOf.l0 k1 y326 l0 (l0.length : Int) (wrap64 (x11_1 + 1)) a1_0 a1_1) = some r := by first | (rw [hy326]; with_reducible exact H) | (have H2_ := (Option.bind_some _ _).symm.trans H; rw [hy326]; with_reducible exact H2_) | (have H2_ := (Option.bind_some _ _).symm.trans H; with_reducible exact H2_) | with_reducible exact H | (rw [hy326]; exact H) | exact H
         have Ny326 := Aside0.mk hy326
         clear hy326
         have H' := Aside0.mk H
         clear H
         have p323 : 0 ≤ (x11_1 : Int) := of_decide_eq_true (by first | (with_reducible assumption) | assumption)
         have q323 : x11_1 < (l0.length : Int) := of_decide_eq_true (by first | (with_reducible assumption) | assumption)
         obtain ⟨ad323, e323, hx323_0, hx323_1, hx323_2⟩ := at_T51 (Kd.C_below HR0.out HB.out) x11_1 p323 q323
         cases e323
         replace p323 := eq_true p323
         replace q323 := eq_true q323
         go_wp2_with (first | ((with_reducible refine gate_dst (N := 7) rfl ?_); refine box_event ?hg (N := 7) ?hd (cs := #[.int .i64 0, .int .i64 0, .int .i64 0]) (t := 51) ?hr ?_; (case hd => rfl); (case hg => rfl); (case hr => first | (go_simp; done) | (go_simp; rfl)); intro gb324 hg w13 hbox hb; replace HO_5 := Aside0.mk (Kd.R_below (by (with_reducible repeat (first | apply Kd.R_alloc | apply Kd.R_drewN | apply Kd.R_drew)); exact HO_5.out) hb); have BK324 := Aside0.mk (hbox); have GW324 := gs_ hg; have GE324 := gs_ hg; replace HB := hbs_ hb; have NB319_324 := Aside0.mk ((by rw [hg]; exact Nat.ne_of_lt (blk_lt (g := gb319) (o := .cells #[.int .i64 a1_0, .int .i64 a1_1] 49 (0, 0)) (bk_ BK319)) : gb319 ≠ gb324)); have NB324_319 := Aside0.mk ((by rw [hg]; exact Nat.ne_of_gt (blk_lt (g := gb319) (o := .cells #[.int .i64 a1_0, .int .i64 a1_1] 49 (0, 0)) (bk_ BK319)) : gb324 ≠ gb319)); replace BK319 := bkb_ BK319 hb; clear hb hbox hg; have hnb14 := NB324_319.out; have hnc14 := NB319_324.out; have hcz15 := blk_cell BK324.out; have hfz15 := blk_frozen BK324.out; have hcz16 := blk_cell BK319.out; have hfz16 := blk_frozen BK319.out) | (go_at_call 227; (with_reducible refine (impl_factOk.calls ((rd_T51 l0 x11_1).f0.f0) ((rd_T51 l0 x11_1).f0.f1) ((rd_T51 l0 x11_1).f1) true _ A10.out).mono ?_); rintro e w17 ⟨rfl, hb⟩; replace HO_5 := Aside0.mk (Kd.R_below (by (with_reducible repeat (first | apply Kd.R_alloc | apply Kd.R_drewN | apply Kd.R_drew)); exact (Kd.R_mono (Kd.R_far (p := ⟨gb324, 2, none⟩) (Kd.R_far (p := ⟨gb324, 1, none⟩) (Kd.R_far (p := ⟨gb324, 0, none⟩) (Kd.R_types HO_5.out BK324.out (by decide)) (fun _ hk => hk.2) (.int .i64 ((rd_T51 l0 x11_1).f0.f0))) (fun _ hk => hk.2) (.int .i64 ((rd_T51 l0 x11_1).f0.f1))) (fun _ hk => hk.2) (.int .i64 ((rd_T51 l0 x11_1).f1))) (fun _ h_ => h_.1))) hb); replace BK319 := Aside0.mk (blk_below (g := gb319) (o := .cells #[.int .i64 a1_0, .int .i64 a1_1] 49 (0, 0)) (bk_ BK319) hb); replace BK324 := Aside0.mk (blk_below (g := gb324) (o := .cells #[.int .i64 ((rd_T51 l0 x11_1).f0.f0), .int .i64 ((rd_T51 l0 x11_1).f0.f1), .int .i64 ((rd_T51 l0 x11_1).f1)] 51 (0, 0)) (bk_ BK324) hb); replace HB := hbs_ hb; clear hb) | ((with_reducible refine gate_builtin (b := .append) (xs := #[.tmp 24, .tmp 26]) rfl ?_); at_builtin; refine Kd.R_append (Kd.int .i64) (w0 := w) w.heap.size rfl (.tmp 24) (.tmp 26) 39 3 (.int .i64 0) 8 rfl Try.underlying39 info3 rfl (by decide) (by omega) u5 x5_1 x11_1 [.int .i64 x11_1] (fun _ => True) (fun _ => False) rfl rfl ?aP (fun _ hk => hk.elim) ?aF ?aO ?aB ?aS ?aL ?_; (case aP => exact rfl); (case aB => exact bl_); (case aF => exact (fun _ _ => trivial)); (case aO => exact (by (with_reducible repeat (first | apply Kd.R_alloc | apply Kd.R_drewN | apply Kd.R_drew)); exact HO_5.out)); (case aS => exact bls_); (case aL => have := LMc12.out; omega); intro v327 w18 ho hb hg hat; rw [← Ny326.out] at ho; replace BK319 := Aside0.mk (blk_grown (g := gb319) (o := .cells #[.int .i64 a1_0, .int .i64 a1_1] 49 (0, 0)) (bk_ BK319) hg (Kd.R_ne HO_5.out BK319.out (by decide))); replace BK324 := Aside0.mk (blk_grown (g := gb324) (o := .cells #[.int .i64 ((rd_T51 l0 x11_1).f0.f0), .int .i64 ((rd_T51 l0 x11_1).f0.f1), .int .i64 ((rd_T51 l0 x11_1).f1)] 51 (0, 0)) (bk_ BK324) hg (Kd.R_ne HO_5.out BK324.out (by decide))); replace HB := Aside0.mk (hb); have HO328 := Aside0.mk (ho); clear HO_5; clear ho hb hg hat))
         go_roundg k1
         case measure => have := HK1.out; omega
         case rel => exact ⟨(y326), (wrap64 (x11_1 + 1)), (by first | rfl | (simp; done) | (simp [*]; done)), H', ⟨by have := HK1.out; omega⟩, ⟨by (with_reducible repeat (first | apply Kd.R_alloc | apply Kd.R_drewN | apply Kd.R_drew)); exact HO328.out⟩, ⟨bk_ BK319⟩, ⟨bl_⟩⟩
        ·rw [if_neg c12] at H
         exact absurd H (by simp)
       ·replace c11 := Bool.eq_false_iff.mpr c11
        subst c11
        replace H := ite_f_ H
        have H' := Aside0.mk H
        clear H
        have p323 : 0 ≤ (x11_1 : Int) := of_decide_eq_true (by first | (with_reducible assumption) | assumption)
        have q323 : x11_1 < (l0.length : Int) := of_decide_eq_true (by first | (with_reducible assumption) | assumption)
        obtain ⟨ad323, e323, hx323_0, hx323_1, hx323_2⟩ := at_T51 (Kd.C_below HR0.out HB.out) x11_1 p323 q323
        cases e323
        replace p323 := eq_true p323
        replace q323 := eq_true q323
        go_wp2_with (first | ((with_reducible refine gate_dst (N := 7) rfl ?_); refine box_event ?hg (N := 7) ?hd (cs := #[.int .i64 0, .int .i64 0, .int .i64 0]) (t := 51) ?hr ?_; (case hd => rfl); (case hg => rfl); (case hr => first | (go_simp; done) | (go_simp; rfl)); intro gb324 hg w19 hbox hb; replace HO_5 := Aside0.mk (Kd.R_below (by (with_reducible repeat (first | apply Kd.R_alloc | apply Kd.R_drewN | apply Kd.R_drew)); exact HO_5.out) hb); have BK324 := Aside0.mk (hbox); have GW324 := gs_ hg; have GE324 := gs_ hg; replace HB := hbs_ hb; have NB319_324 := Aside0.mk ((by rw [hg]; exact Nat.ne_of_lt (blk_lt (g := gb319) (o := .cells #[.int .i64 a1_0, .int .i64 a1_1] 49 (0, 0)) (bk_ BK319)) : gb319 ≠ gb324)); have NB324_319 := Aside0.mk ((by rw [hg]; exact Nat.ne_of_gt (blk_lt (g := gb319) (o := .cells #[.int .i64 a1_0, .int .i64 a1_1] 49 (0, 0)) (bk_ BK319)) : gb324 ≠ gb319)); replace BK319 := bkb_ BK319 hb; clear hb hbox hg; have hnb20 := NB324_319.out; have hnc20 := NB319_324.out; have hcz21 := blk_cell BK324.out; have hfz21 := blk_frozen BK324.out; have hcz22 := blk_cell BK319.out; have hfz22 := blk_frozen BK319.out) | (go_at_call 227; (with_reducible refine (impl_factOk.calls ((rd_T51 l0 x11_1).f0.f0) ((rd_T51 l0 x11_1).f0.f1) ((rd_T51 l0 x11_1).f1) false _ A10.out).mono ?_); rintro e w23 ⟨rfl, hb⟩; replace HO_5 := Aside0.mk (Kd.R_below (by (with_reducible repeat (first | apply Kd.R_alloc | apply Kd.R_drewN | apply Kd.R_drew)); exact (Kd.R_mono (Kd.R_far (p := ⟨gb324, 2, none⟩) (Kd.R_far (p := ⟨gb324, 1, none⟩) (Kd.R_far (p := ⟨gb324, 0, none⟩) (Kd.R_types HO_5.out BK324.out (by decide)) (fun _ hk => hk.2) (.int .i64 ((rd_T51 l0 x11_1).f0.f0))) (fun _ hk => hk.2) (.int .i64 ((rd_T51 l0 x11_1).f0.f1))) (fun _ hk => hk.2) (.int .i64 ((rd_T51 l0 x11_1).f1))) (fun _ h_ => h_.1))) hb); replace BK319 := Aside0.mk (blk_below (g := gb319) (o := .cells #[.int .i64 a1_0, .int .i64 a1_1] 49 (0, 0)) (bk_ BK319) hb); replace BK324 := Aside0.mk (blk_below (g := gb324) (o := .cells #[.int .i64 ((rd_T51 l0 x11_1).f0.f0), .int .i64 ((rd_T51 l0 x11_1).f0.f1), .int .i64 ((rd_T51 l0 x11_1).f1)] 51 (0, 0)) (bk_ BK324) hb); replace HB := hbs_ hb; clear hb))
        go_roundg k1
        case measure => have := HK1.out; omega
        case rel => exact ⟨(x5_1), (wrap64 (x11_1 + 1)), (by first | rfl | (simp; done) | (simp [*]; done)), H', ⟨by have := HK1.out; omega⟩, ⟨by (with_reducible repeat (first | apply Kd.R_alloc | apply Kd.R_drewN | apply Kd.R_drew)); exact HO_5.out⟩, ⟨bk_ BK319⟩, ⟨bl_⟩⟩
      ·rw [if_neg c9] at H
       have c9b0 : (((rd_T51 l0 x11_1).f0.f0) == a1_0 && (((rd_T51 l0 x11_1).f0.f1) == a1_1)) = false := by simpa using c9
       (try (have c9b1 : decide (((rd_T51 l0 x11_1).f0.f0) = a1_0 && (((rd_T51 l0 x11_1).f0.f1) == a1_1)) = false := by simpa using c9))
       (try (have c9b2 : (((rd_T51 l0 x11_1).f0.f0) == a1_0 && (((rd_T51 l0 x11_1).f0.f1) == a1_1)) = false := by simpa using c9))
       (try (have c9b3 : ¬ (((rd_T51 l0 x11_1).f0.f0) = a1_0 && (((rd_T51 l0 x11_1).f0.f1) == a1_1)) := by simpa using c9))
       clear c9
       have H' := Aside0.mk H
       clear H
       have p323 : 0 ≤ (x11_1 : Int) := of_decide_eq_true (by first | (with_reducible assumption) | assumption)
       have q323 : x11_1 < (l0.length : Int) := of_decide_eq_true (by first | (with_reducible assumption) | assumption)
       obtain ⟨ad323, e323, hx323_0, hx323_1, hx323_2⟩ := at_T51 (Kd.C_below HR0.out HB.out) x11_1 p323 q323
       cases e323
       replace p323 := eq_true p323
       replace q323 := eq_true q323
       go_wp2_with (first | ((with_reducible refine gate_dst (N := 7) rfl ?_); refine box_event ?hg (N := 7) ?hd (cs := #[.int .i64 0, .int .i64 0, .int .i64 0]) (t := 51) ?hr ?_; (case hd => rfl); (case hg => rfl); (case hr => first | (go_simp; done) | (go_simp; rfl)); intro gb324 hg w24 hbox hb; replace HO_5 := Aside0.mk (Kd.R_below (by (with_reducible repeat (first | apply Kd.R_alloc | apply Kd.R_drewN | apply Kd.R_drew)); exact HO_5.out) hb); have BK324 := Aside0.mk (hbox); have GW324 := gs_ hg; have GE324 := gs_ hg; replace HB := hbs_ hb; have NB319_324 := Aside0.mk ((by rw [hg]; exact Nat.ne_of_lt (blk_lt (g := gb319) (o := .cells #[.int .i64 a1_0, .int .i64 a1_1] 49 (0, 0)) (bk_ BK319)) : gb319 ≠ gb324)); have NB324_319 := Aside0.mk ((by rw [hg]; exact Nat.ne_of_gt (blk_lt (g := gb319) (o := .cells #[.int .i64 a1_0, .int .i64 a1_1] 49 (0, 0)) (bk_ BK319)) : gb324 ≠ gb319)); replace BK319 := bkb_ BK319 hb; clear hb hbox hg; have hnb25 := NB324_319.out; have hnc25 := NB319_324.out; have hcz26 := blk_cell BK324.out; have hfz26 := blk_frozen BK324.out; have hcz27 := blk_cell BK319.out; have hfz27 := blk_frozen BK319.out))
       go_roundg k1
       case measure => have := HK1.out; omega
       case rel => exact ⟨(x5_1), (wrap64 (x11_1 + 1)), (by first | rfl | (simp; done) | (simp [*]; done)), H', ⟨by have := HK1.out; omega⟩, ⟨by (with_reducible repeat (first | apply Kd.R_alloc | apply Kd.R_drewN | apply Kd.R_drew)); exact Kd.R_mono (Kd.R_far (p := ⟨gb324, 2, none⟩) (Kd.R_far (p := ⟨gb324, 1, none⟩) (Kd.R_far (p := ⟨gb324, 0, none⟩) (Kd.R_types HO_5.out BK324.out (by decide)) (fun _ hk => hk.2) (.int .i64 ((rd_T51 l0 x11_1).f0.f0))) (fun _ hk => hk.2) (.int .i64 ((rd_T51 l0 x11_1).f0.f1))) (fun _ hk => hk.2) (.int .i64 ((rd_T51 l0 x11_1).f1))) (fun _ hk => trivial)⟩, ⟨bk_ BK319⟩, ⟨bl_⟩⟩
     ·rw [if_neg c8] at H
      exact absurd H (by simp)
    ·rw [if_neg c7] at H
     exact absurd H (by simp)
   ·rw [if_neg c6] at H
    have c6b0 : decide (x11_1 < (l0.length : Int)) = false := decide_eq_false c6
    clear c6
    obtain rfl := Option.some.inj H
    go_wp2
    go_ret
    exact ⟨_, eq_, by (with_reducible repeat (first | apply Kd.R_alloc | apply Kd.R_drewN | apply Kd.R_drew)); exact HO_5.out, bl_⟩
end Go.Proofs.Ytjpjidgfcljpcaa.PD
