import Derived.Test.YtppdmcimddhbaaaKFnExactTreeSizePAx0
import Derived.Test.YtppdmcimddhbaaaKFnExactTreeSizePAx3
import Derived.Test.YtppdmcimddhbaaaKFnExactTreeSizePAx6
import Derived.Test.YtppdmcimddhbaaaKFnExactTreeSizePAx7
import Derived.Test.YtppdmcimddhbaaaKFnExactTreeSizePAx9
-- A text of this claim: written by the session's own program out of the translation (wip/tools). Lean checks it.
namespace Go.Proofs.Ytppdmcimddhbaaa.PA
open Go.RowKit Go.Proofs.YtppdmcimddhbaaaW.PrintWords Go.Proofs.YtppdmcimddhbaaaW.PrintLast Go.Proofs.YtppdmcimddhbaaaW.PrintMore
attribute [local go_sem] max2_int min2_int max_two min_two max_three min_three max_four min_four   -- for this text's walks alone
set_option linter.unusedVariables false
set_option linter.unusedSimpArgs false
mutual
def impl_TreeSize.j0 : Nat → List (S105) → Int → Bool → Option (Int)
 | 0, _, _, _ => none
 | k + 1, x0, x1, x22 => if x22 = true then (some 0) else (if 0 ≤ (wrap64 (x1 + 1)) then (if (wrap64 (x1 + 1)) ≤ (x0.length : Int) then ((some (x0.take ((wrap64 (x1 + 1)) : Int).toNat : List (S105))).bind fun y323 => (impl_TreeSize.l0 k x1 (([] : List Int)) y323 (y323.length : Int) 0)) else (none)) else (none))
def impl_TreeSize.l0 : Nat → Int → List Int → List (S105) → Int → Int → Option (Int)
 | 0, _, _, _, _, _ => none
 | k + 1, x1, x5, x27, x28, x29 => if x29 < x28 then (if 0 ≤ x29 then (if x29 < (x27.length : Int) then (impl_TreeSize.l1 k x1 x5 1 x27 x28 x29 ((rd_T105 x27 x29).f2) (((rd_T105 x27 x29).f2).length : Int) 0) else (none)) else (none)) else (if 0 ≤ x1 then (if x1 < (x5.length : Int) then (some (rd x5 x1)) else (none)) else (none))
def impl_TreeSize.l1 : Nat → Int → List Int → Int → List (S105) → Int → Int → List Int → Int → Int → Option (Int)
 | 0, _, _, _, _, _, _, _, _, _ => none
 | k + 1, x1, x5, x8, x27, x28, x29, x34, x35, x36 => if x36 < x35 then (if 0 ≤ x36 then (if x36 < (x34.length : Int) then (if 0 ≤ (rd x34 x36) then (if (rd x34 x36) < (x5.length : Int) then (impl_TreeSize.l1 k x1 x5 (wrap64 (x8 + (rd x5 (rd x34 x36)))) x27 x28 x29 x34 x35 (wrap64 (x36 + 1))) else (none)) else (none)) else (none)) else (none)) else (if x5.length < 17592186044416 then (impl_TreeSize.l0 k x1 (x5 ++ [mn x8 1000000]) x27 x28 (wrap64 (x29 + 1))) else (none))
end
def impl_TreeSize.f (k : Nat) (l0 : List (S105)) (a1 : Int) : Option (Int) := (impl_in.f a1 0 (wrap64 ((l0.length : Int) - 1))).bind fun t318 => (if t318 = true then ((impl_allStepsOk.f k l0 a1).bind fun t319 => (impl_TreeSize.j0 k l0 a1 (!t319))) else (impl_TreeSize.j0 k l0 a1 true))
set_option maxHeartbeats 8000000 in
set_option maxRecDepth 100000 in
theorem impl_TreeSize.calls (k : Nat) (A0 : Option Addr) (c0 : Nat) (l0 : List (S105)) (a1 : Int) (r : Int) (w : World) (hr0 : Kd.C k105 w A0 l0.length l0) (hc0 : l0.length ≤ c0) (h : impl_TreeSize.f k l0 a1 = some r) :
  Calls Try.prog 35 #[.slice A0 l0.length c0, .int .i64 a1] w fun e w' => e = .returned (.int .i64 r) ∧ Below w.heap.size w w' := by
 have hu105 := Try.underlying105
 have HR0 := Aside0.mk hr0
 have HC0 := Aside0.mk hc0
 clear hr0 hc0
 have HB := Aside0.mk (Below.refl w.heap.size w)
 have H : ((impl_in.f a1 0 (wrap64 ((l0.length : Int) - 1))).bind fun t318 => (if t318 = true then ((impl_allStepsOk.f k l0 a1).bind fun t319 => (impl_TreeSize.j0 k l0 a1 (!t319))) else (impl_TreeSize.j0 k l0 a1 true))) = some r := h
 clear h
 have HC3 := Aside0.mk H
 clear H
 go_enter Try.func35, Try.ntmps35
 go_upto_region 1 with (fail)
 go_cut [22] (fun v22 wc => ∃ (kq : Nat) (x22_2 : Bool), v22 = .bool x22_2 ∧ Aside0 (impl_TreeSize.j0 kq l0 a1 x22_2 = some r) ∧ Aside0 (kq ≤ k) ∧ Aside0 (Below w.heap.size w wc))
 case first =>
  have H := HC3.out
  clear HC3
  obtain ⟨t318, A4, H⟩ := bindE_ H
  by_cases c5 : t318 = true
  ·subst c5
   replace H := ite_t_ H
   obtain ⟨t319, A6, H⟩ := bindE_ H
   have H' := Aside0.mk H
   clear H
   go_wp2_with (first | ((with_reducible refine gate_callee (f := 83) rfl ?_); refine goesC_ (some 15) Try.func83 #[.int .i64 a1, .int .i64 0, .int .i64 (wrap64 ((l0.length : Int) - 1))] ?_; (with_reducible refine (impl_in.calls a1 0 (wrap64 ((l0.length : Int) - 1)) true _ A4.out).mono ?_); rintro e w' ⟨rfl, ⟨nd, rfl⟩⟩; refine ⟨_, rfl, ?_⟩) | (go_at_call 88; (with_reducible refine (impl_allStepsOk.calls k _ _ l0 a1 t319 _ ?side1 ?side2 A6.out).mono ?_); (case side1 => repeat (first | exact (Kd.C_below HR0.out bl_) | (with_reducible refine Kd.C_alloc ?_ _) | (with_reducible refine Kd.C_drewN ?_ _) | (with_reducible refine Kd.C_drew ?_))); (case side2 => exact HC0.out); rintro e w7 ⟨rfl, hb⟩; replace HB := hbs_ hb; clear hb))
   go_meet
   case rel => exact ⟨_, (!t319), (by first | rfl | (simp; done) | (simp [*]; done)), H', ⟨by first | omega | exact Nat.le_refl _⟩, ⟨bl_⟩⟩
  ·replace c5 := Bool.eq_false_iff.mpr c5
   subst c5
   replace H := ite_f_ H
   have H' := Aside0.mk H
   clear H
   go_wp2_with (first | ((with_reducible refine gate_callee (f := 83) rfl ?_); refine goesC_ (some 15) Try.func83 #[.int .i64 a1, .int .i64 0, .int .i64 (wrap64 ((l0.length : Int) - 1))] ?_; (with_reducible refine (impl_in.calls a1 0 (wrap64 ((l0.length : Int) - 1)) false _ A4.out).mono ?_); rintro e w' ⟨rfl, ⟨nd, rfl⟩⟩; refine ⟨_, rfl, ?_⟩))
   go_meet
   case rel => exact ⟨_, (true), (by first | rfl | (simp; done) | (simp [*]; done)), H', ⟨by first | omega | exact Nat.le_refl _⟩, ⟨bl_⟩⟩
 case rest =>
  clear HC3
  try clear p2
  try clear c3
  try clear c5
  try clear p6
  obtain ⟨kq, x22_2, rfl, HA, HJ2, HB⟩ := hcut
  cases kq with
  | zero => exact absurd HA.out (by simp [impl_TreeSize.j0])
  | succ kj2 =>
   have H := HA.out
   clear HA
   simp only [impl_TreeSize.j0] at H
   by_cases c8 : x22_2 = true
   ·subst c8
    replace H := ite_t_ H
    obtain rfl := Option.some.inj H
    go_wp2
    go_ret
    exact ⟨eq_, bl_⟩
   ·replace c8 := Bool.eq_false_iff.mpr c8
    subst c8
    replace H := ite_f_ H
    obtain ⟨y320, hy320⟩ : ∃ y_ : List Int, y_ = (([] : List Int)) := ⟨_, rfl⟩
    replace H : (if 0 ≤ (wrap64 (a1 + 1)) then (if (wrap64 (a1 + 1)) ≤ (l0.length : Int) then ((some (l0.take ((wrap64 (a1 + 1)) : Int).toNat : List (S105))).bind fun y323 => (impl_TreeSize.l0 kj2 a1 y320 y323 (y323.length : Int) 0)) else (none)) else (none)) = some r := by first | (rw [hy320]; with_reducible exact H) | (have H2_ := (Option.bind_some _ _).symm.trans H; rw [hy320]; with_reducible exact H2_) | (have H2_ := (Option.bind_some _ _).symm.trans H; with_reducible exact H2_) | with_reducible exact H | (rw [hy320]; exact H) | exact H
    have Ny320 := Aside0.mk hy320
    clear hy320
    obtain ⟨ji9, hji9⟩ : ∃ j_ : Int, (wrap64 (a1 + 1)) = j_ := ⟨_, rfl⟩
    replace H : (if 0 ≤ (ji9) then (if (ji9) ≤ (l0.length : Int) then ((some (l0.take ((ji9) : Int).toNat : List (S105))).bind fun y323 => (impl_TreeSize.l0 kj2 a1 y320 y323 (y323.length : Int) 0)) else (none)) else (none)) = some r := by first | (rw [hji9] at H; exact H) | (simp only [hji9] at H ⊢; exact H)
    have hji9w : (IntKind.i64.wrap (a1 + 1)) = ji9 := (i64_w _).trans hji9
    by_cases c10 : 0 ≤ (ji9)
    ·rw [if_pos c10] at H
     have c10b0 := eq_true c10
     have c10b1 : decide (0 ≤ (ji9)) = true := decide_eq_true c10
     clear c10
     by_cases c11 : (ji9) ≤ (l0.length : Int)
     ·rw [if_pos c11] at H
      have c11b0 := eq_true c11
      have c11b1 : decide ((ji9) ≤ (l0.length : Int)) = true := decide_eq_true c11
      clear c11
      obtain ⟨y323, hy323⟩ : ∃ y_ : List (S105), y_ = (l0.take ((ji9) : Int).toNat) := ⟨_, rfl⟩
      replace H : (impl_TreeSize.l0 kj2 a1 y320 y323 (y323.length : Int) 0) = some r := by first | (rw [hy323]; with_reducible exact H) | (have H2_ := (Option.bind_some _ _).symm.trans H; rw [hy323]; with_reducible exact H2_) | (have H2_ := (Option.bind_some _ _).symm.trans H; with_reducible exact H2_) | with_reducible exact H | (rw [hy323]; exact H) | exact H
      have Ny323 := Aside0.mk hy323
      clear hy323
      have H' := Aside0.mk H
      clear H
      go_wp2_with (first | ((with_reducible refine gate_dst (N := 23) rfl ?_); refine Kd.R_lit (Kd.int .i64) _ 3 ?hg (N := 23) ?hd (xs := ([] : List Int)) (inner := []) (ok := fun _ => True) (okp := fun _ => True) ?hr ?hp (fun _ hk => hk) trivial (Below.refl _ _) (Nat.le_refl _) (by simp) ?_; (case hd => rfl); (case hg => rfl); (case hr => first | (go_simp; done) | (go_simp; rfl)); (case hp => exact (Reps.none _ _)); intro v321 w12 ho13 hb hg_ hnew_; clear hg_ hnew_; (first | rw [← Ny320.out] at ho13 | (simp only [Int.reduceToNat] at ho13; rw [← Ny320.out] at ho13)); have HO322 := Aside0.mk (Kd.R_lower ho13 bls_); replace HB := hbs_ hb; clear hb ho13; have q14 : ((ji9) : Int) ≤ ((l0.length : Int) : Int) := of_decide_eq_true (by first | (with_reducible assumption) | assumption); obtain ⟨i014, hi014, _, hsz14, _⟩ := info_parts info105; have hroom14 : l0.length ≤ c0 := HC0.out; have hC14 : Kd.C k105 _ A0 l0.length l0 := HR0.out; have hcut14 := cut_to (P := Try.prog) 41 105 .i64 Try.underlying41 hi014 A0 l0.length c0 (ji9) (of_decide_eq_true (by first | (with_reducible assumption) | assumption)) q14 hroom14; have hr14 := Kd.C_take (m := ((ji9) : Int).toNat) hC14 (by omega); have hy14 : y323.length = ((ji9) : Int).toNat := (by rw [Ny323.out, List.length_take]; omega); rw [← Ny323.out] at hr14; rw [← hy14] at hcut14; have HR326 := Aside0.mk hr14; have HC326 := Aside0.mk (show y323.length ≤ c0 from by omega); clear hr14 hC14 hroom14 hi014 hsz14; have KY14 := Aside0.mk hy14; clear hy14; replace q14 := eq_true q14))
      go_loopg [5, 29] kj2 (fun kq v5 v29 w' => ∃ (x5_2 : List Int) (x29_2 : Int), v29 = .int .i64 x29_2 ∧ Aside0 (impl_TreeSize.l0 kq a1 x5_2 y323 (y323.length : Int) x29_2 = some r) ∧ Aside0 (kq ≤ kj2) ∧ Aside0 (Kd.R (Kd.int .i64) 3 w' w.heap.size (fun _ => True) v5 x5_2) ∧ Aside0 (Below w.heap.size w w'))
      case atStart => exact ⟨(y320), (0), (by first | rfl | (simp; done) | (simp [*]; done)), H', ⟨Nat.le_refl _⟩, ⟨by (with_reducible repeat (first | apply Kd.R_alloc | apply Kd.R_drewN | apply Kd.R_drew)); exact HO322.out⟩, ⟨bl_⟩⟩
      case round =>
       clear H'
       try clear c1
       try clear q1
       try clear p2
       try clear c3
       try clear c5
       try clear p6
       try clear c8
       try clear c10
       try clear c10b0
       try clear c10b1
       try clear c11
       try clear c11b0
       try clear c11b1
       try clear q14
       try clear p2
       try clear p6
       try clear q14
       obtain ⟨x5_2, x29_2, rfl, HA, HK2, HO_5, HB⟩ := hrel
       cases gk with
       | zero => exact absurd HA.out (by simp [impl_TreeSize.l0])
       | succ k2 =>
        have H := HA.out
        clear HA
        simp only [impl_TreeSize.l0] at H
        by_cases c15 : x29_2 < (y323.length : Int)
        ·rw [if_pos c15] at H
         have c15b0 : decide (x29_2 < (y323.length : Int)) = true := decide_eq_true c15
         clear c15
         by_cases c16 : 0 ≤ x29_2
         ·rw [if_pos c16] at H
          have c16b0 : decide (0 ≤ x29_2) = true := decide_eq_true c16
          clear c16
          by_cases c17 : x29_2 < (y323.length : Int)
          ·rw [if_pos c17] at H
           have c17b0 : decide (x29_2 < (y323.length : Int)) = true := decide_eq_true c17
           clear c17
           have H' := Aside0.mk H
           clear H
           have p328 : 0 ≤ (x29_2 : Int) := of_decide_eq_true (by first | (with_reducible assumption) | assumption)
           have q328 : x29_2 < (y323.length : Int) := of_decide_eq_true (by first | (with_reducible assumption) | assumption)
           obtain ⟨ad328, A328_13, c328_13, e328, hx328_0, hx328_1, hx328_2, hx328_3, hx328_4, hx328_5, hx328_6, hx328_7, hx328_8, hx328_9, hx328_10, hx328_11, hx328_12, hx328_13, hl328_13, hi328_13⟩ := at_T105 HR326.out x29_2 p328 q328
           cases e328
           replace hx328_0 := cb_ HB hx328_0
           replace hx328_1 := cb_ HB hx328_1
           replace hx328_2 := cb_ HB hx328_2
           replace hx328_3 := cb_ HB hx328_3
           replace hx328_4 := cb_ HB hx328_4
           replace hx328_5 := cb_ HB hx328_5
           replace hx328_6 := cb_ HB hx328_6
           replace hx328_7 := cb_ HB hx328_7
           replace hx328_8 := cb_ HB hx328_8
           replace hx328_9 := cb_ HB hx328_9
           replace hx328_10 := cb_ HB hx328_10
           replace hx328_11 := cb_ HB hx328_11
           replace hx328_12 := cb_ HB hx328_12
           replace hx328_13 := cb_ HB hx328_13
           have HR328_13 := Aside0.mk hi328_13
           have HC328_13 := Aside0.mk hl328_13
           clear hi328_13 hl328_13
           replace p328 := eq_true p328
           replace q328 := eq_true q328
           go_wp2_with (first | ((with_reducible refine gate_dst (N := 7) rfl ?_); refine box_event ?hg (N := 7) ?hd (cs := #[.int .i64 0, .int .i64 0, .int .i64 0, .int .i64 0, .int .i64 0, .int .i64 0, .int .i64 0, .int .i64 0, .int .i64 0, .int .i64 0, .int .i64 0, .int .i64 0, .int .i64 0, .slice none 0 0]) (t := 105) ?hr ?_; (case hd => rfl); (case hg => rfl); (case hr => first | (go_simp; done) | (go_simp; rfl)); intro gb329 hg w18 hbox hb; replace HO_5 := Aside0.mk (Kd.R_below (by (with_reducible repeat (first | apply Kd.R_alloc | apply Kd.R_drewN | apply Kd.R_drew)); exact HO_5.out) hb); have BK329 := Aside0.mk (hbox); have GW329 := gs_ hg; have GE329 := gs_ hg; replace HB := hbs_ hb; clear hb hbox hg; have hcz19 := blk_cell BK329.out; have hfz19 := blk_frozen BK329.out))
           go_loopg [8, 36] k2 (fun kq v8 v36 w' => ∃ (x8_3 : Int) (x36_3 : Int), v8 = .int .i64 x8_3 ∧ v36 = .int .i64 x36_3 ∧ Aside0 (impl_TreeSize.l1 kq a1 x5_2 x8_3 y323 (y323.length : Int) x29_2 ((rd_T105 y323 x29_2).f2) (((rd_T105 y323 x29_2).f2).length : Int) x36_3 = some r) ∧ Aside0 (kq ≤ k2) ∧ Aside0 (Kd.R (Kd.int .i64) 3 w' w.heap.size (fun _ => True) u5 x5_2) ∧ Aside0 (w'.heap[gb329]? = some (.cells #[.int .i64 ((rd_T105 y323 x29_2).f0.f0), .int .i64 ((rd_T105 y323 x29_2).f0.f1.f0), .int .i64 ((rd_T105 y323 x29_2).f0.f1.f1), .int .i64 ((rd_T105 y323 x29_2).f0.f2), .int .i64 ((rd_T105 y323 x29_2).f0.f3.f0), .int .i64 ((rd_T105 y323 x29_2).f0.f3.f1), .int .i64 ((rd_T105 y323 x29_2).f0.f4.f0), .int .i64 ((rd_T105 y323 x29_2).f0.f4.f1), .int .i64 ((rd_T105 y323 x29_2).f0.f5), .int .i64 ((rd_T105 y323 x29_2).f0.f6), .int .i64 ((rd_T105 y323 x29_2).f1.f0.f0), .int .i64 ((rd_T105 y323 x29_2).f1.f0.f1), .int .i64 ((rd_T105 y323 x29_2).f1.f1), (.slice A328_13 ((rd_T105 y323 x29_2).f2).length c328_13)] 105 (0, 0))) ∧ Aside0 (Below w.heap.size w w'))
           case atStart => exact ⟨(1), (0), (by first | rfl | (simp; done) | (simp [*]; done)), (by first | rfl | (simp; done) | (simp [*]; done)), H', ⟨Nat.le_refl _⟩, ⟨by (with_reducible repeat (first | apply Kd.R_alloc | apply Kd.R_drewN | apply Kd.R_drew)); exact Kd.R_mono (Kd.R_far (p := ⟨gb329, 13, none⟩) (Kd.R_far (p := ⟨gb329, 12, none⟩) (Kd.R_far (p := ⟨gb329, 11, none⟩) (Kd.R_far (p := ⟨gb329, 10, none⟩) (Kd.R_far (p := ⟨gb329, 9, none⟩) (Kd.R_far (p := ⟨gb329, 8, none⟩) (Kd.R_far (p := ⟨gb329, 7, none⟩) (Kd.R_far (p := ⟨gb329, 6, none⟩) (Kd.R_far (p := ⟨gb329, 5, none⟩) (Kd.R_far (p := ⟨gb329, 4, none⟩) (Kd.R_far (p := ⟨gb329, 3, none⟩) (Kd.R_far (p := ⟨gb329, 2, none⟩) (Kd.R_far (p := ⟨gb329, 1, none⟩) (Kd.R_far (p := ⟨gb329, 0, none⟩) (Kd.R_types HO_5.out BK329.out (by decide)) (fun _ hk => hk.2) (.int .i64 ((rd_T105 y323 x29_2).f0.f0))) (fun _ hk => hk.2) (.int .i64 ((rd_T105 y323 x29_2).f0.f1.f0))) (fun _ hk => hk.2) (.int .i64 ((rd_T105 y323 x29_2).f0.f1.f1))) (fun _ hk => hk.2) (.int .i64 ((rd_T105 y323 x29_2).f0.f2))) (fun _ hk => hk.2) (.int .i64 ((rd_T105 y323 x29_2).f0.f3.f0))) (fun _ hk => hk.2) (.int .i64 ((rd_T105 y323 x29_2).f0.f3.f1))) (fun _ hk => hk.2) (.int .i64 ((rd_T105 y323 x29_2).f0.f4.f0))) (fun _ hk => hk.2) (.int .i64 ((rd_T105 y323 x29_2).f0.f4.f1))) (fun _ hk => hk.2) (.int .i64 ((rd_T105 y323 x29_2).f0.f5))) (fun _ hk => hk.2) (.int .i64 ((rd_T105 y323 x29_2).f0.f6))) (fun _ hk => hk.2) (.int .i64 ((rd_T105 y323 x29_2).f1.f0.f0))) (fun _ hk => hk.2) (.int .i64 ((rd_T105 y323 x29_2).f1.f0.f1))) (fun _ hk => hk.2) (.int .i64 ((rd_T105 y323 x29_2).f1.f1))) (fun _ hk => hk.2) (.slice A328_13 ((rd_T105 y323 x29_2).f2).length c328_13)) (fun _ hk => trivial)⟩, ⟨bk_ BK329⟩, ⟨bl_⟩⟩
           case round =>
            clear H'
            try clear c1
            try clear q1
            try clear p2
            try clear c3
            try clear p3
            try clear q3
            try clear hx3
            try clear c5
            try clear p6
            try clear c8
            try clear c10
            try clear c10b0
            try clear c10b1
            try clear c11
            try clear c11b0
            try clear c11b1
            try clear q14
            try clear c15
            try clear c15b0
            try clear c16
            try clear c16b0
            try clear c17
            try clear c17b0
            try clear hcz19
            try clear hfz19
            try clear hx328_0
            try clear hx328_1
            try clear hx328_10
            try clear hx328_11
            try clear hx328_12
            try clear hx328_13
            try clear hx328_2
            try clear hx328_3
            try clear hx328_4
            try clear hx328_5
            try clear hx328_6
            try clear hx328_7
            try clear hx328_8
            try clear hx328_9
            try clear p2
            try clear p328
            try clear p6
            try clear q1
            try clear q14
            try clear q328
            obtain ⟨x8_3, x36_3, rfl, rfl, HA, HK3, HO_5, BK329, HB⟩ := hrel
            cases gk with
            | zero => exact absurd HA.out (by simp [impl_TreeSize.l1])
            | succ k3 =>
             have H := HA.out
             clear HA
             simp only [impl_TreeSize.l1] at H
             by_cases c20 : x36_3 < (((rd_T105 y323 x29_2).f2).length : Int)
             ·rw [if_pos c20] at H
              have c20b0 : decide (x36_3 < (((rd_T105 y323 x29_2).f2).length : Int)) = true := decide_eq_true c20
              clear c20
              by_cases c21 : 0 ≤ x36_3
              ·rw [if_pos c21] at H
               have c21b0 : decide (0 ≤ x36_3) = true := decide_eq_true c21
               clear c21
               by_cases c22 : x36_3 < (((rd_T105 y323 x29_2).f2).length : Int)
               ·rw [if_pos c22] at H
                have c22b0 : decide (x36_3 < (((rd_T105 y323 x29_2).f2).length : Int)) = true := decide_eq_true c22
                clear c22
                by_cases c23 : 0 ≤ (rd ((rd_T105 y323 x29_2).f2) x36_3)
                ·rw [if_pos c23] at H
                 have c23b0 : decide (0 ≤ (rd ((rd_T105 y323 x29_2).f2) x36_3)) = true := decide_eq_true c23
                 clear c23
                 by_cases c24 : (rd ((rd_T105 y323 x29_2).f2) x36_3) < (x5_2.length : Int)
                 ·rw [if_pos c24] at H
                  have c24b0 : decide ((rd ((rd_T105 y323 x29_2).f2) x36_3) < (x5_2.length : Int)) = true := decide_eq_true c24
                  clear c24
                  have H' := Aside0.mk H
                  clear H
                  have p330 : 0 ≤ (x36_3 : Int) := of_decide_eq_true (by first | (with_reducible assumption) | assumption)
                  have q330 : x36_3 < (((rd_T105 y323 x29_2).f2).length : Int) := of_decide_eq_true (by first | (with_reducible assumption) | assumption)
                  obtain ⟨ad330, e330, hx330_0⟩ := Kd.at_int (Kd.C_below HR328_13.out HB.out) x36_3 p330 q330
                  cases e330
                  replace p330 := eq_true p330
                  replace q330 := eq_true q330
                  obtain ⟨Ao25, co25, eo25⟩ := Kd.R_slice HO_5.out
                  subst eo25
                  have p331 : 0 ≤ ((rd ((rd_T105 y323 x29_2).f2) x36_3) : Int) := of_decide_eq_true (by first | (with_reducible assumption) | assumption)
                  have q331 : (rd ((rd_T105 y323 x29_2).f2) x36_3) < (x5_2.length : Int) := of_decide_eq_true (by first | (with_reducible assumption) | assumption)
                  obtain ⟨ad331, e331, hx331_0⟩ := Kd.at_int (Kd.R_reads' HO_5.out).2.2 (rd ((rd_T105 y323 x29_2).f2) x36_3) p331 q331
                  cases e331
                  replace p331 := eq_true p331
                  replace q331 := eq_true q331
                  go_wp2
                  go_roundg k3
                  case measure => have := HJ2.out; have := HK2.out; have := HK3.out; omega
                  case rel => exact ⟨(wrap64 (x8_3 + (rd x5_2 (rd ((rd_T105 y323 x29_2).f2) x36_3)))), (wrap64 (x36_3 + 1)), (by first | rfl | (simp; done) | (simp [*]; done)), (by first | rfl | (simp; done) | (simp [*]; done)), H', ⟨by have := HJ2.out; have := HK2.out; have := HK3.out; omega⟩, ⟨by (with_reducible repeat (first | apply Kd.R_alloc | apply Kd.R_drewN | apply Kd.R_drew)); exact HO_5.out⟩, ⟨bk_ BK329⟩, ⟨bl_⟩⟩
                 ·rw [if_neg c24] at H
                  exact absurd H (by simp)
                ·rw [if_neg c23] at H
                 exact absurd H (by simp)
               ·rw [if_neg c22] at H
                exact absurd H (by simp)
              ·rw [if_neg c21] at H
               exact absurd H (by simp)
             ·rw [if_neg c20] at H
              have c20b0 : decide (x36_3 < (((rd_T105 y323 x29_2).f2).length : Int)) = false := decide_eq_false c20
              clear c20
              obtain ⟨ji26, hji26⟩ : ∃ j_ : Int, (mn x8_3 1000000) = j_ := ⟨_, rfl⟩
              replace H : (if x5_2.length < 17592186044416 then (impl_TreeSize.l0 k3 a1 (x5_2 ++ [ji26]) y323 (y323.length : Int) (wrap64 (x29_2 + 1))) else (none)) = some r := by first | (rw [hji26] at H; exact H) | (simp only [hji26] at H ⊢; exact H)
              have hji26_ : (if 1000000 < x8_3 then 1000000 else x8_3) = ji26 := hji26
              by_cases c27 : x5_2.length < 17592186044416
              ·rw [if_pos c27] at H
               have LMc27 := Aside0.mk c27
               clear c27
               obtain ⟨y332, hy332⟩ : ∃ y_ : List Int, y_ = (x5_2 ++ [ji26]) := ⟨_, rfl⟩
               replace H : (impl_TreeSize.l0 k3 a1 y332 y323 (y323.length : Int) (wrap64 (x29_2 + 1))) = some r := by first | (rw [hy332]; with_reducible exact H) | (have H2_ := (Option.bind_some _ _).symm.trans H; rw [hy332]; with_reducible exact H2_) | (have H2_ := (Option.bind_some _ _).symm.trans H; with_reducible exact H2_) | with_reducible exact H | (rw [hy332]; exact H) | exact H
               have Ny332 := Aside0.mk hy332
               clear hy332
               have H' := Aside0.mk H
               clear H
               go_wp2_with (first | ((with_reducible refine gate_builtin (b := .append) (xs := #[.tmp 47, .tmp 50]) rfl ?_); at_builtin; refine Kd.R_append (Kd.int .i64) (w0 := w) w.heap.size rfl (.tmp 47) (.tmp 50) 32 3 (.int .i64 0) 8 rfl Try.underlying32 info3 rfl (by decide) (by omega) u5 x5_2 ji26 [.int .i64 ji26] (fun _ => True) (fun _ => False) rfl rfl ?aP (fun _ hk => hk.elim) ?aF ?aO ?aB ?aS ?aL ?_; (case aP => exact rfl); (case aB => exact bl_); (case aF => exact (fun _ _ => trivial)); (case aO => exact (by (with_reducible repeat (first | apply Kd.R_alloc | apply Kd.R_drewN | apply Kd.R_drew)); exact HO_5.out)); (case aS => exact bls_); (case aL => have := LMc27.out; omega); intro v333 w28 ho hb hg hat; rw [← Ny332.out] at ho; replace BK329 := Aside0.mk (blk_grown (g := gb329) (o := .cells #[.int .i64 ((rd_T105 y323 x29_2).f0.f0), .int .i64 ((rd_T105 y323 x29_2).f0.f1.f0), .int .i64 ((rd_T105 y323 x29_2).f0.f1.f1), .int .i64 ((rd_T105 y323 x29_2).f0.f2), .int .i64 ((rd_T105 y323 x29_2).f0.f3.f0), .int .i64 ((rd_T105 y323 x29_2).f0.f3.f1), .int .i64 ((rd_T105 y323 x29_2).f0.f4.f0), .int .i64 ((rd_T105 y323 x29_2).f0.f4.f1), .int .i64 ((rd_T105 y323 x29_2).f0.f5), .int .i64 ((rd_T105 y323 x29_2).f0.f6), .int .i64 ((rd_T105 y323 x29_2).f1.f0.f0), .int .i64 ((rd_T105 y323 x29_2).f1.f0.f1), .int .i64 ((rd_T105 y323 x29_2).f1.f1), .slice A328_13 ((rd_T105 y323 x29_2).f2).length c328_13] 105 (0, 0)) (bk_ BK329) hg (Kd.R_ne HO_5.out BK329.out (by decide))); replace HB := Aside0.mk (hb); have HO334 := Aside0.mk (ho); clear HO_5; clear ho hb hg hat))
               go_roundg k3
               case measure => have := HJ2.out; have := HK2.out; have := HK3.out; omega
               case rel => exact ⟨(y332), (wrap64 (x29_2 + 1)), (by first | rfl | (simp; done) | (simp [*]; done)), H', ⟨by have := HJ2.out; have := HK2.out; have := HK3.out; omega⟩, ⟨by (with_reducible repeat (first | apply Kd.R_alloc | apply Kd.R_drewN | apply Kd.R_drew)); exact HO334.out⟩, ⟨bl_⟩⟩
              ·rw [if_neg c27] at H
               exact absurd H (by simp)
          ·rw [if_neg c17] at H
           exact absurd H (by simp)
         ·rw [if_neg c16] at H
          exact absurd H (by simp)
        ·rw [if_neg c15] at H
         have c15b0 : decide (x29_2 < (y323.length : Int)) = false := decide_eq_false c15
         clear c15
         by_cases c29 : 0 ≤ a1
         ·rw [if_pos c29] at H
          have c29b0 : decide (0 ≤ a1) = true := decide_eq_true c29
          clear c29
          by_cases c30 : a1 < (x5_2.length : Int)
          ·rw [if_pos c30] at H
           have c30b0 : decide (a1 < (x5_2.length : Int)) = true := decide_eq_true c30
           clear c30
           obtain rfl := Option.some.inj H
           obtain ⟨Ao31, co31, eo31⟩ := Kd.R_slice HO_5.out
           subst eo31
           have p327 : 0 ≤ (a1 : Int) := of_decide_eq_true (by first | (with_reducible assumption) | assumption)
           have q327 : a1 < (x5_2.length : Int) := of_decide_eq_true (by first | (with_reducible assumption) | assumption)
           obtain ⟨ad327, e327, hx327_0⟩ := Kd.at_int (Kd.R_reads' HO_5.out).2.2 a1 p327 q327
           cases e327
           replace p327 := eq_true p327
           replace q327 := eq_true q327
           go_wp2
           go_ret
           exact ⟨by first | rfl | (simp [errW_none, errW_some] <;> rfl) | (simp only [← hji9]; first | rfl | (simp [errW_none, errW_some] <;> rfl)) | (simp [*, errW_none, errW_some] <;> rfl), bl_⟩
          ·rw [if_neg c30] at H
           exact absurd H (by simp)
         ·rw [if_neg c29] at H
          exact absurd H (by simp)
     ·rw [if_neg c11] at H
      exact absurd H (by simp)
    ·rw [if_neg c10] at H
     exact absurd H (by simp)
def laws_FnExactTreeSize.f (k : Nat) (l0 : List (S115)) (a1 : Int) : Option (Bool) := (laws_szStepS.f k l0 1048576).bind fun t335 => (if t335 < 0 then (some true) else ((laws_toStepS.f k l0).bind fun t336 => ((spec_TreeSize.f k t336 a1).bind fun t339 => ((laws_toStepS.f k l0).bind fun t340 => ((impl_TreeSize.f k t340 a1).bind fun t343 => (if t343 = t339 then ((laws_toStepS.f k l0).bind fun t344 => ((laws_eqStepS.f k t340 t344).bind fun t347 => (if t347 = true then (some true) else (some false)))) else (some false)))))))
set_option maxHeartbeats 8000000 in
set_option maxRecDepth 100000 in
theorem laws_FnExactTreeSize.calls (k : Nat) (A0 : Option Addr) (c0 : Nat) (l0 : List (S115)) (a1 : Int) (r : Bool) (w : World) (hr0 : Kd.C k115 w A0 l0.length l0) (hc0 : l0.length ≤ c0) (h : laws_FnExactTreeSize.f k l0 a1 = some r) :
  Calls Try.prog 5 #[.slice A0 l0.length c0, .int .i64 a1] w fun e w' => e = .returned (.bool r) ∧ Below w.heap.size w w' := by
 have HR0 := Aside0.mk hr0
 have HC0 := Aside0.mk hc0
 clear hr0 hc0
 have HB := Aside0.mk (Below.refl w.heap.size w)
 have H : ((laws_szStepS.f k l0 1048576).bind fun t335 => (if t335 < 0 then (some true) else ((laws_toStepS.f k l0).bind fun t336 => ((spec_TreeSize.f k t336 a1).bind fun t339 => ((laws_toStepS.f k l0).bind fun t340 => ((impl_TreeSize.f k t340 a1).bind fun t343 => (if t343 = t339 then ((laws_toStepS.f k l0).bind fun t344 => ((laws_eqStepS.f k t340 t344).bind fun t347 => (if t347 = true then (some true) else (some false)))) else (some false)))))))) = some r := h
 clear h
 obtain ⟨t335, A3, H⟩ := bindE_ H
 by_cases c4 : t335 < 0
 ·rw [if_pos c4] at H
  have c4b0 : decide (t335 < 0) = true := decide_eq_true c4
  clear c4
  obtain rfl := Option.some.inj H
  go_enter Try.func5, Try.ntmps5
  go_wp2_with (first | ((with_reducible refine gate_callee (f := 29) rfl ?_); refine goesC_ (some 11) Try.func29 #[.slice A0 l0.length c0, .int .i64 1048576] ?_; (with_reducible refine (laws_szStepS.calls k _ _ l0 1048576 t335 _ ?side1 ?side2 A3.out).mono ?_); (case side1 => repeat (first | exact HR0.out | (with_reducible refine Kd.C_alloc ?_ _) | (with_reducible refine Kd.C_drewN ?_ _) | (with_reducible refine Kd.C_drew ?_))); (case side2 => exact HC0.out); rintro e w5 ⟨rfl, hb⟩; refine ⟨_, rfl, ?_⟩; replace HB := hbs_ hb; clear hb))
  go_ret
  exact ⟨eq_, bl_⟩
 ·rw [if_neg c4] at H
  have c4b0 : decide (t335 < 0) = false := decide_eq_false c4
  clear c4
  obtain ⟨t336, A6, H⟩ := bindE_ H
  obtain ⟨t339, A7, H⟩ := bindE_ H
  obtain ⟨t340, A8, H⟩ := bindE_ H
  obtain ⟨t343, A9, H⟩ := bindE_ H
  by_cases c10 : t343 = t339
  ·rw [if_pos c10] at H
   have c10b0 : (t343 == t339) = true := beq_iff_eq.mpr c10
   have c10b1 : (t343 != t339) = false := bne_eq_false_iff_eq.mpr c10
   clear c10
   obtain ⟨t344, A11, H⟩ := bindE_ H
   obtain ⟨t347, A12, H⟩ := bindE_ H
   by_cases c13 : t347 = true
   ·subst c13
    replace H := ite_t_ H
    obtain rfl := Option.some.inj H
    go_enter Try.func5, Try.ntmps5
    go_wp2_with (first | ((with_reducible refine gate_callee (f := 29) rfl ?_); refine goesC_ (some 11) Try.func29 #[.slice A0 l0.length c0, .int .i64 1048576] ?_; (with_reducible refine (laws_szStepS.calls k _ _ l0 1048576 t335 _ ?side1 ?side2 A3.out).mono ?_); (case side1 => repeat (first | exact HR0.out | (with_reducible refine Kd.C_alloc ?_ _) | (with_reducible refine Kd.C_drewN ?_ _) | (with_reducible refine Kd.C_drew ?_))); (case side2 => exact HC0.out); rintro e w14 ⟨rfl, hb⟩; refine ⟨_, rfl, ?_⟩; replace HB := hbs_ hb; clear hb) | ((with_reducible refine gate_callee (f := 31) rfl ?_); refine goesC_ (some 15) Try.func31 #[.slice A0 l0.length c0] ?_; (with_reducible refine (laws_toStepS.calls k _ _ l0 t336 _ ?side1 ?side2 A6.out).mono ?_); (case side1 => repeat (first | exact (Kd.C_below HR0.out HB.out) | (with_reducible refine Kd.C_alloc ?_ _) | (with_reducible refine Kd.C_drewN ?_ _) | (with_reducible refine Kd.C_drew ?_))); (case side2 => exact HC0.out); rintro e w15 ⟨v337, rfl, ho0, hb⟩; refine ⟨_, rfl, ?_⟩; have HO338 := Aside0.mk (Kd.S_lower ho0 bls_); replace HB := hbs_ hb; (try clear hb); (try clear hb2); (try clear hk); (try clear hi); (try clear ho0); obtain ⟨Ao16, co16, eo16⟩ := Kd.S_slice HO338.out; subst eo16) | ((with_reducible refine gate_callee (f := 34) rfl ?_); refine goesC_ (some 17) Try.func34 #[.slice Ao16 t336.length co16, .int .i64 a1] ?_; (with_reducible refine (spec_TreeSize.calls k _ _ t336 a1 t339 _ ?side1 ?side2 A7.out).mono ?_); (case side1 => repeat (first | exact (Kd.S_reads' HO338.out).2.2 | (with_reducible refine Kd.C_alloc ?_ _) | (with_reducible refine Kd.C_drewN ?_ _) | (with_reducible refine Kd.C_drew ?_))); (case side2 => exact (Kd.S_reads' HO338.out).2.1); rintro e w17 ⟨rfl, hb⟩; refine ⟨_, rfl, ?_⟩; replace HO338 := Aside0.mk (Kd.S_below (by (with_reducible repeat (first | apply Kd.S_alloc | apply Kd.S_drewN | apply Kd.S_drew)); exact HO338.out) hb); replace HB := hbs_ hb; clear hb) | ((with_reducible refine gate_callee (f := 31) rfl ?_); refine goesC_ (some 19) Try.func31 #[.slice A0 l0.length c0] ?_; (with_reducible refine (laws_toStepS.calls k _ _ l0 t340 _ ?side1 ?side2 A8.out).mono ?_); (case side1 => repeat (first | exact (Kd.C_below HR0.out HB.out) | (with_reducible refine Kd.C_alloc ?_ _) | (with_reducible refine Kd.C_drewN ?_ _) | (with_reducible refine Kd.C_drew ?_))); (case side2 => exact HC0.out); rintro e w18 ⟨v341, rfl, ho0, hb⟩; refine ⟨_, rfl, ?_⟩; have HO342 := Aside0.mk (Kd.S_lower (Kd.S_new' ho0 (Kd.S_lt (by (with_reducible repeat (first | apply Kd.S_alloc | apply Kd.S_drewN | apply Kd.S_drew)); exact HO338.out))) bls_); replace HO338 := Aside0.mk (Kd.S_elder' (by (with_reducible repeat (first | apply Kd.S_alloc | apply Kd.S_drewN | apply Kd.S_drew)); exact HO338.out) (Kd.S_base ho0) hb); replace HB := hbs_ hb; (try clear hb); (try clear hb2); (try clear hk); (try clear hi); (try clear ho0); obtain ⟨Ao19, co19, eo19⟩ := Kd.S_slice HO342.out; subst eo19) | ((with_reducible refine gate_callee (f := 35) rfl ?_); refine goesC_ (some 22) Try.func35 #[.slice Ao19 t340.length co19, .int .i64 a1] ?_; (with_reducible refine (impl_TreeSize.calls k _ _ t340 a1 t343 _ ?side1 ?side2 A9.out).mono ?_); (case side1 => repeat (first | exact (Kd.S_reads' HO342.out).2.2 | (with_reducible refine Kd.C_alloc ?_ _) | (with_reducible refine Kd.C_drewN ?_ _) | (with_reducible refine Kd.C_drew ?_))); (case side2 => exact (Kd.S_reads' HO342.out).2.1); rintro e w20 ⟨rfl, hb⟩; refine ⟨_, rfl, ?_⟩; replace HO338 := Aside0.mk (Kd.S_below (by (with_reducible repeat (first | apply Kd.S_alloc | apply Kd.S_drewN | apply Kd.S_drew)); exact HO338.out) hb); replace HO342 := Aside0.mk (Kd.S_below (by (with_reducible repeat (first | apply Kd.S_alloc | apply Kd.S_drewN | apply Kd.S_drew)); exact HO342.out) hb); replace HB := hbs_ hb; clear hb) | ((with_reducible refine gate_callee (f := 31) rfl ?_); refine goesC_ (some 28) Try.func31 #[.slice A0 l0.length c0] ?_; (with_reducible refine (laws_toStepS.calls k _ _ l0 t344 _ ?side1 ?side2 A11.out).mono ?_); (case side1 => repeat (first | exact (Kd.C_below HR0.out HB.out) | (with_reducible refine Kd.C_alloc ?_ _) | (with_reducible refine Kd.C_drewN ?_ _) | (with_reducible refine Kd.C_drew ?_))); (case side2 => exact HC0.out); rintro e w21 ⟨v345, rfl, ho0, hb⟩; refine ⟨_, rfl, ?_⟩; have HO346 := Aside0.mk (Kd.S_lower (Kd.S_new' (Kd.S_new' ho0 (Kd.S_lt (by (with_reducible repeat (first | apply Kd.S_alloc | apply Kd.S_drewN | apply Kd.S_drew)); exact HO338.out))) (Kd.S_lt (by (with_reducible repeat (first | apply Kd.S_alloc | apply Kd.S_drewN | apply Kd.S_drew)); exact HO342.out))) bls_); replace HO338 := Aside0.mk (Kd.S_elder' (by (with_reducible repeat (first | apply Kd.S_alloc | apply Kd.S_drewN | apply Kd.S_drew)); exact HO338.out) (Kd.S_base ho0) hb); replace HO342 := Aside0.mk (Kd.S_elder' (by (with_reducible repeat (first | apply Kd.S_alloc | apply Kd.S_drewN | apply Kd.S_drew)); exact HO342.out) (Kd.S_base ho0) hb); replace HB := hbs_ hb; (try clear hb); (try clear hb2); (try clear hk); (try clear hi); (try clear ho0); obtain ⟨Ao22, co22, eo22⟩ := Kd.S_slice HO346.out; subst eo22) | ((with_reducible refine gate_callee (f := 33) rfl ?_); refine goesC_ (some 29) Try.func33 #[.slice Ao19 t340.length co19, .slice Ao22 t344.length co22] ?_; (with_reducible refine (laws_eqStepS.calls k _ _ t340 _ _ t344 true _ ?side1 ?side2 ?side3 ?side4 A12.out).mono ?_); (case side1 => repeat (first | exact (Kd.S_reads' HO342.out).2.2 | (with_reducible refine Kd.C_alloc ?_ _) | (with_reducible refine Kd.C_drewN ?_ _) | (with_reducible refine Kd.C_drew ?_))); (case side2 => exact (Kd.S_reads' HO342.out).2.1); (case side3 => repeat (first | exact (Kd.S_reads' HO346.out).2.2 | (with_reducible refine Kd.C_alloc ?_ _) | (with_reducible refine Kd.C_drewN ?_ _) | (with_reducible refine Kd.C_drew ?_))); (case side4 => exact (Kd.S_reads' HO346.out).2.1); rintro e w23 ⟨rfl, hb⟩; refine ⟨_, rfl, ?_⟩; replace HO338 := Aside0.mk (Kd.S_below (by (with_reducible repeat (first | apply Kd.S_alloc | apply Kd.S_drewN | apply Kd.S_drew)); exact HO338.out) hb); replace HO342 := Aside0.mk (Kd.S_below (by (with_reducible repeat (first | apply Kd.S_alloc | apply Kd.S_drewN | apply Kd.S_drew)); exact HO342.out) hb); replace HO346 := Aside0.mk (Kd.S_below (by (with_reducible repeat (first | apply Kd.S_alloc | apply Kd.S_drewN | apply Kd.S_drew)); exact HO346.out) hb); replace HB := hbs_ hb; clear hb))
    go_ret
    exact ⟨eq_, bl_⟩
   ·replace c13 := Bool.eq_false_iff.mpr c13
    subst c13
    replace H := ite_f_ H
    obtain rfl := Option.some.inj H
    go_enter Try.func5, Try.ntmps5
    go_wp2_with (first | ((with_reducible refine gate_callee (f := 29) rfl ?_); refine goesC_ (some 11) Try.func29 #[.slice A0 l0.length c0, .int .i64 1048576] ?_; (with_reducible refine (laws_szStepS.calls k _ _ l0 1048576 t335 _ ?side1 ?side2 A3.out).mono ?_); (case side1 => repeat (first | exact HR0.out | (with_reducible refine Kd.C_alloc ?_ _) | (with_reducible refine Kd.C_drewN ?_ _) | (with_reducible refine Kd.C_drew ?_))); (case side2 => exact HC0.out); rintro e w24 ⟨rfl, hb⟩; refine ⟨_, rfl, ?_⟩; replace HB := hbs_ hb; clear hb) | ((with_reducible refine gate_callee (f := 31) rfl ?_); refine goesC_ (some 15) Try.func31 #[.slice A0 l0.length c0] ?_; (with_reducible refine (laws_toStepS.calls k _ _ l0 t336 _ ?side1 ?side2 A6.out).mono ?_); (case side1 => repeat (first | exact (Kd.C_below HR0.out HB.out) | (with_reducible refine Kd.C_alloc ?_ _) | (with_reducible refine Kd.C_drewN ?_ _) | (with_reducible refine Kd.C_drew ?_))); (case side2 => exact HC0.out); rintro e w25 ⟨v337, rfl, ho0, hb⟩; refine ⟨_, rfl, ?_⟩; have HO338 := Aside0.mk (Kd.S_lower ho0 bls_); replace HB := hbs_ hb; (try clear hb); (try clear hb2); (try clear hk); (try clear hi); (try clear ho0); obtain ⟨Ao26, co26, eo26⟩ := Kd.S_slice HO338.out; subst eo26) | ((with_reducible refine gate_callee (f := 34) rfl ?_); refine goesC_ (some 17) Try.func34 #[.slice Ao26 t336.length co26, .int .i64 a1] ?_; (with_reducible refine (spec_TreeSize.calls k _ _ t336 a1 t339 _ ?side1 ?side2 A7.out).mono ?_); (case side1 => repeat (first | exact (Kd.S_reads' HO338.out).2.2 | (with_reducible refine Kd.C_alloc ?_ _) | (with_reducible refine Kd.C_drewN ?_ _) | (with_reducible refine Kd.C_drew ?_))); (case side2 => exact (Kd.S_reads' HO338.out).2.1); rintro e w27 ⟨rfl, hb⟩; refine ⟨_, rfl, ?_⟩; replace HO338 := Aside0.mk (Kd.S_below (by (with_reducible repeat (first | apply Kd.S_alloc | apply Kd.S_drewN | apply Kd.S_drew)); exact HO338.out) hb); replace HB := hbs_ hb; clear hb) | ((with_reducible refine gate_callee (f := 31) rfl ?_); refine goesC_ (some 19) Try.func31 #[.slice A0 l0.length c0] ?_; (with_reducible refine (laws_toStepS.calls k _ _ l0 t340 _ ?side1 ?side2 A8.out).mono ?_); (case side1 => repeat (first | exact (Kd.C_below HR0.out HB.out) | (with_reducible refine Kd.C_alloc ?_ _) | (with_reducible refine Kd.C_drewN ?_ _) | (with_reducible refine Kd.C_drew ?_))); (case side2 => exact HC0.out); rintro e w28 ⟨v341, rfl, ho0, hb⟩; refine ⟨_, rfl, ?_⟩; have HO342 := Aside0.mk (Kd.S_lower (Kd.S_new' ho0 (Kd.S_lt (by (with_reducible repeat (first | apply Kd.S_alloc | apply Kd.S_drewN | apply Kd.S_drew)); exact HO338.out))) bls_); replace HO338 := Aside0.mk (Kd.S_elder' (by (with_reducible repeat (first | apply Kd.S_alloc | apply Kd.S_drewN | apply Kd.S_drew)); exact HO338.out) (Kd.S_base ho0) hb); replace HB := hbs_ hb; (try clear hb); (try clear hb2); (try clear hk); (try clear hi); (try clear ho0); obtain ⟨Ao29, co29, eo29⟩ := Kd.S_slice HO342.out; subst eo29) | ((with_reducible refine gate_callee (f := 35) rfl ?_); refine goesC_ (some 22) Try.func35 #[.slice Ao29 t340.length co29, .int .i64 a1] ?_; (with_reducible refine (impl_TreeSize.calls k _ _ t340 a1 t343 _ ?side1 ?side2 A9.out).mono ?_); (case side1 => repeat (first | exact (Kd.S_reads' HO342.out).2.2 | (with_reducible refine Kd.C_alloc ?_ _) | (with_reducible refine Kd.C_drewN ?_ _) | (with_reducible refine Kd.C_drew ?_))); (case side2 => exact (Kd.S_reads' HO342.out).2.1); rintro e w30 ⟨rfl, hb⟩; refine ⟨_, rfl, ?_⟩; replace HO338 := Aside0.mk (Kd.S_below (by (with_reducible repeat (first | apply Kd.S_alloc | apply Kd.S_drewN | apply Kd.S_drew)); exact HO338.out) hb); replace HO342 := Aside0.mk (Kd.S_below (by (with_reducible repeat (first | apply Kd.S_alloc | apply Kd.S_drewN | apply Kd.S_drew)); exact HO342.out) hb); replace HB := hbs_ hb; clear hb) | ((with_reducible refine gate_callee (f := 31) rfl ?_); refine goesC_ (some 28) Try.func31 #[.slice A0 l0.length c0] ?_; (with_reducible refine (laws_toStepS.calls k _ _ l0 t344 _ ?side1 ?side2 A11.out).mono ?_); (case side1 => repeat (first | exact (Kd.C_below HR0.out HB.out) | (with_reducible refine Kd.C_alloc ?_ _) | (with_reducible refine Kd.C_drewN ?_ _) | (with_reducible refine Kd.C_drew ?_))); (case side2 => exact HC0.out); rintro e w31 ⟨v345, rfl, ho0, hb⟩; refine ⟨_, rfl, ?_⟩; have HO346 := Aside0.mk (Kd.S_lower (Kd.S_new' (Kd.S_new' ho0 (Kd.S_lt (by (with_reducible repeat (first | apply Kd.S_alloc | apply Kd.S_drewN | apply Kd.S_drew)); exact HO338.out))) (Kd.S_lt (by (with_reducible repeat (first | apply Kd.S_alloc | apply Kd.S_drewN | apply Kd.S_drew)); exact HO342.out))) bls_); replace HO338 := Aside0.mk (Kd.S_elder' (by (with_reducible repeat (first | apply Kd.S_alloc | apply Kd.S_drewN | apply Kd.S_drew)); exact HO338.out) (Kd.S_base ho0) hb); replace HO342 := Aside0.mk (Kd.S_elder' (by (with_reducible repeat (first | apply Kd.S_alloc | apply Kd.S_drewN | apply Kd.S_drew)); exact HO342.out) (Kd.S_base ho0) hb); replace HB := hbs_ hb; (try clear hb); (try clear hb2); (try clear hk); (try clear hi); (try clear ho0); obtain ⟨Ao32, co32, eo32⟩ := Kd.S_slice HO346.out; subst eo32) | ((with_reducible refine gate_callee (f := 33) rfl ?_); refine goesC_ (some 29) Try.func33 #[.slice Ao29 t340.length co29, .slice Ao32 t344.length co32] ?_; (with_reducible refine (laws_eqStepS.calls k _ _ t340 _ _ t344 false _ ?side1 ?side2 ?side3 ?side4 A12.out).mono ?_); (case side1 => repeat (first | exact (Kd.S_reads' HO342.out).2.2 | (with_reducible refine Kd.C_alloc ?_ _) | (with_reducible refine Kd.C_drewN ?_ _) | (with_reducible refine Kd.C_drew ?_))); (case side2 => exact (Kd.S_reads' HO342.out).2.1); (case side3 => repeat (first | exact (Kd.S_reads' HO346.out).2.2 | (with_reducible refine Kd.C_alloc ?_ _) | (with_reducible refine Kd.C_drewN ?_ _) | (with_reducible refine Kd.C_drew ?_))); (case side4 => exact (Kd.S_reads' HO346.out).2.1); rintro e w33 ⟨rfl, hb⟩; refine ⟨_, rfl, ?_⟩; replace HO338 := Aside0.mk (Kd.S_below (by (with_reducible repeat (first | apply Kd.S_alloc | apply Kd.S_drewN | apply Kd.S_drew)); exact HO338.out) hb); replace HO342 := Aside0.mk (Kd.S_below (by (with_reducible repeat (first | apply Kd.S_alloc | apply Kd.S_drewN | apply Kd.S_drew)); exact HO342.out) hb); replace HO346 := Aside0.mk (Kd.S_below (by (with_reducible repeat (first | apply Kd.S_alloc | apply Kd.S_drewN | apply Kd.S_drew)); exact HO346.out) hb); replace HB := hbs_ hb; clear hb))
    go_ret
    exact ⟨eq_, bl_⟩
  ·rw [if_neg c10] at H
   have c10b0 : (t343 == t339) = false := beq_eq_false_iff_ne.mpr c10
   have c10b1 : (t343 != t339) = true := bne_iff_ne.mpr c10
   obtain rfl := Option.some.inj H
   go_enter Try.func5, Try.ntmps5
   go_wp2_with (first | ((with_reducible refine gate_callee (f := 29) rfl ?_); refine goesC_ (some 11) Try.func29 #[.slice A0 l0.length c0, .int .i64 1048576] ?_; (with_reducible refine (laws_szStepS.calls k _ _ l0 1048576 t335 _ ?side1 ?side2 A3.out).mono ?_); (case side1 => repeat (first | exact HR0.out | (with_reducible refine Kd.C_alloc ?_ _) | (with_reducible refine Kd.C_drewN ?_ _) | (with_reducible refine Kd.C_drew ?_))); (case side2 => exact HC0.out); rintro e w34 ⟨rfl, hb⟩; refine ⟨_, rfl, ?_⟩; replace HB := hbs_ hb; clear hb) | ((with_reducible refine gate_callee (f := 31) rfl ?_); refine goesC_ (some 15) Try.func31 #[.slice A0 l0.length c0] ?_; (with_reducible refine (laws_toStepS.calls k _ _ l0 t336 _ ?side1 ?side2 A6.out).mono ?_); (case side1 => repeat (first | exact (Kd.C_below HR0.out HB.out) | (with_reducible refine Kd.C_alloc ?_ _) | (with_reducible refine Kd.C_drewN ?_ _) | (with_reducible refine Kd.C_drew ?_))); (case side2 => exact HC0.out); rintro e w35 ⟨v337, rfl, ho0, hb⟩; refine ⟨_, rfl, ?_⟩; have HO338 := Aside0.mk (Kd.S_lower ho0 bls_); replace HB := hbs_ hb; (try clear hb); (try clear hb2); (try clear hk); (try clear hi); (try clear ho0); obtain ⟨Ao36, co36, eo36⟩ := Kd.S_slice HO338.out; subst eo36) | ((with_reducible refine gate_callee (f := 34) rfl ?_); refine goesC_ (some 17) Try.func34 #[.slice Ao36 t336.length co36, .int .i64 a1] ?_; (with_reducible refine (spec_TreeSize.calls k _ _ t336 a1 t339 _ ?side1 ?side2 A7.out).mono ?_); (case side1 => repeat (first | exact (Kd.S_reads' HO338.out).2.2 | (with_reducible refine Kd.C_alloc ?_ _) | (with_reducible refine Kd.C_drewN ?_ _) | (with_reducible refine Kd.C_drew ?_))); (case side2 => exact (Kd.S_reads' HO338.out).2.1); rintro e w37 ⟨rfl, hb⟩; refine ⟨_, rfl, ?_⟩; replace HO338 := Aside0.mk (Kd.S_below (by (with_reducible repeat (first | apply Kd.S_alloc | apply Kd.S_drewN | apply Kd.S_drew)); exact HO338.out) hb); replace HB := hbs_ hb; clear hb) | ((with_reducible refine gate_callee (f := 31) rfl ?_); refine goesC_ (some 19) Try.func31 #[.slice A0 l0.length c0] ?_; (with_reducible refine (laws_toStepS.calls k _ _ l0 t340 _ ?side1 ?side2 A8.out).mono ?_); (case side1 => repeat (first | exact (Kd.C_below HR0.out HB.out) | (with_reducible refine Kd.C_alloc ?_ _) | (with_reducible refine Kd.C_drewN ?_ _) | (with_reducible refine Kd.C_drew ?_))); (case side2 => exact HC0.out); rintro e w38 ⟨v341, rfl, ho0, hb⟩; refine ⟨_, rfl, ?_⟩; have HO342 := Aside0.mk (Kd.S_lower (Kd.S_new' ho0 (Kd.S_lt (by (with_reducible repeat (first | apply Kd.S_alloc | apply Kd.S_drewN | apply Kd.S_drew)); exact HO338.out))) bls_); replace HO338 := Aside0.mk (Kd.S_elder' (by (with_reducible repeat (first | apply Kd.S_alloc | apply Kd.S_drewN | apply Kd.S_drew)); exact HO338.out) (Kd.S_base ho0) hb); replace HB := hbs_ hb; (try clear hb); (try clear hb2); (try clear hk); (try clear hi); (try clear ho0); obtain ⟨Ao39, co39, eo39⟩ := Kd.S_slice HO342.out; subst eo39) | ((with_reducible refine gate_callee (f := 35) rfl ?_); refine goesC_ (some 22) Try.func35 #[.slice Ao39 t340.length co39, .int .i64 a1] ?_; (with_reducible refine (impl_TreeSize.calls k _ _ t340 a1 t343 _ ?side1 ?side2 A9.out).mono ?_); (case side1 => repeat (first | exact (Kd.S_reads' HO342.out).2.2 | (with_reducible refine Kd.C_alloc ?_ _) | (with_reducible refine Kd.C_drewN ?_ _) | (with_reducible refine Kd.C_drew ?_))); (case side2 => exact (Kd.S_reads' HO342.out).2.1); rintro e w40 ⟨rfl, hb⟩; refine ⟨_, rfl, ?_⟩; replace HO338 := Aside0.mk (Kd.S_below (by (with_reducible repeat (first | apply Kd.S_alloc | apply Kd.S_drewN | apply Kd.S_drew)); exact HO338.out) hb); replace HO342 := Aside0.mk (Kd.S_below (by (with_reducible repeat (first | apply Kd.S_alloc | apply Kd.S_drewN | apply Kd.S_drew)); exact HO342.out) hb); replace HB := hbs_ hb; clear hb))
   go_ret
   exact ⟨eq_, bl_⟩
end Go.Proofs.Ytppdmcimddhbaaa.PA
