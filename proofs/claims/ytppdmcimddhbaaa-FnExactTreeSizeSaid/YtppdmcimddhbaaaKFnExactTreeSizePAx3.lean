import Derived.Test.YtppdmcimddhbaaaKFnExactTreeSizePAx0
import Derived.Test.YtppdmcimddhbaaaKFnExactTreeSizePAx1
import Derived.Test.YtppdmcimddhbaaaKFnExactTreeSizePAx2
-- A text of this claim: written by the session's own program out of the translation (wip/tools). Lean checks it.
namespace Go.Proofs.Ytppdmcimddhbaaa.PA
open Go.RowKit Go.Proofs.YtppdmcimddhbaaaW.PrintWords Go.Proofs.YtppdmcimddhbaaaW.PrintLast Go.Proofs.YtppdmcimddhbaaaW.PrintMore
attribute [local go_sem] max2_int min2_int max_two min_two max_three min_three max_four min_four   -- for this text's walks alone
set_option linter.unusedVariables false
set_option linter.unusedSimpArgs false
attribute [local go_sem high] eqA27 eqA29
def laws_szIntS.f (l0 : List Int) (a1 : Int) : Option (Int) := if (wrap64 (a1 - (l0.length : Int))) < 0 then (some (-1)) else (some (wrap64 (a1 - (l0.length : Int))))
set_option maxHeartbeats 8000000 in
set_option maxRecDepth 100000 in
theorem laws_szIntS.calls (A0 : Option Addr) (c0 : Nat) (l0 : List Int) (a1 : Int) (r : Int) (w : World) (hr0 : Kd.C (Kd.int .i64) w A0 l0.length l0) (hc0 : l0.length ≤ c0) (h : laws_szIntS.f l0 a1 = some r) :
  Calls Try.prog 125 #[.slice A0 l0.length c0, .int .i64 a1] w fun e w' => e = .returned (.int .i64 r) ∧ Drawn0 w w' := by
 have HR0 := Aside0.mk hr0
 have HC0 := Aside0.mk hc0
 clear hr0 hc0
 have H : (if (wrap64 (a1 - (l0.length : Int))) < 0 then (some (-1)) else (some (wrap64 (a1 - (l0.length : Int))))) = some r := h
 clear h
 by_cases c3 : (wrap64 (a1 - (l0.length : Int))) < 0
 ·rw [if_pos c3] at H
  have c3b0 : decide ((wrap64 (a1 - (l0.length : Int))) < 0) = true := decide_eq_true c3
  clear c3
  obtain rfl := Option.some.inj H
  go_enter Try.func125, Try.ntmps125
  go_wp2
  go_ret
  exact ⟨by first | rfl | (simp; done) | (simp [*]; done), by repeat (first | exact Drawn0.refl _ | apply Drawn0.step)⟩
 ·rw [if_neg c3] at H
  have c3b0 : decide ((wrap64 (a1 - (l0.length : Int))) < 0) = false := decide_eq_false c3
  clear c3
  obtain rfl := Option.some.inj H
  go_enter Try.func125, Try.ntmps125
  go_wp2
  go_ret
  exact ⟨by first | rfl | (simp; done) | (simp [*]; done), by repeat (first | exact Drawn0.refl _ | apply Drawn0.step)⟩
def laws_szStep.f (a0_0 : Int) (a0_1 : Int) (a0_2 : Int) (a0_3 : Int) (a0_4 : Int) (a0_5 : Int) (a0_6 : Int) (a0_7 : Int) (a0_8 : Int) (a0_9 : Int) (a0_10 : Int) (a0_11 : Int) (a0_12 : Int) (l0_13 : List Int) (a1 : Int) : Option (Int) := (laws_szIntS.f l0_13 a1).bind fun t102 => (if t102 < 0 then (some (-1)) else (some t102))
set_option maxHeartbeats 8000000 in
set_option maxRecDepth 100000 in
theorem laws_szStep.calls (a0_0 : Int) (a0_1 : Int) (a0_2 : Int) (a0_3 : Int) (a0_4 : Int) (a0_5 : Int) (a0_6 : Int) (a0_7 : Int) (a0_8 : Int) (a0_9 : Int) (a0_10 : Int) (a0_11 : Int) (a0_12 : Int) (A0_13 : Option Addr) (c0_13 : Nat) (l0_13 : List Int) (a1 : Int) (r : Int) (w : World) (hr0_13 : Kd.C (Kd.int .i64) w A0_13 l0_13.length l0_13) (hc0_13 : l0_13.length ≤ c0_13) (h : laws_szStep.f a0_0 a0_1 a0_2 a0_3 a0_4 a0_5 a0_6 a0_7 a0_8 a0_9 a0_10 a0_11 a0_12 l0_13 a1 = some r) :
  Calls Try.prog 85 #[.agg #[.int .i64 a0_0, .int .i64 a0_1, .int .i64 a0_2, .int .i64 a0_3, .int .i64 a0_4, .int .i64 a0_5, .int .i64 a0_6, .int .i64 a0_7, .int .i64 a0_8, .int .i64 a0_9, .int .i64 a0_10, .int .i64 a0_11, .int .i64 a0_12, .slice A0_13 l0_13.length c0_13], .int .i64 a1] w fun e w' => e = .returned (.int .i64 r) ∧ Below w.heap.size w w' := by
 have hu115 := Try.underlying115
 have HR0_13 := Aside0.mk hr0_13
 have HC0_13 := Aside0.mk hc0_13
 clear hr0_13 hc0_13
 have HB := Aside0.mk (Below.refl w.heap.size w)
 have H : ((laws_szIntS.f l0_13 a1).bind fun t102 => (if t102 < 0 then (some (-1)) else (some t102))) = some r := h
 clear h
 obtain ⟨t102, A3, H⟩ := bindE_ H
 by_cases c4 : t102 < 0
 ·rw [if_pos c4] at H
  have c4b0 : decide (t102 < 0) = true := decide_eq_true c4
  clear c4
  obtain rfl := Option.some.inj H
  go_enter Try.func85, Try.ntmps85
  go_wp2_with (first | ((with_reducible refine gate_dst (N := 2) rfl ?_); refine box_event ?hg (N := 2) ?hd (cs := #[.int .i64 a0_0, .int .i64 a0_1, .int .i64 a0_2, .int .i64 a0_3, .int .i64 a0_4, .int .i64 a0_5, .int .i64 a0_6, .int .i64 a0_7, .int .i64 a0_8, .int .i64 a0_9, .int .i64 a0_10, .int .i64 a0_11, .int .i64 a0_12, .slice A0_13 l0_13.length c0_13]) (t := 115) ?hr ?_; (case hd => rfl); (case hg => rfl); (case hr => first | (go_simp; done) | (go_simp; rfl)); intro gb101 hg w5 hbox hb; have BK101 := Aside0.mk (hbox); have GW101 := gs_ hg; have GE101 := gs_ hg; replace HB := hbs_ hb; clear hb hbox hg; have hcz6 := blk_cell BK101.out; have hfz6 := blk_frozen BK101.out) | ((with_reducible refine gate_callee (f := 125) rfl ?_); refine goesC_ (some 8) Try.func125 #[.slice A0_13 l0_13.length c0_13, .int .i64 a1] ?_; (with_reducible refine (laws_szIntS.calls _ _ l0_13 a1 t102 _ ?side1 ?side2 A3.out).mono ?_); (case side1 => repeat (first | exact (Kd.C_below HR0_13.out HB.out) | (with_reducible refine Kd.C_alloc ?_ _) | (with_reducible refine Kd.C_drewN ?_ _) | (with_reducible refine Kd.C_drew ?_))); (case side2 => exact HC0_13.out); rintro e w' ⟨rfl, ⟨nd, rfl⟩⟩; refine ⟨_, rfl, ?_⟩))
  go_ret
  exact ⟨eq_, bl_⟩
 ·rw [if_neg c4] at H
  have c4b0 : decide (t102 < 0) = false := decide_eq_false c4
  clear c4
  obtain rfl := Option.some.inj H
  go_enter Try.func85, Try.ntmps85
  go_wp2_with (first | ((with_reducible refine gate_dst (N := 2) rfl ?_); refine box_event ?hg (N := 2) ?hd (cs := #[.int .i64 a0_0, .int .i64 a0_1, .int .i64 a0_2, .int .i64 a0_3, .int .i64 a0_4, .int .i64 a0_5, .int .i64 a0_6, .int .i64 a0_7, .int .i64 a0_8, .int .i64 a0_9, .int .i64 a0_10, .int .i64 a0_11, .int .i64 a0_12, .slice A0_13 l0_13.length c0_13]) (t := 115) ?hr ?_; (case hd => rfl); (case hg => rfl); (case hr => first | (go_simp; done) | (go_simp; rfl)); intro gb101 hg w7 hbox hb; have BK101 := Aside0.mk (hbox); have GW101 := gs_ hg; have GE101 := gs_ hg; replace HB := hbs_ hb; clear hb hbox hg; have hcz8 := blk_cell BK101.out; have hfz8 := blk_frozen BK101.out) | ((with_reducible refine gate_callee (f := 125) rfl ?_); refine goesC_ (some 8) Try.func125 #[.slice A0_13 l0_13.length c0_13, .int .i64 a1] ?_; (with_reducible refine (laws_szIntS.calls _ _ l0_13 a1 t102 _ ?side1 ?side2 A3.out).mono ?_); (case side1 => repeat (first | exact (Kd.C_below HR0_13.out HB.out) | (with_reducible refine Kd.C_alloc ?_ _) | (with_reducible refine Kd.C_drewN ?_ _) | (with_reducible refine Kd.C_drew ?_))); (case side2 => exact HC0_13.out); rintro e w' ⟨rfl, ⟨nd, rfl⟩⟩; refine ⟨_, rfl, ?_⟩))
  go_ret
  exact ⟨eq_, bl_⟩
def laws_szStepS.l0 : Nat → List (S115) → Int → Int → Option (Int)
 | 0, _, _, _ => none
 | k + 1, x0, x1, x5 => if x5 < (x0.length : Int) then (if 0 ≤ x5 then ((laws_szStep.f ((rd_T115 x0 x5).f0.f0) ((rd_T115 x0 x5).f0.f1.f0) ((rd_T115 x0 x5).f0.f1.f1) ((rd_T115 x0 x5).f0.f2) ((rd_T115 x0 x5).f0.f3.f0) ((rd_T115 x0 x5).f0.f3.f1) ((rd_T115 x0 x5).f0.f4.f0) ((rd_T115 x0 x5).f0.f4.f1) ((rd_T115 x0 x5).f0.f5) ((rd_T115 x0 x5).f0.f6) ((rd_T115 x0 x5).f1.f0.f0) ((rd_T115 x0 x5).f1.f0.f1) ((rd_T115 x0 x5).f1.f1) ((rd_T115 x0 x5).f2) x1).bind fun t104 => (if t104 < 0 then (some (-1)) else (laws_szStepS.l0 k x0 t104 (wrap64 (x5 + 1))))) else (none)) else (some x1)
def laws_szStepS.f (k : Nat) (l0 : List (S115)) (a1 : Int) : Option (Int) := if (wrap64 (a1 - (l0.length : Int))) < 0 then (some (-1)) else (laws_szStepS.l0 k l0 (wrap64 (a1 - (l0.length : Int))) 0)
set_option maxHeartbeats 8000000 in
set_option maxRecDepth 100000 in
theorem laws_szStepS.calls (k : Nat) (A0 : Option Addr) (c0 : Nat) (l0 : List (S115)) (a1 : Int) (r : Int) (w : World) (hr0 : Kd.C k115 w A0 l0.length l0) (hc0 : l0.length ≤ c0) (h : laws_szStepS.f k l0 a1 = some r) :
  Calls Try.prog 29 #[.slice A0 l0.length c0, .int .i64 a1] w fun e w' => e = .returned (.int .i64 r) ∧ Below w.heap.size w w' := by
 have hu115 := Try.underlying115
 have HR0 := Aside0.mk hr0
 have HC0 := Aside0.mk hc0
 clear hr0 hc0
 have HB := Aside0.mk (Below.refl w.heap.size w)
 have H : (if (wrap64 (a1 - (l0.length : Int))) < 0 then (some (-1)) else (laws_szStepS.l0 k l0 (wrap64 (a1 - (l0.length : Int))) 0)) = some r := h
 clear h
 by_cases c3 : (wrap64 (a1 - (l0.length : Int))) < 0
 ·rw [if_pos c3] at H
  have c3b0 : decide ((wrap64 (a1 - (l0.length : Int))) < 0) = true := decide_eq_true c3
  clear c3
  obtain rfl := Option.some.inj H
  go_enter Try.func29, Try.ntmps29
  go_wp2
  go_ret
  exact ⟨eq_, bl_⟩
 ·rw [if_neg c3] at H
  have c3b0 : decide ((wrap64 (a1 - (l0.length : Int))) < 0) = false := decide_eq_false c3
  clear c3
  have H' := Aside0.mk H
  clear H
  go_enter Try.func29, Try.ntmps29
  go_wp2
  go_loopg [1, 5] k (fun kq v1 v5 w' => ∃ (x1_1 : Int) (x5_1 : Int), v1 = .int .i64 x1_1 ∧ v5 = .int .i64 x5_1 ∧ Aside0 (laws_szStepS.l0 kq l0 x1_1 x5_1 = some r) ∧ Aside0 (kq ≤ k) ∧ Aside0 (Below w.heap.size w w'))
  case atStart => exact ⟨(wrap64 (a1 - (l0.length : Int))), (0), (by first | rfl | (simp; done) | (simp [*]; done)), (by first | rfl | (simp; done) | (simp [*]; done)), H', ⟨Nat.le_refl _⟩, ⟨bl_⟩⟩
  case round =>
   clear H'
   try clear c2
   try clear p2
   try clear c3
   try clear c3b0
   obtain ⟨x1_1, x5_1, rfl, rfl, HA, HK1, HB⟩ := hrel
   cases gk with
   | zero => exact absurd HA.out (by simp [laws_szStepS.l0])
   | succ k1 =>
    have H := HA.out
    clear HA
    simp only [laws_szStepS.l0] at H
    by_cases c4 : x5_1 < (l0.length : Int)
    ·rw [if_pos c4] at H
     have c4b0 : decide (x5_1 < (l0.length : Int)) = true := decide_eq_true c4
     clear c4
     by_cases c5 : 0 ≤ x5_1
     ·rw [if_pos c5] at H
      have c5b0 : decide (0 ≤ x5_1) = true := decide_eq_true c5
      clear c5
      obtain ⟨t104, A6, H⟩ := bindE_ H
      by_cases c7 : t104 < 0
      ·rw [if_pos c7] at H
       have c7b0 : decide (t104 < 0) = true := decide_eq_true c7
       clear c7
       obtain rfl := Option.some.inj H
       have p103 : 0 ≤ (x5_1 : Int) := of_decide_eq_true (by first | (with_reducible assumption) | assumption)
       have q103 : x5_1 < (l0.length : Int) := of_decide_eq_true (by first | (with_reducible assumption) | assumption)
       obtain ⟨ad103, A103_13, c103_13, e103, hx103_0, hx103_1, hx103_2, hx103_3, hx103_4, hx103_5, hx103_6, hx103_7, hx103_8, hx103_9, hx103_10, hx103_11, hx103_12, hx103_13, hl103_13, hi103_13⟩ := at_T115 HR0.out x5_1 p103 q103
       cases e103
       replace hx103_0 := cb_ HB hx103_0
       replace hx103_1 := cb_ HB hx103_1
       replace hx103_2 := cb_ HB hx103_2
       replace hx103_3 := cb_ HB hx103_3
       replace hx103_4 := cb_ HB hx103_4
       replace hx103_5 := cb_ HB hx103_5
       replace hx103_6 := cb_ HB hx103_6
       replace hx103_7 := cb_ HB hx103_7
       replace hx103_8 := cb_ HB hx103_8
       replace hx103_9 := cb_ HB hx103_9
       replace hx103_10 := cb_ HB hx103_10
       replace hx103_11 := cb_ HB hx103_11
       replace hx103_12 := cb_ HB hx103_12
       replace hx103_13 := cb_ HB hx103_13
       have HR103_13 := Aside0.mk hi103_13
       have HC103_13 := Aside0.mk hl103_13
       clear hi103_13 hl103_13
       replace p103 := eq_true p103
       replace q103 := eq_true q103
       go_wp2_with (first | ((with_reducible refine gate_callee (f := 85) rfl ?_); refine goesC_ (some 23) Try.func85 #[.agg #[.int .i64 ((rd_T115 l0 x5_1).f0.f0), .int .i64 ((rd_T115 l0 x5_1).f0.f1.f0), .int .i64 ((rd_T115 l0 x5_1).f0.f1.f1), .int .i64 ((rd_T115 l0 x5_1).f0.f2), .int .i64 ((rd_T115 l0 x5_1).f0.f3.f0), .int .i64 ((rd_T115 l0 x5_1).f0.f3.f1), .int .i64 ((rd_T115 l0 x5_1).f0.f4.f0), .int .i64 ((rd_T115 l0 x5_1).f0.f4.f1), .int .i64 ((rd_T115 l0 x5_1).f0.f5), .int .i64 ((rd_T115 l0 x5_1).f0.f6), .int .i64 ((rd_T115 l0 x5_1).f1.f0.f0), .int .i64 ((rd_T115 l0 x5_1).f1.f0.f1), .int .i64 ((rd_T115 l0 x5_1).f1.f1), .slice A103_13 ((rd_T115 l0 x5_1).f2).length c103_13], .int .i64 x1_1] ?_; (with_reducible refine (laws_szStep.calls ((rd_T115 l0 x5_1).f0.f0) ((rd_T115 l0 x5_1).f0.f1.f0) ((rd_T115 l0 x5_1).f0.f1.f1) ((rd_T115 l0 x5_1).f0.f2) ((rd_T115 l0 x5_1).f0.f3.f0) ((rd_T115 l0 x5_1).f0.f3.f1) ((rd_T115 l0 x5_1).f0.f4.f0) ((rd_T115 l0 x5_1).f0.f4.f1) ((rd_T115 l0 x5_1).f0.f5) ((rd_T115 l0 x5_1).f0.f6) ((rd_T115 l0 x5_1).f1.f0.f0) ((rd_T115 l0 x5_1).f1.f0.f1) ((rd_T115 l0 x5_1).f1.f1) _ _ ((rd_T115 l0 x5_1).f2) x1_1 t104 _ ?side1 ?side2 A6.out).mono ?_); (case side1 => repeat (first | exact (Kd.C_below HR103_13.out HB.out) | (with_reducible refine Kd.C_alloc ?_ _) | (with_reducible refine Kd.C_drewN ?_ _) | (with_reducible refine Kd.C_drew ?_))); (case side2 => exact HC103_13.out); rintro e w8 ⟨rfl, hb⟩; refine ⟨_, rfl, ?_⟩; replace HB := hbs_ hb; clear hb))
       go_ret
       exact ⟨eq_, bl_⟩
      ·rw [if_neg c7] at H
       have c7b0 : decide (t104 < 0) = false := decide_eq_false c7
       clear c7
       have H' := Aside0.mk H
       clear H
       have p103 : 0 ≤ (x5_1 : Int) := of_decide_eq_true (by first | (with_reducible assumption) | assumption)
       have q103 : x5_1 < (l0.length : Int) := of_decide_eq_true (by first | (with_reducible assumption) | assumption)
       obtain ⟨ad103, A103_13, c103_13, e103, hx103_0, hx103_1, hx103_2, hx103_3, hx103_4, hx103_5, hx103_6, hx103_7, hx103_8, hx103_9, hx103_10, hx103_11, hx103_12, hx103_13, hl103_13, hi103_13⟩ := at_T115 HR0.out x5_1 p103 q103
       cases e103
       replace hx103_0 := cb_ HB hx103_0
       replace hx103_1 := cb_ HB hx103_1
       replace hx103_2 := cb_ HB hx103_2
       replace hx103_3 := cb_ HB hx103_3
       replace hx103_4 := cb_ HB hx103_4
       replace hx103_5 := cb_ HB hx103_5
       replace hx103_6 := cb_ HB hx103_6
       replace hx103_7 := cb_ HB hx103_7
       replace hx103_8 := cb_ HB hx103_8
       replace hx103_9 := cb_ HB hx103_9
       replace hx103_10 := cb_ HB hx103_10
       replace hx103_11 := cb_ HB hx103_11
       replace hx103_12 := cb_ HB hx103_12
       replace hx103_13 := cb_ HB hx103_13
       have HR103_13 := Aside0.mk hi103_13
       have HC103_13 := Aside0.mk hl103_13
       clear hi103_13 hl103_13
       replace p103 := eq_true p103
       replace q103 := eq_true q103
       go_wp2_with (first | ((with_reducible refine gate_callee (f := 85) rfl ?_); refine goesC_ (some 23) Try.func85 #[.agg #[.int .i64 ((rd_T115 l0 x5_1).f0.f0), .int .i64 ((rd_T115 l0 x5_1).f0.f1.f0), .int .i64 ((rd_T115 l0 x5_1).f0.f1.f1), .int .i64 ((rd_T115 l0 x5_1).f0.f2), .int .i64 ((rd_T115 l0 x5_1).f0.f3.f0), .int .i64 ((rd_T115 l0 x5_1).f0.f3.f1), .int .i64 ((rd_T115 l0 x5_1).f0.f4.f0), .int .i64 ((rd_T115 l0 x5_1).f0.f4.f1), .int .i64 ((rd_T115 l0 x5_1).f0.f5), .int .i64 ((rd_T115 l0 x5_1).f0.f6), .int .i64 ((rd_T115 l0 x5_1).f1.f0.f0), .int .i64 ((rd_T115 l0 x5_1).f1.f0.f1), .int .i64 ((rd_T115 l0 x5_1).f1.f1), .slice A103_13 ((rd_T115 l0 x5_1).f2).length c103_13], .int .i64 x1_1] ?_; (with_reducible refine (laws_szStep.calls ((rd_T115 l0 x5_1).f0.f0) ((rd_T115 l0 x5_1).f0.f1.f0) ((rd_T115 l0 x5_1).f0.f1.f1) ((rd_T115 l0 x5_1).f0.f2) ((rd_T115 l0 x5_1).f0.f3.f0) ((rd_T115 l0 x5_1).f0.f3.f1) ((rd_T115 l0 x5_1).f0.f4.f0) ((rd_T115 l0 x5_1).f0.f4.f1) ((rd_T115 l0 x5_1).f0.f5) ((rd_T115 l0 x5_1).f0.f6) ((rd_T115 l0 x5_1).f1.f0.f0) ((rd_T115 l0 x5_1).f1.f0.f1) ((rd_T115 l0 x5_1).f1.f1) _ _ ((rd_T115 l0 x5_1).f2) x1_1 t104 _ ?side1 ?side2 A6.out).mono ?_); (case side1 => repeat (first | exact (Kd.C_below HR103_13.out HB.out) | (with_reducible refine Kd.C_alloc ?_ _) | (with_reducible refine Kd.C_drewN ?_ _) | (with_reducible refine Kd.C_drew ?_))); (case side2 => exact HC103_13.out); rintro e w9 ⟨rfl, hb⟩; refine ⟨_, rfl, ?_⟩; replace HB := hbs_ hb; clear hb))
       go_roundg k1
       case measure => have := HK1.out; omega
       case rel => exact ⟨(t104), (wrap64 (x5_1 + 1)), (by first | rfl | (simp; done) | (simp [*]; done)), (by first | rfl | (simp; done) | (simp [*]; done)), H', ⟨by have := HK1.out; omega⟩, ⟨bl_⟩⟩
     ·rw [if_neg c5] at H
      exact absurd H (by simp)
    ·rw [if_neg c4] at H
     have c4b0 : decide (x5_1 < (l0.length : Int)) = false := decide_eq_false c4
     clear c4
     obtain rfl := Option.some.inj H
     go_wp2
     go_ret
     exact ⟨eq_, bl_⟩
def spec_l01In.f (a0 : Int) (a1 : Int) (a2 : Int) : Option (Bool) := if a0 ≥ a1 then (some (decide (a0 ≤ a2))) else (some false)
set_option maxHeartbeats 8000000 in
set_option maxRecDepth 100000 in
theorem spec_l01In.calls (a0 : Int) (a1 : Int) (a2 : Int) (r : Bool) (w : World) (h : spec_l01In.f a0 a1 a2 = some r) :
  Calls Try.prog 90 #[.int .i64 a0, .int .i64 a1, .int .i64 a2] w fun e w' => e = .returned (.bool r) ∧ Drawn0 w w' := by
 have H : (if a0 ≥ a1 then (some (decide (a0 ≤ a2))) else (some false)) = some r := h
 clear h
 by_cases c4 : a0 ≥ a1
 ·rw [if_pos c4] at H
  have c4b0 : decide (a1 ≤ a0) = true := decide_eq_true c4
  clear c4
  obtain rfl := Option.some.inj H
  go_enter Try.func90, Try.ntmps90
  go_wp2
  go_ret
  exact ⟨by first | rfl | (simp; done) | (simp [*]; done), by repeat (first | exact Drawn0.refl _ | apply Drawn0.step)⟩
 ·rw [if_neg c4] at H
  have c4b0 : decide (a1 ≤ a0) = false := decide_eq_false c4
  clear c4
  obtain rfl := Option.some.inj H
  go_enter Try.func90, Try.ntmps90
  go_wp2
  go_ret
  exact ⟨by first | rfl | (simp; done) | (simp [*]; done), by repeat (first | exact Drawn0.refl _ | apply Drawn0.step)⟩
def spec_RoleOk.f (a0_0 : Int) (a0_1 : Int) : Option (Bool) := (spec_l01In.f a0_0 0 5).bind fun t106 => (if t106 = true then ((spec_l01In.f a0_1 0 3).bind fun t107 => (some t107)) else (some false))
set_option maxHeartbeats 8000000 in
set_option maxRecDepth 100000 in
theorem spec_RoleOk.calls (a0_0 : Int) (a0_1 : Int) (r : Bool) (w : World) (h : spec_RoleOk.f a0_0 a0_1 = some r) :
  Calls Try.prog 136 #[.agg #[.int .i64 a0_0, .int .i64 a0_1]] w fun e w' => e = .returned (.bool r) ∧ Below w.heap.size w w' := by
 have hu27 := Try.underlying27
 have HB := Aside0.mk (Below.refl w.heap.size w)
 have H : ((spec_l01In.f a0_0 0 5).bind fun t106 => (if t106 = true then ((spec_l01In.f a0_1 0 3).bind fun t107 => (some t107)) else (some false))) = some r := h
 clear h
 obtain ⟨t106, A2, H⟩ := bindE_ H
 by_cases c3 : t106 = true
 ·subst c3
  replace H := ite_t_ H
  obtain ⟨t107, A4, H⟩ := bindE_ H
  obtain rfl := Option.some.inj H
  go_enter Try.func136, Try.ntmps136
  go_wp2_with (first | ((with_reducible refine gate_dst (N := 1) rfl ?_); refine box_event ?hg (N := 1) ?hd (cs := #[.int .i64 a0_0, .int .i64 a0_1]) (t := 27) ?hr ?_; (case hd => rfl); (case hg => rfl); (case hr => first | (go_simp; done) | (go_simp; rfl)); intro gb105 hg w5 hbox hb; have BK105 := Aside0.mk (hbox); have GW105 := gs_ hg; have GE105 := gs_ hg; replace HB := hbs_ hb; clear hb hbox hg; have hcz6 := blk_cell BK105.out; have hfz6 := blk_frozen BK105.out) | ((with_reducible refine gate_callee (f := 90) rfl ?_); refine goesC_ (some 5) Try.func90 #[.int .i64 a0_0, .int .i64 0, .int .i64 5] ?_; (with_reducible refine (spec_l01In.calls a0_0 0 5 true _ A2.out).mono ?_); rintro e w' ⟨rfl, ⟨nd, rfl⟩⟩; refine ⟨_, rfl, ?_⟩) | (go_at_call 90; (with_reducible refine (spec_l01In.calls a0_1 0 3 t107 _ A4.out).mono ?_); rintro e w' ⟨rfl, ⟨nd, rfl⟩⟩))
  go_ret
  exact ⟨eq_, bl_⟩
 ·replace c3 := Bool.eq_false_iff.mpr c3
  subst c3
  replace H := ite_f_ H
  obtain rfl := Option.some.inj H
  go_enter Try.func136, Try.ntmps136
  go_wp2_with (first | ((with_reducible refine gate_dst (N := 1) rfl ?_); refine box_event ?hg (N := 1) ?hd (cs := #[.int .i64 a0_0, .int .i64 a0_1]) (t := 27) ?hr ?_; (case hd => rfl); (case hg => rfl); (case hr => first | (go_simp; done) | (go_simp; rfl)); intro gb105 hg w7 hbox hb; have BK105 := Aside0.mk (hbox); have GW105 := gs_ hg; have GE105 := gs_ hg; replace HB := hbs_ hb; clear hb hbox hg; have hcz8 := blk_cell BK105.out; have hfz8 := blk_frozen BK105.out) | ((with_reducible refine gate_callee (f := 90) rfl ?_); refine goesC_ (some 5) Try.func90 #[.int .i64 a0_0, .int .i64 0, .int .i64 5] ?_; (with_reducible refine (spec_l01In.calls a0_0 0 5 false _ A2.out).mono ?_); rintro e w' ⟨rfl, ⟨nd, rfl⟩⟩; refine ⟨_, rfl, ?_⟩))
  go_ret
  exact ⟨eq_, bl_⟩
def spec_CredOk.j0 : Nat → Bool → Int → Int → Int → Int → Int → Int → Int → Int → Int → Int → Option (Bool)
 | 0, _, _, _, _, _, _, _, _, _, _, _ => none
 | k + 1, x19, x109000, x109001, x109002, x109003, x109004, x109005, x109006, x109007, x109008, x109009 => if x19 = true then (some false) else (if x109000 = 1 then ((spec_l01In.f x109003 0 5).bind fun t113 => (if t113 = true then (if (x109004 == 0 && (x109005 == 0)) = true then (some (x109006 == 0 && (x109007 == 0))) else (some false)) else (some false))) else (if x109000 = 2 then (if x109003 = 0 then ((spec_RoleOk.f x109004 x109005).bind fun t114 => (if t114 = true then (some (x109006 == 0 && (x109007 == 0))) else (some false))) else (some false)) else (if x109000 = 3 then (if x109003 = 0 then ((spec_RoleOk.f x109004 x109005).bind fun t115 => (if t115 = true then ((spec_RoleOk.f x109006 x109007).bind fun t116 => (if t116 = true then (some (x109006 == 0)) else (some false))) else (some false))) else (some false)) else (if x109000 = 4 then (if x109003 = 0 then ((spec_RoleOk.f x109004 x109005).bind fun t117 => (if t117 = true then ((spec_RoleOk.f x109006 x109007).bind fun t118 => (some t118)) else (some false))) else (some false)) else (some false)))))
def spec_CredOk.f (k : Nat) (a0_0 : Int) (a0_1 : Int) (a0_2 : Int) (a0_3 : Int) (a0_4 : Int) (a0_5 : Int) (a0_6 : Int) (a0_7 : Int) (a0_8 : Int) (a0_9 : Int) : Option (Bool) := (spec_RoleOk.f a0_1 a0_2).bind fun t109 => (if t109 = true then ((spec_l01In.f a0_8 1 9999).bind fun t110 => (if t110 = true then ((spec_l01In.f a0_9 0 99).bind fun t111 => (spec_CredOk.j0 k (!t111) a0_0 a0_1 a0_2 a0_3 a0_4 a0_5 a0_6 a0_7 a0_8 a0_9)) else (spec_CredOk.j0 k true a0_0 a0_1 a0_2 a0_3 a0_4 a0_5 a0_6 a0_7 a0_8 a0_9))) else (spec_CredOk.j0 k true a0_0 a0_1 a0_2 a0_3 a0_4 a0_5 a0_6 a0_7 a0_8 a0_9))
set_option maxHeartbeats 8000000 in
set_option maxRecDepth 100000 in
theorem spec_CredOk.calls (k : Nat) (a0_0 : Int) (a0_1 : Int) (a0_2 : Int) (a0_3 : Int) (a0_4 : Int) (a0_5 : Int) (a0_6 : Int) (a0_7 : Int) (a0_8 : Int) (a0_9 : Int) (r : Bool) (w : World) (h : spec_CredOk.f k a0_0 a0_1 a0_2 a0_3 a0_4 a0_5 a0_6 a0_7 a0_8 a0_9 = some r) :
  Calls Try.prog 115 #[.agg #[.int .i64 a0_0, .int .i64 a0_1, .int .i64 a0_2, .int .i64 a0_3, .int .i64 a0_4, .int .i64 a0_5, .int .i64 a0_6, .int .i64 a0_7, .int .i64 a0_8, .int .i64 a0_9]] w fun e w' => e = .returned (.bool r) ∧ Below w.heap.size w w' := by
 have hu46 := Try.underlying46
 have hu27 := Try.underlying27
 have HB := Aside0.mk (Below.refl w.heap.size w)
 have H : ((spec_RoleOk.f a0_1 a0_2).bind fun t109 => (if t109 = true then ((spec_l01In.f a0_8 1 9999).bind fun t110 => (if t110 = true then ((spec_l01In.f a0_9 0 99).bind fun t111 => (spec_CredOk.j0 k (!t111) a0_0 a0_1 a0_2 a0_3 a0_4 a0_5 a0_6 a0_7 a0_8 a0_9)) else (spec_CredOk.j0 k true a0_0 a0_1 a0_2 a0_3 a0_4 a0_5 a0_6 a0_7 a0_8 a0_9))) else (spec_CredOk.j0 k true a0_0 a0_1 a0_2 a0_3 a0_4 a0_5 a0_6 a0_7 a0_8 a0_9))) = some r := h
 clear h
 have HC2 := Aside0.mk H
 clear H
 go_enter Try.func115, Try.ntmps115
 go_upto_region 1 with (first | ((with_reducible refine gate_dst (N := 1) rfl ?_); refine box_event ?hg (N := 1) ?hd (cs := #[.int .i64 a0_0, .int .i64 a0_1, .int .i64 a0_2, .int .i64 a0_3, .int .i64 a0_4, .int .i64 a0_5, .int .i64 a0_6, .int .i64 a0_7, .int .i64 a0_8, .int .i64 a0_9]) (t := 46) ?hr ?_; (case hd => rfl); (case hg => rfl); (case hr => first | (go_simp; done) | (go_simp; rfl)); intro gb108 hg w3 hbox hb; have BK108 := Aside0.mk (hbox); have GW108 := gs_ hg; have GE108 := gs_ hg; replace HB := hbs_ hb; clear hb hbox hg))
 (try simp only [Act.put, List.setIfInBounds_toArray, List.set_cons_zero, List.set_cons_succ])
 go_cut [19] (fun v19 wc => ∃ (kq : Nat) (x19_1 : Bool), v19 = .bool x19_1 ∧ Aside0 (spec_CredOk.j0 kq x19_1 a0_0 a0_1 a0_2 a0_3 a0_4 a0_5 a0_6 a0_7 a0_8 a0_9 = some r) ∧ Aside0 (kq ≤ k) ∧ Aside0 (wc.heap[gb108]? = some (.cells #[.int .i64 a0_0, .int .i64 a0_1, .int .i64 a0_2, .int .i64 a0_3, .int .i64 a0_4, .int .i64 a0_5, .int .i64 a0_6, .int .i64 a0_7, .int .i64 a0_8, .int .i64 a0_9] 46 (0, 0))) ∧ Aside0 (Below w.heap.size w wc))
 case first =>
  have H := HC2.out
  clear HC2
  obtain ⟨t109, A4, H⟩ := bindE_ H
  by_cases c5 : t109 = true
  ·subst c5
   replace H := ite_t_ H
   obtain ⟨t110, A6, H⟩ := bindE_ H
   by_cases c7 : t110 = true
   ·subst c7
    replace H := ite_t_ H
    obtain ⟨t111, A8, H⟩ := bindE_ H
    have H' := Aside0.mk H
    clear H
    have hcz9 := blk_cell BK108.out
    have hfz9 := blk_frozen BK108.out
    go_wp2_with (first | ((with_reducible refine gate_callee (f := 136) rfl ?_); refine goesC_ (some 6) Try.func136 #[.agg #[.int .i64 a0_1, .int .i64 a0_2]] ?_; (with_reducible refine (spec_RoleOk.calls a0_1 a0_2 true _ A4.out).mono ?_); rintro e w10 ⟨rfl, hb⟩; refine ⟨_, rfl, ?_⟩; replace BK108 := bkb_ BK108 hb; replace HB := hbs_ hb; clear hb; have hcz11 := blk_cell BK108.out; have hfz11 := blk_frozen BK108.out) | (go_at_call 90; (with_reducible refine (spec_l01In.calls a0_8 1 9999 true _ A6.out).mono ?_); rintro e w' ⟨rfl, ⟨nd, rfl⟩⟩) | (go_at_call 90; (with_reducible refine (spec_l01In.calls a0_9 0 99 t111 _ A8.out).mono ?_); rintro e w' ⟨rfl, ⟨nd, rfl⟩⟩))
    go_meet
    case rel => exact ⟨_, (!t111), (by first | rfl | (simp; done) | (simp [*]; done)), H', ⟨by first | omega | exact Nat.le_refl _⟩, ⟨bk_ BK108⟩, ⟨bl_⟩⟩
   ·replace c7 := Bool.eq_false_iff.mpr c7
    subst c7
    replace H := ite_f_ H
    have H' := Aside0.mk H
    clear H
    have hcz12 := blk_cell BK108.out
    have hfz12 := blk_frozen BK108.out
    go_wp2_with (first | ((with_reducible refine gate_callee (f := 136) rfl ?_); refine goesC_ (some 6) Try.func136 #[.agg #[.int .i64 a0_1, .int .i64 a0_2]] ?_; (with_reducible refine (spec_RoleOk.calls a0_1 a0_2 true _ A4.out).mono ?_); rintro e w13 ⟨rfl, hb⟩; refine ⟨_, rfl, ?_⟩; replace BK108 := bkb_ BK108 hb; replace HB := hbs_ hb; clear hb; have hcz14 := blk_cell BK108.out; have hfz14 := blk_frozen BK108.out) | (go_at_call 90; (with_reducible refine (spec_l01In.calls a0_8 1 9999 false _ A6.out).mono ?_); rintro e w' ⟨rfl, ⟨nd, rfl⟩⟩))
    go_meet
    case rel => exact ⟨_, (true), (by first | rfl | (simp; done) | (simp [*]; done)), H', ⟨by first | omega | exact Nat.le_refl _⟩, ⟨bk_ BK108⟩, ⟨bl_⟩⟩
  ·replace c5 := Bool.eq_false_iff.mpr c5
   subst c5
   replace H := ite_f_ H
   have H' := Aside0.mk H
   clear H
   have hcz15 := blk_cell BK108.out
   have hfz15 := blk_frozen BK108.out
   go_wp2_with (first | ((with_reducible refine gate_callee (f := 136) rfl ?_); refine goesC_ (some 6) Try.func136 #[.agg #[.int .i64 a0_1, .int .i64 a0_2]] ?_; (with_reducible refine (spec_RoleOk.calls a0_1 a0_2 false _ A4.out).mono ?_); rintro e w16 ⟨rfl, hb⟩; refine ⟨_, rfl, ?_⟩; replace BK108 := bkb_ BK108 hb; replace HB := hbs_ hb; clear hb))
   go_meet
   case rel => exact ⟨_, (true), (by first | rfl | (simp; done) | (simp [*]; done)), H', ⟨by first | omega | exact Nat.le_refl _⟩, ⟨bk_ BK108⟩, ⟨bl_⟩⟩
 case rest =>
  clear HC2
  try clear c1
  try clear p2
  try clear c5
  try clear c7
  try clear c11
  try clear c13
  try clear hcz11
  try clear hcz12
  try clear hcz14
  try clear hcz15
  try clear hcz9
  try clear hfz11
  try clear hfz12
  try clear hfz14
  try clear hfz15
  try clear hfz9
  obtain ⟨kq, x19_1, rfl, HA, HJ1, BK108, HB⟩ := hcut
  cases kq with
  | zero => exact absurd HA.out (by simp [spec_CredOk.j0])
  | succ kj1 =>
   have H := HA.out
   clear HA
   simp only [spec_CredOk.j0] at H
   by_cases c17 : x19_1 = true
   ·subst c17
    replace H := ite_t_ H
    obtain rfl := Option.some.inj H
    go_wp2
    go_ret
    exact ⟨eq_, bl_⟩
   ·replace c17 := Bool.eq_false_iff.mpr c17
    subst c17
    replace H := ite_f_ H
    by_cases c18 : a0_0 = 1
    ·rw [if_pos c18] at H
     have c18b0 : (a0_0 == 1) = true := beq_iff_eq.mpr c18
     have c18b1 : (a0_0 != 1) = false := bne_eq_false_iff_eq.mpr c18
     clear c18
     obtain ⟨t113, A19, H⟩ := bindE_ H
     by_cases c20 : t113 = true
     ·subst c20
      replace H := ite_t_ H
      by_cases c21 : (a0_4 == 0 && (a0_5 == 0)) = true
      ·rw [if_pos c21] at H
       have c21b0 : (a0_4 == 0 && (a0_5 == 0)) = true := c21
       (try (have c21b1 : decide (a0_4 = 0 && (a0_5 == 0)) = true := by simpa using c21))
       (try (have c21b2 : (a0_4 == 0 && (a0_5 == 0)) = true := by simpa using c21))
       clear c21
       obtain rfl := Option.some.inj H
       go_wp2_with (first | ((with_reducible refine gate_dst (N := 3) rfl ?_); refine box_event ?hg (N := 3) ?hd (cs := #[.int .i64 0, .int .i64 0]) (t := 27) ?hr ?_; (case hd => rfl); (case hg => rfl); (case hr => first | (go_simp; done) | (go_simp; rfl)); intro gb112 hg w22 hbox hb; have BK112 := Aside0.mk (hbox); have GW112 := gs_ hg; have GE112 := gs_ hg; replace HB := hbs_ hb; have NB108_112 := Aside0.mk ((by rw [hg]; exact Nat.ne_of_lt (blk_lt (g := gb108) (o := .cells #[.int .i64 a0_0, .int .i64 a0_1, .int .i64 a0_2, .int .i64 a0_3, .int .i64 a0_4, .int .i64 a0_5, .int .i64 a0_6, .int .i64 a0_7, .int .i64 a0_8, .int .i64 a0_9] 46 (0, 0)) (bk_ BK108)) : gb108 ≠ gb112)); have NB112_108 := Aside0.mk ((by rw [hg]; exact Nat.ne_of_gt (blk_lt (g := gb108) (o := .cells #[.int .i64 a0_0, .int .i64 a0_1, .int .i64 a0_2, .int .i64 a0_3, .int .i64 a0_4, .int .i64 a0_5, .int .i64 a0_6, .int .i64 a0_7, .int .i64 a0_8, .int .i64 a0_9] 46 (0, 0)) (bk_ BK108)) : gb112 ≠ gb108)); replace BK108 := bkb_ BK108 hb; clear hb hbox hg; have hnb23 := NB112_108.out; have hnc23 := NB108_112.out; have hcz24 := blk_cell BK112.out; have hfz24 := blk_frozen BK112.out; have hcz25 := blk_cell BK108.out; have hfz25 := blk_frozen BK108.out) | ((with_reducible refine gate_callee (f := 90) rfl ?_); refine goesC_ (some 27) Try.func90 #[.int .i64 a0_3, .int .i64 0, .int .i64 5] ?_; (with_reducible refine (spec_l01In.calls a0_3 0 5 true _ A19.out).mono ?_); rintro e w' ⟨rfl, ⟨nd, rfl⟩⟩; refine ⟨_, rfl, ?_⟩))
       go_ret
       exact ⟨eq_, bl_⟩
      ·rw [if_neg c21] at H
       have c21b0 : (a0_4 == 0 && (a0_5 == 0)) = false := by simpa using c21
       (try (have c21b1 : decide (a0_4 = 0 && (a0_5 == 0)) = false := by simpa using c21))
       (try (have c21b2 : (a0_4 == 0 && (a0_5 == 0)) = false := by simpa using c21))
       (try (have c21b3 : ¬ (a0_4 = 0 && (a0_5 == 0)) := by simpa using c21))
       clear c21
       obtain rfl := Option.some.inj H
       go_wp2_with (first | ((with_reducible refine gate_dst (N := 3) rfl ?_); refine box_event ?hg (N := 3) ?hd (cs := #[.int .i64 0, .int .i64 0]) (t := 27) ?hr ?_; (case hd => rfl); (case hg => rfl); (case hr => first | (go_simp; done) | (go_simp; rfl)); intro gb112 hg w26 hbox hb; have BK112 := Aside0.mk (hbox); have GW112 := gs_ hg; have GE112 := gs_ hg; replace HB := hbs_ hb; have NB108_112 := Aside0.mk ((by rw [hg]; exact Nat.ne_of_lt (blk_lt (g := gb108) (o := .cells #[.int .i64 a0_0, .int .i64 a0_1, .int .i64 a0_2, .int .i64 a0_3, .int .i64 a0_4, .int .i64 a0_5, .int .i64 a0_6, .int .i64 a0_7, .int .i64 a0_8, .int .i64 a0_9] 46 (0, 0)) (bk_ BK108)) : gb108 ≠ gb112)); have NB112_108 := Aside0.mk ((by rw [hg]; exact Nat.ne_of_gt (blk_lt (g := gb108) (o := .cells #[.int .i64 a0_0, .int .i64 a0_1, .int .i64 a0_2, .int .i64 a0_3, .int .i64 a0_4, .int .i64 a0_5, .int .i64 a0_6, .int .i64 a0_7, .int .i64 a0_8, .int .i64 a0_9] 46 (0, 0)) (bk_ BK108)) : gb112 ≠ gb108)); replace BK108 := bkb_ BK108 hb; clear hb hbox hg; have hnb27 := NB112_108.out; have hnc27 := NB108_112.out; have hcz28 := blk_cell BK112.out; have hfz28 := blk_frozen BK112.out; have hcz29 := blk_cell BK108.out; have hfz29 := blk_frozen BK108.out) | ((with_reducible refine gate_callee (f := 90) rfl ?_); refine goesC_ (some 27) Try.func90 #[.int .i64 a0_3, .int .i64 0, .int .i64 5] ?_; (with_reducible refine (spec_l01In.calls a0_3 0 5 true _ A19.out).mono ?_); rintro e w' ⟨rfl, ⟨nd, rfl⟩⟩; refine ⟨_, rfl, ?_⟩))
       go_ret
       exact ⟨eq_, bl_⟩
     ·replace c20 := Bool.eq_false_iff.mpr c20
      subst c20
      replace H := ite_f_ H
      obtain rfl := Option.some.inj H
      go_wp2_with (first | ((with_reducible refine gate_dst (N := 3) rfl ?_); refine box_event ?hg (N := 3) ?hd (cs := #[.int .i64 0, .int .i64 0]) (t := 27) ?hr ?_; (case hd => rfl); (case hg => rfl); (case hr => first | (go_simp; done) | (go_simp; rfl)); intro gb112 hg w30 hbox hb; have BK112 := Aside0.mk (hbox); have GW112 := gs_ hg; have GE112 := gs_ hg; replace HB := hbs_ hb; have NB108_112 := Aside0.mk ((by rw [hg]; exact Nat.ne_of_lt (blk_lt (g := gb108) (o := .cells #[.int .i64 a0_0, .int .i64 a0_1, .int .i64 a0_2, .int .i64 a0_3, .int .i64 a0_4, .int .i64 a0_5, .int .i64 a0_6, .int .i64 a0_7, .int .i64 a0_8, .int .i64 a0_9] 46 (0, 0)) (bk_ BK108)) : gb108 ≠ gb112)); have NB112_108 := Aside0.mk ((by rw [hg]; exact Nat.ne_of_gt (blk_lt (g := gb108) (o := .cells #[.int .i64 a0_0, .int .i64 a0_1, .int .i64 a0_2, .int .i64 a0_3, .int .i64 a0_4, .int .i64 a0_5, .int .i64 a0_6, .int .i64 a0_7, .int .i64 a0_8, .int .i64 a0_9] 46 (0, 0)) (bk_ BK108)) : gb112 ≠ gb108)); replace BK108 := bkb_ BK108 hb; clear hb hbox hg; have hnb31 := NB112_108.out; have hnc31 := NB108_112.out; have hcz32 := blk_cell BK112.out; have hfz32 := blk_frozen BK112.out; have hcz33 := blk_cell BK108.out; have hfz33 := blk_frozen BK108.out) | ((with_reducible refine gate_callee (f := 90) rfl ?_); refine goesC_ (some 27) Try.func90 #[.int .i64 a0_3, .int .i64 0, .int .i64 5] ?_; (with_reducible refine (spec_l01In.calls a0_3 0 5 false _ A19.out).mono ?_); rintro e w' ⟨rfl, ⟨nd, rfl⟩⟩; refine ⟨_, rfl, ?_⟩))
      go_ret
      exact ⟨eq_, bl_⟩
    ·rw [if_neg c18] at H
     have c18b0 : (a0_0 == 1) = false := beq_eq_false_iff_ne.mpr c18
     have c18b1 : (a0_0 != 1) = true := bne_iff_ne.mpr c18
     by_cases c34 : a0_0 = 2
     ·rw [if_pos c34] at H
      have c34b0 : (a0_0 == 2) = true := beq_iff_eq.mpr c34
      have c34b1 : (a0_0 != 2) = false := bne_eq_false_iff_eq.mpr c34
      clear c34
      by_cases c35 : a0_3 = 0
      ·rw [if_pos c35] at H
       have c35b0 : (a0_3 == 0) = true := beq_iff_eq.mpr c35
       have c35b1 : (a0_3 != 0) = false := bne_eq_false_iff_eq.mpr c35
       clear c35
       obtain ⟨t114, A36, H⟩ := bindE_ H
       by_cases c37 : t114 = true
       ·subst c37
        replace H := ite_t_ H
        obtain rfl := Option.some.inj H
        go_wp2_with (first | ((with_reducible refine gate_dst (N := 3) rfl ?_); refine box_event ?hg (N := 3) ?hd (cs := #[.int .i64 0, .int .i64 0]) (t := 27) ?hr ?_; (case hd => rfl); (case hg => rfl); (case hr => first | (go_simp; done) | (go_simp; rfl)); intro gb112 hg w38 hbox hb; have BK112 := Aside0.mk (hbox); have GW112 := gs_ hg; have GE112 := gs_ hg; replace HB := hbs_ hb; have NB108_112 := Aside0.mk ((by rw [hg]; exact Nat.ne_of_lt (blk_lt (g := gb108) (o := .cells #[.int .i64 a0_0, .int .i64 a0_1, .int .i64 a0_2, .int .i64 a0_3, .int .i64 a0_4, .int .i64 a0_5, .int .i64 a0_6, .int .i64 a0_7, .int .i64 a0_8, .int .i64 a0_9] 46 (0, 0)) (bk_ BK108)) : gb108 ≠ gb112)); have NB112_108 := Aside0.mk ((by rw [hg]; exact Nat.ne_of_gt (blk_lt (g := gb108) (o := .cells #[.int .i64 a0_0, .int .i64 a0_1, .int .i64 a0_2, .int .i64 a0_3, .int .i64 a0_4, .int .i64 a0_5, .int .i64 a0_6, .int .i64 a0_7, .int .i64 a0_8, .int .i64 a0_9] 46 (0, 0)) (bk_ BK108)) : gb112 ≠ gb108)); replace BK108 := bkb_ BK108 hb; clear hb hbox hg; have hnb39 := NB112_108.out; have hnc39 := NB108_112.out; have hcz40 := blk_cell BK112.out; have hfz40 := blk_frozen BK112.out; have hcz41 := blk_cell BK108.out; have hfz41 := blk_frozen BK108.out) | (go_at_call 136; (with_reducible refine (spec_RoleOk.calls a0_4 a0_5 true _ A36.out).mono ?_); rintro e w42 ⟨rfl, hb⟩; replace BK108 := Aside0.mk (blk_below (g := gb108) (o := .cells #[.int .i64 a0_0, .int .i64 a0_1, .int .i64 a0_2, .int .i64 a0_3, .int .i64 a0_4, .int .i64 a0_5, .int .i64 a0_6, .int .i64 a0_7, .int .i64 a0_8, .int .i64 a0_9] 46 (0, 0)) (bk_ BK108) hb); replace BK112 := Aside0.mk (blk_below (g := gb112) (o := .cells #[.int .i64 0, .int .i64 0] 27 (0, 0)) (bk_ BK112) hb); replace HB := hbs_ hb; clear hb; have hcz43 := blk_cell BK108.out; have hfz43 := blk_frozen BK108.out; have hcz44 := blk_cell BK112.out; have hfz44 := blk_frozen BK112.out))
        go_ret
        exact ⟨eq_, bl_⟩
       ·replace c37 := Bool.eq_false_iff.mpr c37
        subst c37
        replace H := ite_f_ H
        obtain rfl := Option.some.inj H
        go_wp2_with (first | ((with_reducible refine gate_dst (N := 3) rfl ?_); refine box_event ?hg (N := 3) ?hd (cs := #[.int .i64 0, .int .i64 0]) (t := 27) ?hr ?_; (case hd => rfl); (case hg => rfl); (case hr => first | (go_simp; done) | (go_simp; rfl)); intro gb112 hg w45 hbox hb; have BK112 := Aside0.mk (hbox); have GW112 := gs_ hg; have GE112 := gs_ hg; replace HB := hbs_ hb; have NB108_112 := Aside0.mk ((by rw [hg]; exact Nat.ne_of_lt (blk_lt (g := gb108) (o := .cells #[.int .i64 a0_0, .int .i64 a0_1, .int .i64 a0_2, .int .i64 a0_3, .int .i64 a0_4, .int .i64 a0_5, .int .i64 a0_6, .int .i64 a0_7, .int .i64 a0_8, .int .i64 a0_9] 46 (0, 0)) (bk_ BK108)) : gb108 ≠ gb112)); have NB112_108 := Aside0.mk ((by rw [hg]; exact Nat.ne_of_gt (blk_lt (g := gb108) (o := .cells #[.int .i64 a0_0, .int .i64 a0_1, .int .i64 a0_2, .int .i64 a0_3, .int .i64 a0_4, .int .i64 a0_5, .int .i64 a0_6, .int .i64 a0_7, .int .i64 a0_8, .int .i64 a0_9] 46 (0, 0)) (bk_ BK108)) : gb112 ≠ gb108)); replace BK108 := bkb_ BK108 hb; clear hb hbox hg; have hnb46 := NB112_108.out; have hnc46 := NB108_112.out; have hcz47 := blk_cell BK112.out; have hfz47 := blk_frozen BK112.out; have hcz48 := blk_cell BK108.out; have hfz48 := blk_frozen BK108.out) | (go_at_call 136; (with_reducible refine (spec_RoleOk.calls a0_4 a0_5 false _ A36.out).mono ?_); rintro e w49 ⟨rfl, hb⟩; replace BK108 := Aside0.mk (blk_below (g := gb108) (o := .cells #[.int .i64 a0_0, .int .i64 a0_1, .int .i64 a0_2, .int .i64 a0_3, .int .i64 a0_4, .int .i64 a0_5, .int .i64 a0_6, .int .i64 a0_7, .int .i64 a0_8, .int .i64 a0_9] 46 (0, 0)) (bk_ BK108) hb); replace BK112 := Aside0.mk (blk_below (g := gb112) (o := .cells #[.int .i64 0, .int .i64 0] 27 (0, 0)) (bk_ BK112) hb); replace HB := hbs_ hb; clear hb))
        go_ret
        exact ⟨eq_, bl_⟩
      ·rw [if_neg c35] at H
       have c35b0 : (a0_3 == 0) = false := beq_eq_false_iff_ne.mpr c35
       have c35b1 : (a0_3 != 0) = true := bne_iff_ne.mpr c35
       obtain rfl := Option.some.inj H
       go_wp2_with (first | ((with_reducible refine gate_dst (N := 3) rfl ?_); refine box_event ?hg (N := 3) ?hd (cs := #[.int .i64 0, .int .i64 0]) (t := 27) ?hr ?_; (case hd => rfl); (case hg => rfl); (case hr => first | (go_simp; done) | (go_simp; rfl)); intro gb112 hg w50 hbox hb; have BK112 := Aside0.mk (hbox); have GW112 := gs_ hg; have GE112 := gs_ hg; replace HB := hbs_ hb; have NB108_112 := Aside0.mk ((by rw [hg]; exact Nat.ne_of_lt (blk_lt (g := gb108) (o := .cells #[.int .i64 a0_0, .int .i64 a0_1, .int .i64 a0_2, .int .i64 a0_3, .int .i64 a0_4, .int .i64 a0_5, .int .i64 a0_6, .int .i64 a0_7, .int .i64 a0_8, .int .i64 a0_9] 46 (0, 0)) (bk_ BK108)) : gb108 ≠ gb112)); have NB112_108 := Aside0.mk ((by rw [hg]; exact Nat.ne_of_gt (blk_lt (g := gb108) (o := .cells #[.int .i64 a0_0, .int .i64 a0_1, .int .i64 a0_2, .int .i64 a0_3, .int .i64 a0_4, .int .i64 a0_5, .int .i64 a0_6, .int .i64 a0_7, .int .i64 a0_8, .int .i64 a0_9] 46 (0, 0)) (bk_ BK108)) : gb112 ≠ gb108)); replace BK108 := bkb_ BK108 hb; clear hb hbox hg; have hnb51 := NB112_108.out; have hnc51 := NB108_112.out; have hcz52 := blk_cell BK112.out; have hfz52 := blk_frozen BK112.out; have hcz53 := blk_cell BK108.out; have hfz53 := blk_frozen BK108.out))
       go_ret
       exact ⟨eq_, bl_⟩
     ·rw [if_neg c34] at H
      have c34b0 : (a0_0 == 2) = false := beq_eq_false_iff_ne.mpr c34
      have c34b1 : (a0_0 != 2) = true := bne_iff_ne.mpr c34
      by_cases c54 : a0_0 = 3
      ·rw [if_pos c54] at H
       have c54b0 : (a0_0 == 3) = true := beq_iff_eq.mpr c54
       have c54b1 : (a0_0 != 3) = false := bne_eq_false_iff_eq.mpr c54
       clear c54
       by_cases c55 : a0_3 = 0
       ·rw [if_pos c55] at H
        have c55b0 : (a0_3 == 0) = true := beq_iff_eq.mpr c55
        have c55b1 : (a0_3 != 0) = false := bne_eq_false_iff_eq.mpr c55
        clear c55
        obtain ⟨t115, A56, H⟩ := bindE_ H
        by_cases c57 : t115 = true
        ·subst c57
         replace H := ite_t_ H
         obtain ⟨t116, A58, H⟩ := bindE_ H
         by_cases c59 : t116 = true
         ·subst c59
          replace H := ite_t_ H
          obtain rfl := Option.some.inj H
          go_wp2_with (first | ((with_reducible refine gate_dst (N := 3) rfl ?_); refine box_event ?hg (N := 3) ?hd (cs := #[.int .i64 0, .int .i64 0]) (t := 27) ?hr ?_; (case hd => rfl); (case hg => rfl); (case hr => first | (go_simp; done) | (go_simp; rfl)); intro gb112 hg w60 hbox hb; have BK112 := Aside0.mk (hbox); have GW112 := gs_ hg; have GE112 := gs_ hg; replace HB := hbs_ hb; have NB108_112 := Aside0.mk ((by rw [hg]; exact Nat.ne_of_lt (blk_lt (g := gb108) (o := .cells #[.int .i64 a0_0, .int .i64 a0_1, .int .i64 a0_2, .int .i64 a0_3, .int .i64 a0_4, .int .i64 a0_5, .int .i64 a0_6, .int .i64 a0_7, .int .i64 a0_8, .int .i64 a0_9] 46 (0, 0)) (bk_ BK108)) : gb108 ≠ gb112)); have NB112_108 := Aside0.mk ((by rw [hg]; exact Nat.ne_of_gt (blk_lt (g := gb108) (o := .cells #[.int .i64 a0_0, .int .i64 a0_1, .int .i64 a0_2, .int .i64 a0_3, .int .i64 a0_4, .int .i64 a0_5, .int .i64 a0_6, .int .i64 a0_7, .int .i64 a0_8, .int .i64 a0_9] 46 (0, 0)) (bk_ BK108)) : gb112 ≠ gb108)); replace BK108 := bkb_ BK108 hb; clear hb hbox hg; have hnb61 := NB112_108.out; have hnc61 := NB108_112.out; have hcz62 := blk_cell BK112.out; have hfz62 := blk_frozen BK112.out; have hcz63 := blk_cell BK108.out; have hfz63 := blk_frozen BK108.out) | (go_at_call 136; (with_reducible refine (spec_RoleOk.calls a0_4 a0_5 true _ A56.out).mono ?_); rintro e w64 ⟨rfl, hb⟩; replace BK108 := Aside0.mk (blk_below (g := gb108) (o := .cells #[.int .i64 a0_0, .int .i64 a0_1, .int .i64 a0_2, .int .i64 a0_3, .int .i64 a0_4, .int .i64 a0_5, .int .i64 a0_6, .int .i64 a0_7, .int .i64 a0_8, .int .i64 a0_9] 46 (0, 0)) (bk_ BK108) hb); replace BK112 := Aside0.mk (blk_below (g := gb112) (o := .cells #[.int .i64 0, .int .i64 0] 27 (0, 0)) (bk_ BK112) hb); replace HB := hbs_ hb; clear hb; have hcz65 := blk_cell BK108.out; have hfz65 := blk_frozen BK108.out) | (go_at_call 136; (with_reducible refine (spec_RoleOk.calls a0_6 a0_7 true _ A58.out).mono ?_); rintro e w66 ⟨rfl, hb⟩; replace BK108 := bkb_ BK108 hb; replace BK112 := bkb_ BK112 hb; replace HB := hbs_ hb; clear hb; have hcz67 := blk_cell BK108.out; have hfz67 := blk_frozen BK108.out))
          go_ret
          exact ⟨eq_, bl_⟩
         ·replace c59 := Bool.eq_false_iff.mpr c59
          subst c59
          replace H := ite_f_ H
          obtain rfl := Option.some.inj H
          go_wp2_with (first | ((with_reducible refine gate_dst (N := 3) rfl ?_); refine box_event ?hg (N := 3) ?hd (cs := #[.int .i64 0, .int .i64 0]) (t := 27) ?hr ?_; (case hd => rfl); (case hg => rfl); (case hr => first | (go_simp; done) | (go_simp; rfl)); intro gb112 hg w68 hbox hb; have BK112 := Aside0.mk (hbox); have GW112 := gs_ hg; have GE112 := gs_ hg; replace HB := hbs_ hb; have NB108_112 := Aside0.mk ((by rw [hg]; exact Nat.ne_of_lt (blk_lt (g := gb108) (o := .cells #[.int .i64 a0_0, .int .i64 a0_1, .int .i64 a0_2, .int .i64 a0_3, .int .i64 a0_4, .int .i64 a0_5, .int .i64 a0_6, .int .i64 a0_7, .int .i64 a0_8, .int .i64 a0_9] 46 (0, 0)) (bk_ BK108)) : gb108 ≠ gb112)); have NB112_108 := Aside0.mk ((by rw [hg]; exact Nat.ne_of_gt (blk_lt (g := gb108) (o := .cells #[.int .i64 a0_0, .int .i64 a0_1, .int .i64 a0_2, .int .i64 a0_3, .int .i64 a0_4, .int .i64 a0_5, .int .i64 a0_6, .int .i64 a0_7, .int .i64 a0_8, .int .i64 a0_9] 46 (0, 0)) (bk_ BK108)) : gb112 ≠ gb108)); replace BK108 := bkb_ BK108 hb; clear hb hbox hg; have hnb69 := NB112_108.out; have hnc69 := NB108_112.out; have hcz70 := blk_cell BK112.out; have hfz70 := blk_frozen BK112.out; have hcz71 := blk_cell BK108.out; have hfz71 := blk_frozen BK108.out) | (go_at_call 136; (with_reducible refine (spec_RoleOk.calls a0_4 a0_5 true _ A56.out).mono ?_); rintro e w72 ⟨rfl, hb⟩; replace BK108 := Aside0.mk (blk_below (g := gb108) (o := .cells #[.int .i64 a0_0, .int .i64 a0_1, .int .i64 a0_2, .int .i64 a0_3, .int .i64 a0_4, .int .i64 a0_5, .int .i64 a0_6, .int .i64 a0_7, .int .i64 a0_8, .int .i64 a0_9] 46 (0, 0)) (bk_ BK108) hb); replace BK112 := Aside0.mk (blk_below (g := gb112) (o := .cells #[.int .i64 0, .int .i64 0] 27 (0, 0)) (bk_ BK112) hb); replace HB := hbs_ hb; clear hb; have hcz73 := blk_cell BK108.out; have hfz73 := blk_frozen BK108.out) | (go_at_call 136; (with_reducible refine (spec_RoleOk.calls a0_6 a0_7 false _ A58.out).mono ?_); rintro e w74 ⟨rfl, hb⟩; replace BK108 := bkb_ BK108 hb; replace BK112 := bkb_ BK112 hb; replace HB := hbs_ hb; clear hb))
          go_ret
          exact ⟨eq_, bl_⟩
        ·replace c57 := Bool.eq_false_iff.mpr c57
         subst c57
         replace H := ite_f_ H
         obtain rfl := Option.some.inj H
         go_wp2_with (first | ((with_reducible refine gate_dst (N := 3) rfl ?_); refine box_event ?hg (N := 3) ?hd (cs := #[.int .i64 0, .int .i64 0]) (t := 27) ?hr ?_; (case hd => rfl); (case hg => rfl); (case hr => first | (go_simp; done) | (go_simp; rfl)); intro gb112 hg w75 hbox hb; have BK112 := Aside0.mk (hbox); have GW112 := gs_ hg; have GE112 := gs_ hg; replace HB := hbs_ hb; have NB108_112 := Aside0.mk ((by rw [hg]; exact Nat.ne_of_lt (blk_lt (g := gb108) (o := .cells #[.int .i64 a0_0, .int .i64 a0_1, .int .i64 a0_2, .int .i64 a0_3, .int .i64 a0_4, .int .i64 a0_5, .int .i64 a0_6, .int .i64 a0_7, .int .i64 a0_8, .int .i64 a0_9] 46 (0, 0)) (bk_ BK108)) : gb108 ≠ gb112)); have NB112_108 := Aside0.mk ((by rw [hg]; exact Nat.ne_of_gt (blk_lt (g := gb108) (o := .cells #[.int .i64 a0_0, .int .i64 a0_1, .int .i64 a0_2, .int .i64 a0_3, .int .i64 a0_4, .int .i64 a0_5, .int .i64 a0_6, .int .i64 a0_7, .int .i64 a0_8, .int .i64 a0_9] 46 (0, 0)) (bk_ BK108)) : gb112 ≠ gb108)); replace BK108 := bkb_ BK108 hb; clear hb hbox hg; have hnb76 := NB112_108.out; have hnc76 := NB108_112.out; have hcz77 := blk_cell BK112.out; have hfz77 := blk_frozen BK112.out; have hcz78 := blk_cell BK108.out; have hfz78 := blk_frozen BK108.out) | (go_at_call 136; (with_reducible refine (spec_RoleOk.calls a0_4 a0_5 false _ A56.out).mono ?_); rintro e w79 ⟨rfl, hb⟩; replace BK108 := Aside0.mk (blk_below (g := gb108) (o := .cells #[.int .i64 a0_0, .int .i64 a0_1, .int .i64 a0_2, .int .i64 a0_3, .int .i64 a0_4, .int .i64 a0_5, .int .i64 a0_6, .int .i64 a0_7, .int .i64 a0_8, .int .i64 a0_9] 46 (0, 0)) (bk_ BK108) hb); replace BK112 := Aside0.mk (blk_below (g := gb112) (o := .cells #[.int .i64 0, .int .i64 0] 27 (0, 0)) (bk_ BK112) hb); replace HB := hbs_ hb; clear hb))
         go_ret
         exact ⟨eq_, bl_⟩
       ·rw [if_neg c55] at H
        have c55b0 : (a0_3 == 0) = false := beq_eq_false_iff_ne.mpr c55
        have c55b1 : (a0_3 != 0) = true := bne_iff_ne.mpr c55
        obtain rfl := Option.some.inj H
        go_wp2_with (first | ((with_reducible refine gate_dst (N := 3) rfl ?_); refine box_event ?hg (N := 3) ?hd (cs := #[.int .i64 0, .int .i64 0]) (t := 27) ?hr ?_; (case hd => rfl); (case hg => rfl); (case hr => first | (go_simp; done) | (go_simp; rfl)); intro gb112 hg w80 hbox hb; have BK112 := Aside0.mk (hbox); have GW112 := gs_ hg; have GE112 := gs_ hg; replace HB := hbs_ hb; have NB108_112 := Aside0.mk ((by rw [hg]; exact Nat.ne_of_lt (blk_lt (g := gb108) (o := .cells #[.int .i64 a0_0, .int .i64 a0_1, .int .i64 a0_2, .int .i64 a0_3, .int .i64 a0_4, .int .i64 a0_5, .int .i64 a0_6, .int .i64 a0_7, .int .i64 a0_8, .int .i64 a0_9] 46 (0, 0)) (bk_ BK108)) : gb108 ≠ gb112)); have NB112_108 := Aside0.mk ((by rw [hg]; exact Nat.ne_of_gt (blk_lt (g := gb108) (o := .cells #[.int .i64 a0_0, .int .i64 a0_1, .int .i64 a0_2, .int .i64 a0_3, .int .i64 a0_4, .int .i64 a0_5, .int .i64 a0_6, .int .i64 a0_7, .int .i64 a0_8, .int .i64 a0_9] 46 (0, 0)) (bk_ BK108)) : gb112 ≠ gb108)); replace BK108 := bkb_ BK108 hb; clear hb hbox hg; have hnb81 := NB112_108.out; have hnc81 := NB108_112.out; have hcz82 := blk_cell BK112.out; have hfz82 := blk_frozen BK112.out; have hcz83 := blk_cell BK108.out; have hfz83 := blk_frozen BK108.out))
        go_ret
        exact ⟨eq_, bl_⟩
      ·rw [if_neg c54] at H
       have c54b0 : (a0_0 == 3) = false := beq_eq_false_iff_ne.mpr c54
       have c54b1 : (a0_0 != 3) = true := bne_iff_ne.mpr c54
       by_cases c84 : a0_0 = 4
       ·rw [if_pos c84] at H
        have c84b0 : (a0_0 == 4) = true := beq_iff_eq.mpr c84
        have c84b1 : (a0_0 != 4) = false := bne_eq_false_iff_eq.mpr c84
        clear c84
        by_cases c85 : a0_3 = 0
        ·rw [if_pos c85] at H
         have c85b0 : (a0_3 == 0) = true := beq_iff_eq.mpr c85
         have c85b1 : (a0_3 != 0) = false := bne_eq_false_iff_eq.mpr c85
         clear c85
         obtain ⟨t117, A86, H⟩ := bindE_ H
         by_cases c87 : t117 = true
         ·subst c87
          replace H := ite_t_ H
          obtain ⟨t118, A88, H⟩ := bindE_ H
          obtain rfl := Option.some.inj H
          go_wp2_with (first | ((with_reducible refine gate_dst (N := 3) rfl ?_); refine box_event ?hg (N := 3) ?hd (cs := #[.int .i64 0, .int .i64 0]) (t := 27) ?hr ?_; (case hd => rfl); (case hg => rfl); (case hr => first | (go_simp; done) | (go_simp; rfl)); intro gb112 hg w89 hbox hb; have BK112 := Aside0.mk (hbox); have GW112 := gs_ hg; have GE112 := gs_ hg; replace HB := hbs_ hb; have NB108_112 := Aside0.mk ((by rw [hg]; exact Nat.ne_of_lt (blk_lt (g := gb108) (o := .cells #[.int .i64 a0_0, .int .i64 a0_1, .int .i64 a0_2, .int .i64 a0_3, .int .i64 a0_4, .int .i64 a0_5, .int .i64 a0_6, .int .i64 a0_7, .int .i64 a0_8, .int .i64 a0_9] 46 (0, 0)) (bk_ BK108)) : gb108 ≠ gb112)); have NB112_108 := Aside0.mk ((by rw [hg]; exact Nat.ne_of_gt (blk_lt (g := gb108) (o := .cells #[.int .i64 a0_0, .int .i64 a0_1, .int .i64 a0_2, .int .i64 a0_3, .int .i64 a0_4, .int .i64 a0_5, .int .i64 a0_6, .int .i64 a0_7, .int .i64 a0_8, .int .i64 a0_9] 46 (0, 0)) (bk_ BK108)) : gb112 ≠ gb108)); replace BK108 := bkb_ BK108 hb; clear hb hbox hg; have hnb90 := NB112_108.out; have hnc90 := NB108_112.out; have hcz91 := blk_cell BK112.out; have hfz91 := blk_frozen BK112.out; have hcz92 := blk_cell BK108.out; have hfz92 := blk_frozen BK108.out) | (go_at_call 136; (with_reducible refine (spec_RoleOk.calls a0_4 a0_5 true _ A86.out).mono ?_); rintro e w93 ⟨rfl, hb⟩; replace BK108 := Aside0.mk (blk_below (g := gb108) (o := .cells #[.int .i64 a0_0, .int .i64 a0_1, .int .i64 a0_2, .int .i64 a0_3, .int .i64 a0_4, .int .i64 a0_5, .int .i64 a0_6, .int .i64 a0_7, .int .i64 a0_8, .int .i64 a0_9] 46 (0, 0)) (bk_ BK108) hb); replace BK112 := Aside0.mk (blk_below (g := gb112) (o := .cells #[.int .i64 0, .int .i64 0] 27 (0, 0)) (bk_ BK112) hb); replace HB := hbs_ hb; clear hb; have hcz94 := blk_cell BK108.out; have hfz94 := blk_frozen BK108.out) | (go_at_call 136; (with_reducible refine (spec_RoleOk.calls a0_6 a0_7 t118 _ A88.out).mono ?_); rintro e w95 ⟨rfl, hb⟩; replace BK108 := bkb_ BK108 hb; replace BK112 := bkb_ BK112 hb; replace HB := hbs_ hb; clear hb))
          go_ret
          exact ⟨eq_, bl_⟩
         ·replace c87 := Bool.eq_false_iff.mpr c87
          subst c87
          replace H := ite_f_ H
          obtain rfl := Option.some.inj H
          go_wp2_with (first | ((with_reducible refine gate_dst (N := 3) rfl ?_); refine box_event ?hg (N := 3) ?hd (cs := #[.int .i64 0, .int .i64 0]) (t := 27) ?hr ?_; (case hd => rfl); (case hg => rfl); (case hr => first | (go_simp; done) | (go_simp; rfl)); intro gb112 hg w96 hbox hb; have BK112 := Aside0.mk (hbox); have GW112 := gs_ hg; have GE112 := gs_ hg; replace HB := hbs_ hb; have NB108_112 := Aside0.mk ((by rw [hg]; exact Nat.ne_of_lt (blk_lt (g := gb108) (o := .cells #[.int .i64 a0_0, .int .i64 a0_1, .int .i64 a0_2, .int .i64 a0_3, .int .i64 a0_4, .int .i64 a0_5, .int .i64 a0_6, .int .i64 a0_7, .int .i64 a0_8, .int .i64 a0_9] 46 (0, 0)) (bk_ BK108)) : gb108 ≠ gb112)); have NB112_108 := Aside0.mk ((by rw [hg]; exact Nat.ne_of_gt (blk_lt (g := gb108) (o := .cells #[.int .i64 a0_0, .int .i64 a0_1, .int .i64 a0_2, .int .i64 a0_3, .int .i64 a0_4, .int .i64 a0_5, .int .i64 a0_6, .int .i64 a0_7, .int .i64 a0_8, .int .i64 a0_9] 46 (0, 0)) (bk_ BK108)) : gb112 ≠ gb108)); replace BK108 := bkb_ BK108 hb; clear hb hbox hg; have hnb97 := NB112_108.out; have hnc97 := NB108_112.out; have hcz98 := blk_cell BK112.out; have hfz98 := blk_frozen BK112.out; have hcz99 := blk_cell BK108.out; have hfz99 := blk_frozen BK108.out) | (go_at_call 136; (with_reducible refine (spec_RoleOk.calls a0_4 a0_5 false _ A86.out).mono ?_); rintro e w100 ⟨rfl, hb⟩; replace BK108 := Aside0.mk (blk_below (g := gb108) (o := .cells #[.int .i64 a0_0, .int .i64 a0_1, .int .i64 a0_2, .int .i64 a0_3, .int .i64 a0_4, .int .i64 a0_5, .int .i64 a0_6, .int .i64 a0_7, .int .i64 a0_8, .int .i64 a0_9] 46 (0, 0)) (bk_ BK108) hb); replace BK112 := Aside0.mk (blk_below (g := gb112) (o := .cells #[.int .i64 0, .int .i64 0] 27 (0, 0)) (bk_ BK112) hb); replace HB := hbs_ hb; clear hb))
          go_ret
          exact ⟨eq_, bl_⟩
        ·rw [if_neg c85] at H
         have c85b0 : (a0_3 == 0) = false := beq_eq_false_iff_ne.mpr c85
         have c85b1 : (a0_3 != 0) = true := bne_iff_ne.mpr c85
         obtain rfl := Option.some.inj H
         go_wp2_with (first | ((with_reducible refine gate_dst (N := 3) rfl ?_); refine box_event ?hg (N := 3) ?hd (cs := #[.int .i64 0, .int .i64 0]) (t := 27) ?hr ?_; (case hd => rfl); (case hg => rfl); (case hr => first | (go_simp; done) | (go_simp; rfl)); intro gb112 hg w101 hbox hb; have BK112 := Aside0.mk (hbox); have GW112 := gs_ hg; have GE112 := gs_ hg; replace HB := hbs_ hb; have NB108_112 := Aside0.mk ((by rw [hg]; exact Nat.ne_of_lt (blk_lt (g := gb108) (o := .cells #[.int .i64 a0_0, .int .i64 a0_1, .int .i64 a0_2, .int .i64 a0_3, .int .i64 a0_4, .int .i64 a0_5, .int .i64 a0_6, .int .i64 a0_7, .int .i64 a0_8, .int .i64 a0_9] 46 (0, 0)) (bk_ BK108)) : gb108 ≠ gb112)); have NB112_108 := Aside0.mk ((by rw [hg]; exact Nat.ne_of_gt (blk_lt (g := gb108) (o := .cells #[.int .i64 a0_0, .int .i64 a0_1, .int .i64 a0_2, .int .i64 a0_3, .int .i64 a0_4, .int .i64 a0_5, .int .i64 a0_6, .int .i64 a0_7, .int .i64 a0_8, .int .i64 a0_9] 46 (0, 0)) (bk_ BK108)) : gb112 ≠ gb108)); replace BK108 := bkb_ BK108 hb; clear hb hbox hg; have hnb102 := NB112_108.out; have hnc102 := NB108_112.out; have hcz103 := blk_cell BK112.out; have hfz103 := blk_frozen BK112.out; have hcz104 := blk_cell BK108.out; have hfz104 := blk_frozen BK108.out))
         go_ret
         exact ⟨eq_, bl_⟩
       ·rw [if_neg c84] at H
        have c84b0 : (a0_0 == 4) = false := beq_eq_false_iff_ne.mpr c84
        have c84b1 : (a0_0 != 4) = true := bne_iff_ne.mpr c84
        obtain rfl := Option.some.inj H
        go_wp2_with (first | ((with_reducible refine gate_dst (N := 3) rfl ?_); refine box_event ?hg (N := 3) ?hd (cs := #[.int .i64 0, .int .i64 0]) (t := 27) ?hr ?_; (case hd => rfl); (case hg => rfl); (case hr => first | (go_simp; done) | (go_simp; rfl)); intro gb112 hg w105 hbox hb; have BK112 := Aside0.mk (hbox); have GW112 := gs_ hg; have GE112 := gs_ hg; replace HB := hbs_ hb; have NB108_112 := Aside0.mk ((by rw [hg]; exact Nat.ne_of_lt (blk_lt (g := gb108) (o := .cells #[.int .i64 a0_0, .int .i64 a0_1, .int .i64 a0_2, .int .i64 a0_3, .int .i64 a0_4, .int .i64 a0_5, .int .i64 a0_6, .int .i64 a0_7, .int .i64 a0_8, .int .i64 a0_9] 46 (0, 0)) (bk_ BK108)) : gb108 ≠ gb112)); have NB112_108 := Aside0.mk ((by rw [hg]; exact Nat.ne_of_gt (blk_lt (g := gb108) (o := .cells #[.int .i64 a0_0, .int .i64 a0_1, .int .i64 a0_2, .int .i64 a0_3, .int .i64 a0_4, .int .i64 a0_5, .int .i64 a0_6, .int .i64 a0_7, .int .i64 a0_8, .int .i64 a0_9] 46 (0, 0)) (bk_ BK108)) : gb112 ≠ gb108)); replace BK108 := bkb_ BK108 hb; clear hb hbox hg; have hnb106 := NB112_108.out; have hnc106 := NB108_112.out; have hcz107 := blk_cell BK112.out; have hfz107 := blk_frozen BK112.out; have hcz108 := blk_cell BK108.out; have hfz108 := blk_frozen BK108.out))
        go_ret
        exact ⟨eq_, bl_⟩
def spec_l07Shown.l0 : Nat → List (S105) → Int → Int → Int → Int → Int → Option (Bool)
 | 0, _, _, _, _, _, _ => none
 | k + 1, x0, x1, x7, x120000, x120001, x120002 => if 0 ≤ x1 then (if x1 < (x0.length : Int) then (if x7 < (((rd_T105 x0 x1).f2).length : Int) then (if 0 ≤ x7 then ((spec_l01In.f (rd ((rd_T105 x0 x1).f2) x7) 0 (wrap64 (x1 - 1))).bind fun t123 => (if t123 = true then (if 0 ≤ (rd ((rd_T105 x0 x1).f2) x7) then (if (rd ((rd_T105 x0 x1).f2) x7) < (x0.length : Int) then (if ((((rd_T105 x0 (rd ((rd_T105 x0 x1).f2) x7)).f1.f0.f0) == x120000 && (((rd_T105 x0 (rd ((rd_T105 x0 x1).f2) x7)).f1.f0.f1) == x120001)) && (((rd_T105 x0 (rd ((rd_T105 x0 x1).f2) x7)).f1.f1) == x120002)) = true then (some true) else (spec_l07Shown.l0 k x0 x1 (wrap64 (x7 + 1)) x120000 x120001 x120002)) else (none)) else (none)) else (spec_l07Shown.l0 k x0 x1 (wrap64 (x7 + 1)) x120000 x120001 x120002))) else (none)) else (some false)) else (none)) else (none)
def spec_l07Shown.f (k : Nat) (l0 : List (S105)) (a1 : Int) (a2_0 : Int) (a2_1 : Int) (a2_2 : Int) : Option (Bool) := spec_l07Shown.l0 k l0 a1 0 a2_0 a2_1 a2_2
set_option maxHeartbeats 8000000 in
set_option maxRecDepth 100000 in
theorem spec_l07Shown.calls (k : Nat) (A0 : Option Addr) (c0 : Nat) (l0 : List (S105)) (a1 : Int) (a2_0 : Int) (a2_1 : Int) (a2_2 : Int) (r : Bool) (w : World) (hr0 : Kd.C k105 w A0 l0.length l0) (hc0 : l0.length ≤ c0) (h : spec_l07Shown.f k l0 a1 a2_0 a2_1 a2_2 = some r) :
  Calls Try.prog 126 #[.slice A0 l0.length c0, .int .i64 a1, .agg #[.int .i64 a2_0, .int .i64 a2_1, .int .i64 a2_2]] w fun e w' => e = .returned (.bool r) ∧ Below w.heap.size w w' := by
 have hu29 := Try.underlying29
 have HR0 := Aside0.mk hr0
 have HC0 := Aside0.mk hc0
 clear hr0 hc0
 have HB := Aside0.mk (Below.refl w.heap.size w)
 have H : (spec_l07Shown.l0 k l0 a1 0 a2_0 a2_1 a2_2) = some r := h
 clear h
 have H' := Aside0.mk H
 clear H
 go_enter Try.func126, Try.ntmps126
 go_wp2_with (first | ((with_reducible refine gate_dst (N := 5) rfl ?_); refine box_event ?hg (N := 5) ?hd (cs := #[.int .i64 a2_0, .int .i64 a2_1, .int .i64 a2_2]) (t := 29) ?hr ?_; (case hd => rfl); (case hg => rfl); (case hr => first | (go_simp; done) | (go_simp; rfl)); intro gb119 hg w4 hbox hb; have BK119 := Aside0.mk (hbox); have GW119 := gs_ hg; have GE119 := gs_ hg; replace HB := hbs_ hb; clear hb hbox hg))
 repeat (go_quiet (first | ((with_reducible refine gate_dst (N := 5) rfl ?_); refine box_event ?hg (N := 5) ?hd (cs := #[.int .i64 a2_0, .int .i64 a2_1, .int .i64 a2_2]) (t := 29) ?hr ?_; (case hd => rfl); (case hg => rfl); (case hr => first | (go_simp; done) | (go_simp; rfl)); intro gb119 hg w4 hbox hb; have BK119 := Aside0.mk (hbox); have GW119 := gs_ hg; have GE119 := gs_ hg; replace HB := hbs_ hb; clear hb hbox hg)); try go_wp2_with (first | ((with_reducible refine gate_dst (N := 5) rfl ?_); refine box_event ?hg (N := 5) ?hd (cs := #[.int .i64 a2_0, .int .i64 a2_1, .int .i64 a2_2]) (t := 29) ?hr ?_; (case hd => rfl); (case hg => rfl); (case hr => first | (go_simp; done) | (go_simp; rfl)); intro gb119 hg w4 hbox hb; have BK119 := Aside0.mk (hbox); have GW119 := gs_ hg; have GE119 := gs_ hg; replace HB := hbs_ hb; clear hb hbox hg)))
 go_loopg [7] k (fun kq v7 w' => ∃ (x7_1 : Int), v7 = .int .i64 x7_1 ∧ Aside0 (spec_l07Shown.l0 kq l0 a1 x7_1 a2_0 a2_1 a2_2 = some r) ∧ Aside0 (kq ≤ k) ∧ Aside0 (w'.heap[gb119]? = some (.cells #[.int .i64 a2_0, .int .i64 a2_1, .int .i64 a2_2] 29 (0, 0))) ∧ Aside0 (Below w.heap.size w w'))
 case atStart => exact ⟨(0), (by first | rfl | (simp; done) | (simp [*]; done)), H', ⟨Nat.le_refl _⟩, ⟨bk_ BK119⟩, ⟨bl_⟩⟩
 case round =>
  clear H'
  try clear c1
  try clear p2
  obtain ⟨x7_1, rfl, HA, HK1, BK119, HB⟩ := hrel
  cases gk with
  | zero => exact absurd HA.out (by simp [spec_l07Shown.l0])
  | succ k1 =>
   have H := HA.out
   clear HA
   simp only [spec_l07Shown.l0] at H
   by_cases c5 : 0 ≤ a1
   ·rw [if_pos c5] at H
    have c5b0 : decide (0 ≤ a1) = true := decide_eq_true c5
    clear c5
    by_cases c6 : a1 < (l0.length : Int)
    ·rw [if_pos c6] at H
     have c6b0 : decide (a1 < (l0.length : Int)) = true := decide_eq_true c6
     clear c6
     by_cases c7 : x7_1 < (((rd_T105 l0 a1).f2).length : Int)
     ·rw [if_pos c7] at H
      have c7b0 : decide (x7_1 < (((rd_T105 l0 a1).f2).length : Int)) = true := decide_eq_true c7
      clear c7
      by_cases c8 : 0 ≤ x7_1
      ·rw [if_pos c8] at H
       have c8b0 : decide (0 ≤ x7_1) = true := decide_eq_true c8
       clear c8
       obtain ⟨t123, A9, H⟩ := bindE_ H
       by_cases c10 : t123 = true
       ·subst c10
        replace H := ite_t_ H
        by_cases c11 : 0 ≤ (rd ((rd_T105 l0 a1).f2) x7_1)
        ·rw [if_pos c11] at H
         have c11b0 : decide (0 ≤ (rd ((rd_T105 l0 a1).f2) x7_1)) = true := decide_eq_true c11
         clear c11
         by_cases c12 : (rd ((rd_T105 l0 a1).f2) x7_1) < (l0.length : Int)
         ·rw [if_pos c12] at H
          have c12b0 : decide ((rd ((rd_T105 l0 a1).f2) x7_1) < (l0.length : Int)) = true := decide_eq_true c12
          clear c12
          by_cases c13 : ((((rd_T105 l0 (rd ((rd_T105 l0 a1).f2) x7_1)).f1.f0.f0) == a2_0 && (((rd_T105 l0 (rd ((rd_T105 l0 a1).f2) x7_1)).f1.f0.f1) == a2_1)) && (((rd_T105 l0 (rd ((rd_T105 l0 a1).f2) x7_1)).f1.f1) == a2_2)) = true
          ·rw [if_pos c13] at H
           have c13b0 : ((((rd_T105 l0 (rd ((rd_T105 l0 a1).f2) x7_1)).f1.f0.f0) == a2_0 && (((rd_T105 l0 (rd ((rd_T105 l0 a1).f2) x7_1)).f1.f0.f1) == a2_1)) && (((rd_T105 l0 (rd ((rd_T105 l0 a1).f2) x7_1)).f1.f1) == a2_2)) = true := c13
           clear c13
           obtain rfl := Option.some.inj H
           have p120 : 0 ≤ (a1 : Int) := of_decide_eq_true (by first | (with_reducible assumption) | assumption)
           have q120 : a1 < (l0.length : Int) := of_decide_eq_true (by first | (with_reducible assumption) | assumption)
           obtain ⟨ad120, A120_13, c120_13, e120, hx120_0, hx120_1, hx120_2, hx120_3, hx120_4, hx120_5, hx120_6, hx120_7, hx120_8, hx120_9, hx120_10, hx120_11, hx120_12, hx120_13, hl120_13, hi120_13⟩ := at_T105 HR0.out a1 p120 q120
           cases e120
           replace hx120_0 := cb_ HB hx120_0
           replace hx120_1 := cb_ HB hx120_1
           replace hx120_2 := cb_ HB hx120_2
           replace hx120_3 := cb_ HB hx120_3
           replace hx120_4 := cb_ HB hx120_4
           replace hx120_5 := cb_ HB hx120_5
           replace hx120_6 := cb_ HB hx120_6
           replace hx120_7 := cb_ HB hx120_7
           replace hx120_8 := cb_ HB hx120_8
           replace hx120_9 := cb_ HB hx120_9
           replace hx120_10 := cb_ HB hx120_10
           replace hx120_11 := cb_ HB hx120_11
           replace hx120_12 := cb_ HB hx120_12
           replace hx120_13 := cb_ HB hx120_13
           have HR120_13 := Aside0.mk hi120_13
           have HC120_13 := Aside0.mk hl120_13
           clear hi120_13 hl120_13
           replace p120 := eq_true p120
           replace q120 := eq_true q120
           have p121 : 0 ≤ (a1 : Int) := of_decide_eq_true (by first | (with_reducible assumption) | assumption)
           have q121 : a1 < (l0.length : Int) := of_decide_eq_true (by first | (with_reducible assumption) | assumption)
           obtain ⟨ad121, A121_13, c121_13, e121, hx121_0, hx121_1, hx121_2, hx121_3, hx121_4, hx121_5, hx121_6, hx121_7, hx121_8, hx121_9, hx121_10, hx121_11, hx121_12, hx121_13, hl121_13, hi121_13⟩ := at_T105 HR0.out a1 p121 q121
           obtain rfl : ad120 = ad121 := (by injection e121)
           replace hx121_0 := cb_ HB hx121_0
           replace hx121_1 := cb_ HB hx121_1
           replace hx121_2 := cb_ HB hx121_2
           replace hx121_3 := cb_ HB hx121_3
           replace hx121_4 := cb_ HB hx121_4
           replace hx121_5 := cb_ HB hx121_5
           replace hx121_6 := cb_ HB hx121_6
           replace hx121_7 := cb_ HB hx121_7
           replace hx121_8 := cb_ HB hx121_8
           replace hx121_9 := cb_ HB hx121_9
           replace hx121_10 := cb_ HB hx121_10
           replace hx121_11 := cb_ HB hx121_11
           replace hx121_12 := cb_ HB hx121_12
           replace hx121_13 := cb_ HB hx121_13
           have HR121_13 := Aside0.mk hi121_13
           have HC121_13 := Aside0.mk hl121_13
           clear hi121_13 hl121_13
           replace p121 := eq_true p121
           replace q121 := eq_true q121
           have ea_ := Option.some.inj (hx120_13.symm.trans hx121_13)
           injection ea_ with ea_ en_ ec_
           subst ea_
           subst ec_
           clear en_
           have p122 : 0 ≤ (x7_1 : Int) := of_decide_eq_true (by first | (with_reducible assumption) | assumption)
           have q122 : x7_1 < (((rd_T105 l0 a1).f2).length : Int) := of_decide_eq_true (by first | (with_reducible assumption) | assumption)
           obtain ⟨ad122, e122, hx122_0⟩ := Kd.at_int (Kd.C_below HR121_13.out HB.out) x7_1 p122 q122
           cases e122
           replace p122 := eq_true p122
           replace q122 := eq_true q122
           have p124 : 0 ≤ ((rd ((rd_T105 l0 a1).f2) x7_1) : Int) := of_decide_eq_true (by first | (with_reducible assumption) | assumption)
           have q124 : (rd ((rd_T105 l0 a1).f2) x7_1) < (l0.length : Int) := of_decide_eq_true (by first | (with_reducible assumption) | assumption)
           obtain ⟨ad124, A124_13, c124_13, e124, hx124_0, hx124_1, hx124_2, hx124_3, hx124_4, hx124_5, hx124_6, hx124_7, hx124_8, hx124_9, hx124_10, hx124_11, hx124_12, hx124_13, hl124_13, hi124_13⟩ := at_T105 HR0.out (rd ((rd_T105 l0 a1).f2) x7_1) p124 q124
           obtain rfl : ad120 = ad124 := (by injection e124)
           replace hx124_0 := cb_ HB hx124_0
           replace hx124_1 := cb_ HB hx124_1
           replace hx124_2 := cb_ HB hx124_2
           replace hx124_3 := cb_ HB hx124_3
           replace hx124_4 := cb_ HB hx124_4
           replace hx124_5 := cb_ HB hx124_5
           replace hx124_6 := cb_ HB hx124_6
           replace hx124_7 := cb_ HB hx124_7
           replace hx124_8 := cb_ HB hx124_8
           replace hx124_9 := cb_ HB hx124_9
           replace hx124_10 := cb_ HB hx124_10
           replace hx124_11 := cb_ HB hx124_11
           replace hx124_12 := cb_ HB hx124_12
           replace hx124_13 := cb_ HB hx124_13
           have HR124_13 := Aside0.mk hi124_13
           have HC124_13 := Aside0.mk hl124_13
           clear hi124_13 hl124_13
           replace p124 := eq_true p124
           replace q124 := eq_true q124
           have hcz14 := blk_cell BK119.out
           have hfz14 := blk_frozen BK119.out
           go_wp2_with (first | (go_at_call 90; (with_reducible refine (spec_l01In.calls (rd ((rd_T105 l0 a1).f2) x7_1) 0 (wrap64 (a1 - 1)) true _ A9.out).mono ?_); rintro e w' ⟨rfl, ⟨nd, rfl⟩⟩; (try first | exact ⟨rfl, _, World.drewN_drewN _ _ _⟩ | exact ⟨rfl, _, Eq.trans (World.drewN_drewN _ _ _) (congrArg (World.drewN _) (Nat.add_assoc _ _ _))⟩)))
           repeat (go_quiet (first | (go_at_call 90; (with_reducible refine (spec_l01In.calls (rd ((rd_T105 l0 a1).f2) x7_1) 0 (wrap64 (a1 - 1)) true _ A9.out).mono ?_); rintro e w' ⟨rfl, ⟨nd, rfl⟩⟩; (try first | exact ⟨rfl, _, World.drewN_drewN _ _ _⟩ | exact ⟨rfl, _, Eq.trans (World.drewN_drewN _ _ _) (congrArg (World.drewN _) (Nat.add_assoc _ _ _))⟩))); try go_wp2_with (first | (go_at_call 90; (with_reducible refine (spec_l01In.calls (rd ((rd_T105 l0 a1).f2) x7_1) 0 (wrap64 (a1 - 1)) true _ A9.out).mono ?_); rintro e w' ⟨rfl, ⟨nd, rfl⟩⟩; (try first | exact ⟨rfl, _, World.drewN_drewN _ _ _⟩ | exact ⟨rfl, _, Eq.trans (World.drewN_drewN _ _ _) (congrArg (World.drewN _) (Nat.add_assoc _ _ _))⟩))))
           go_ret
           exact ⟨eq_, bl_⟩
          ·rw [if_neg c13] at H
           have c13b0 : ((((rd_T105 l0 (rd ((rd_T105 l0 a1).f2) x7_1)).f1.f0.f0) == a2_0 && (((rd_T105 l0 (rd ((rd_T105 l0 a1).f2) x7_1)).f1.f0.f1) == a2_1)) && (((rd_T105 l0 (rd ((rd_T105 l0 a1).f2) x7_1)).f1.f1) == a2_2)) = false := by simpa using c13
           clear c13
           have H' := Aside0.mk H
           clear H
           have p120 : 0 ≤ (a1 : Int) := of_decide_eq_true (by first | (with_reducible assumption) | assumption)
           have q120 : a1 < (l0.length : Int) := of_decide_eq_true (by first | (with_reducible assumption) | assumption)
           obtain ⟨ad120, A120_13, c120_13, e120, hx120_0, hx120_1, hx120_2, hx120_3, hx120_4, hx120_5, hx120_6, hx120_7, hx120_8, hx120_9, hx120_10, hx120_11, hx120_12, hx120_13, hl120_13, hi120_13⟩ := at_T105 HR0.out a1 p120 q120
           cases e120
           replace hx120_0 := cb_ HB hx120_0
           replace hx120_1 := cb_ HB hx120_1
           replace hx120_2 := cb_ HB hx120_2
           replace hx120_3 := cb_ HB hx120_3
           replace hx120_4 := cb_ HB hx120_4
           replace hx120_5 := cb_ HB hx120_5
           replace hx120_6 := cb_ HB hx120_6
           replace hx120_7 := cb_ HB hx120_7
           replace hx120_8 := cb_ HB hx120_8
           replace hx120_9 := cb_ HB hx120_9
           replace hx120_10 := cb_ HB hx120_10
           replace hx120_11 := cb_ HB hx120_11
           replace hx120_12 := cb_ HB hx120_12
           replace hx120_13 := cb_ HB hx120_13
           have HR120_13 := Aside0.mk hi120_13
           have HC120_13 := Aside0.mk hl120_13
           clear hi120_13 hl120_13
           replace p120 := eq_true p120
           replace q120 := eq_true q120
           have p121 : 0 ≤ (a1 : Int) := of_decide_eq_true (by first | (with_reducible assumption) | assumption)
           have q121 : a1 < (l0.length : Int) := of_decide_eq_true (by first | (with_reducible assumption) | assumption)
           obtain ⟨ad121, A121_13, c121_13, e121, hx121_0, hx121_1, hx121_2, hx121_3, hx121_4, hx121_5, hx121_6, hx121_7, hx121_8, hx121_9, hx121_10, hx121_11, hx121_12, hx121_13, hl121_13, hi121_13⟩ := at_T105 HR0.out a1 p121 q121
           obtain rfl : ad120 = ad121 := (by injection e121)
           replace hx121_0 := cb_ HB hx121_0
           replace hx121_1 := cb_ HB hx121_1
           replace hx121_2 := cb_ HB hx121_2
           replace hx121_3 := cb_ HB hx121_3
           replace hx121_4 := cb_ HB hx121_4
           replace hx121_5 := cb_ HB hx121_5
           replace hx121_6 := cb_ HB hx121_6
           replace hx121_7 := cb_ HB hx121_7
           replace hx121_8 := cb_ HB hx121_8
           replace hx121_9 := cb_ HB hx121_9
           replace hx121_10 := cb_ HB hx121_10
           replace hx121_11 := cb_ HB hx121_11
           replace hx121_12 := cb_ HB hx121_12
           replace hx121_13 := cb_ HB hx121_13
           have HR121_13 := Aside0.mk hi121_13
           have HC121_13 := Aside0.mk hl121_13
           clear hi121_13 hl121_13
           replace p121 := eq_true p121
           replace q121 := eq_true q121
           have ea_ := Option.some.inj (hx120_13.symm.trans hx121_13)
           injection ea_ with ea_ en_ ec_
           subst ea_
           subst ec_
           clear en_
           have p122 : 0 ≤ (x7_1 : Int) := of_decide_eq_true (by first | (with_reducible assumption) | assumption)
           have q122 : x7_1 < (((rd_T105 l0 a1).f2).length : Int) := of_decide_eq_true (by first | (with_reducible assumption) | assumption)
           obtain ⟨ad122, e122, hx122_0⟩ := Kd.at_int (Kd.C_below HR121_13.out HB.out) x7_1 p122 q122
           cases e122
           replace p122 := eq_true p122
           replace q122 := eq_true q122
           have p124 : 0 ≤ ((rd ((rd_T105 l0 a1).f2) x7_1) : Int) := of_decide_eq_true (by first | (with_reducible assumption) | assumption)
           have q124 : (rd ((rd_T105 l0 a1).f2) x7_1) < (l0.length : Int) := of_decide_eq_true (by first | (with_reducible assumption) | assumption)
           obtain ⟨ad124, A124_13, c124_13, e124, hx124_0, hx124_1, hx124_2, hx124_3, hx124_4, hx124_5, hx124_6, hx124_7, hx124_8, hx124_9, hx124_10, hx124_11, hx124_12, hx124_13, hl124_13, hi124_13⟩ := at_T105 HR0.out (rd ((rd_T105 l0 a1).f2) x7_1) p124 q124
           obtain rfl : ad120 = ad124 := (by injection e124)
           replace hx124_0 := cb_ HB hx124_0
           replace hx124_1 := cb_ HB hx124_1
           replace hx124_2 := cb_ HB hx124_2
           replace hx124_3 := cb_ HB hx124_3
           replace hx124_4 := cb_ HB hx124_4
           replace hx124_5 := cb_ HB hx124_5
           replace hx124_6 := cb_ HB hx124_6
           replace hx124_7 := cb_ HB hx124_7
           replace hx124_8 := cb_ HB hx124_8
           replace hx124_9 := cb_ HB hx124_9
           replace hx124_10 := cb_ HB hx124_10
           replace hx124_11 := cb_ HB hx124_11
           replace hx124_12 := cb_ HB hx124_12
           replace hx124_13 := cb_ HB hx124_13
           have HR124_13 := Aside0.mk hi124_13
           have HC124_13 := Aside0.mk hl124_13
           clear hi124_13 hl124_13
           replace p124 := eq_true p124
           replace q124 := eq_true q124
           have hcz15 := blk_cell BK119.out
           have hfz15 := blk_frozen BK119.out
           go_wp2_with (first | (go_at_call 90; (with_reducible refine (spec_l01In.calls (rd ((rd_T105 l0 a1).f2) x7_1) 0 (wrap64 (a1 - 1)) true _ A9.out).mono ?_); rintro e w' ⟨rfl, ⟨nd, rfl⟩⟩; (try first | exact ⟨rfl, _, World.drewN_drewN _ _ _⟩ | exact ⟨rfl, _, Eq.trans (World.drewN_drewN _ _ _) (congrArg (World.drewN _) (Nat.add_assoc _ _ _))⟩)))
           repeat (go_quiet (first | (go_at_call 90; (with_reducible refine (spec_l01In.calls (rd ((rd_T105 l0 a1).f2) x7_1) 0 (wrap64 (a1 - 1)) true _ A9.out).mono ?_); rintro e w' ⟨rfl, ⟨nd, rfl⟩⟩; (try first | exact ⟨rfl, _, World.drewN_drewN _ _ _⟩ | exact ⟨rfl, _, Eq.trans (World.drewN_drewN _ _ _) (congrArg (World.drewN _) (Nat.add_assoc _ _ _))⟩))); try go_wp2_with (first | (go_at_call 90; (with_reducible refine (spec_l01In.calls (rd ((rd_T105 l0 a1).f2) x7_1) 0 (wrap64 (a1 - 1)) true _ A9.out).mono ?_); rintro e w' ⟨rfl, ⟨nd, rfl⟩⟩; (try first | exact ⟨rfl, _, World.drewN_drewN _ _ _⟩ | exact ⟨rfl, _, Eq.trans (World.drewN_drewN _ _ _) (congrArg (World.drewN _) (Nat.add_assoc _ _ _))⟩))))
           go_roundg k1
           case measure => have := HK1.out; omega
           case rel => exact ⟨(wrap64 (x7_1 + 1)), (by first | rfl | (simp; done) | (simp [*]; done)), H', ⟨by have := HK1.out; omega⟩, ⟨bk_ BK119⟩, ⟨bl_⟩⟩
         ·rw [if_neg c12] at H
          exact absurd H (by simp)
        ·rw [if_neg c11] at H
         exact absurd H (by simp)
       ·replace c10 := Bool.eq_false_iff.mpr c10
        subst c10
        replace H := ite_f_ H
        have H' := Aside0.mk H
        clear H
        have p120 : 0 ≤ (a1 : Int) := of_decide_eq_true (by first | (with_reducible assumption) | assumption)
        have q120 : a1 < (l0.length : Int) := of_decide_eq_true (by first | (with_reducible assumption) | assumption)
        obtain ⟨ad120, A120_13, c120_13, e120, hx120_0, hx120_1, hx120_2, hx120_3, hx120_4, hx120_5, hx120_6, hx120_7, hx120_8, hx120_9, hx120_10, hx120_11, hx120_12, hx120_13, hl120_13, hi120_13⟩ := at_T105 HR0.out a1 p120 q120
        cases e120
        replace hx120_0 := cb_ HB hx120_0
        replace hx120_1 := cb_ HB hx120_1
        replace hx120_2 := cb_ HB hx120_2
        replace hx120_3 := cb_ HB hx120_3
        replace hx120_4 := cb_ HB hx120_4
        replace hx120_5 := cb_ HB hx120_5
        replace hx120_6 := cb_ HB hx120_6
        replace hx120_7 := cb_ HB hx120_7
        replace hx120_8 := cb_ HB hx120_8
        replace hx120_9 := cb_ HB hx120_9
        replace hx120_10 := cb_ HB hx120_10
        replace hx120_11 := cb_ HB hx120_11
        replace hx120_12 := cb_ HB hx120_12
        replace hx120_13 := cb_ HB hx120_13
        have HR120_13 := Aside0.mk hi120_13
        have HC120_13 := Aside0.mk hl120_13
        clear hi120_13 hl120_13
        replace p120 := eq_true p120
        replace q120 := eq_true q120
        have p121 : 0 ≤ (a1 : Int) := of_decide_eq_true (by first | (with_reducible assumption) | assumption)
        have q121 : a1 < (l0.length : Int) := of_decide_eq_true (by first | (with_reducible assumption) | assumption)
        obtain ⟨ad121, A121_13, c121_13, e121, hx121_0, hx121_1, hx121_2, hx121_3, hx121_4, hx121_5, hx121_6, hx121_7, hx121_8, hx121_9, hx121_10, hx121_11, hx121_12, hx121_13, hl121_13, hi121_13⟩ := at_T105 HR0.out a1 p121 q121
        obtain rfl : ad120 = ad121 := (by injection e121)
        replace hx121_0 := cb_ HB hx121_0
        replace hx121_1 := cb_ HB hx121_1
        replace hx121_2 := cb_ HB hx121_2
        replace hx121_3 := cb_ HB hx121_3
        replace hx121_4 := cb_ HB hx121_4
        replace hx121_5 := cb_ HB hx121_5
        replace hx121_6 := cb_ HB hx121_6
        replace hx121_7 := cb_ HB hx121_7
        replace hx121_8 := cb_ HB hx121_8
        replace hx121_9 := cb_ HB hx121_9
        replace hx121_10 := cb_ HB hx121_10
        replace hx121_11 := cb_ HB hx121_11
        replace hx121_12 := cb_ HB hx121_12
        replace hx121_13 := cb_ HB hx121_13
        have HR121_13 := Aside0.mk hi121_13
        have HC121_13 := Aside0.mk hl121_13
        clear hi121_13 hl121_13
        replace p121 := eq_true p121
        replace q121 := eq_true q121
        have ea_ := Option.some.inj (hx120_13.symm.trans hx121_13)
        injection ea_ with ea_ en_ ec_
        subst ea_
        subst ec_
        clear en_
        have p122 : 0 ≤ (x7_1 : Int) := of_decide_eq_true (by first | (with_reducible assumption) | assumption)
        have q122 : x7_1 < (((rd_T105 l0 a1).f2).length : Int) := of_decide_eq_true (by first | (with_reducible assumption) | assumption)
        obtain ⟨ad122, e122, hx122_0⟩ := Kd.at_int (Kd.C_below HR121_13.out HB.out) x7_1 p122 q122
        cases e122
        replace p122 := eq_true p122
        replace q122 := eq_true q122
        go_wp2_with (first | (go_at_call 90; (with_reducible refine (spec_l01In.calls (rd ((rd_T105 l0 a1).f2) x7_1) 0 (wrap64 (a1 - 1)) false _ A9.out).mono ?_); rintro e w' ⟨rfl, ⟨nd, rfl⟩⟩; (try first | exact ⟨rfl, _, World.drewN_drewN _ _ _⟩ | exact ⟨rfl, _, Eq.trans (World.drewN_drewN _ _ _) (congrArg (World.drewN _) (Nat.add_assoc _ _ _))⟩)))
        repeat (go_quiet (first | (go_at_call 90; (with_reducible refine (spec_l01In.calls (rd ((rd_T105 l0 a1).f2) x7_1) 0 (wrap64 (a1 - 1)) false _ A9.out).mono ?_); rintro e w' ⟨rfl, ⟨nd, rfl⟩⟩; (try first | exact ⟨rfl, _, World.drewN_drewN _ _ _⟩ | exact ⟨rfl, _, Eq.trans (World.drewN_drewN _ _ _) (congrArg (World.drewN _) (Nat.add_assoc _ _ _))⟩))); try go_wp2_with (first | (go_at_call 90; (with_reducible refine (spec_l01In.calls (rd ((rd_T105 l0 a1).f2) x7_1) 0 (wrap64 (a1 - 1)) false _ A9.out).mono ?_); rintro e w' ⟨rfl, ⟨nd, rfl⟩⟩; (try first | exact ⟨rfl, _, World.drewN_drewN _ _ _⟩ | exact ⟨rfl, _, Eq.trans (World.drewN_drewN _ _ _) (congrArg (World.drewN _) (Nat.add_assoc _ _ _))⟩))))
        go_roundg k1
        case measure => have := HK1.out; omega
        case rel => exact ⟨(wrap64 (x7_1 + 1)), (by first | rfl | (simp; done) | (simp [*]; done)), H', ⟨by have := HK1.out; omega⟩, ⟨bk_ BK119⟩, ⟨bl_⟩⟩
      ·rw [if_neg c8] at H
       exact absurd H (by simp)
     ·rw [if_neg c7] at H
      have c7b0 : decide (x7_1 < (((rd_T105 l0 a1).f2).length : Int)) = false := decide_eq_false c7
      clear c7
      obtain rfl := Option.some.inj H
      have p120 : 0 ≤ (a1 : Int) := of_decide_eq_true (by first | (with_reducible assumption) | assumption)
      have q120 : a1 < (l0.length : Int) := of_decide_eq_true (by first | (with_reducible assumption) | assumption)
      obtain ⟨ad120, A120_13, c120_13, e120, hx120_0, hx120_1, hx120_2, hx120_3, hx120_4, hx120_5, hx120_6, hx120_7, hx120_8, hx120_9, hx120_10, hx120_11, hx120_12, hx120_13, hl120_13, hi120_13⟩ := at_T105 HR0.out a1 p120 q120
      cases e120
      replace hx120_0 := cb_ HB hx120_0
      replace hx120_1 := cb_ HB hx120_1
      replace hx120_2 := cb_ HB hx120_2
      replace hx120_3 := cb_ HB hx120_3
      replace hx120_4 := cb_ HB hx120_4
      replace hx120_5 := cb_ HB hx120_5
      replace hx120_6 := cb_ HB hx120_6
      replace hx120_7 := cb_ HB hx120_7
      replace hx120_8 := cb_ HB hx120_8
      replace hx120_9 := cb_ HB hx120_9
      replace hx120_10 := cb_ HB hx120_10
      replace hx120_11 := cb_ HB hx120_11
      replace hx120_12 := cb_ HB hx120_12
      replace hx120_13 := cb_ HB hx120_13
      have HR120_13 := Aside0.mk hi120_13
      have HC120_13 := Aside0.mk hl120_13
      clear hi120_13 hl120_13
      replace p120 := eq_true p120
      replace q120 := eq_true q120
      go_wp2
      repeat (go_quiet (fail); try go_wp2)
      go_ret
      exact ⟨eq_, bl_⟩
    ·rw [if_neg c6] at H
     exact absurd H (by simp)
   ·rw [if_neg c5] at H
    exact absurd H (by simp)
end Go.Proofs.Ytppdmcimddhbaaa.PA
