import Derived.Test.YtcgnegnljffkmaaKFnExactProofTextPAx0
import Derived.Test.YtcgnegnljffkmaaKFnExactProofTextPAx3
import Derived.Test.YtcgnegnljffkmaaKFnExactProofTextPAx4
import Derived.Test.YtcgnegnljffkmaaKFnExactProofTextPAx6
import Derived.Test.YtcgnegnljffkmaaKFnExactProofTextPAx12
import Derived.Test.YtcgnegnljffkmaaKFnExactProofTextPAx13
import Derived.Test.YtcgnegnljffkmaaKFnExactProofTextPAx17
-- A text of this claim: written by the session's own program out of the translation (wip/tools). Lean checks it.
namespace Go.Proofs.Ytcgnegnljffkmaa.PA
open Go.RowKit Go.Proofs.YtcgnegnljffkmaaW.PrintWords Go.Proofs.YtcgnegnljffkmaaW.PrintLast Go.Proofs.YtcgnegnljffkmaaW.PrintMore
attribute [local go_sem] max2_int min2_int max_two min_two max_three min_three max_four min_four   -- for this text's walks alone
set_option linter.unusedVariables false
set_option linter.unusedSimpArgs false
def laws_szStepS.l0 : Nat → List (S72) → Int → Int → Option (Int)
 | 0, _, _, _ => none
 | k + 1, x0, x1, x5 => if x5 < (x0.length : Int) then (if 0 ≤ x5 then ((laws_szStep.f ((rd_T72 x0 x5).f0.f0) ((rd_T72 x0 x5).f0.f1.f0) ((rd_T72 x0 x5).f0.f1.f1) ((rd_T72 x0 x5).f0.f2) ((rd_T72 x0 x5).f0.f3.f0) ((rd_T72 x0 x5).f0.f3.f1) ((rd_T72 x0 x5).f0.f4.f0) ((rd_T72 x0 x5).f0.f4.f1) ((rd_T72 x0 x5).f0.f5) ((rd_T72 x0 x5).f0.f6) ((rd_T72 x0 x5).f1.f0.f0) ((rd_T72 x0 x5).f1.f0.f1) ((rd_T72 x0 x5).f1.f1) ((rd_T72 x0 x5).f2) x1).bind fun t716 => (if t716 < 0 then (some (-1)) else (laws_szStepS.l0 k x0 t716 (wrap64 (x5 + 1))))) else (none)) else (some x1)
def laws_szStepS.f (k : Nat) (l0 : List (S72)) (a1 : Int) : Option (Int) := if (wrap64 (a1 - (l0.length : Int))) < 0 then (some (-1)) else (laws_szStepS.l0 k l0 (wrap64 (a1 - (l0.length : Int))) 0)
set_option maxHeartbeats 8000000 in
set_option maxRecDepth 100000 in
theorem laws_szStepS.calls (k : Nat) (A0 : Option Addr) (c0 : Nat) (l0 : List (S72)) (a1 : Int) (r : Int) (w : World) (hr0 : Kd.C k72 w A0 l0.length l0) (hc0 : l0.length ≤ c0) (h : laws_szStepS.f k l0 a1 = some r) :
  Calls Try.prog 58 #[.slice A0 l0.length c0, .int .i64 a1] w fun e w' => e = .returned (.int .i64 r) ∧ Below w.heap.size w w' := by
 have hu72 := Try.underlying72
 have HR0 := Aside0.mk hr0
 have HC0 := Aside0.mk hc0
 clear hr0 hc0
 have HB := Aside0.mk (Below.refl w.heap.size w)
 have H : (if (wrap64 (a1 - (l0.length : Int))) < 0 then (some (-1)) else (laws_szStepS.l0 k l0 (wrap64 (a1 - (l0.length : Int))) 0)) = some r := h
 clear h
 by_cases c3 : (wrap64 (a1 - (l0.length : Int))) < 0
 ·rw [if_pos c3] at H
  have c3b0 : decide ((wrap64 (a1 - (l0.length : Int))) < 0) = true := decide_eq_true c3
  clear c3
  obtain rfl := Option.some.inj H
  go_enter Try.func58, Try.ntmps58
  go_wp2
  go_ret
  exact ⟨eq_, bl_⟩
 ·rw [if_neg c3] at H
  have c3b0 : decide ((wrap64 (a1 - (l0.length : Int))) < 0) = false := decide_eq_false c3
  clear c3
  have H' := Aside0.mk H
  clear H
  go_enter Try.func58, Try.ntmps58
  go_wp2
  go_loopg [1, 5] k (fun kq v1 v5 w' => ∃ (x1_1 : Int) (x5_1 : Int), v1 = .int .i64 x1_1 ∧ v5 = .int .i64 x5_1 ∧ Aside0 (laws_szStepS.l0 kq l0 x1_1 x5_1 = some r) ∧ Aside0 (kq ≤ k) ∧ Aside0 (Below w.heap.size w w'))
  case atStart => exact ⟨(wrap64 (a1 - (l0.length : Int))), (0), (by first | rfl | (simp; done) | (simp [*]; done)), (by first | rfl | (simp; done) | (simp [*]; done)), H', ⟨Nat.le_refl _⟩, ⟨bl_⟩⟩
  case round =>
   clear H'
   try clear p2
   try clear c3
   try clear c3b0
   obtain ⟨x1_1, x5_1, rfl, rfl, HA, HK1, HB⟩ := hrel
   cases gk with
   | zero => exact absurd HA.out (by simp [laws_szStepS.l0])
   | succ k1 =>
    have H := HA.out
    clear HA
    simp only [laws_szStepS.l0] at H
    by_cases c4 : x5_1 < (l0.length : Int)
    ·rw [if_pos c4] at H
     have c4b0 : decide (x5_1 < (l0.length : Int)) = true := decide_eq_true c4
     clear c4
     by_cases c5 : 0 ≤ x5_1
     ·rw [if_pos c5] at H
      have c5b0 : decide (0 ≤ x5_1) = true := decide_eq_true c5
      clear c5
      obtain ⟨t716, A6, H⟩ := bindE_ H
      by_cases c7 : t716 < 0
      ·rw [if_pos c7] at H
       have c7b0 : decide (t716 < 0) = true := decide_eq_true c7
       clear c7
       obtain rfl := Option.some.inj H
       have p715 : 0 ≤ (x5_1 : Int) := of_decide_eq_true (by first | (with_reducible assumption) | assumption)
       have q715 : x5_1 < (l0.length : Int) := of_decide_eq_true (by first | (with_reducible assumption) | assumption)
       obtain ⟨ad715, A715_13, c715_13, e715, hx715_0, hx715_1, hx715_2, hx715_3, hx715_4, hx715_5, hx715_6, hx715_7, hx715_8, hx715_9, hx715_10, hx715_11, hx715_12, hx715_13, hl715_13, hi715_13⟩ := at_T72 HR0.out x5_1 p715 q715
       cases e715
       replace hx715_0 := cb_ HB hx715_0
       replace hx715_1 := cb_ HB hx715_1
       replace hx715_2 := cb_ HB hx715_2
       replace hx715_3 := cb_ HB hx715_3
       replace hx715_4 := cb_ HB hx715_4
       replace hx715_5 := cb_ HB hx715_5
       replace hx715_6 := cb_ HB hx715_6
       replace hx715_7 := cb_ HB hx715_7
       replace hx715_8 := cb_ HB hx715_8
       replace hx715_9 := cb_ HB hx715_9
       replace hx715_10 := cb_ HB hx715_10
       replace hx715_11 := cb_ HB hx715_11
       replace hx715_12 := cb_ HB hx715_12
       replace hx715_13 := cb_ HB hx715_13
       have HR715_13 := Aside0.mk hi715_13
       have HC715_13 := Aside0.mk hl715_13
       clear hi715_13 hl715_13
       replace p715 := eq_true p715
       replace q715 := eq_true q715
       go_wp2_with (first | ((with_reducible refine gate_callee (f := 44) rfl ?_); refine goesC_ (some 23) Try.func44 #[.agg #[.int .i64 ((rd_T72 l0 x5_1).f0.f0), .int .i64 ((rd_T72 l0 x5_1).f0.f1.f0), .int .i64 ((rd_T72 l0 x5_1).f0.f1.f1), .int .i64 ((rd_T72 l0 x5_1).f0.f2), .int .i64 ((rd_T72 l0 x5_1).f0.f3.f0), .int .i64 ((rd_T72 l0 x5_1).f0.f3.f1), .int .i64 ((rd_T72 l0 x5_1).f0.f4.f0), .int .i64 ((rd_T72 l0 x5_1).f0.f4.f1), .int .i64 ((rd_T72 l0 x5_1).f0.f5), .int .i64 ((rd_T72 l0 x5_1).f0.f6), .int .i64 ((rd_T72 l0 x5_1).f1.f0.f0), .int .i64 ((rd_T72 l0 x5_1).f1.f0.f1), .int .i64 ((rd_T72 l0 x5_1).f1.f1), .slice A715_13 ((rd_T72 l0 x5_1).f2).length c715_13], .int .i64 x1_1] ?_; (with_reducible refine (laws_szStep.calls ((rd_T72 l0 x5_1).f0.f0) ((rd_T72 l0 x5_1).f0.f1.f0) ((rd_T72 l0 x5_1).f0.f1.f1) ((rd_T72 l0 x5_1).f0.f2) ((rd_T72 l0 x5_1).f0.f3.f0) ((rd_T72 l0 x5_1).f0.f3.f1) ((rd_T72 l0 x5_1).f0.f4.f0) ((rd_T72 l0 x5_1).f0.f4.f1) ((rd_T72 l0 x5_1).f0.f5) ((rd_T72 l0 x5_1).f0.f6) ((rd_T72 l0 x5_1).f1.f0.f0) ((rd_T72 l0 x5_1).f1.f0.f1) ((rd_T72 l0 x5_1).f1.f1) _ _ ((rd_T72 l0 x5_1).f2) x1_1 t716 _ ?side1 ?side2 A6.out).mono ?_); (case side1 => repeat (first | exact (Kd.C_below HR715_13.out HB.out) | (with_reducible refine Kd.C_alloc ?_ _) | (with_reducible refine Kd.C_drewN ?_ _) | (with_reducible refine Kd.C_drew ?_))); (case side2 => exact HC715_13.out); rintro e w8 ⟨rfl, hb⟩; refine ⟨_, rfl, ?_⟩; replace HB := hbs_ hb; clear hb))
       go_ret
       exact ⟨eq_, bl_⟩
      ·rw [if_neg c7] at H
       have c7b0 : decide (t716 < 0) = false := decide_eq_false c7
       clear c7
       have H' := Aside0.mk H
       clear H
       have p715 : 0 ≤ (x5_1 : Int) := of_decide_eq_true (by first | (with_reducible assumption) | assumption)
       have q715 : x5_1 < (l0.length : Int) := of_decide_eq_true (by first | (with_reducible assumption) | assumption)
       obtain ⟨ad715, A715_13, c715_13, e715, hx715_0, hx715_1, hx715_2, hx715_3, hx715_4, hx715_5, hx715_6, hx715_7, hx715_8, hx715_9, hx715_10, hx715_11, hx715_12, hx715_13, hl715_13, hi715_13⟩ := at_T72 HR0.out x5_1 p715 q715
       cases e715
       replace hx715_0 := cb_ HB hx715_0
       replace hx715_1 := cb_ HB hx715_1
       replace hx715_2 := cb_ HB hx715_2
       replace hx715_3 := cb_ HB hx715_3
       replace hx715_4 := cb_ HB hx715_4
       replace hx715_5 := cb_ HB hx715_5
       replace hx715_6 := cb_ HB hx715_6
       replace hx715_7 := cb_ HB hx715_7
       replace hx715_8 := cb_ HB hx715_8
       replace hx715_9 := cb_ HB hx715_9
       replace hx715_10 := cb_ HB hx715_10
       replace hx715_11 := cb_ HB hx715_11
       replace hx715_12 := cb_ HB hx715_12
       replace hx715_13 := cb_ HB hx715_13
       have HR715_13 := Aside0.mk hi715_13
       have HC715_13 := Aside0.mk hl715_13
       clear hi715_13 hl715_13
       replace p715 := eq_true p715
       replace q715 := eq_true q715
       go_wp2_with (first | ((with_reducible refine gate_callee (f := 44) rfl ?_); refine goesC_ (some 23) Try.func44 #[.agg #[.int .i64 ((rd_T72 l0 x5_1).f0.f0), .int .i64 ((rd_T72 l0 x5_1).f0.f1.f0), .int .i64 ((rd_T72 l0 x5_1).f0.f1.f1), .int .i64 ((rd_T72 l0 x5_1).f0.f2), .int .i64 ((rd_T72 l0 x5_1).f0.f3.f0), .int .i64 ((rd_T72 l0 x5_1).f0.f3.f1), .int .i64 ((rd_T72 l0 x5_1).f0.f4.f0), .int .i64 ((rd_T72 l0 x5_1).f0.f4.f1), .int .i64 ((rd_T72 l0 x5_1).f0.f5), .int .i64 ((rd_T72 l0 x5_1).f0.f6), .int .i64 ((rd_T72 l0 x5_1).f1.f0.f0), .int .i64 ((rd_T72 l0 x5_1).f1.f0.f1), .int .i64 ((rd_T72 l0 x5_1).f1.f1), .slice A715_13 ((rd_T72 l0 x5_1).f2).length c715_13], .int .i64 x1_1] ?_; (with_reducible refine (laws_szStep.calls ((rd_T72 l0 x5_1).f0.f0) ((rd_T72 l0 x5_1).f0.f1.f0) ((rd_T72 l0 x5_1).f0.f1.f1) ((rd_T72 l0 x5_1).f0.f2) ((rd_T72 l0 x5_1).f0.f3.f0) ((rd_T72 l0 x5_1).f0.f3.f1) ((rd_T72 l0 x5_1).f0.f4.f0) ((rd_T72 l0 x5_1).f0.f4.f1) ((rd_T72 l0 x5_1).f0.f5) ((rd_T72 l0 x5_1).f0.f6) ((rd_T72 l0 x5_1).f1.f0.f0) ((rd_T72 l0 x5_1).f1.f0.f1) ((rd_T72 l0 x5_1).f1.f1) _ _ ((rd_T72 l0 x5_1).f2) x1_1 t716 _ ?side1 ?side2 A6.out).mono ?_); (case side1 => repeat (first | exact (Kd.C_below HR715_13.out HB.out) | (with_reducible refine Kd.C_alloc ?_ _) | (with_reducible refine Kd.C_drewN ?_ _) | (with_reducible refine Kd.C_drew ?_))); (case side2 => exact HC715_13.out); rintro e w9 ⟨rfl, hb⟩; refine ⟨_, rfl, ?_⟩; replace HB := hbs_ hb; clear hb))
       go_roundg k1
       case measure => have := HK1.out; omega
       case rel => exact ⟨(t716), (wrap64 (x5_1 + 1)), (by first | rfl | (simp; done) | (simp [*]; done)), (by first | rfl | (simp; done) | (simp [*]; done)), H', ⟨by have := HK1.out; omega⟩, ⟨bl_⟩⟩
     ·rw [if_neg c5] at H
      exact absurd H (by simp)
    ·rw [if_neg c4] at H
     have c4b0 : decide (x5_1 < (l0.length : Int)) = false := decide_eq_false c4
     clear c4
     obtain rfl := Option.some.inj H
     go_wp2
     go_ret
     exact ⟨eq_, bl_⟩
def spec_ProofText.l0 : Nat → List (S77) → ByteArray → Int → Option (ByteArray × Bool)
 | 0, _, _, _ => none
 | k + 1, x0, x4, x5 => if x5 < (x0.length : Int) then (if 0 ≤ x5 then ((spec_StepText.f k ((rd_T77 x0 x5).f0.f0) ((rd_T77 x0 x5).f0.f1.f0) ((rd_T77 x0 x5).f0.f1.f1) ((rd_T77 x0 x5).f0.f2) ((rd_T77 x0 x5).f0.f3.f0) ((rd_T77 x0 x5).f0.f3.f1) ((rd_T77 x0 x5).f0.f4.f0) ((rd_T77 x0 x5).f0.f4.f1) ((rd_T77 x0 x5).f0.f5) ((rd_T77 x0 x5).f0.f6) ((rd_T77 x0 x5).f1.f0.f0) ((rd_T77 x0 x5).f1.f0.f1) ((rd_T77 x0 x5).f1.f1) ((rd_T77 x0 x5).f2)).bind fun bt718 => (if bt718.2 = true then (if x4.size + bt718.1.size ≤ 9223372036854775807 then (spec_ProofText.l0 k x0 (x4 ++ bt718.1) (wrap64 (x5 + 1))) else (none)) else (some ((⟨#[]⟩ : ByteArray), false)))) else (none)) else (some (x4, true))
def spec_ProofText.f (k : Nat) (l0 : List (S77)) : Option (ByteArray × Bool) := if (l0.length : Int) > 200 then (some ((⟨#[]⟩ : ByteArray), false)) else (spec_ProofText.l0 k l0 (⟨#[]⟩ : ByteArray) 0)
set_option maxHeartbeats 8000000 in
set_option maxRecDepth 100000 in
theorem spec_ProofText.calls (k : Nat) (A0 : Option Addr) (c0 : Nat) (l0 : List (S77)) (r1 : ByteArray) (r2 : Bool) (w : World) (hr0 : Kd.C k77 w A0 l0.length l0) (hc0 : l0.length ≤ c0) (h : spec_ProofText.f k l0 = some (r1, r2)) :
  Calls Try.prog 59 #[.slice A0 l0.length c0] w fun e w' => e = .returned (.tuple #[.string r1, .bool r2]) ∧ Below w.heap.size w w' := by
 have hu77 := Try.underlying77
 have HR0 := Aside0.mk hr0
 have HC0 := Aside0.mk hc0
 clear hr0 hc0
 have HB := Aside0.mk (Below.refl w.heap.size w)
 have H : (if (l0.length : Int) > 200 then (some ((⟨#[]⟩ : ByteArray), false)) else (spec_ProofText.l0 k l0 (⟨#[]⟩ : ByteArray) 0)) = some (r1, r2) := h
 clear h
 by_cases c2 : (l0.length : Int) > 200
 ·rw [if_pos c2] at H
  have c2b0 : decide (200 < (l0.length : Int)) = true := decide_eq_true c2
  have c2b1 : decide (200 < l0.length) = true := decide_eq_true (by omega)
  clear c2
  simp only [Option.some.injEq, Prod.mk.injEq] at H
  obtain ⟨rfl, rfl⟩ := H
  go_enter Try.func59, Try.ntmps59
  go_wp2
  go_ret2
  exact ⟨eq_, bl_⟩
 ·rw [if_neg c2] at H
  have c2b0 : decide (200 < (l0.length : Int)) = false := decide_eq_false c2
  have c2b1 : decide (200 < l0.length) = false := decide_eq_false (by omega)
  clear c2
  have H' := Aside0.mk H
  clear H
  go_enter Try.func59, Try.ntmps59
  go_wp2
  go_loopg [4, 5] k (fun kq v4 v5 w' => ∃ (x4_1 : ByteArray) (x5_1 : Int), v4 = .string x4_1 ∧ v5 = .int .i64 x5_1 ∧ Aside0 (spec_ProofText.l0 kq l0 x4_1 x5_1 = some (r1, r2)) ∧ Aside0 (kq ≤ k) ∧ Aside0 (Below w.heap.size w w'))
  case atStart => exact ⟨((⟨#[]⟩ : ByteArray)), (0), (by first | rfl | (simp; done) | (simp [*]; done)), (by first | rfl | (simp; done) | (simp [*]; done)), H', ⟨Nat.le_refl _⟩, ⟨bl_⟩⟩
  case round =>
   clear H'
   try clear c2
   try clear c2b0
   try clear c2b1
   try clear p2
   obtain ⟨x4_1, x5_1, rfl, rfl, HA, HK1, HB⟩ := hrel
   cases gk with
   | zero => exact absurd HA.out (by simp [spec_ProofText.l0])
   | succ k1 =>
    have H := HA.out
    clear HA
    simp only [spec_ProofText.l0] at H
    by_cases c3 : x5_1 < (l0.length : Int)
    ·rw [if_pos c3] at H
     have c3b0 : decide (x5_1 < (l0.length : Int)) = true := decide_eq_true c3
     clear c3
     by_cases c4 : 0 ≤ x5_1
     ·rw [if_pos c4] at H
      have c4b0 : decide (0 ≤ x5_1) = true := decide_eq_true c4
      clear c4
      obtain ⟨⟨t718, t719⟩, A5, H⟩ := bindE_ H
      replace H : (if t719 = true then (if x4_1.size + t718.size ≤ 9223372036854775807 then (spec_ProofText.l0 k1 l0 (x4_1 ++ t718) (wrap64 (x5_1 + 1))) else (none)) else (some ((⟨#[]⟩ : ByteArray), false))) = some (r1, r2) := H
      by_cases c6 : t719 = true
      ·subst c6
       replace H := ite_t_ H
       by_cases c7 : x4_1.size + t718.size ≤ 9223372036854775807
       ·rw [if_pos c7] at H
        have c7b0 := eq_true c7
        have c7b1 : decide (x4_1.size + t718.size ≤ 9223372036854775807) = true := decide_eq_true c7
        try have c7b2 : (9223372036854775807 < x4_1.size + t718.size) = False := eq_false (Nat.not_lt.2 c7)
        have H' := Aside0.mk H
        clear H
        have p717 : 0 ≤ (x5_1 : Int) := of_decide_eq_true (by first | (with_reducible assumption) | assumption)
        have q717 : x5_1 < (l0.length : Int) := of_decide_eq_true (by first | (with_reducible assumption) | assumption)
        obtain ⟨ad717, A717_13, c717_13, e717, hx717_0, hx717_1, hx717_2, hx717_3, hx717_4, hx717_5, hx717_6, hx717_7, hx717_8, hx717_9, hx717_10, hx717_11, hx717_12, hx717_13, hl717_13, hi717_13⟩ := at_T77 HR0.out x5_1 p717 q717
        cases e717
        replace hx717_0 := cb_ HB hx717_0
        replace hx717_1 := cb_ HB hx717_1
        replace hx717_2 := cb_ HB hx717_2
        replace hx717_3 := cb_ HB hx717_3
        replace hx717_4 := cb_ HB hx717_4
        replace hx717_5 := cb_ HB hx717_5
        replace hx717_6 := cb_ HB hx717_6
        replace hx717_7 := cb_ HB hx717_7
        replace hx717_8 := cb_ HB hx717_8
        replace hx717_9 := cb_ HB hx717_9
        replace hx717_10 := cb_ HB hx717_10
        replace hx717_11 := cb_ HB hx717_11
        replace hx717_12 := cb_ HB hx717_12
        replace hx717_13 := cb_ HB hx717_13
        have HR717_13 := Aside0.mk hi717_13
        have HC717_13 := Aside0.mk hl717_13
        clear hi717_13 hl717_13
        replace p717 := eq_true p717
        replace q717 := eq_true q717
        go_wp2_with (first | ((with_reducible refine gate_callee (f := 45) rfl ?_); refine goesC_ (some 22) Try.func45 #[.agg #[.int .i64 ((rd_T77 l0 x5_1).f0.f0), .int .i64 ((rd_T77 l0 x5_1).f0.f1.f0), .int .i64 ((rd_T77 l0 x5_1).f0.f1.f1), .int .i64 ((rd_T77 l0 x5_1).f0.f2), .int .i64 ((rd_T77 l0 x5_1).f0.f3.f0), .int .i64 ((rd_T77 l0 x5_1).f0.f3.f1), .int .i64 ((rd_T77 l0 x5_1).f0.f4.f0), .int .i64 ((rd_T77 l0 x5_1).f0.f4.f1), .int .i64 ((rd_T77 l0 x5_1).f0.f5), .int .i64 ((rd_T77 l0 x5_1).f0.f6), .int .i64 ((rd_T77 l0 x5_1).f1.f0.f0), .int .i64 ((rd_T77 l0 x5_1).f1.f0.f1), .int .i64 ((rd_T77 l0 x5_1).f1.f1), .slice A717_13 ((rd_T77 l0 x5_1).f2).length c717_13]] ?_; (with_reducible refine (spec_StepText.calls k1 ((rd_T77 l0 x5_1).f0.f0) ((rd_T77 l0 x5_1).f0.f1.f0) ((rd_T77 l0 x5_1).f0.f1.f1) ((rd_T77 l0 x5_1).f0.f2) ((rd_T77 l0 x5_1).f0.f3.f0) ((rd_T77 l0 x5_1).f0.f3.f1) ((rd_T77 l0 x5_1).f0.f4.f0) ((rd_T77 l0 x5_1).f0.f4.f1) ((rd_T77 l0 x5_1).f0.f5) ((rd_T77 l0 x5_1).f0.f6) ((rd_T77 l0 x5_1).f1.f0.f0) ((rd_T77 l0 x5_1).f1.f0.f1) ((rd_T77 l0 x5_1).f1.f1) _ _ ((rd_T77 l0 x5_1).f2) t718 true _ ?side1 ?side2 A5.out).mono ?_); (case side1 => repeat (first | exact (Kd.C_below HR717_13.out HB.out) | (with_reducible refine Kd.C_alloc ?_ _) | (with_reducible refine Kd.C_drewN ?_ _) | (with_reducible refine Kd.C_drew ?_))); (case side2 => exact HC717_13.out); rintro e w8 ⟨rfl, hb⟩; refine ⟨_, rfl, ?_⟩; replace HB := hbs_ hb; clear hb))
        go_roundg k1
        case measure => have := HK1.out; omega
        case rel => exact ⟨(x4_1 ++ t718), (wrap64 (x5_1 + 1)), (by first | rfl | (simp; done) | (simp [*]; done)), (by first | rfl | (simp; done) | (simp [*]; done)), H', ⟨by have := HK1.out; omega⟩, ⟨bl_⟩⟩
       ·rw [if_neg c7] at H
        exact absurd H (by simp)
      ·replace c6 := Bool.eq_false_iff.mpr c6
       subst c6
       replace H := ite_f_ H
       simp only [Option.some.injEq, Prod.mk.injEq] at H
       obtain ⟨rfl, rfl⟩ := H
       have p717 : 0 ≤ (x5_1 : Int) := of_decide_eq_true (by first | (with_reducible assumption) | assumption)
       have q717 : x5_1 < (l0.length : Int) := of_decide_eq_true (by first | (with_reducible assumption) | assumption)
       obtain ⟨ad717, A717_13, c717_13, e717, hx717_0, hx717_1, hx717_2, hx717_3, hx717_4, hx717_5, hx717_6, hx717_7, hx717_8, hx717_9, hx717_10, hx717_11, hx717_12, hx717_13, hl717_13, hi717_13⟩ := at_T77 HR0.out x5_1 p717 q717
       cases e717
       replace hx717_0 := cb_ HB hx717_0
       replace hx717_1 := cb_ HB hx717_1
       replace hx717_2 := cb_ HB hx717_2
       replace hx717_3 := cb_ HB hx717_3
       replace hx717_4 := cb_ HB hx717_4
       replace hx717_5 := cb_ HB hx717_5
       replace hx717_6 := cb_ HB hx717_6
       replace hx717_7 := cb_ HB hx717_7
       replace hx717_8 := cb_ HB hx717_8
       replace hx717_9 := cb_ HB hx717_9
       replace hx717_10 := cb_ HB hx717_10
       replace hx717_11 := cb_ HB hx717_11
       replace hx717_12 := cb_ HB hx717_12
       replace hx717_13 := cb_ HB hx717_13
       have HR717_13 := Aside0.mk hi717_13
       have HC717_13 := Aside0.mk hl717_13
       clear hi717_13 hl717_13
       replace p717 := eq_true p717
       replace q717 := eq_true q717
       go_wp2_with (first | ((with_reducible refine gate_callee (f := 45) rfl ?_); refine goesC_ (some 22) Try.func45 #[.agg #[.int .i64 ((rd_T77 l0 x5_1).f0.f0), .int .i64 ((rd_T77 l0 x5_1).f0.f1.f0), .int .i64 ((rd_T77 l0 x5_1).f0.f1.f1), .int .i64 ((rd_T77 l0 x5_1).f0.f2), .int .i64 ((rd_T77 l0 x5_1).f0.f3.f0), .int .i64 ((rd_T77 l0 x5_1).f0.f3.f1), .int .i64 ((rd_T77 l0 x5_1).f0.f4.f0), .int .i64 ((rd_T77 l0 x5_1).f0.f4.f1), .int .i64 ((rd_T77 l0 x5_1).f0.f5), .int .i64 ((rd_T77 l0 x5_1).f0.f6), .int .i64 ((rd_T77 l0 x5_1).f1.f0.f0), .int .i64 ((rd_T77 l0 x5_1).f1.f0.f1), .int .i64 ((rd_T77 l0 x5_1).f1.f1), .slice A717_13 ((rd_T77 l0 x5_1).f2).length c717_13]] ?_; (with_reducible refine (spec_StepText.calls k1 ((rd_T77 l0 x5_1).f0.f0) ((rd_T77 l0 x5_1).f0.f1.f0) ((rd_T77 l0 x5_1).f0.f1.f1) ((rd_T77 l0 x5_1).f0.f2) ((rd_T77 l0 x5_1).f0.f3.f0) ((rd_T77 l0 x5_1).f0.f3.f1) ((rd_T77 l0 x5_1).f0.f4.f0) ((rd_T77 l0 x5_1).f0.f4.f1) ((rd_T77 l0 x5_1).f0.f5) ((rd_T77 l0 x5_1).f0.f6) ((rd_T77 l0 x5_1).f1.f0.f0) ((rd_T77 l0 x5_1).f1.f0.f1) ((rd_T77 l0 x5_1).f1.f1) _ _ ((rd_T77 l0 x5_1).f2) t718 false _ ?side1 ?side2 A5.out).mono ?_); (case side1 => repeat (first | exact (Kd.C_below HR717_13.out HB.out) | (with_reducible refine Kd.C_alloc ?_ _) | (with_reducible refine Kd.C_drewN ?_ _) | (with_reducible refine Kd.C_drew ?_))); (case side2 => exact HC717_13.out); rintro e w9 ⟨rfl, hb⟩; refine ⟨_, rfl, ?_⟩; replace HB := hbs_ hb; clear hb))
       go_ret2
       exact ⟨eq_, bl_⟩
     ·rw [if_neg c4] at H
      exact absurd H (by simp)
    ·rw [if_neg c3] at H
     have c3b0 : decide (x5_1 < (l0.length : Int)) = false := decide_eq_false c3
     clear c3
     simp only [Option.some.injEq, Prod.mk.injEq] at H
     obtain ⟨rfl, rfl⟩ := H
     go_wp2
     go_ret2
     exact ⟨eq_, bl_⟩
end Go.Proofs.Ytcgnegnljffkmaa.PA
