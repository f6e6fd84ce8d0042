import Derived.Test.YtppdmcimddhbaaaKFnPoliciesPEx0
import Derived.Test.YtppdmcimddhbaaaKFnPoliciesPEx5
import Derived.Test.YtppdmcimddhbaaaKFnPoliciesPEx7
import Derived.Test.YtppdmcimddhbaaaKFnPoliciesPEx8
import Derived.Test.YtppdmcimddhbaaaKFnPoliciesPEx9
import Derived.Test.YtppdmcimddhbaaaKFnPoliciesPEx10
import Derived.Test.YtppdmcimddhbaaaKFnPoliciesPEx11
import Derived.Test.YtppdmcimddhbaaaKFnPoliciesPEx14
import Derived.Test.YtppdmcimddhbaaaKFnPoliciesPEx15
-- A text of this claim: written by the session's own program out of the translation (wip/tools). Lean checks it.
namespace Go.Proofs.Ytppdmcimddhbaaa.PE
open Go.RowKit Go.Proofs.YtppdmcimddhbaaaW.PrintWords Go.Proofs.YtppdmcimddhbaaaW.PrintLast Go.Proofs.YtppdmcimddhbaaaW.PrintMore
attribute [local go_sem] max2_int min2_int max_two min_two max_three min_three max_four min_four   -- for this text's walks alone
set_option linter.unusedVariables false
set_option linter.unusedSimpArgs false
def laws_FnPolicies.l0 : Nat → List (S46) → List (S46) → Int → Bool → List (S27) → Int → List (S71) → List (S71) → List (S71) → List (S71) → Option (Bool)
 | 0, _, _, _, _, _, _, _, _, _, _ => none
 | k + 1, x3, x4, x7, x10, x11, x12, x527000, x531000, x544000, x550000 => if x12 < 6 then ((impl_Decides.f k x3 x527000 x12).bind fun t553 => (if t553 = true then ((impl_Decides.f k x4 x527000 x12).bind fun t554 => (if t554 = true then ((impl_Decides.f k x3 x544000 x12).bind fun t555 => ((impl_Decides.f k x3 x531000 x12).bind fun t556 => (if (t555 != t556) = true then (some false) else (laws_FnPolicies.l0 k x3 x4 x7 x10 x11 (wrap64 (x12 + 1)) x527000 x531000 x544000 x550000)))) else (some false))) else ((impl_Decides.f k x3 x544000 x12).bind fun t557 => ((impl_Decides.f k x3 x531000 x12).bind fun t558 => (if (t557 != t558) = true then (some false) else (laws_FnPolicies.l0 k x3 x4 x7 x10 x11 (wrap64 (x12 + 1)) x527000 x531000 x544000 x550000)))))) else ((impl_Rising.f k x527000).bind fun t559 => (if t559 = true then ((impl_Rising.f k x544000).bind fun t560 => (if t560 = true then (some false) else ((impl_PolicyOk.f k x544000).bind fun t561 => (if t561 = true then (if x10 = true then ((laws_samePolicy.f k x550000 x531000).bind fun t562 => (if t562 = true then (if (x11.length : Int) ≥ 1 then (some (decide ((x11.length : Int) ≤ x7))) else (some false)) else (some false))) else (some false)) else (some false))))) else (some false)))
def laws_FnPolicies.f (k : Nat) (l0 : List Int) : Option (Bool) := (laws_big.f l0).bind fun t494 => (if t494 = true then (some true) else ((spec_DrawWords.f k l0).bind fun t495 => ((some (([] : List (S46)) : List (S46))).bind fun y498 => (if y498.length + t495.length < 1759218604441 then ((some (y498 ++ t495 : List (S46))).bind fun y501 => ((some (([3] : List Int) : List Int)).bind fun y504 => (if y504.length + l0.length < 140737488355328 then ((spec_DrawWord.f k (y504 ++ l0)).bind fun bt510 => (if y501.length < 1759218604441 then ((spec_DrawPolicy.f k l0 true).bind fun t523 => ((spec_DrawPolicy.f k l0 false).bind fun t527 => ((some (([] : List (S71)) : List (S71))).bind fun y531 => (if y531.length + t527.length < 3518437208883 then ((some (y531 ++ t527 : List (S71))).bind fun y534 => ((some (([(⟨4, (⟨0, 0⟩ : S27), wrap64 ((t527.length : Int) - 1), 0⟩ : S71), (⟨4, (⟨0, 0⟩ : S27), (t527.length : Int), 0⟩ : S71)] : List (S71)) : List (S71))).bind fun y537 => (if y534.length + y537.length < 3518437208883 then ((impl_PolicyText.f k t527).bind fun t544 => ((impl_ReadPolicy.f k t544).bind fun bt545 => ((impl_PolicyRoles.f k t527).bind fun t550 => (laws_FnPolicies.l0 k t495 (y501 ++ [(⟨bt510.1, (⟨bt510.2.1, bt510.2.2.1⟩ : S27), bt510.2.2.2.1, (⟨bt510.2.2.2.2.1, bt510.2.2.2.2.2.1⟩ : S27), (⟨bt510.2.2.2.2.2.2.1, bt510.2.2.2.2.2.2.2.1⟩ : S27), bt510.2.2.2.2.2.2.2.2.1, bt510.2.2.2.2.2.2.2.2.2⟩ : S46)]) (t527.length : Int) bt545.2 t550 0 t523 t527 (y534 ++ y537) bt545.1)))) else (none)))) else (none))))) else (none))) else (none)))) else (none)))))
def laws_FnPolicies.T14 : Bool × List (List Nat × List Nat) := (true, [([], []), ([], []), ([], []), ([0, 1, 2], [0, 1, 2]), ([3, 3], [3]), ([4], [4]), ([4], [4]), ([4], [4]), ([5, 6, 7, 4, 4], [4, 5, 6, 7]), ([8, 4], [4, 8]), ([4, 9], [4, 9]), ([10, 8], [10]), ([11], [11]), ([11], [11]), ([11], [11]), ([12, 13, 14, 11, 11], [11, 12, 13, 14]), ([11], [11]), ([11], [11]), ([11], [11]), ([16, 17, 18, 15, 11], [11, 16, 17, 18]), ([15, 19, 11], [11, 15, 19]), ([11, 20], [11, 20])])
def laws_FnPolicies.B14 : List Nat := [0, 0, 0, 7, 15, 31, 31, 31, 255, 511, 1023, 2047, 4095, 4095, 4095, 32767, 4095, 4095, 4095, 524287, 1048575, 2097151]
theorem laws_FnPolicies.tab14 : rtab .any (opsOf Try.f7 14) = laws_FnPolicies.T14 := by kernel_rfl
theorem laws_FnPolicies.bits14 : waitsOk laws_FnPolicies.T14.2 laws_FnPolicies.B14 = true := by kernel_rfl
set_option maxHeartbeats 8000000 in
set_option maxRecDepth 100000 in
theorem laws_FnPolicies.calls (k : Nat) (A0 : Option Addr) (c0 : Nat) (l0 : List Int) (r : Bool) (w : World) (hr0 : Kd.C (Kd.int .u8) w A0 l0.length l0) (hc0 : l0.length ≤ c0) (h : laws_FnPolicies.f k l0 = some r) :
  Calls Try.prog 7 #[.slice A0 l0.length c0] w fun e w' => e = .returned (.bool r) ∧ Below w.heap.size w w' := by
 have hu68 := Try.underlying68
 have hu71 := Try.underlying71
 have HR0 := Aside0.mk hr0
 have HC0 := Aside0.mk hc0
 clear hr0 hc0
 have HB := Aside0.mk (Below.refl w.heap.size w)
 have H : ((laws_big.f l0).bind fun t494 => (if t494 = true then (some true) else ((spec_DrawWords.f k l0).bind fun t495 => ((some (([] : List (S46)) : List (S46))).bind fun y498 => (if y498.length + t495.length < 1759218604441 then ((some (y498 ++ t495 : List (S46))).bind fun y501 => ((some (([3] : List Int) : List Int)).bind fun y504 => (if y504.length + l0.length < 140737488355328 then ((spec_DrawWord.f k (y504 ++ l0)).bind fun bt510 => (if y501.length < 1759218604441 then ((spec_DrawPolicy.f k l0 true).bind fun t523 => ((spec_DrawPolicy.f k l0 false).bind fun t527 => ((some (([] : List (S71)) : List (S71))).bind fun y531 => (if y531.length + t527.length < 3518437208883 then ((some (y531 ++ t527 : List (S71))).bind fun y534 => ((some (([(⟨4, (⟨0, 0⟩ : S27), wrap64 ((t527.length : Int) - 1), 0⟩ : S71), (⟨4, (⟨0, 0⟩ : S27), (t527.length : Int), 0⟩ : S71)] : List (S71)) : List (S71))).bind fun y537 => (if y534.length + y537.length < 3518437208883 then ((impl_PolicyText.f k t527).bind fun t544 => ((impl_ReadPolicy.f k t544).bind fun bt545 => ((impl_PolicyRoles.f k t527).bind fun t550 => (laws_FnPolicies.l0 k t495 (y501 ++ [(⟨bt510.1, (⟨bt510.2.1, bt510.2.2.1⟩ : S27), bt510.2.2.2.1, (⟨bt510.2.2.2.2.1, bt510.2.2.2.2.2.1⟩ : S27), (⟨bt510.2.2.2.2.2.2.1, bt510.2.2.2.2.2.2.2.1⟩ : S27), bt510.2.2.2.2.2.2.2.2.1, bt510.2.2.2.2.2.2.2.2.2⟩ : S46)]) (t527.length : Int) bt545.2 t550 0 t523 t527 (y534 ++ y537) bt545.1)))) else (none)))) else (none))))) else (none))) else (none)))) else (none)))))) = some r := h
 clear h
 obtain ⟨t494, A2, H⟩ := bindE_ H
 by_cases c3 : t494 = true
 ·subst c3
  replace H := ite_t_ H
  obtain rfl := Option.some.inj H
  go_enter Try.func7, Try.ntmps7
  go_wp2_with (first | ((with_reducible refine gate_callee (f := 14) rfl ?_); refine goesC_ (some 14) Try.func14 #[.slice A0 l0.length c0] ?_; (with_reducible refine (laws_big.calls _ _ l0 true _ ?side1 ?side2 A2.out).mono ?_); (case side1 => repeat (first | exact HR0.out | (with_reducible refine Kd.C_alloc ?_ _) | (with_reducible refine Kd.C_drewN ?_ _) | (with_reducible refine Kd.C_drew ?_))); (case side2 => exact HC0.out); rintro e w' ⟨rfl, ⟨nd, rfl⟩⟩; refine ⟨_, rfl, ?_⟩))
  go_ret
  exact ⟨eq_, bl_⟩
 ·replace c3 := Bool.eq_false_iff.mpr c3
  subst c3
  replace H := ite_f_ H
  obtain ⟨t495, A4, H⟩ := bindE_ H
  obtain ⟨y498, hy498⟩ : ∃ y_ : List (S46), y_ = (([] : List (S46))) := ⟨_, rfl⟩
  replace H : (if y498.length + t495.length < 1759218604441 then ((some (y498 ++ t495 : List (S46))).bind fun y501 => ((some (([3] : List Int) : List Int)).bind fun y504 => (if y504.length + l0.length < 140737488355328 then ((spec_DrawWord.f k (y504 ++ l0)).bind fun bt510 => (if y501.length < 1759218604441 then ((spec_DrawPolicy.f k l0 true).bind fun t523 => ((spec_DrawPolicy.f k l0 false).bind fun t527 => ((some (([] : List (S71)) : List (S71))).bind fun y531 => (if y531.length + t527.length < 3518437208883 then ((some (y531 ++ t527 : List (S71))).bind fun y534 => ((some (([(⟨4, (⟨0, 0⟩ : S27), wrap64 ((t527.length : Int) - 1), 0⟩ : S71), (⟨4, (⟨0, 0⟩ : S27), (t527.length : Int), 0⟩ : S71)] : List (S71)) : List (S71))).bind fun y537 => (if y534.length + y537.length < 3518437208883 then ((impl_PolicyText.f k t527).bind fun t544 => ((impl_ReadPolicy.f k t544).bind fun bt545 => ((impl_PolicyRoles.f k t527).bind fun t550 => (laws_FnPolicies.l0 k t495 (y501 ++ [(⟨bt510.1, (⟨bt510.2.1, bt510.2.2.1⟩ : S27), bt510.2.2.2.1, (⟨bt510.2.2.2.2.1, bt510.2.2.2.2.2.1⟩ : S27), (⟨bt510.2.2.2.2.2.2.1, bt510.2.2.2.2.2.2.2.1⟩ : S27), bt510.2.2.2.2.2.2.2.2.1, bt510.2.2.2.2.2.2.2.2.2⟩ : S46)]) (t527.length : Int) bt545.2 t550 0 t523 t527 (y534 ++ y537) bt545.1)))) else (none)))) else (none))))) else (none))) else (none)))) else (none)) = some r := by first | (rw [hy498]; with_reducible exact H) | (have H2_ := (Option.bind_some _ _).symm.trans H; rw [hy498]; with_reducible exact H2_) | (have H2_ := (Option.bind_some _ _).symm.trans H; with_reducible exact H2_) | with_reducible exact H | (rw [hy498]; exact H) | exact H
  have Ny498 := Aside0.mk hy498
  clear hy498
  by_cases c5 : y498.length + t495.length < 1759218604441
  ·rw [if_pos c5] at H
   have LMc5 := Aside0.mk c5
   clear c5
   obtain ⟨y501, hy501⟩ : ∃ y_ : List (S46), y_ = (y498 ++ t495) := ⟨_, rfl⟩
   replace H : ((some (([3] : List Int) : List Int)).bind fun y504 => (if y504.length + l0.length < 140737488355328 then ((spec_DrawWord.f k (y504 ++ l0)).bind fun bt510 => (if y501.length < 1759218604441 then ((spec_DrawPolicy.f k l0 true).bind fun t523 => ((spec_DrawPolicy.f k l0 false).bind fun t527 => ((some (([] : List (S71)) : List (S71))).bind fun y531 => (if y531.length + t527.length < 3518437208883 then ((some (y531 ++ t527 : List (S71))).bind fun y534 => ((some (([(⟨4, (⟨0, 0⟩ : S27), wrap64 ((t527.length : Int) - 1), 0⟩ : S71), (⟨4, (⟨0, 0⟩ : S27), (t527.length : Int), 0⟩ : S71)] : List (S71)) : List (S71))).bind fun y537 => (if y534.length + y537.length < 3518437208883 then ((impl_PolicyText.f k t527).bind fun t544 => ((impl_ReadPolicy.f k t544).bind fun bt545 => ((impl_PolicyRoles.f k t527).bind fun t550 => (laws_FnPolicies.l0 k t495 (y501 ++ [(⟨bt510.1, (⟨bt510.2.1, bt510.2.2.1⟩ : S27), bt510.2.2.2.1, (⟨bt510.2.2.2.2.1, bt510.2.2.2.2.2.1⟩ : S27), (⟨bt510.2.2.2.2.2.2.1, bt510.2.2.2.2.2.2.2.1⟩ : S27), bt510.2.2.2.2.2.2.2.2.1, bt510.2.2.2.2.2.2.2.2.2⟩ : S46)]) (t527.length : Int) bt545.2 t550 0 t523 t527 (y534 ++ y537) bt545.1)))) else (none)))) else (none))))) else (none))) else (none))) = some r := by first | (rw [hy501]; with_reducible exact H) | (have H2_ := (Option.bind_some _ _).symm.trans H; rw [hy501]; with_reducible exact H2_) | (have H2_ := (Option.bind_some _ _).symm.trans H; with_reducible exact H2_) | with_reducible exact H | (rw [hy501]; exact H) | exact H
   have Ny501 := Aside0.mk hy501
   clear hy501
   obtain ⟨y504, hy504⟩ : ∃ y_ : List Int, y_ = (([3] : List Int)) := ⟨_, rfl⟩
   replace H : (if y504.length + l0.length < 140737488355328 then ((spec_DrawWord.f k (y504 ++ l0)).bind fun bt510 => (if y501.length < 1759218604441 then ((spec_DrawPolicy.f k l0 true).bind fun t523 => ((spec_DrawPolicy.f k l0 false).bind fun t527 => ((some (([] : List (S71)) : List (S71))).bind fun y531 => (if y531.length + t527.length < 3518437208883 then ((some (y531 ++ t527 : List (S71))).bind fun y534 => ((some (([(⟨4, (⟨0, 0⟩ : S27), wrap64 ((t527.length : Int) - 1), 0⟩ : S71), (⟨4, (⟨0, 0⟩ : S27), (t527.length : Int), 0⟩ : S71)] : List (S71)) : List (S71))).bind fun y537 => (if y534.length + y537.length < 3518437208883 then ((impl_PolicyText.f k t527).bind fun t544 => ((impl_ReadPolicy.f k t544).bind fun bt545 => ((impl_PolicyRoles.f k t527).bind fun t550 => (laws_FnPolicies.l0 k t495 (y501 ++ [(⟨bt510.1, (⟨bt510.2.1, bt510.2.2.1⟩ : S27), bt510.2.2.2.1, (⟨bt510.2.2.2.2.1, bt510.2.2.2.2.2.1⟩ : S27), (⟨bt510.2.2.2.2.2.2.1, bt510.2.2.2.2.2.2.2.1⟩ : S27), bt510.2.2.2.2.2.2.2.2.1, bt510.2.2.2.2.2.2.2.2.2⟩ : S46)]) (t527.length : Int) bt545.2 t550 0 t523 t527 (y534 ++ y537) bt545.1)))) else (none)))) else (none))))) else (none))) else (none)) = some r := by first | (rw [hy504]; with_reducible exact H) | (have H2_ := (Option.bind_some _ _).symm.trans H; rw [hy504]; with_reducible exact H2_) | (have H2_ := (Option.bind_some _ _).symm.trans H; with_reducible exact H2_) | with_reducible exact H | (rw [hy504]; exact H) | exact H
   have Ny504 := Aside0.mk hy504
   clear hy504
   by_cases c6 : y504.length + l0.length < 140737488355328
   ·rw [if_pos c6] at H
    have LMc6 := Aside0.mk c6
    clear c6
    obtain ⟨y507, hy507⟩ : ∃ y_ : List Int, y_ = (y504 ++ l0) := ⟨_, rfl⟩
    replace H : ((spec_DrawWord.f k y507).bind fun bt510 => (if y501.length < 1759218604441 then ((spec_DrawPolicy.f k l0 true).bind fun t523 => ((spec_DrawPolicy.f k l0 false).bind fun t527 => ((some (([] : List (S71)) : List (S71))).bind fun y531 => (if y531.length + t527.length < 3518437208883 then ((some (y531 ++ t527 : List (S71))).bind fun y534 => ((some (([(⟨4, (⟨0, 0⟩ : S27), wrap64 ((t527.length : Int) - 1), 0⟩ : S71), (⟨4, (⟨0, 0⟩ : S27), (t527.length : Int), 0⟩ : S71)] : List (S71)) : List (S71))).bind fun y537 => (if y534.length + y537.length < 3518437208883 then ((impl_PolicyText.f k t527).bind fun t544 => ((impl_ReadPolicy.f k t544).bind fun bt545 => ((impl_PolicyRoles.f k t527).bind fun t550 => (laws_FnPolicies.l0 k t495 (y501 ++ [(⟨bt510.1, (⟨bt510.2.1, bt510.2.2.1⟩ : S27), bt510.2.2.2.1, (⟨bt510.2.2.2.2.1, bt510.2.2.2.2.2.1⟩ : S27), (⟨bt510.2.2.2.2.2.2.1, bt510.2.2.2.2.2.2.2.1⟩ : S27), bt510.2.2.2.2.2.2.2.2.1, bt510.2.2.2.2.2.2.2.2.2⟩ : S46)]) (t527.length : Int) bt545.2 t550 0 t523 t527 (y534 ++ y537) bt545.1)))) else (none)))) else (none))))) else (none))) = some r := by first | (rw [hy507]; with_reducible exact H) | (have H2_ := (Option.bind_some _ _).symm.trans H; rw [hy507]; with_reducible exact H2_) | (have H2_ := (Option.bind_some _ _).symm.trans H; with_reducible exact H2_) | with_reducible exact H | (rw [hy507]; exact H) | exact H
    have Ny507 := Aside0.mk hy507
    clear hy507
    obtain ⟨⟨t510, t511, t512, t513, t514, t515, t516, t517, t518, t519⟩, A7, H⟩ := bindE_ H
    replace H : (if y501.length < 1759218604441 then ((spec_DrawPolicy.f k l0 true).bind fun t523 => ((spec_DrawPolicy.f k l0 false).bind fun t527 => ((some (([] : List (S71)) : List (S71))).bind fun y531 => (if y531.length + t527.length < 3518437208883 then ((some (y531 ++ t527 : List (S71))).bind fun y534 => ((some (([(⟨4, (⟨0, 0⟩ : S27), wrap64 ((t527.length : Int) - 1), 0⟩ : S71), (⟨4, (⟨0, 0⟩ : S27), (t527.length : Int), 0⟩ : S71)] : List (S71)) : List (S71))).bind fun y537 => (if y534.length + y537.length < 3518437208883 then ((impl_PolicyText.f k t527).bind fun t544 => ((impl_ReadPolicy.f k t544).bind fun bt545 => ((impl_PolicyRoles.f k t527).bind fun t550 => (laws_FnPolicies.l0 k t495 (y501 ++ [(⟨t510, (⟨t511, t512⟩ : S27), t513, (⟨t514, t515⟩ : S27), (⟨t516, t517⟩ : S27), t518, t519⟩ : S46)]) (t527.length : Int) bt545.2 t550 0 t523 t527 (y534 ++ y537) bt545.1)))) else (none)))) else (none))))) else (none)) = some r := H
    by_cases c8 : y501.length < 1759218604441
    ·rw [if_pos c8] at H
     have LMc8 := Aside0.mk c8
     clear c8
     obtain ⟨y520, hy520⟩ : ∃ y_ : List (S46), y_ = (y501 ++ [(⟨t510, (⟨t511, t512⟩ : S27), t513, (⟨t514, t515⟩ : S27), (⟨t516, t517⟩ : S27), t518, t519⟩ : S46)]) := ⟨_, rfl⟩
     replace H : ((spec_DrawPolicy.f k l0 true).bind fun t523 => ((spec_DrawPolicy.f k l0 false).bind fun t527 => ((some (([] : List (S71)) : List (S71))).bind fun y531 => (if y531.length + t527.length < 3518437208883 then ((some (y531 ++ t527 : List (S71))).bind fun y534 => ((some (([(⟨4, (⟨0, 0⟩ : S27), wrap64 ((t527.length : Int) - 1), 0⟩ : S71), (⟨4, (⟨0, 0⟩ : S27), (t527.length : Int), 0⟩ : S71)] : List (S71)) : List (S71))).bind fun y537 => (if y534.length + y537.length < 3518437208883 then ((impl_PolicyText.f k t527).bind fun t544 => ((impl_ReadPolicy.f k t544).bind fun bt545 => ((impl_PolicyRoles.f k t527).bind fun t550 => (laws_FnPolicies.l0 k t495 y520 (t527.length : Int) bt545.2 t550 0 t523 t527 (y534 ++ y537) bt545.1)))) else (none)))) else (none))))) = some r := by first | (rw [hy520]; with_reducible exact H) | (have H2_ := (Option.bind_some _ _).symm.trans H; rw [hy520]; with_reducible exact H2_) | (have H2_ := (Option.bind_some _ _).symm.trans H; with_reducible exact H2_) | with_reducible exact H | (rw [hy520]; exact H) | exact H
     have Ny520 := Aside0.mk hy520
     clear hy520
     obtain ⟨t523, A9, H⟩ := bindE_ H
     obtain ⟨t527, A10, H⟩ := bindE_ H
     obtain ⟨y531, hy531⟩ : ∃ y_ : List (S71), y_ = (([] : List (S71))) := ⟨_, rfl⟩
     replace H : (if y531.length + t527.length < 3518437208883 then ((some (y531 ++ t527 : List (S71))).bind fun y534 => ((some (([(⟨4, (⟨0, 0⟩ : S27), wrap64 ((t527.length : Int) - 1), 0⟩ : S71), (⟨4, (⟨0, 0⟩ : S27), (t527.length : Int), 0⟩ : S71)] : List (S71)) : List (S71))).bind fun y537 => (if y534.length + y537.length < 3518437208883 then ((impl_PolicyText.f k t527).bind fun t544 => ((impl_ReadPolicy.f k t544).bind fun bt545 => ((impl_PolicyRoles.f k t527).bind fun t550 => (laws_FnPolicies.l0 k t495 y520 (t527.length : Int) bt545.2 t550 0 t523 t527 (y534 ++ y537) bt545.1)))) else (none)))) else (none)) = some r := by first | (rw [hy531]; with_reducible exact H) | (have H2_ := (Option.bind_some _ _).symm.trans H; rw [hy531]; with_reducible exact H2_) | (have H2_ := (Option.bind_some _ _).symm.trans H; with_reducible exact H2_) | with_reducible exact H | (rw [hy531]; exact H) | exact H
     have Ny531 := Aside0.mk hy531
     clear hy531
     by_cases c11 : y531.length + t527.length < 3518437208883
     ·rw [if_pos c11] at H
      have LMc11 := Aside0.mk c11
      clear c11
      obtain ⟨y534, hy534⟩ : ∃ y_ : List (S71), y_ = (y531 ++ t527) := ⟨_, rfl⟩
      replace H : ((some (([(⟨4, (⟨0, 0⟩ : S27), wrap64 ((t527.length : Int) - 1), 0⟩ : S71), (⟨4, (⟨0, 0⟩ : S27), (t527.length : Int), 0⟩ : S71)] : List (S71)) : List (S71))).bind fun y537 => (if y534.length + y537.length < 3518437208883 then ((impl_PolicyText.f k t527).bind fun t544 => ((impl_ReadPolicy.f k t544).bind fun bt545 => ((impl_PolicyRoles.f k t527).bind fun t550 => (laws_FnPolicies.l0 k t495 y520 (t527.length : Int) bt545.2 t550 0 t523 t527 (y534 ++ y537) bt545.1)))) else (none))) = some r := by first | (rw [hy534]; with_reducible exact H) | (have H2_ := (Option.bind_some _ _).symm.trans H; rw [hy534]; with_reducible exact H2_) | (have H2_ := (Option.bind_some _ _).symm.trans H; with_reducible exact H2_) | with_reducible exact H | (rw [hy534]; exact H) | exact H
      have Ny534 := Aside0.mk hy534
      clear hy534
      obtain ⟨y537, hy537⟩ : ∃ y_ : List (S71), y_ = (([(⟨4, (⟨0, 0⟩ : S27), wrap64 ((t527.length : Int) - 1), 0⟩ : S71), (⟨4, (⟨0, 0⟩ : S27), (t527.length : Int), 0⟩ : S71)] : List (S71))) := ⟨_, rfl⟩
      replace H : (if y534.length + y537.length < 3518437208883 then ((impl_PolicyText.f k t527).bind fun t544 => ((impl_ReadPolicy.f k t544).bind fun bt545 => ((impl_PolicyRoles.f k t527).bind fun t550 => (laws_FnPolicies.l0 k t495 y520 (t527.length : Int) bt545.2 t550 0 t523 t527 (y534 ++ y537) bt545.1)))) else (none)) = some r := by first | (rw [hy537]; with_reducible exact H) | (have H2_ := (Option.bind_some _ _).symm.trans H; rw [hy537]; with_reducible exact H2_) | (have H2_ := (Option.bind_some _ _).symm.trans H; with_reducible exact H2_) | with_reducible exact H | (rw [hy537]; exact H) | exact H
      have Ny537 := Aside0.mk hy537
      clear hy537
      by_cases c12 : y534.length + y537.length < 3518437208883
      ·rw [if_pos c12] at H
       have LMc12 := Aside0.mk c12
       clear c12
       obtain ⟨y540, hy540⟩ : ∃ y_ : List (S71), y_ = (y534 ++ y537) := ⟨_, rfl⟩
       replace H : ((impl_PolicyText.f k t527).bind fun t544 => ((impl_ReadPolicy.f k t544).bind fun bt545 => ((impl_PolicyRoles.f k t527).bind fun t550 => (laws_FnPolicies.l0 k t495 y520 (t527.length : Int) bt545.2 t550 0 t523 t527 y540 bt545.1)))) = some r := by first | (rw [hy540]; with_reducible exact H) | (have H2_ := (Option.bind_some _ _).symm.trans H; rw [hy540]; with_reducible exact H2_) | (have H2_ := (Option.bind_some _ _).symm.trans H; with_reducible exact H2_) | with_reducible exact H | (rw [hy540]; exact H) | exact H
       have Ny540 := Aside0.mk hy540
       clear hy540
       obtain ⟨t544, A13, H⟩ := bindE_ H
       obtain ⟨⟨t545, t548⟩, A14, H⟩ := bindE_ H
       replace H : ((impl_PolicyRoles.f k t527).bind fun t550 => (laws_FnPolicies.l0 k t495 y520 (t527.length : Int) t548 t550 0 t523 t527 y540 t545)) = some r := H
       obtain ⟨t550, A15, H⟩ := bindE_ H
       have H' := Aside0.mk H
       clear H
       go_enter Try.func7, Try.ntmps7
       go_wp2_with (first | ((with_reducible refine gate_callee (f := 14) rfl ?_); refine goesC_ (some 14) Try.func14 #[.slice A0 l0.length c0] ?_; (with_reducible refine (laws_big.calls _ _ l0 false _ ?side1 ?side2 A2.out).mono ?_); (case side1 => repeat (first | exact HR0.out | (with_reducible refine Kd.C_alloc ?_ _) | (with_reducible refine Kd.C_drewN ?_ _) | (with_reducible refine Kd.C_drew ?_))); (case side2 => exact HC0.out); rintro e w' ⟨rfl, ⟨nd, rfl⟩⟩; refine ⟨_, rfl, ?_⟩) | ((with_reducible refine gate_callee (f := 15) rfl ?_); refine goesC_ (some 16) Try.func15 #[.slice A0 l0.length c0] ?_; (with_reducible refine (spec_DrawWords.calls k _ _ l0 t495 _ ?side1 ?side2 A4.out).mono ?_); (case side1 => repeat (first | exact HR0.out | (with_reducible refine Kd.C_alloc ?_ _) | (with_reducible refine Kd.C_drewN ?_ _) | (with_reducible refine Kd.C_drew ?_))); (case side2 => exact HC0.out); rintro e w16 ⟨v496, rfl, ho0, hb⟩; refine ⟨_, rfl, ?_⟩; have HO497 := Aside0.mk (Kd.R_lower ho0 bls_); replace HB := hbs_ hb; (try clear hb); (try clear hb2); (try clear hk); (try clear hi); (try clear ho0)) | ((with_reducible refine gate_dst (N := 17) rfl ?_); (try (refine gate_guard (by rfl) ?_; dsimp only)); refine Kd.R_lit k46 _ 46 ?hg (N := 17) ?hd (xs := ([] : List (S46))) (inner := []) (ok := fun _ => True) (okp := fun _ => True) ?hr ?hp (fun _ hk => hk) trivial (Below.refl _ _) (Nat.le_refl _) (by simp) ?_; (case hd => rfl); (case hg => rfl); (case hr => first | (go_simp; done) | (go_simp; rfl)); (case hp => exact (Reps.none _ _)); intro v499 w17 ho18 hb hg_ hnew_; clear hg_ hnew_; (first | rw [← Ny498.out] at ho18 | (simp only [Int.reduceToNat] at ho18; rw [← Ny498.out] at ho18)); have HO500 := Aside0.mk (Kd.R_lower (Kd.R_new' ho18 (Kd.R_lt (by (with_reducible repeat (first | apply Kd.R_alloc | apply Kd.R_drewN | apply Kd.R_drew)); exact HO497.out))) bls_); replace HO497 := Aside0.mk (Kd.R_elder' (by (with_reducible repeat (first | apply Kd.R_alloc | apply Kd.R_drewN | apply Kd.R_drew)); exact HO497.out) (Kd.R_base ho18) hb); replace HB := hbs_ hb; clear hb ho18; obtain ⟨Ao20, co20, eo20⟩ := Kd.R_slice HO497.out; subst eo20) | ((with_reducible refine gate_builtin (b := .append) (xs := #[.tmp 17, .tmp 18]) rfl ?_); (try (refine gate_guard (by rfl) ?_; dsimp only)); at_builtin; refine Kd.R_append_rows k46 (w0 := w) w.heap.size rfl (.tmp 17) (.tmp 18) 24 46 (.agg #[(.int .i64 0), (.int .i64 0), (.int .i64 0), (.int .i64 0), (.int .i64 0), (.int .i64 0), (.int .i64 0), (.int .i64 0), (.int .i64 0), (.int .i64 0)]) 80 rfl Try.underlying24 info46 rfl (by decide) (by omega) v499 y498 t495 _ _ _ (fun k_ => some k_ ≠ (.slice Ao20 t495.length co20 : Value).ownBlock) (fun _ => False) rfl rfl ?aO ?aR (fun _ _ h => h) (fun _ h => h.elim) ?aF ?aB ?aS ?aL ?_; (case aR => repeat (first | exact (Kd.R_reads' HO497.out).2.2 | (with_reducible refine Kd.C_alloc ?_ _) | (with_reducible refine Kd.C_drewN ?_ _) | (with_reducible refine Kd.C_drew ?_))); (case aB => exact bl_); (case aF => exact (fun k_ hk => Kd.fresh' (Kd.R_lt (by (with_reducible repeat (first | apply Kd.R_alloc | apply Kd.R_drewN | apply Kd.R_drew)); exact HO497.out)) k_ hk)); (case aO => exact (by (with_reducible repeat (first | apply Kd.R_alloc | apply Kd.R_drewN | apply Kd.R_drew)); exact Kd.R_mono HO500.out (fun _ hk => hk.2))); (case aS => exact bls_); (case aL => have := LMc5.out; omega); intro v502 w19 ho hb hg hat; rw [← Ny501.out] at ho; replace HO497 := Aside0.mk (Kd.R_after (ok := (fun _ => True)) (by (with_reducible repeat (first | apply Kd.R_alloc | apply Kd.R_drewN | apply Kd.R_drew)); exact HO497.out) hg hat); replace HB := Aside0.mk (hb); have HO503 := Aside0.mk (ho); clear HO500; clear ho hb hg hat) | ((with_reducible refine gate_dst (N := 20) rfl ?_); (try (refine gate_guard (by rfl) ?_; dsimp only)); refine Kd.R_lit (Kd.int .u8) _ 5 ?hg (N := 20) ?hd (xs := ([3] : List Int)) (inner := [.int .u8 3]) (ok := fun _ => True) (okp := fun _ => True) ?hr ?hp (fun _ hk => hk) trivial (Below.refl _ _) (Nat.le_refl _) (by simp) ?_; (case hd => rfl); (case hg => rfl); (case hr => first | (go_simp; done) | (go_simp; rfl)); (case hp => exact (Reps.one (show Kd.M (Kd.int .u8) _ _ _ 3 [.int .u8 3] from rfl) (Reps.none _ _))); intro v505 w21 ho22 hb hg_ hnew_; clear hg_ hnew_; (first | rw [← Ny504.out] at ho22 | (simp only [Int.reduceToNat] at ho22; rw [← Ny504.out] at ho22)); replace HO497 := Aside0.mk (Kd.R_below (by (with_reducible repeat (first | apply Kd.R_alloc | apply Kd.R_drewN | apply Kd.R_drew)); exact HO497.out) hb); replace HO503 := Aside0.mk (Kd.R_below (by (with_reducible repeat (first | apply Kd.R_alloc | apply Kd.R_drewN | apply Kd.R_drew)); exact HO503.out) hb); have HO506 := Aside0.mk (Kd.R_lower ho22 bls_); replace HB := hbs_ hb; clear hb ho22) | ((with_reducible refine gate_builtin (b := .append) (xs := #[.tmp 20, .tmp 21]) rfl ?_); (try (refine gate_guard (by rfl) ?_; dsimp only)); at_builtin; refine Kd.R_append_rows (Kd.int .u8) (w0 := w) w.heap.size rfl (.tmp 20) (.tmp 21) 22 5 (.int .u8 0) 1 rfl Try.underlying22 info5 rfl (by decide) (by omega) v505 y504 l0 _ _ _ (fun _ => True) (fun _ => False) rfl rfl ?aO ?aR (fun _ _ h => h) (fun _ h => h.elim) ?aF ?aB ?aS ?aL ?_; (case aR => repeat (first | exact (Kd.C_below HR0.out HB.out) | (with_reducible refine Kd.C_alloc ?_ _) | (with_reducible refine Kd.C_drewN ?_ _) | (with_reducible refine Kd.C_drew ?_))); (case aB => exact bl_); (case aF => exact (fun _ _ => trivial)); (case aO => exact (by (with_reducible repeat (first | apply Kd.R_alloc | apply Kd.R_drewN | apply Kd.R_drew)); exact HO506.out)); (case aS => exact bls_); (case aL => have := LMc6.out; omega); intro v508 w23 ho hb hg hat; rw [← Ny507.out] at ho; replace HO497 := Aside0.mk (Kd.R_over' (by (with_reducible repeat (first | apply Kd.R_alloc | apply Kd.R_drewN | apply Kd.R_drew)); exact HO497.out) (Kd.R_typed (by (with_reducible repeat (first | apply Kd.R_alloc | apply Kd.R_drewN | apply Kd.R_drew)); exact HO506.out)) (by decide) hg); replace HO503 := Aside0.mk (Kd.R_over' (by (with_reducible repeat (first | apply Kd.R_alloc | apply Kd.R_drewN | apply Kd.R_drew)); exact HO503.out) (Kd.R_typed (by (with_reducible repeat (first | apply Kd.R_alloc | apply Kd.R_drewN | apply Kd.R_drew)); exact HO506.out)) (by decide) hg); replace HB := Aside0.mk (hb); have HO509 := Aside0.mk (ho); clear HO506; clear ho hb hg hat; obtain ⟨Ao24, co24, eo24⟩ := Kd.R_slice HO509.out; subst eo24) | ((with_reducible refine gate_callee (f := 42) rfl ?_); refine goesC_ (some 23) Try.func42 #[.slice Ao24 y507.length co24] ?_; (with_reducible refine (spec_DrawWord.calls k _ _ y507 t510 t511 t512 t513 t514 t515 t516 t517 t518 t519 _ ?side1 ?side2 A7.out).mono ?_); (case side1 => repeat (first | exact (Kd.R_reads' HO509.out).2.2 | (with_reducible refine Kd.C_alloc ?_ _) | (with_reducible refine Kd.C_drewN ?_ _) | (with_reducible refine Kd.C_drew ?_))); (case side2 => exact (Kd.R_reads' HO509.out).2.1); rintro e w25 ⟨rfl, hb⟩; refine ⟨_, rfl, ?_⟩; replace HO497 := Aside0.mk (Kd.R_below (by (with_reducible repeat (first | apply Kd.R_alloc | apply Kd.R_drewN | apply Kd.R_drew)); exact HO497.out) hb); replace HO503 := Aside0.mk (Kd.R_below (by (with_reducible repeat (first | apply Kd.R_alloc | apply Kd.R_drewN | apply Kd.R_drew)); exact HO503.out) hb); replace HO509 := Aside0.mk (Kd.R_below (by (with_reducible repeat (first | apply Kd.R_alloc | apply Kd.R_drewN | apply Kd.R_drew)); exact HO509.out) hb); replace HB := hbs_ hb; clear hb) | ((with_reducible refine gate_builtin (b := .append) (xs := #[.tmp 19, .tmp 24]) rfl ?_); (try (refine gate_guard (by rfl) ?_; dsimp only)); at_builtin; refine Kd.R_append k46 (w0 := w) w.heap.size rfl (.tmp 19) (.tmp 24) 24 46 (.agg #[(.int .i64 0), (.int .i64 0), (.int .i64 0), (.int .i64 0), (.int .i64 0), (.int .i64 0), (.int .i64 0), (.int .i64 0), (.int .i64 0), (.int .i64 0)]) 80 rfl Try.underlying24 info46 rfl (by decide) (by omega) v502 y501 (⟨t510, (⟨t511, t512⟩ : S27), t513, (⟨t514, t515⟩ : S27), (⟨t516, t517⟩ : S27), t518, t519⟩ : S46) [.int .i64 t510, .int .i64 t511, .int .i64 t512, .int .i64 t513, .int .i64 t514, .int .i64 t515, .int .i64 t516, .int .i64 t517, .int .i64 t518, .int .i64 t519] (fun k_ => some k_ ≠ (.slice Ao20 t495.length co20 : Value).ownBlock) (fun _ => False) rfl rfl ?aP (fun _ hk => hk.elim) ?aF ?aO ?aB ?aS ?aL ?_; (case aP => exact k46_mkM _ _ _ (⟨t510, (⟨t511, t512⟩ : S27), t513, (⟨t514, t515⟩ : S27), (⟨t516, t517⟩ : S27), t518, t519⟩ : S46)); (case aB => exact bl_); (case aF => exact (fun k_ hk => Kd.fresh' (Kd.R_lt (by (with_reducible repeat (first | apply Kd.R_alloc | apply Kd.R_drewN | apply Kd.R_drew)); exact HO497.out)) k_ hk)); (case aO => exact (by (with_reducible repeat (first | apply Kd.R_alloc | apply Kd.R_drewN | apply Kd.R_drew)); exact HO503.out)); (case aS => exact bls_); (case aL => have := LMc8.out; omega); intro v521 w26 ho hb hg hat; rw [← Ny520.out] at ho; replace HO497 := Aside0.mk (Kd.R_after (ok := (fun _ => True)) (by (with_reducible repeat (first | apply Kd.R_alloc | apply Kd.R_drewN | apply Kd.R_drew)); exact HO497.out) hg hat); replace HO509 := Aside0.mk (Kd.R_over' (by (with_reducible repeat (first | apply Kd.R_alloc | apply Kd.R_drewN | apply Kd.R_drew)); exact HO509.out) (Kd.R_typed (by (with_reducible repeat (first | apply Kd.R_alloc | apply Kd.R_drewN | apply Kd.R_drew)); exact HO503.out)) (by decide) hg); replace HB := Aside0.mk (hb); have HO522 := Aside0.mk (ho); clear HO503; clear ho hb hg hat) | ((with_reducible refine gate_callee (f := 43) rfl ?_); refine goesC_ (some 27) Try.func43 #[.slice A0 l0.length c0, .bool true] ?_; (with_reducible refine (spec_DrawPolicy.calls k _ _ l0 true t523 _ ?side1 ?side2 A9.out).mono ?_); (case side1 => repeat (first | exact (Kd.C_below HR0.out HB.out) | (with_reducible refine Kd.C_alloc ?_ _) | (with_reducible refine Kd.C_drewN ?_ _) | (with_reducible refine Kd.C_drew ?_))); (case side2 => exact HC0.out); rintro e w27 ⟨v524, rfl, ho0, hb⟩; refine ⟨_, rfl, ?_⟩; replace HO497 := Aside0.mk (Kd.R_below (by (with_reducible repeat (first | apply Kd.R_alloc | apply Kd.R_drewN | apply Kd.R_drew)); exact HO497.out) hb); replace HO509 := Aside0.mk (Kd.R_below (by (with_reducible repeat (first | apply Kd.R_alloc | apply Kd.R_drewN | apply Kd.R_drew)); exact HO509.out) hb); replace HO522 := Aside0.mk (Kd.R_below (by (with_reducible repeat (first | apply Kd.R_alloc | apply Kd.R_drewN | apply Kd.R_drew)); exact HO522.out) hb); have HO525 := Aside0.mk (Kd.R_lower ho0 bls_); replace HB := hbs_ hb; (try clear hb); (try clear hb2); (try clear hk); (try clear hi); (try clear ho0)) | ((with_reducible refine gate_dst (N := 5) rfl ?_); (try (refine gate_guard (by rfl) ?_; dsimp only)); refine box_event ?hg (N := 5) ?hd (cs := #[.slice none 0 0]) (t := 68) ?hr ?_; (case hd => rfl); (case hg => rfl); (case hr => first | (go_simp; done) | (go_simp; rfl)); intro gb526 hg w28 hbox hb; replace HO497 := Aside0.mk (Kd.R_below (by (with_reducible repeat (first | apply Kd.R_alloc | apply Kd.R_drewN | apply Kd.R_drew)); exact HO497.out) hb); replace HO509 := Aside0.mk (Kd.R_below (by (with_reducible repeat (first | apply Kd.R_alloc | apply Kd.R_drewN | apply Kd.R_drew)); exact HO509.out) hb); replace HO522 := Aside0.mk (Kd.R_below (by (with_reducible repeat (first | apply Kd.R_alloc | apply Kd.R_drewN | apply Kd.R_drew)); exact HO522.out) hb); replace HO525 := Aside0.mk (Kd.R_below (by (with_reducible repeat (first | apply Kd.R_alloc | apply Kd.R_drewN | apply Kd.R_drew)); exact HO525.out) hb); have BK526 := Aside0.mk (hbox); have GW526 := gs_ hg; have GE526 := gs_ hg; replace HB := hbs_ hb; clear hb hbox hg; obtain ⟨Ao29, co29, eo29⟩ := Kd.R_slice HO525.out; subst eo29; have hcz30 := blk_cell BK526.out; have hfz30 := blk_frozen BK526.out) | ((with_reducible refine gate_callee (f := 43) rfl ?_); refine goesC_ (some 29) Try.func43 #[.slice A0 l0.length c0, .bool false] ?_; (with_reducible refine (spec_DrawPolicy.calls k _ _ l0 false t527 _ ?side1 ?side2 A10.out).mono ?_); (case side1 => exact Kd.C_below HR0.out bl_); (case side2 => exact HC0.out); rintro e w31 ⟨v528, rfl, ho0, hb⟩; refine ⟨_, rfl, ?_⟩; replace HO497 := Aside0.mk (Kd.R_below (by (with_reducible repeat (first | apply Kd.R_alloc | apply Kd.R_drewN | apply Kd.R_drew)); exact (Kd.R_mono (Kd.R_far (p := ⟨gb526, 0, none⟩) (Kd.R_types HO497.out BK526.out (by decide)) (fun _ hk => hk.2) (.slice Ao29 t523.length co29)) (fun _ h_ => h_.1))) hb); replace HO509 := Aside0.mk (Kd.R_below (by (with_reducible repeat (first | apply Kd.R_alloc | apply Kd.R_drewN | apply Kd.R_drew)); exact (Kd.R_mono (Kd.R_far (p := ⟨gb526, 0, none⟩) (Kd.R_types HO509.out BK526.out (by decide)) (fun _ hk => hk.2) (.slice Ao29 t523.length co29)) (fun _ h_ => h_.1))) hb); replace HO522 := Aside0.mk (Kd.R_below (by (with_reducible repeat (first | apply Kd.R_alloc | apply Kd.R_drewN | apply Kd.R_drew)); exact (Kd.R_mono (Kd.R_far (p := ⟨gb526, 0, none⟩) (Kd.R_types HO522.out BK526.out (by decide)) (fun _ hk => hk.2) (.slice Ao29 t523.length co29)) (fun _ h_ => h_.1))) hb); have HO529 := Aside0.mk (Kd.R_lower (Kd.R_new' ho0 (Kd.R_lt (by (with_reducible repeat (first | apply Kd.R_alloc | apply Kd.R_drewN | apply Kd.R_drew)); exact (Kd.R_mono (Kd.R_far (p := ⟨gb526, 0, none⟩) (Kd.R_types HO525.out BK526.out (by decide)) (fun _ hk => hk.2) (.slice Ao29 t523.length co29)) (fun _ h_ => h_.1))))) bls_); replace HO525 := Aside0.mk (Kd.R_elder' (by (with_reducible repeat (first | apply Kd.R_alloc | apply Kd.R_drewN | apply Kd.R_drew)); exact (Kd.R_mono (Kd.R_far (p := ⟨gb526, 0, none⟩) (Kd.R_types HO525.out BK526.out (by decide)) (fun _ hk => hk.2) (.slice Ao29 t523.length co29)) (fun _ h_ => h_.1))) (Kd.R_base ho0) hb); replace BK526 := Aside0.mk (blk_below (g := gb526) (o := .cells #[.slice Ao29 t523.length co29] 68 (0, 0)) (bk_ BK526) hb); replace HB := hbs_ hb; (try clear hb); (try clear hb2); (try clear hk); (try clear hi); (try clear ho0)) | ((with_reducible refine gate_dst (N := 6) rfl ?_); (try (refine gate_guard (by rfl) ?_; dsimp only)); refine box_event ?hg (N := 6) ?hd (cs := #[.slice none 0 0]) (t := 68) ?hr ?_; (case hd => rfl); (case hg => rfl); (case hr => first | (go_simp; done) | (go_simp; rfl)); intro gb530 hg w32 hbox hb; replace HO497 := Aside0.mk (Kd.R_below (by (with_reducible repeat (first | apply Kd.R_alloc | apply Kd.R_drewN | apply Kd.R_drew)); exact HO497.out) hb); replace HO509 := Aside0.mk (Kd.R_below (by (with_reducible repeat (first | apply Kd.R_alloc | apply Kd.R_drewN | apply Kd.R_drew)); exact HO509.out) hb); replace HO522 := Aside0.mk (Kd.R_below (by (with_reducible repeat (first | apply Kd.R_alloc | apply Kd.R_drewN | apply Kd.R_drew)); exact HO522.out) hb); replace HO525 := Aside0.mk (Kd.R_below (by (with_reducible repeat (first | apply Kd.R_alloc | apply Kd.R_drewN | apply Kd.R_drew)); exact HO525.out) hb); replace HO529 := Aside0.mk (Kd.R_below (by (with_reducible repeat (first | apply Kd.R_alloc | apply Kd.R_drewN | apply Kd.R_drew)); exact HO529.out) hb); have BK530 := Aside0.mk (hbox); have GW530 := gs_ hg; have GE530 := gs_ hg; replace HB := hbs_ hb; have NB526_530 := Aside0.mk ((by rw [hg]; exact Nat.ne_of_lt (blk_lt (g := gb526) (o := .cells #[.slice Ao29 t523.length co29] 68 (0, 0)) (bk_ BK526)) : gb526 ≠ gb530)); have NB530_526 := Aside0.mk ((by rw [hg]; exact Nat.ne_of_gt (blk_lt (g := gb526) (o := .cells #[.slice Ao29 t523.length co29] 68 (0, 0)) (bk_ BK526)) : gb530 ≠ gb526)); replace BK526 := bkb_ BK526 hb; clear hb hbox hg; obtain ⟨Ao33, co33, eo33⟩ := Kd.R_slice HO529.out; subst eo33; have hnb34 := NB530_526.out; have hnc34 := NB526_530.out; have hcz35 := blk_cell BK530.out; have hfz35 := blk_frozen BK530.out) | ((with_reducible refine gate_dst (N := 33) rfl ?_); (try (refine gate_guard (by rfl) ?_; dsimp only)); refine Kd.R_lit k71 _ 71 ?hg (N := 33) ?hd (xs := ([] : List (S71))) (inner := []) (ok := fun _ => True) (okp := fun _ => True) ?hr ?hp (fun _ hk => hk) trivial (Below.refl _ _) (Nat.le_refl _) (by simp) ?_; (case hd => rfl); (case hg => rfl); (case hr => first | (go_simp; done) | (go_simp; rfl)); (case hp => exact (Reps.none _ _)); intro v532 w36 ho37 hb hg_ hnew_; clear hg_ hnew_; (first | rw [← Ny531.out] at ho37 | (simp only [Int.reduceToNat] at ho37; rw [← Ny531.out] at ho37)); replace HO497 := Aside0.mk (Kd.R_below (by (with_reducible repeat (first | apply Kd.R_alloc | apply Kd.R_drewN | apply Kd.R_drew)); exact (Kd.R_mono (Kd.R_far (p := ⟨gb530, 0, none⟩) (Kd.R_types HO497.out BK530.out (by decide)) (fun _ hk => hk.2) (.slice Ao33 t527.length co33)) (fun _ h_ => h_.1))) hb); replace HO509 := Aside0.mk (Kd.R_below (by (with_reducible repeat (first | apply Kd.R_alloc | apply Kd.R_drewN | apply Kd.R_drew)); exact (Kd.R_mono (Kd.R_far (p := ⟨gb530, 0, none⟩) (Kd.R_types HO509.out BK530.out (by decide)) (fun _ hk => hk.2) (.slice Ao33 t527.length co33)) (fun _ h_ => h_.1))) hb); replace HO522 := Aside0.mk (Kd.R_below (by (with_reducible repeat (first | apply Kd.R_alloc | apply Kd.R_drewN | apply Kd.R_drew)); exact (Kd.R_mono (Kd.R_far (p := ⟨gb530, 0, none⟩) (Kd.R_types HO522.out BK530.out (by decide)) (fun _ hk => hk.2) (.slice Ao33 t527.length co33)) (fun _ h_ => h_.1))) hb); have HO533 := Aside0.mk (Kd.R_lower (Kd.R_new' (Kd.R_new' ho37 (Kd.R_lt (by (with_reducible repeat (first | apply Kd.R_alloc | apply Kd.R_drewN | apply Kd.R_drew)); exact (Kd.R_mono (Kd.R_far (p := ⟨gb530, 0, none⟩) (Kd.R_types HO525.out BK530.out (by decide)) (fun _ hk => hk.2) (.slice Ao33 t527.length co33)) (fun _ h_ => h_.1))))) (Kd.R_lt (by (with_reducible repeat (first | apply Kd.R_alloc | apply Kd.R_drewN | apply Kd.R_drew)); exact (Kd.R_mono (Kd.R_far (p := ⟨gb530, 0, none⟩) (Kd.R_types HO529.out BK530.out (by decide)) (fun _ hk => hk.2) (.slice Ao33 t527.length co33)) (fun _ h_ => h_.1))))) bls_); replace HO525 := Aside0.mk (Kd.R_elder' (by (with_reducible repeat (first | apply Kd.R_alloc | apply Kd.R_drewN | apply Kd.R_drew)); exact (Kd.R_mono (Kd.R_far (p := ⟨gb530, 0, none⟩) (Kd.R_types HO525.out BK530.out (by decide)) (fun _ hk => hk.2) (.slice Ao33 t527.length co33)) (fun _ h_ => h_.1))) (Kd.R_base ho37) hb); replace HO529 := Aside0.mk (Kd.R_elder' (by (with_reducible repeat (first | apply Kd.R_alloc | apply Kd.R_drewN | apply Kd.R_drew)); exact (Kd.R_mono (Kd.R_far (p := ⟨gb530, 0, none⟩) (Kd.R_types HO529.out BK530.out (by decide)) (fun _ hk => hk.2) (.slice Ao33 t527.length co33)) (fun _ h_ => h_.1))) (Kd.R_base ho37) hb); replace BK526 := Aside0.mk (blk_below (g := gb526) (o := .cells #[.slice Ao29 t523.length co29] 68 (0, 0)) (bk_ BK526) hb); replace BK530 := Aside0.mk (blk_below (g := gb530) (o := .cells #[.slice Ao33 t527.length co33] 68 (0, 0)) (bk_ BK530) hb); replace HB := hbs_ hb; clear hb ho37; have hcz38 := blk_cell BK530.out; have hfz38 := blk_frozen BK530.out) | ((with_reducible refine gate_builtin (b := .append) (xs := #[.tmp 33, .tmp 35]) rfl ?_); (try (refine gate_guard (by rfl) ?_; dsimp only)); at_builtin; refine Kd.R_append_rows k71 (w0 := w) w.heap.size rfl (.tmp 33) (.tmp 35) 66 71 (.agg #[(.int .i64 0), (.int .i64 0), (.int .i64 0), (.int .i64 0), (.int .i64 0)]) 40 rfl Try.underlying66 info71 rfl (by decide) (by omega) v532 y531 t527 _ _ _ (fun k_ => some k_ ≠ (.slice Ao29 t523.length co29 : Value).ownBlock ∧ some k_ ≠ (.slice Ao33 t527.length co33 : Value).ownBlock) (fun _ => False) rfl rfl ?aO ?aR (fun _ _ h => h) (fun _ h => h.elim) ?aF ?aB ?aS ?aL ?_; (case aR => repeat (first | exact (Kd.R_reads' HO529.out).2.2 | (with_reducible refine Kd.C_alloc ?_ _) | (with_reducible refine Kd.C_drewN ?_ _) | (with_reducible refine Kd.C_drew ?_))); (case aB => exact bl_); (case aF => exact (fun k_ hk => ⟨Kd.fresh' (Kd.R_lt (by (with_reducible repeat (first | apply Kd.R_alloc | apply Kd.R_drewN | apply Kd.R_drew)); exact HO525.out)) k_ hk, Kd.fresh' (Kd.R_lt (by (with_reducible repeat (first | apply Kd.R_alloc | apply Kd.R_drewN | apply Kd.R_drew)); exact HO529.out)) k_ hk⟩)); (case aO => exact (by (with_reducible repeat (first | apply Kd.R_alloc | apply Kd.R_drewN | apply Kd.R_drew)); exact Kd.R_mono HO533.out (fun _ hk => ⟨hk.1.2, hk.2⟩))); (case aS => exact bls_); (case aL => have := LMc11.out; omega); intro v535 w39 ho hb hg hat; rw [← Ny534.out] at ho; replace HO497 := Aside0.mk (Kd.R_over' (by (with_reducible repeat (first | apply Kd.R_alloc | apply Kd.R_drewN | apply Kd.R_drew)); exact HO497.out) (Kd.R_typed (by (with_reducible repeat (first | apply Kd.R_alloc | apply Kd.R_drewN | apply Kd.R_drew)); exact HO533.out)) (by decide) hg); replace HO509 := Aside0.mk (Kd.R_over' (by (with_reducible repeat (first | apply Kd.R_alloc | apply Kd.R_drewN | apply Kd.R_drew)); exact HO509.out) (Kd.R_typed (by (with_reducible repeat (first | apply Kd.R_alloc | apply Kd.R_drewN | apply Kd.R_drew)); exact HO533.out)) (by decide) hg); replace HO522 := Aside0.mk (Kd.R_over' (by (with_reducible repeat (first | apply Kd.R_alloc | apply Kd.R_drewN | apply Kd.R_drew)); exact HO522.out) (Kd.R_typed (by (with_reducible repeat (first | apply Kd.R_alloc | apply Kd.R_drewN | apply Kd.R_drew)); exact HO533.out)) (by decide) hg); replace HO525 := Aside0.mk (Kd.R_after (ok := (fun k_ => some k_ ≠ (.slice Ao33 t527.length co33 : Value).ownBlock)) (by (with_reducible repeat (first | apply Kd.R_alloc | apply Kd.R_drewN | apply Kd.R_drew)); exact Kd.R_mono HO525.out (fun _ hk => ⟨hk.1.2, hk.2⟩)) hg hat); replace BK526 := Aside0.mk (blk_grown (g := gb526) (o := .cells #[.slice Ao29 t523.length co29] 68 (0, 0)) (bk_ BK526) hg (Kd.R_ne HO533.out BK526.out (by decide))); replace HO529 := Aside0.mk (Kd.R_after (ok := (fun k_ => some k_ ≠ (.slice Ao29 t523.length co29 : Value).ownBlock)) (by (with_reducible repeat (first | apply Kd.R_alloc | apply Kd.R_drewN | apply Kd.R_drew)); exact Kd.R_mono HO529.out (fun _ hk => ⟨hk.1.2, hk.2⟩)) hg hat); replace BK530 := Aside0.mk (blk_grown (g := gb530) (o := .cells #[.slice Ao33 t527.length co33] 68 (0, 0)) (bk_ BK530) hg (Kd.R_ne HO533.out BK530.out (by decide))); replace HB := Aside0.mk (hb); have HO536 := Aside0.mk (ho); clear HO533; clear ho hb hg hat) | ((with_reducible refine gate_dst (N := 42) rfl ?_); (try (refine gate_guard (by rfl) ?_; dsimp only)); refine Kd.R_lit k71 _ 71 ?hg (N := 42) ?hd (xs := ([(⟨4, (⟨0, 0⟩ : S27), wrap64 ((t527.length : Int) - 1), 0⟩ : S71), (⟨4, (⟨0, 0⟩ : S27), (t527.length : Int), 0⟩ : S71)] : List (S71))) (inner := [.int .i64 4, .int .i64 0, .int .i64 0, .int .i64 (wrap64 ((t527.length : Int) - 1)), .int .i64 0, .int .i64 4, .int .i64 0, .int .i64 0, .int .i64 (t527.length : Int), .int .i64 0]) (ok := fun _ => True) (okp := fun _ => True) ?hr ?hp (fun _ hk => hk) trivial (Below.refl _ _) (Nat.le_refl _) (by simp) ?_; (case hd => rfl); (case hg => rfl); (case hr => first | (go_simp; done) | (go_simp; rfl)); (case hp => exact (Reps.c5 (show Kd.M k71 _ _ _ (⟨4, (⟨0, 0⟩ : S27), wrap64 ((t527.length : Int) - 1), 0⟩ : S71) [.int .i64 4, .int .i64 0, .int .i64 0, .int .i64 (wrap64 ((t527.length : Int) - 1)), .int .i64 0] from (k71_mkM _ _ _ (⟨4, (⟨0, 0⟩ : S27), wrap64 ((t527.length : Int) - 1), 0⟩ : S71) )) (Reps.c5 (show Kd.M k71 _ _ _ (⟨4, (⟨0, 0⟩ : S27), (t527.length : Int), 0⟩ : S71) [.int .i64 4, .int .i64 0, .int .i64 0, .int .i64 (t527.length : Int), .int .i64 0] from (k71_mkM _ _ _ (⟨4, (⟨0, 0⟩ : S27), (t527.length : Int), 0⟩ : S71) )) (Reps.none _ _)))); intro v538 w40 ho41 hb hg_ hnew_; clear hg_ hnew_; (first | rw [← Ny537.out] at ho41 | (simp only [Int.reduceToNat] at ho41; rw [← Ny537.out] at ho41)); replace HO497 := Aside0.mk (Kd.R_below (by (with_reducible repeat (first | apply Kd.R_alloc | apply Kd.R_drewN | apply Kd.R_drew)); exact HO497.out) hb); replace HO509 := Aside0.mk (Kd.R_below (by (with_reducible repeat (first | apply Kd.R_alloc | apply Kd.R_drewN | apply Kd.R_drew)); exact HO509.out) hb); replace HO522 := Aside0.mk (Kd.R_below (by (with_reducible repeat (first | apply Kd.R_alloc | apply Kd.R_drewN | apply Kd.R_drew)); exact HO522.out) hb); have HO539 := Aside0.mk (Kd.R_lower (Kd.R_new' (Kd.R_new' (Kd.R_new' ho41 (Kd.R_lt (by (with_reducible repeat (first | apply Kd.R_alloc | apply Kd.R_drewN | apply Kd.R_drew)); exact HO525.out))) (Kd.R_lt (by (with_reducible repeat (first | apply Kd.R_alloc | apply Kd.R_drewN | apply Kd.R_drew)); exact HO529.out))) (Kd.R_lt (by (with_reducible repeat (first | apply Kd.R_alloc | apply Kd.R_drewN | apply Kd.R_drew)); exact HO536.out))) bls_); replace HO525 := Aside0.mk (Kd.R_elder' (by (with_reducible repeat (first | apply Kd.R_alloc | apply Kd.R_drewN | apply Kd.R_drew)); exact HO525.out) (Kd.R_base ho41) hb); replace HO529 := Aside0.mk (Kd.R_elder' (by (with_reducible repeat (first | apply Kd.R_alloc | apply Kd.R_drewN | apply Kd.R_drew)); exact HO529.out) (Kd.R_base ho41) hb); replace HO536 := Aside0.mk (Kd.R_elder' (by (with_reducible repeat (first | apply Kd.R_alloc | apply Kd.R_drewN | apply Kd.R_drew)); exact HO536.out) (Kd.R_base ho41) hb); replace BK526 := bkb_ BK526 hb; replace BK530 := bkb_ BK530 hb; replace HB := hbs_ hb; clear hb ho41; obtain ⟨Ao43, co43, eo43⟩ := Kd.R_slice HO539.out; subst eo43) | ((with_reducible refine gate_builtin (b := .append) (xs := #[.tmp 36, .tmp 42]) rfl ?_); (try (refine gate_guard (by rfl) ?_; dsimp only)); at_builtin; refine Kd.R_append_rows k71 (w0 := w) w.heap.size rfl (.tmp 36) (.tmp 42) 66 71 (.agg #[(.int .i64 0), (.int .i64 0), (.int .i64 0), (.int .i64 0), (.int .i64 0)]) 40 rfl Try.underlying66 info71 rfl (by decide) (by omega) v535 y534 y537 _ _ _ (fun k_ => some k_ ≠ (.slice Ao29 t523.length co29 : Value).ownBlock ∧ some k_ ≠ (.slice Ao33 t527.length co33 : Value).ownBlock ∧ some k_ ≠ (.slice Ao43 y537.length co43 : Value).ownBlock) (fun _ => False) rfl rfl ?aO ?aR (fun _ _ h => h) (fun _ h => h.elim) ?aF ?aB ?aS ?aL ?_; (case aR => repeat (first | exact (Kd.R_reads' HO539.out).2.2 | (with_reducible refine Kd.C_alloc ?_ _) | (with_reducible refine Kd.C_drewN ?_ _) | (with_reducible refine Kd.C_drew ?_))); (case aB => exact bl_); (case aF => exact (fun k_ hk => ⟨Kd.fresh' (Kd.R_lt (by (with_reducible repeat (first | apply Kd.R_alloc | apply Kd.R_drewN | apply Kd.R_drew)); exact HO525.out)) k_ hk, Kd.fresh' (Kd.R_lt (by (with_reducible repeat (first | apply Kd.R_alloc | apply Kd.R_drewN | apply Kd.R_drew)); exact HO529.out)) k_ hk, Kd.fresh' (Kd.R_lt (by (with_reducible repeat (first | apply Kd.R_alloc | apply Kd.R_drewN | apply Kd.R_drew)); exact HO539.out)) k_ hk⟩)); (case aO => exact (by (with_reducible repeat (first | apply Kd.R_alloc | apply Kd.R_drewN | apply Kd.R_drew)); exact Kd.R_mono HO536.out (fun _ hk => ⟨hk.1.1, ⟨hk.1.2, hk.2⟩⟩))); (case aS => exact bls_); (case aL => have := LMc12.out; omega); intro v541 w42 ho hb hg hat; rw [← Ny540.out] at ho; replace HO497 := Aside0.mk (Kd.R_over' (by (with_reducible repeat (first | apply Kd.R_alloc | apply Kd.R_drewN | apply Kd.R_drew)); exact HO497.out) (Kd.R_typed (by (with_reducible repeat (first | apply Kd.R_alloc | apply Kd.R_drewN | apply Kd.R_drew)); exact HO536.out)) (by decide) hg); replace HO509 := Aside0.mk (Kd.R_over' (by (with_reducible repeat (first | apply Kd.R_alloc | apply Kd.R_drewN | apply Kd.R_drew)); exact HO509.out) (Kd.R_typed (by (with_reducible repeat (first | apply Kd.R_alloc | apply Kd.R_drewN | apply Kd.R_drew)); exact HO536.out)) (by decide) hg); replace HO522 := Aside0.mk (Kd.R_over' (by (with_reducible repeat (first | apply Kd.R_alloc | apply Kd.R_drewN | apply Kd.R_drew)); exact HO522.out) (Kd.R_typed (by (with_reducible repeat (first | apply Kd.R_alloc | apply Kd.R_drewN | apply Kd.R_drew)); exact HO536.out)) (by decide) hg); replace HO525 := Aside0.mk (Kd.R_after (ok := (fun k_ => some k_ ≠ (.slice Ao33 t527.length co33 : Value).ownBlock ∧ some k_ ≠ (.slice Ao43 y537.length co43 : Value).ownBlock)) (by (with_reducible repeat (first | apply Kd.R_alloc | apply Kd.R_drewN | apply Kd.R_drew)); exact Kd.R_mono HO525.out (fun _ hk => ⟨⟨hk.1.1, hk.2⟩, hk.1.2⟩)) hg hat); replace BK526 := Aside0.mk (blk_grown (g := gb526) (o := .cells #[.slice Ao29 t523.length co29] 68 (0, 0)) (bk_ BK526) hg (Kd.R_ne HO536.out BK526.out (by decide))); replace HO529 := Aside0.mk (Kd.R_after (ok := (fun k_ => some k_ ≠ (.slice Ao29 t523.length co29 : Value).ownBlock ∧ some k_ ≠ (.slice Ao43 y537.length co43 : Value).ownBlock)) (by (with_reducible repeat (first | apply Kd.R_alloc | apply Kd.R_drewN | apply Kd.R_drew)); exact Kd.R_mono HO529.out (fun _ hk => ⟨⟨hk.1.1, hk.2⟩, hk.1.2⟩)) hg hat); replace BK530 := Aside0.mk (blk_grown (g := gb530) (o := .cells #[.slice Ao33 t527.length co33] 68 (0, 0)) (bk_ BK530) hg (Kd.R_ne HO536.out BK530.out (by decide))); replace HO539 := Aside0.mk (Kd.R_after (ok := (fun k_ => some k_ ≠ (.slice Ao29 t523.length co29 : Value).ownBlock ∧ some k_ ≠ (.slice Ao33 t527.length co33 : Value).ownBlock)) (by (with_reducible repeat (first | apply Kd.R_alloc | apply Kd.R_drewN | apply Kd.R_drew)); exact Kd.R_mono HO539.out (fun _ hk => ⟨⟨hk.1.1.2, hk.1.2⟩, hk.2⟩)) hg hat); replace HB := Aside0.mk (hb); have HO542 := Aside0.mk (ho); clear HO536; clear ho hb hg hat; obtain ⟨Ao44, co44, eo44⟩ := Kd.R_slice HO542.out; subst eo44) | ((with_reducible refine gate_dst (N := 8) rfl ?_); (try (refine gate_guard (by rfl) ?_; dsimp only)); refine box_event ?hg (N := 8) ?hd (cs := #[.slice none 0 0]) (t := 68) ?hr ?_; (case hd => rfl); (case hg => rfl); (case hr => first | (go_simp; done) | (go_simp; rfl)); intro gb543 hg w45 hbox hb; replace HO497 := Aside0.mk (Kd.R_below (by (with_reducible repeat (first | apply Kd.R_alloc | apply Kd.R_drewN | apply Kd.R_drew)); exact HO497.out) hb); replace HO509 := Aside0.mk (Kd.R_below (by (with_reducible repeat (first | apply Kd.R_alloc | apply Kd.R_drewN | apply Kd.R_drew)); exact HO509.out) hb); replace HO522 := Aside0.mk (Kd.R_below (by (with_reducible repeat (first | apply Kd.R_alloc | apply Kd.R_drewN | apply Kd.R_drew)); exact HO522.out) hb); replace HO525 := Aside0.mk (Kd.R_below (by (with_reducible repeat (first | apply Kd.R_alloc | apply Kd.R_drewN | apply Kd.R_drew)); exact HO525.out) hb); replace HO529 := Aside0.mk (Kd.R_below (by (with_reducible repeat (first | apply Kd.R_alloc | apply Kd.R_drewN | apply Kd.R_drew)); exact HO529.out) hb); replace HO539 := Aside0.mk (Kd.R_below (by (with_reducible repeat (first | apply Kd.R_alloc | apply Kd.R_drewN | apply Kd.R_drew)); exact HO539.out) hb); replace HO542 := Aside0.mk (Kd.R_below (by (with_reducible repeat (first | apply Kd.R_alloc | apply Kd.R_drewN | apply Kd.R_drew)); exact HO542.out) hb); have BK543 := Aside0.mk (hbox); have GW543 := gs_ hg; have GE543 := gs_ hg; replace HB := hbs_ hb; have NB526_543 := Aside0.mk ((by rw [hg]; exact Nat.ne_of_lt (blk_lt (g := gb526) (o := .cells #[.slice Ao29 t523.length co29] 68 (0, 0)) (bk_ BK526)) : gb526 ≠ gb543)); have NB543_526 := Aside0.mk ((by rw [hg]; exact Nat.ne_of_gt (blk_lt (g := gb526) (o := .cells #[.slice Ao29 t523.length co29] 68 (0, 0)) (bk_ BK526)) : gb543 ≠ gb526)); replace BK526 := bkb_ BK526 hb; have NB530_543 := Aside0.mk ((by rw [hg]; exact Nat.ne_of_lt (blk_lt (g := gb530) (o := .cells #[.slice Ao33 t527.length co33] 68 (0, 0)) (bk_ BK530)) : gb530 ≠ gb543)); have NB543_530 := Aside0.mk ((by rw [hg]; exact Nat.ne_of_gt (blk_lt (g := gb530) (o := .cells #[.slice Ao33 t527.length co33] 68 (0, 0)) (bk_ BK530)) : gb543 ≠ gb530)); replace BK530 := bkb_ BK530 hb; clear hb hbox hg; have hnb46 := NB543_526.out; have hnc46 := NB526_543.out; have hnb47 := NB543_530.out; have hnc47 := NB530_543.out; have hcz48 := blk_cell BK543.out; have hfz48 := blk_frozen BK543.out; have hcz49 := blk_cell BK530.out; have hfz49 := blk_frozen BK530.out) | ((with_reducible refine gate_callee (f := 45) rfl ?_); refine goesC_ (some 47) Try.func45 #[.agg #[.slice Ao33 t527.length co33]] ?_; (with_reducible refine (impl_PolicyText.calls k _ _ t527 t544 _ ?side1 ?side2 A13.out).mono ?_); (case side1 => refine (Kd.R_reads' (e := 71) (base := w.heap.size) (ok := fun k_ => ((some k_ ≠ (.slice Ao29 t523.length co29 : Value).ownBlock ∧ some k_ ≠ (.slice Ao43 y537.length co43 : Value).ownBlock) ∧ some k_ ≠ (.slice Ao44 y540.length co44 : Value).ownBlock)) (n := t527.length) (c := co33) ?_).2.2; exact (by (with_reducible repeat (first | apply Kd.R_alloc | apply Kd.R_drewN | apply Kd.R_drew)); exact (Kd.R_mono (Kd.R_far (p := ⟨gb543, 0, none⟩) (Kd.R_types HO529.out BK543.out (by decide)) (fun _ hk => hk.2) (.slice Ao44 y540.length co44)) (fun _ h_ => h_.1)))); (case side2 => exact (Kd.R_reads' HO529.out).2.1); rintro e w50 ⟨rfl, hb⟩; refine ⟨_, rfl, ?_⟩; replace HO497 := Aside0.mk (Kd.R_below (by (with_reducible repeat (first | apply Kd.R_alloc | apply Kd.R_drewN | apply Kd.R_drew)); exact (Kd.R_mono (Kd.R_far (p := ⟨gb543, 0, none⟩) (Kd.R_types HO497.out BK543.out (by decide)) (fun _ hk => hk.2) (.slice Ao44 y540.length co44)) (fun _ h_ => h_.1))) hb); replace HO509 := Aside0.mk (Kd.R_below (by (with_reducible repeat (first | apply Kd.R_alloc | apply Kd.R_drewN | apply Kd.R_drew)); exact (Kd.R_mono (Kd.R_far (p := ⟨gb543, 0, none⟩) (Kd.R_types HO509.out BK543.out (by decide)) (fun _ hk => hk.2) (.slice Ao44 y540.length co44)) (fun _ h_ => h_.1))) hb); replace HO522 := Aside0.mk (Kd.R_below (by (with_reducible repeat (first | apply Kd.R_alloc | apply Kd.R_drewN | apply Kd.R_drew)); exact (Kd.R_mono (Kd.R_far (p := ⟨gb543, 0, none⟩) (Kd.R_types HO522.out BK543.out (by decide)) (fun _ hk => hk.2) (.slice Ao44 y540.length co44)) (fun _ h_ => h_.1))) hb); replace HO525 := Aside0.mk (Kd.R_below (by (with_reducible repeat (first | apply Kd.R_alloc | apply Kd.R_drewN | apply Kd.R_drew)); exact (Kd.R_mono (Kd.R_far (p := ⟨gb543, 0, none⟩) (Kd.R_types HO525.out BK543.out (by decide)) (fun _ hk => hk.2) (.slice Ao44 y540.length co44)) (fun _ h_ => h_.1))) hb); replace HO529 := Aside0.mk (Kd.R_below (by (with_reducible repeat (first | apply Kd.R_alloc | apply Kd.R_drewN | apply Kd.R_drew)); exact (Kd.R_mono (Kd.R_far (p := ⟨gb543, 0, none⟩) (Kd.R_types HO529.out BK543.out (by decide)) (fun _ hk => hk.2) (.slice Ao44 y540.length co44)) (fun _ h_ => h_.1))) hb); replace HO539 := Aside0.mk (Kd.R_below (by (with_reducible repeat (first | apply Kd.R_alloc | apply Kd.R_drewN | apply Kd.R_drew)); exact (Kd.R_mono (Kd.R_far (p := ⟨gb543, 0, none⟩) (Kd.R_types HO539.out BK543.out (by decide)) (fun _ hk => hk.2) (.slice Ao44 y540.length co44)) (fun _ h_ => h_.1))) hb); replace HO542 := Aside0.mk (Kd.R_below (by (with_reducible repeat (first | apply Kd.R_alloc | apply Kd.R_drewN | apply Kd.R_drew)); exact (Kd.R_mono (Kd.R_far (p := ⟨gb543, 0, none⟩) (Kd.R_types HO542.out BK543.out (by decide)) (fun _ hk => hk.2) (.slice Ao44 y540.length co44)) (fun _ h_ => h_.1))) hb); replace BK526 := Aside0.mk (blk_below (g := gb526) (o := .cells #[.slice Ao29 t523.length co29] 68 (0, 0)) (bk_ BK526) hb); replace BK530 := Aside0.mk (blk_below (g := gb530) (o := .cells #[.slice Ao33 t527.length co33] 68 (0, 0)) (bk_ BK530) hb); replace BK543 := Aside0.mk (blk_below (g := gb543) (o := .cells #[.slice Ao44 y540.length co44] 68 (0, 0)) (bk_ BK543) hb); replace HB := hbs_ hb; clear hb) | ((with_reducible refine gate_callee (f := 44) rfl ?_); refine goesC_ (some 48) Try.func44 #[.string t544] ?_; (with_reducible refine (impl_ReadPolicy.calls k t544 t545 t548 _ A14.out).mono ?_); rintro e w51 ⟨v546, rfl, ho0, hb⟩; refine ⟨_, rfl, ?_⟩; replace HO497 := Aside0.mk (Kd.R_below (by (with_reducible repeat (first | apply Kd.R_alloc | apply Kd.R_drewN | apply Kd.R_drew)); exact HO497.out) hb); replace HO509 := Aside0.mk (Kd.R_below (by (with_reducible repeat (first | apply Kd.R_alloc | apply Kd.R_drewN | apply Kd.R_drew)); exact HO509.out) hb); replace HO522 := Aside0.mk (Kd.R_below (by (with_reducible repeat (first | apply Kd.R_alloc | apply Kd.R_drewN | apply Kd.R_drew)); exact HO522.out) hb); have HO547 := Aside0.mk (Kd.R_lower (Kd.R_new' (Kd.R_new' (Kd.R_new' (Kd.R_new' ho0 (Kd.R_lt (by (with_reducible repeat (first | apply Kd.R_alloc | apply Kd.R_drewN | apply Kd.R_drew)); exact HO525.out))) (Kd.R_lt (by (with_reducible repeat (first | apply Kd.R_alloc | apply Kd.R_drewN | apply Kd.R_drew)); exact HO529.out))) (Kd.R_lt (by (with_reducible repeat (first | apply Kd.R_alloc | apply Kd.R_drewN | apply Kd.R_drew)); exact HO539.out))) (Kd.R_lt (by (with_reducible repeat (first | apply Kd.R_alloc | apply Kd.R_drewN | apply Kd.R_drew)); exact HO542.out))) bls_); replace HO525 := Aside0.mk (Kd.R_elder' (by (with_reducible repeat (first | apply Kd.R_alloc | apply Kd.R_drewN | apply Kd.R_drew)); exact HO525.out) (Kd.R_base ho0) hb); replace HO529 := Aside0.mk (Kd.R_elder' (by (with_reducible repeat (first | apply Kd.R_alloc | apply Kd.R_drewN | apply Kd.R_drew)); exact HO529.out) (Kd.R_base ho0) hb); replace HO539 := Aside0.mk (Kd.R_elder' (by (with_reducible repeat (first | apply Kd.R_alloc | apply Kd.R_drewN | apply Kd.R_drew)); exact HO539.out) (Kd.R_base ho0) hb); replace HO542 := Aside0.mk (Kd.R_elder' (by (with_reducible repeat (first | apply Kd.R_alloc | apply Kd.R_drewN | apply Kd.R_drew)); exact HO542.out) (Kd.R_base ho0) hb); replace BK526 := bkb_ BK526 hb; replace BK530 := bkb_ BK530 hb; replace BK543 := bkb_ BK543 hb; replace HB := hbs_ hb; (try clear hb); (try clear hb2); (try clear hk); (try clear hi); (try clear ho0)) | ((with_reducible refine gate_dst (N := 9) rfl ?_); (try (refine gate_guard (by rfl) ?_; dsimp only)); refine box_event ?hg (N := 9) ?hd (cs := #[.slice none 0 0]) (t := 68) ?hr ?_; (case hd => rfl); (case hg => rfl); (case hr => first | (go_simp; done) | (go_simp; rfl)); intro gb549 hg w52 hbox hb; replace HO497 := Aside0.mk (Kd.R_below (by (with_reducible repeat (first | apply Kd.R_alloc | apply Kd.R_drewN | apply Kd.R_drew)); exact HO497.out) hb); replace HO509 := Aside0.mk (Kd.R_below (by (with_reducible repeat (first | apply Kd.R_alloc | apply Kd.R_drewN | apply Kd.R_drew)); exact HO509.out) hb); replace HO522 := Aside0.mk (Kd.R_below (by (with_reducible repeat (first | apply Kd.R_alloc | apply Kd.R_drewN | apply Kd.R_drew)); exact HO522.out) hb); replace HO525 := Aside0.mk (Kd.R_below (by (with_reducible repeat (first | apply Kd.R_alloc | apply Kd.R_drewN | apply Kd.R_drew)); exact HO525.out) hb); replace HO529 := Aside0.mk (Kd.R_below (by (with_reducible repeat (first | apply Kd.R_alloc | apply Kd.R_drewN | apply Kd.R_drew)); exact HO529.out) hb); replace HO539 := Aside0.mk (Kd.R_below (by (with_reducible repeat (first | apply Kd.R_alloc | apply Kd.R_drewN | apply Kd.R_drew)); exact HO539.out) hb); replace HO542 := Aside0.mk (Kd.R_below (by (with_reducible repeat (first | apply Kd.R_alloc | apply Kd.R_drewN | apply Kd.R_drew)); exact HO542.out) hb); replace HO547 := Aside0.mk (Kd.R_below (by (with_reducible repeat (first | apply Kd.R_alloc | apply Kd.R_drewN | apply Kd.R_drew)); exact HO547.out) hb); have BK549 := Aside0.mk (hbox); have GW549 := gs_ hg; have GE549 := gs_ hg; replace HB := hbs_ hb; have NB526_549 := Aside0.mk ((by rw [hg]; exact Nat.ne_of_lt (blk_lt (g := gb526) (o := .cells #[.slice Ao29 t523.length co29] 68 (0, 0)) (bk_ BK526)) : gb526 ≠ gb549)); have NB549_526 := Aside0.mk ((by rw [hg]; exact Nat.ne_of_gt (blk_lt (g := gb526) (o := .cells #[.slice Ao29 t523.length co29] 68 (0, 0)) (bk_ BK526)) : gb549 ≠ gb526)); replace BK526 := bkb_ BK526 hb; have NB530_549 := Aside0.mk ((by rw [hg]; exact Nat.ne_of_lt (blk_lt (g := gb530) (o := .cells #[.slice Ao33 t527.length co33] 68 (0, 0)) (bk_ BK530)) : gb530 ≠ gb549)); have NB549_530 := Aside0.mk ((by rw [hg]; exact Nat.ne_of_gt (blk_lt (g := gb530) (o := .cells #[.slice Ao33 t527.length co33] 68 (0, 0)) (bk_ BK530)) : gb549 ≠ gb530)); replace BK530 := bkb_ BK530 hb; have NB543_549 := Aside0.mk ((by rw [hg]; exact Nat.ne_of_lt (blk_lt (g := gb543) (o := .cells #[.slice Ao44 y540.length co44] 68 (0, 0)) (bk_ BK543)) : gb543 ≠ gb549)); have NB549_543 := Aside0.mk ((by rw [hg]; exact Nat.ne_of_gt (blk_lt (g := gb543) (o := .cells #[.slice Ao44 y540.length co44] 68 (0, 0)) (bk_ BK543)) : gb549 ≠ gb543)); replace BK543 := bkb_ BK543 hb; clear hb hbox hg; obtain ⟨Ao53, co53, eo53⟩ := Kd.R_slice HO547.out; subst eo53; have hnb54 := NB549_526.out; have hnc54 := NB526_549.out; have hnb55 := NB549_530.out; have hnc55 := NB530_549.out; have hnb56 := NB549_543.out; have hnc56 := NB543_549.out; have hcz57 := blk_cell BK549.out; have hfz57 := blk_frozen BK549.out; have hcz58 := blk_cell BK530.out; have hfz58 := blk_frozen BK530.out) | ((with_reducible refine gate_callee (f := 46) rfl ?_); refine goesC_ (some 52) Try.func46 #[.agg #[.slice Ao33 t527.length co33]] ?_; (with_reducible refine (impl_PolicyRoles.calls k _ _ t527 t550 _ ?side1 ?side2 A15.out).mono ?_); (case side1 => refine (Kd.R_reads' (e := 71) (base := w.heap.size) (ok := fun k_ => (((some k_ ≠ (.slice Ao29 t523.length co29 : Value).ownBlock ∧ some k_ ≠ (.slice Ao43 y537.length co43 : Value).ownBlock) ∧ some k_ ≠ (.slice Ao44 y540.length co44 : Value).ownBlock) ∧ some k_ ≠ (.slice Ao53 t545.length co53 : Value).ownBlock)) (n := t527.length) (c := co33) ?_).2.2; exact (by (with_reducible repeat (first | apply Kd.R_alloc | apply Kd.R_drewN | apply Kd.R_drew)); exact (Kd.R_mono (Kd.R_far (p := ⟨gb549, 0, none⟩) (Kd.R_types HO529.out BK549.out (by decide)) (fun _ hk => hk.2) (.slice Ao53 t545.length co53)) (fun _ h_ => h_.1)))); (case side2 => exact (Kd.R_reads' HO529.out).2.1); rintro e w59 ⟨v551, rfl, ho0, hb⟩; refine ⟨_, rfl, ?_⟩; replace HO497 := Aside0.mk (Kd.R_below (by (with_reducible repeat (first | apply Kd.R_alloc | apply Kd.R_drewN | apply Kd.R_drew)); exact (Kd.R_mono (Kd.R_far (p := ⟨gb549, 0, none⟩) (Kd.R_types HO497.out BK549.out (by decide)) (fun _ hk => hk.2) (.slice Ao53 t545.length co53)) (fun _ h_ => h_.1))) hb); replace HO509 := Aside0.mk (Kd.R_below (by (with_reducible repeat (first | apply Kd.R_alloc | apply Kd.R_drewN | apply Kd.R_drew)); exact (Kd.R_mono (Kd.R_far (p := ⟨gb549, 0, none⟩) (Kd.R_types HO509.out BK549.out (by decide)) (fun _ hk => hk.2) (.slice Ao53 t545.length co53)) (fun _ h_ => h_.1))) hb); replace HO522 := Aside0.mk (Kd.R_below (by (with_reducible repeat (first | apply Kd.R_alloc | apply Kd.R_drewN | apply Kd.R_drew)); exact (Kd.R_mono (Kd.R_far (p := ⟨gb549, 0, none⟩) (Kd.R_types HO522.out BK549.out (by decide)) (fun _ hk => hk.2) (.slice Ao53 t545.length co53)) (fun _ h_ => h_.1))) hb); replace HO525 := Aside0.mk (Kd.R_below (by (with_reducible repeat (first | apply Kd.R_alloc | apply Kd.R_drewN | apply Kd.R_drew)); exact (Kd.R_mono (Kd.R_far (p := ⟨gb549, 0, none⟩) (Kd.R_types HO525.out BK549.out (by decide)) (fun _ hk => hk.2) (.slice Ao53 t545.length co53)) (fun _ h_ => h_.1))) hb); replace HO529 := Aside0.mk (Kd.R_below (by (with_reducible repeat (first | apply Kd.R_alloc | apply Kd.R_drewN | apply Kd.R_drew)); exact (Kd.R_mono (Kd.R_far (p := ⟨gb549, 0, none⟩) (Kd.R_types HO529.out BK549.out (by decide)) (fun _ hk => hk.2) (.slice Ao53 t545.length co53)) (fun _ h_ => h_.1))) hb); replace HO539 := Aside0.mk (Kd.R_below (by (with_reducible repeat (first | apply Kd.R_alloc | apply Kd.R_drewN | apply Kd.R_drew)); exact (Kd.R_mono (Kd.R_far (p := ⟨gb549, 0, none⟩) (Kd.R_types HO539.out BK549.out (by decide)) (fun _ hk => hk.2) (.slice Ao53 t545.length co53)) (fun _ h_ => h_.1))) hb); replace HO542 := Aside0.mk (Kd.R_below (by (with_reducible repeat (first | apply Kd.R_alloc | apply Kd.R_drewN | apply Kd.R_drew)); exact (Kd.R_mono (Kd.R_far (p := ⟨gb549, 0, none⟩) (Kd.R_types HO542.out BK549.out (by decide)) (fun _ hk => hk.2) (.slice Ao53 t545.length co53)) (fun _ h_ => h_.1))) hb); replace HO547 := Aside0.mk (Kd.R_below (by (with_reducible repeat (first | apply Kd.R_alloc | apply Kd.R_drewN | apply Kd.R_drew)); exact (Kd.R_mono (Kd.R_far (p := ⟨gb549, 0, none⟩) (Kd.R_types HO547.out BK549.out (by decide)) (fun _ hk => hk.2) (.slice Ao53 t545.length co53)) (fun _ h_ => h_.1))) hb); have HO552 := Aside0.mk (Kd.R_lower ho0 bls_); replace BK526 := Aside0.mk (blk_below (g := gb526) (o := .cells #[.slice Ao29 t523.length co29] 68 (0, 0)) (bk_ BK526) hb); replace BK530 := Aside0.mk (blk_below (g := gb530) (o := .cells #[.slice Ao33 t527.length co33] 68 (0, 0)) (bk_ BK530) hb); replace BK543 := Aside0.mk (blk_below (g := gb543) (o := .cells #[.slice Ao44 y540.length co44] 68 (0, 0)) (bk_ BK543) hb); replace BK549 := Aside0.mk (blk_below (g := gb549) (o := .cells #[.slice Ao53 t545.length co53] 68 (0, 0)) (bk_ BK549) hb); replace HB := hbs_ hb; (try clear hb); (try clear hb2); (try clear hk); (try clear hi); (try clear ho0)))
       go_loopg [12] k (fun kq v12 w' => ∃ (x12_1 : Int), v12 = .int .i64 x12_1 ∧ Aside0 (laws_FnPolicies.l0 kq t495 y520 (t527.length : Int) t548 t550 x12_1 t523 t527 y540 t545 = some r) ∧ Aside0 (kq ≤ k) ∧ Aside0 (Kd.R k46 46 w' w.heap.size (fun k_ => some k_ ≠ (v521 : Value).ownBlock) (.slice Ao20 t495.length co20) t495) ∧ Aside0 (Kd.R k46 46 w' w.heap.size (fun k_ => some k_ ≠ ((.slice Ao20 t495.length co20) : Value).ownBlock) v521 y520) ∧ Aside0 (Kd.R k27 27 w' w.heap.size (fun _ => True) v551 t550) ∧ Aside0 (Kd.R k71 71 w' w.heap.size (fun k_ => some k_ ≠ ((.slice Ao33 t527.length co33) : Value).ownBlock ∧ some k_ ≠ ((.slice Ao44 y540.length co44) : Value).ownBlock ∧ some k_ ≠ ((.slice Ao53 t545.length co53) : Value).ownBlock) (.slice Ao29 t523.length co29) t523) ∧ Aside0 (Kd.R k71 71 w' w.heap.size (fun k_ => some k_ ≠ ((.slice Ao29 t523.length co29) : Value).ownBlock ∧ some k_ ≠ ((.slice Ao44 y540.length co44) : Value).ownBlock ∧ some k_ ≠ ((.slice Ao53 t545.length co53) : Value).ownBlock) (.slice Ao33 t527.length co33) t527) ∧ Aside0 (Kd.R k71 71 w' w.heap.size (fun k_ => some k_ ≠ ((.slice Ao29 t523.length co29) : Value).ownBlock ∧ some k_ ≠ ((.slice Ao33 t527.length co33) : Value).ownBlock ∧ some k_ ≠ ((.slice Ao53 t545.length co53) : Value).ownBlock) (.slice Ao44 y540.length co44) y540) ∧ Aside0 (Kd.R k71 71 w' w.heap.size (fun k_ => some k_ ≠ ((.slice Ao29 t523.length co29) : Value).ownBlock ∧ some k_ ≠ ((.slice Ao33 t527.length co33) : Value).ownBlock ∧ some k_ ≠ ((.slice Ao44 y540.length co44) : Value).ownBlock) (.slice Ao53 t545.length co53) t545) ∧ Aside0 (w'.heap[gb526]? = some (.cells #[(.slice Ao29 t523.length co29)] 68 (0, 0))) ∧ Aside0 (w'.heap[gb530]? = some (.cells #[(.slice Ao33 t527.length co33)] 68 (0, 0))) ∧ Aside0 (w'.heap[gb543]? = some (.cells #[(.slice Ao44 y540.length co44)] 68 (0, 0))) ∧ Aside0 (w'.heap[gb549]? = some (.cells #[(.slice Ao53 t545.length co53)] 68 (0, 0))) ∧ Aside0 (Below w.heap.size w w'))
       case atStart => exact ⟨(0), (by first | rfl | (simp; done) | (simp [*]; done)), H', ⟨Nat.le_refl _⟩, ⟨by (with_reducible repeat (first | apply Kd.R_alloc | apply Kd.R_drewN | apply Kd.R_drew)); exact Kd.R_mono HO497.out (fun _ hk => hk.2)⟩, ⟨by (with_reducible repeat (first | apply Kd.R_alloc | apply Kd.R_drewN | apply Kd.R_drew)); exact HO522.out⟩, ⟨by (with_reducible repeat (first | apply Kd.R_alloc | apply Kd.R_drewN | apply Kd.R_drew)); exact HO552.out⟩, ⟨by (with_reducible repeat (first | apply Kd.R_alloc | apply Kd.R_drewN | apply Kd.R_drew)); exact Kd.R_mono HO525.out (fun _ hk => ⟨hk.1.1.1, ⟨hk.1.2, hk.2⟩⟩)⟩, ⟨by (with_reducible repeat (first | apply Kd.R_alloc | apply Kd.R_drewN | apply Kd.R_drew)); exact Kd.R_mono HO529.out (fun _ hk => ⟨hk.1.1.1, ⟨hk.1.2, hk.2⟩⟩)⟩, ⟨by (with_reducible repeat (first | apply Kd.R_alloc | apply Kd.R_drewN | apply Kd.R_drew)); exact Kd.R_mono HO542.out (fun _ hk => ⟨hk.1.1, ⟨hk.1.2.1, hk.2⟩⟩)⟩, ⟨by (with_reducible repeat (first | apply Kd.R_alloc | apply Kd.R_drewN | apply Kd.R_drew)); exact Kd.R_mono HO547.out (fun _ hk => ⟨hk.1.1.1.2, ⟨hk.1.1.2, hk.2⟩⟩)⟩, ⟨bk_ BK526⟩, ⟨bk_ BK530⟩, ⟨bk_ BK543⟩, ⟨bk_ BK549⟩, ⟨bl_⟩⟩
       case round =>
        clear H'
        try clear c1
        try clear p2
        try clear c3
        try clear c4
        try clear c5
        try clear c6
        try clear p6
        try clear c7
        try clear c8
        try clear c11
        try clear c12
        try clear c14
        try clear c15
        try clear c34
        try clear c42
        try clear c43
        try clear c44
        try clear c45
        try clear c46
        try clear c47
        try clear c54
        try clear c55
        try clear c56
        try clear hcz30
        try clear hcz35
        try clear hcz38
        try clear hcz48
        try clear hcz49
        try clear hcz57
        try clear hcz58
        try clear hfz30
        try clear hfz35
        try clear hfz38
        try clear hfz48
        try clear hfz49
        try clear hfz57
        try clear hfz58
        obtain ⟨x12_1, rfl, HA, HK1, HO_3, HO_4, HO_11, HO_527000, HO_531000, HO_544000, HO_550000, BK526, BK530, BK543, BK549, HB⟩ := hrel
        cases gk with
        | zero => exact absurd HA.out (by simp [laws_FnPolicies.l0])
        | succ k1 =>
         have H := HA.out
         clear HA
         simp only [laws_FnPolicies.l0] at H
         by_cases c60 : x12_1 < 6
         ·rw [if_pos c60] at H
          have c60b0 : decide (x12_1 < 6) = true := decide_eq_true c60
          clear c60
          obtain ⟨t553, A61, H⟩ := bindE_ H
          by_cases c62 : t553 = true
          ·subst c62
           replace H := ite_t_ H
           obtain ⟨t554, A63, H⟩ := bindE_ H
           by_cases c64 : t554 = true
           ·subst c64
            replace H := ite_t_ H
            obtain ⟨t555, A65, H⟩ := bindE_ H
            obtain ⟨t556, A66, H⟩ := bindE_ H
            by_cases c67 : (t555 != t556) = true
            ·rw [if_pos c67] at H
             have c67b0 : (t555 != t556) = true := c67
             (try (have c67b1 : decide (t555 = t556) = false := by simpa using c67))
             (try (have c67b2 : (t555 == t556) = false := by simpa using c67))
             (try (have c67b3 : ¬ (t555 = t556) := by simpa using c67))
             clear c67
             obtain rfl := Option.some.inj H
             try go_wp2
             replace HO_3 := Aside0.mk (Kd.R_drew HO_3.out)
             replace HO_4 := Aside0.mk (Kd.R_drew HO_4.out)
             replace HO_11 := Aside0.mk (Kd.R_drew HO_11.out)
             replace HO_527000 := Aside0.mk (Kd.R_drew HO_527000.out)
             replace HO_531000 := Aside0.mk (Kd.R_drew HO_531000.out)
             replace HO_544000 := Aside0.mk (Kd.R_drew HO_544000.out)
             replace HO_550000 := Aside0.mk (Kd.R_drew HO_550000.out)
             replace BK526 := Aside0.mk (blk_drew BK526.out)
             replace BK530 := Aside0.mk (blk_drew BK530.out)
             replace BK543 := Aside0.mk (blk_drew BK543.out)
             replace BK549 := Aside0.mk (blk_drew BK549.out)
             replace HB := Aside0.mk (below_drew1 HB.out)
             refine start_ (n := 22) (S := fun w' => w'.cell? ⟨gb526, 0, none⟩ = some (.slice Ao29 t523.length co29) ∧ w'.cell? ⟨gb543, 0, none⟩ = some (.slice Ao44 y540.length co44) ∧ w'.cell? ⟨gb530, 0, none⟩ = some (.slice Ao33 t527.length co33)) (ds := []) #[false, false, false, false, false, false, false, false, false, false, false, false, false, false, false, false, false, false, false, false, false, false] (by kernel_rfl) rfl rfl ⟨(blk_cell BK526.out 0).trans rfl, (blk_cell BK543.out 0).trans rfl, (blk_cell BK530.out 0).trans rfl⟩ (fun hHeld => ?_); refine with_tabW laws_FnPolicies.tab14 laws_FnPolicies.bits14 (fun HT_ HW_ => ?_)
             generalize wr.drew = w68 at HO_3 HO_4 HO_11 HO_527000 HO_531000 HO_544000 HO_550000 BK526 BK530 BK543 BK549 HB hHeld ⊢
             refine pureZ_ (i := 0) (some 57) #[true, false, false, false, false, false, false, false, false, false, false, false, false, false, false, false, false, false, false, false, false, false] (any_of HT_.out (by kernel_rfl)) ?_
             refine pureZ_ (i := 2) (some 59) #[true, false, true, false, false, false, false, false, false, false, false, false, false, false, false, false, false, false, false, false, false, false] (any_of HT_.out (by kernel_rfl)) ?_
             refine takeZ_ (i := 1) (some 58) #[true, true, true, false, false, false, false, false, false, false, false, false, false, false, false, false, false, false, false, false, false, false] (take_ofW HT_.out HW_.out (by kernel_rfl)) hHeld ?_
             refine one_ (i := 3) (N := some 60) #[true, true, true, true, false, false, false, false, false, false, false, false, false, false, false, false, false, false, false, false, false, false] rfl rfl (one_of HT_.out (by kernel_rfl)) (by decide) (fun K hK => ?_)
             refine goes_ Try.func47 (by kernel_rfl) rfl #[.slice Ao20 t495.length co20, .agg #[.slice Ao29 t523.length co29], .int .i64 x12_1] (by rfl) rfl rfl (by (try simp only [List.map_toArray, List.map_cons, List.map_nil]); first | done | rfl | (simp only [List.length_drop, List.length_take]; rfl)) ?_
             with_reducible refine (impl_Decides.calls k1 _ _ t495 _ _ t523 x12_1 true _ ?side1 ?side2 ?side3 ?side4 A61.out).mono ?_
             (case side1 => repeat (first | exact (Kd.R_reads' HO_3.out).2.2 | (with_reducible refine Kd.C_alloc ?_ _) | (with_reducible refine Kd.C_drewN ?_ _) | (with_reducible refine Kd.C_drew ?_)))
             (case side2 => exact (Kd.R_reads' HO_3.out).2.1)
             (case side3 => repeat (first | exact (Kd.R_reads' HO_527000.out).2.2 | (with_reducible refine Kd.C_alloc ?_ _) | (with_reducible refine Kd.C_drewN ?_ _) | (with_reducible refine Kd.C_drew ?_)))
             (case side4 => exact (Kd.R_reads' HO_527000.out).2.1)
             rintro e w69 ⟨rfl, hb⟩
             refine ⟨_, rfl, ?_⟩
             replace HO_3 := Aside0.mk (Kd.R_below (by (with_reducible repeat (first | apply Kd.R_alloc | apply Kd.R_drewN | apply Kd.R_drew)); exact HO_3.out) hb)
             replace HO_4 := Aside0.mk (Kd.R_below (by (with_reducible repeat (first | apply Kd.R_alloc | apply Kd.R_drewN | apply Kd.R_drew)); exact HO_4.out) hb)
             replace HO_11 := Aside0.mk (Kd.R_below (by (with_reducible repeat (first | apply Kd.R_alloc | apply Kd.R_drewN | apply Kd.R_drew)); exact HO_11.out) hb)
             replace HO_527000 := Aside0.mk (Kd.R_below (by (with_reducible repeat (first | apply Kd.R_alloc | apply Kd.R_drewN | apply Kd.R_drew)); exact HO_527000.out) hb)
             replace HO_531000 := Aside0.mk (Kd.R_below (by (with_reducible repeat (first | apply Kd.R_alloc | apply Kd.R_drewN | apply Kd.R_drew)); exact HO_531000.out) hb)
             replace HO_544000 := Aside0.mk (Kd.R_below (by (with_reducible repeat (first | apply Kd.R_alloc | apply Kd.R_drewN | apply Kd.R_drew)); exact HO_544000.out) hb)
             replace HO_550000 := Aside0.mk (Kd.R_below (by (with_reducible repeat (first | apply Kd.R_alloc | apply Kd.R_drewN | apply Kd.R_drew)); exact HO_550000.out) hb)
             replace BK526 := bkb_ BK526 hb
             replace BK530 := bkb_ BK530 hb
             replace BK543 := bkb_ BK543 hb
             replace BK549 := bkb_ BK549 hb
             replace HB := hbs_ hb
             (try clear hb)
             (try clear hb2)
             (try clear hk)
             (try clear hi)
             obtain ⟨Ao70, co70, eo70⟩ := Kd.R_slice HO_4.out
             (first | subst eo70 | (injection eo70 with f1_ f2_ f3_; have f4_ := f1_.symm; have f5_ := f3_.symm; clear f1_ f2_ f3_; subst f4_; subst f5_))
             refine hK.out _ _ ⟨(blk_cell BK526.out 0).trans rfl, (blk_cell BK543.out 0).trans rfl, (blk_cell BK530.out 0).trans rfl⟩ (fun hHeld => ?_)
             clear hK K
             refine norm_ (a' := ?_) ?_ ?_
             rotate_left
             ·show Act.put _ (some 60) _ = _
              simp only [Act.put, List.setIfInBounds_toArray, List.set_cons_zero, List.set_cons_succ, i64_w, i32_w]
              rfl
             refine pureZ_ (i := 4) (some 61) #[true, true, true, true, true, false, false, false, false, false, false, false, false, false, false, false, false, false, false, false, false, false] (any_of HT_.out (by kernel_rfl)) ?_
             refine pureZ_ (i := 5) (some 62) #[true, true, true, true, true, true, false, false, false, false, false, false, false, false, false, false, false, false, false, false, false, false] (any_of HT_.out (by kernel_rfl)) ?_
             refine pureZ_ (i := 7) (some 64) #[true, true, true, true, true, true, false, true, false, false, false, false, false, false, false, false, false, false, false, false, false, false] (any_of HT_.out (by kernel_rfl)) ?_
             refine takeZ_ (i := 6) (some 63) #[true, true, true, true, true, true, true, true, false, false, false, false, false, false, false, false, false, false, false, false, false, false] (take_ofW HT_.out HW_.out (by kernel_rfl)) hHeld ?_
             refine one_ (i := 8) (N := some 65) #[true, true, true, true, true, true, true, true, true, false, false, false, false, false, false, false, false, false, false, false, false, false] rfl rfl (one_of HT_.out (by kernel_rfl)) (by decide) (fun K hK => ?_)
             refine goes_ Try.func47 (by kernel_rfl) rfl #[.slice Ao70 y520.length co70, .agg #[.slice Ao29 t523.length co29], .int .i64 x12_1] (by rfl) rfl rfl (by (try simp only [List.map_toArray, List.map_cons, List.map_nil]); first | done | rfl | (simp only [List.length_drop, List.length_take]; rfl)) ?_
             with_reducible refine (impl_Decides.calls k1 _ _ y520 _ _ t523 x12_1 true _ ?side1 ?side2 ?side3 ?side4 A63.out).mono ?_
             (case side1 => repeat (first | exact (Kd.R_reads' HO_4.out).2.2 | (with_reducible refine Kd.C_alloc ?_ _) | (with_reducible refine Kd.C_drewN ?_ _) | (with_reducible refine Kd.C_drew ?_)))
             (case side2 => exact (Kd.R_reads' HO_4.out).2.1)
             (case side3 => repeat (first | exact (Kd.R_reads' HO_527000.out).2.2 | (with_reducible refine Kd.C_alloc ?_ _) | (with_reducible refine Kd.C_drewN ?_ _) | (with_reducible refine Kd.C_drew ?_)))
             (case side4 => exact (Kd.R_reads' HO_527000.out).2.1)
             rintro e w71 ⟨rfl, hb⟩
             refine ⟨_, rfl, ?_⟩
             replace HO_3 := Aside0.mk (Kd.R_below (by (with_reducible repeat (first | apply Kd.R_alloc | apply Kd.R_drewN | apply Kd.R_drew)); exact HO_3.out) hb)
             replace HO_4 := Aside0.mk (Kd.R_below (by (with_reducible repeat (first | apply Kd.R_alloc | apply Kd.R_drewN | apply Kd.R_drew)); exact HO_4.out) hb)
             replace HO_11 := Aside0.mk (Kd.R_below (by (with_reducible repeat (first | apply Kd.R_alloc | apply Kd.R_drewN | apply Kd.R_drew)); exact HO_11.out) hb)
             replace HO_527000 := Aside0.mk (Kd.R_below (by (with_reducible repeat (first | apply Kd.R_alloc | apply Kd.R_drewN | apply Kd.R_drew)); exact HO_527000.out) hb)
             replace HO_531000 := Aside0.mk (Kd.R_below (by (with_reducible repeat (first | apply Kd.R_alloc | apply Kd.R_drewN | apply Kd.R_drew)); exact HO_531000.out) hb)
             replace HO_544000 := Aside0.mk (Kd.R_below (by (with_reducible repeat (first | apply Kd.R_alloc | apply Kd.R_drewN | apply Kd.R_drew)); exact HO_544000.out) hb)
             replace HO_550000 := Aside0.mk (Kd.R_below (by (with_reducible repeat (first | apply Kd.R_alloc | apply Kd.R_drewN | apply Kd.R_drew)); exact HO_550000.out) hb)
             replace BK526 := bkb_ BK526 hb
             replace BK530 := bkb_ BK530 hb
             replace BK543 := bkb_ BK543 hb
             replace BK549 := bkb_ BK549 hb
             replace HB := hbs_ hb
             (try clear hb)
             (try clear hb2)
             (try clear hk)
             (try clear hi)
             refine hK.out _ _ ⟨(blk_cell BK526.out 0).trans rfl, (blk_cell BK543.out 0).trans rfl, (blk_cell BK530.out 0).trans rfl⟩ (fun hHeld => ?_)
             clear hK K
             refine norm_ (a' := ?_) ?_ ?_
             rotate_left
             ·show Act.put _ (some 65) _ = _
              simp only [Act.put, List.setIfInBounds_toArray, List.set_cons_zero, List.set_cons_succ, i64_w, i32_w]
              rfl
             refine pureZ_ (i := 9) (some 66) #[true, true, true, true, true, true, true, true, true, true, false, false, false, false, false, false, false, false, false, false, false, false] (any_of HT_.out (by kernel_rfl)) ?_
             refine pureZ_ (i := 10) (some 67) #[true, true, true, true, true, true, true, true, true, true, true, false, false, false, false, false, false, false, false, false, false, false] (any_of HT_.out (by kernel_rfl)) ?_
             refine pureZ_ (i := 11) (some 68) #[true, true, true, true, true, true, true, true, true, true, true, true, false, false, false, false, false, false, false, false, false, false] (any_of HT_.out (by kernel_rfl)) ?_
             refine pureZ_ (i := 12) (some 69) #[true, true, true, true, true, true, true, true, true, true, true, true, true, false, false, false, false, false, false, false, false, false] (any_of HT_.out (by kernel_rfl)) ?_
             refine pureZ_ (i := 14) (some 71) #[true, true, true, true, true, true, true, true, true, true, true, true, true, false, true, false, false, false, false, false, false, false] (any_of HT_.out (by kernel_rfl)) ?_
             refine pureZ_ (i := 16) (some 73) #[true, true, true, true, true, true, true, true, true, true, true, true, true, false, true, false, true, false, false, false, false, false] (any_of HT_.out (by kernel_rfl)) ?_
             refine pureZ_ (i := 18) (some 75) #[true, true, true, true, true, true, true, true, true, true, true, true, true, false, true, false, true, false, true, false, false, false] (any_of HT_.out (by kernel_rfl)) ?_
             refine takeZ_ (i := 13) (some 70) #[true, true, true, true, true, true, true, true, true, true, true, true, true, true, true, false, true, false, true, false, false, false] (take_ofW HT_.out HW_.out (by kernel_rfl)) hHeld ?_
             refine takeZ_ (i := 17) (some 74) #[true, true, true, true, true, true, true, true, true, true, true, true, true, true, true, false, true, true, true, false, false, false] (take_ofW HT_.out HW_.out (by kernel_rfl)) hHeld ?_
             refine one_ (i := 15) (N := some 72) #[true, true, true, true, true, true, true, true, true, true, true, true, true, true, true, true, true, true, true, false, false, false] rfl rfl (one_of HT_.out (by kernel_rfl)) (by decide) (fun K hK => ?_)
             refine goes_ Try.func47 (by kernel_rfl) rfl #[.slice Ao20 t495.length co20, .agg #[.slice Ao44 y540.length co44], .int .i64 x12_1] (by rfl) rfl rfl (by (try simp only [List.map_toArray, List.map_cons, List.map_nil]); first | done | rfl | (simp only [List.length_drop, List.length_take]; rfl)) ?_
             with_reducible refine (impl_Decides.calls k1 _ _ t495 _ _ y540 x12_1 t555 _ ?side1 ?side2 ?side3 ?side4 A65.out).mono ?_
             (case side1 => repeat (first | exact (Kd.R_reads' HO_3.out).2.2 | (with_reducible refine Kd.C_alloc ?_ _) | (with_reducible refine Kd.C_drewN ?_ _) | (with_reducible refine Kd.C_drew ?_)))
             (case side2 => exact (Kd.R_reads' HO_3.out).2.1)
             (case side3 => repeat (first | exact (Kd.R_reads' HO_544000.out).2.2 | (with_reducible refine Kd.C_alloc ?_ _) | (with_reducible refine Kd.C_drewN ?_ _) | (with_reducible refine Kd.C_drew ?_)))
             (case side4 => exact (Kd.R_reads' HO_544000.out).2.1)
             rintro e w72 ⟨rfl, hb⟩
             refine ⟨_, rfl, ?_⟩
             replace HO_3 := Aside0.mk (Kd.R_below (by (with_reducible repeat (first | apply Kd.R_alloc | apply Kd.R_drewN | apply Kd.R_drew)); exact HO_3.out) hb)
             replace HO_4 := Aside0.mk (Kd.R_below (by (with_reducible repeat (first | apply Kd.R_alloc | apply Kd.R_drewN | apply Kd.R_drew)); exact HO_4.out) hb)
             replace HO_11 := Aside0.mk (Kd.R_below (by (with_reducible repeat (first | apply Kd.R_alloc | apply Kd.R_drewN | apply Kd.R_drew)); exact HO_11.out) hb)
             replace HO_527000 := Aside0.mk (Kd.R_below (by (with_reducible repeat (first | apply Kd.R_alloc | apply Kd.R_drewN | apply Kd.R_drew)); exact HO_527000.out) hb)
             replace HO_531000 := Aside0.mk (Kd.R_below (by (with_reducible repeat (first | apply Kd.R_alloc | apply Kd.R_drewN | apply Kd.R_drew)); exact HO_531000.out) hb)
             replace HO_544000 := Aside0.mk (Kd.R_below (by (with_reducible repeat (first | apply Kd.R_alloc | apply Kd.R_drewN | apply Kd.R_drew)); exact HO_544000.out) hb)
             replace HO_550000 := Aside0.mk (Kd.R_below (by (with_reducible repeat (first | apply Kd.R_alloc | apply Kd.R_drewN | apply Kd.R_drew)); exact HO_550000.out) hb)
             replace BK526 := bkb_ BK526 hb
             replace BK530 := bkb_ BK530 hb
             replace BK543 := bkb_ BK543 hb
             replace BK549 := bkb_ BK549 hb
             replace HB := hbs_ hb
             (try clear hb)
             (try clear hb2)
             (try clear hk)
             (try clear hi)
             refine hK.out _ _ ⟨(blk_cell BK526.out 0).trans rfl, (blk_cell BK543.out 0).trans rfl, (blk_cell BK530.out 0).trans rfl⟩ (fun hHeld => ?_)
             clear hK K
             refine norm_ (a' := ?_) ?_ ?_
             rotate_left
             ·show Act.put _ (some 72) _ = _
              simp only [Act.put, List.setIfInBounds_toArray, List.set_cons_zero, List.set_cons_succ, i64_w, i32_w]
              rfl
             refine one_ (i := 19) (N := some 76) #[true, true, true, true, true, true, true, true, true, true, true, true, true, true, true, true, true, true, true, true, false, false] rfl rfl (one_of HT_.out (by kernel_rfl)) (by decide) (fun K hK => ?_)
             refine goes_ Try.func47 (by kernel_rfl) rfl #[.slice Ao20 t495.length co20, .agg #[.slice Ao33 t527.length co33], .int .i64 x12_1] (by rfl) rfl rfl (by (try simp only [List.map_toArray, List.map_cons, List.map_nil]); first | done | rfl | (simp only [List.length_drop, List.length_take]; rfl)) ?_
             with_reducible refine (impl_Decides.calls k1 _ _ t495 _ _ t527 x12_1 t556 _ ?side1 ?side2 ?side3 ?side4 A66.out).mono ?_
             (case side1 => repeat (first | exact (Kd.R_reads' HO_3.out).2.2 | (with_reducible refine Kd.C_alloc ?_ _) | (with_reducible refine Kd.C_drewN ?_ _) | (with_reducible refine Kd.C_drew ?_)))
             (case side2 => exact (Kd.R_reads' HO_3.out).2.1)
             (case side3 => repeat (first | exact (Kd.R_reads' HO_531000.out).2.2 | (with_reducible refine Kd.C_alloc ?_ _) | (with_reducible refine Kd.C_drewN ?_ _) | (with_reducible refine Kd.C_drew ?_)))
             (case side4 => exact (Kd.R_reads' HO_531000.out).2.1)
             rintro e w73 ⟨rfl, hb⟩
             refine ⟨_, rfl, ?_⟩
             replace HO_3 := Aside0.mk (Kd.R_below (by (with_reducible repeat (first | apply Kd.R_alloc | apply Kd.R_drewN | apply Kd.R_drew)); exact HO_3.out) hb)
             replace HO_4 := Aside0.mk (Kd.R_below (by (with_reducible repeat (first | apply Kd.R_alloc | apply Kd.R_drewN | apply Kd.R_drew)); exact HO_4.out) hb)
             replace HO_11 := Aside0.mk (Kd.R_below (by (with_reducible repeat (first | apply Kd.R_alloc | apply Kd.R_drewN | apply Kd.R_drew)); exact HO_11.out) hb)
             replace HO_527000 := Aside0.mk (Kd.R_below (by (with_reducible repeat (first | apply Kd.R_alloc | apply Kd.R_drewN | apply Kd.R_drew)); exact HO_527000.out) hb)
             replace HO_531000 := Aside0.mk (Kd.R_below (by (with_reducible repeat (first | apply Kd.R_alloc | apply Kd.R_drewN | apply Kd.R_drew)); exact HO_531000.out) hb)
             replace HO_544000 := Aside0.mk (Kd.R_below (by (with_reducible repeat (first | apply Kd.R_alloc | apply Kd.R_drewN | apply Kd.R_drew)); exact HO_544000.out) hb)
             replace HO_550000 := Aside0.mk (Kd.R_below (by (with_reducible repeat (first | apply Kd.R_alloc | apply Kd.R_drewN | apply Kd.R_drew)); exact HO_550000.out) hb)
             replace BK526 := bkb_ BK526 hb
             replace BK530 := bkb_ BK530 hb
             replace BK543 := bkb_ BK543 hb
             replace BK549 := bkb_ BK549 hb
             replace HB := hbs_ hb
             (try clear hb)
             (try clear hb2)
             (try clear hk)
             (try clear hi)
             refine hK.out _ _ ⟨(blk_cell BK526.out 0).trans rfl, (blk_cell BK543.out 0).trans rfl, (blk_cell BK530.out 0).trans rfl⟩ (fun hHeld => ?_)
             clear hK K
             refine norm_ (a' := ?_) ?_ ?_
             rotate_left
             ·show Act.put _ (some 76) _ = _
              simp only [Act.put, List.setIfInBounds_toArray, List.set_cons_zero, List.set_cons_succ, i64_w, i32_w]
              rfl
             refine pureZ_ (i := 20) (some 77) #[true, true, true, true, true, true, true, true, true, true, true, true, true, true, true, true, true, true, true, true, true, false] (any_of HT_.out (by kernel_rfl)) ?_
             refine pureZ_ (i := 21) (some 78) #[true, true, true, true, true, true, true, true, true, true, true, true, true, true, true, true, true, true, true, true, true, true] (any_of HT_.out (by kernel_rfl)) ?_
             refine done_ (done_of HT_.out (by kernel_rfl)) ?_
             try go_wp2
             go_ret
             exact ⟨eq_, bl_⟩
            ·rw [if_neg c67] at H
             have c67b0 : (t555 != t556) = false := by simpa using c67
             (try (have c67b1 : decide (t555 = t556) = true := by simpa using c67))
             (try (have c67b2 : (t555 == t556) = true := by simpa using c67))
             clear c67
             have H' := Aside0.mk H
             clear H
             try go_wp2
             replace HO_3 := Aside0.mk (Kd.R_drew HO_3.out)
             replace HO_4 := Aside0.mk (Kd.R_drew HO_4.out)
             replace HO_11 := Aside0.mk (Kd.R_drew HO_11.out)
             replace HO_527000 := Aside0.mk (Kd.R_drew HO_527000.out)
             replace HO_531000 := Aside0.mk (Kd.R_drew HO_531000.out)
             replace HO_544000 := Aside0.mk (Kd.R_drew HO_544000.out)
             replace HO_550000 := Aside0.mk (Kd.R_drew HO_550000.out)
             replace BK526 := Aside0.mk (blk_drew BK526.out)
             replace BK530 := Aside0.mk (blk_drew BK530.out)
             replace BK543 := Aside0.mk (blk_drew BK543.out)
             replace BK549 := Aside0.mk (blk_drew BK549.out)
             replace HB := Aside0.mk (below_drew1 HB.out)
             refine start_ (n := 22) (S := fun w' => w'.cell? ⟨gb526, 0, none⟩ = some (.slice Ao29 t523.length co29) ∧ w'.cell? ⟨gb543, 0, none⟩ = some (.slice Ao44 y540.length co44) ∧ w'.cell? ⟨gb530, 0, none⟩ = some (.slice Ao33 t527.length co33)) (ds := []) #[false, false, false, false, false, false, false, false, false, false, false, false, false, false, false, false, false, false, false, false, false, false] (by kernel_rfl) rfl rfl ⟨(blk_cell BK526.out 0).trans rfl, (blk_cell BK543.out 0).trans rfl, (blk_cell BK530.out 0).trans rfl⟩ (fun hHeld => ?_); refine with_tabW laws_FnPolicies.tab14 laws_FnPolicies.bits14 (fun HT_ HW_ => ?_)
             generalize wr.drew = w74 at HO_3 HO_4 HO_11 HO_527000 HO_531000 HO_544000 HO_550000 BK526 BK530 BK543 BK549 HB hHeld ⊢
             refine pureZ_ (i := 0) (some 57) #[true, false, false, false, false, false, false, false, false, false, false, false, false, false, false, false, false, false, false, false, false, false] (any_of HT_.out (by kernel_rfl)) ?_
             refine pureZ_ (i := 2) (some 59) #[true, false, true, false, false, false, false, false, false, false, false, false, false, false, false, false, false, false, false, false, false, false] (any_of HT_.out (by kernel_rfl)) ?_
             refine takeZ_ (i := 1) (some 58) #[true, true, true, false, false, false, false, false, false, false, false, false, false, false, false, false, false, false, false, false, false, false] (take_ofW HT_.out HW_.out (by kernel_rfl)) hHeld ?_
             refine one_ (i := 3) (N := some 60) #[true, true, true, true, false, false, false, false, false, false, false, false, false, false, false, false, false, false, false, false, false, false] rfl rfl (one_of HT_.out (by kernel_rfl)) (by decide) (fun K hK => ?_)
             refine goes_ Try.func47 (by kernel_rfl) rfl #[.slice Ao20 t495.length co20, .agg #[.slice Ao29 t523.length co29], .int .i64 x12_1] (by rfl) rfl rfl (by (try simp only [List.map_toArray, List.map_cons, List.map_nil]); first | done | rfl | (simp only [List.length_drop, List.length_take]; rfl)) ?_
             with_reducible refine (impl_Decides.calls k1 _ _ t495 _ _ t523 x12_1 true _ ?side1 ?side2 ?side3 ?side4 A61.out).mono ?_
             (case side1 => repeat (first | exact (Kd.R_reads' HO_3.out).2.2 | (with_reducible refine Kd.C_alloc ?_ _) | (with_reducible refine Kd.C_drewN ?_ _) | (with_reducible refine Kd.C_drew ?_)))
             (case side2 => exact (Kd.R_reads' HO_3.out).2.1)
             (case side3 => repeat (first | exact (Kd.R_reads' HO_527000.out).2.2 | (with_reducible refine Kd.C_alloc ?_ _) | (with_reducible refine Kd.C_drewN ?_ _) | (with_reducible refine Kd.C_drew ?_)))
             (case side4 => exact (Kd.R_reads' HO_527000.out).2.1)
             rintro e w75 ⟨rfl, hb⟩
             refine ⟨_, rfl, ?_⟩
             replace HO_3 := Aside0.mk (Kd.R_below (by (with_reducible repeat (first | apply Kd.R_alloc | apply Kd.R_drewN | apply Kd.R_drew)); exact HO_3.out) hb)
             replace HO_4 := Aside0.mk (Kd.R_below (by (with_reducible repeat (first | apply Kd.R_alloc | apply Kd.R_drewN | apply Kd.R_drew)); exact HO_4.out) hb)
             replace HO_11 := Aside0.mk (Kd.R_below (by (with_reducible repeat (first | apply Kd.R_alloc | apply Kd.R_drewN | apply Kd.R_drew)); exact HO_11.out) hb)
             replace HO_527000 := Aside0.mk (Kd.R_below (by (with_reducible repeat (first | apply Kd.R_alloc | apply Kd.R_drewN | apply Kd.R_drew)); exact HO_527000.out) hb)
             replace HO_531000 := Aside0.mk (Kd.R_below (by (with_reducible repeat (first | apply Kd.R_alloc | apply Kd.R_drewN | apply Kd.R_drew)); exact HO_531000.out) hb)
             replace HO_544000 := Aside0.mk (Kd.R_below (by (with_reducible repeat (first | apply Kd.R_alloc | apply Kd.R_drewN | apply Kd.R_drew)); exact HO_544000.out) hb)
             replace HO_550000 := Aside0.mk (Kd.R_below (by (with_reducible repeat (first | apply Kd.R_alloc | apply Kd.R_drewN | apply Kd.R_drew)); exact HO_550000.out) hb)
             replace BK526 := bkb_ BK526 hb
             replace BK530 := bkb_ BK530 hb
             replace BK543 := bkb_ BK543 hb
             replace BK549 := bkb_ BK549 hb
             replace HB := hbs_ hb
             (try clear hb)
             (try clear hb2)
             (try clear hk)
             (try clear hi)
             obtain ⟨Ao76, co76, eo76⟩ := Kd.R_slice HO_4.out
             (first | subst eo76 | (injection eo76 with f1_ f2_ f3_; have f4_ := f1_.symm; have f5_ := f3_.symm; clear f1_ f2_ f3_; subst f4_; subst f5_))
             refine hK.out _ _ ⟨(blk_cell BK526.out 0).trans rfl, (blk_cell BK543.out 0).trans rfl, (blk_cell BK530.out 0).trans rfl⟩ (fun hHeld => ?_)
             clear hK K
             refine norm_ (a' := ?_) ?_ ?_
             rotate_left
             ·show Act.put _ (some 60) _ = _
              simp only [Act.put, List.setIfInBounds_toArray, List.set_cons_zero, List.set_cons_succ, i64_w, i32_w]
              rfl
             refine pureZ_ (i := 4) (some 61) #[true, true, true, true, true, false, false, false, false, false, false, false, false, false, false, false, false, false, false, false, false, false] (any_of HT_.out (by kernel_rfl)) ?_
             refine pureZ_ (i := 5) (some 62) #[true, true, true, true, true, true, false, false, false, false, false, false, false, false, false, false, false, false, false, false, false, false] (any_of HT_.out (by kernel_rfl)) ?_
             refine pureZ_ (i := 7) (some 64) #[true, true, true, true, true, true, false, true, false, false, false, false, false, false, false, false, false, false, false, false, false, false] (any_of HT_.out (by kernel_rfl)) ?_
             refine takeZ_ (i := 6) (some 63) #[true, true, true, true, true, true, true, true, false, false, false, false, false, false, false, false, false, false, false, false, false, false] (take_ofW HT_.out HW_.out (by kernel_rfl)) hHeld ?_
             refine one_ (i := 8) (N := some 65) #[true, true, true, true, true, true, true, true, true, false, false, false, false, false, false, false, false, false, false, false, false, false] rfl rfl (one_of HT_.out (by kernel_rfl)) (by decide) (fun K hK => ?_)
             refine goes_ Try.func47 (by kernel_rfl) rfl #[.slice Ao76 y520.length co76, .agg #[.slice Ao29 t523.length co29], .int .i64 x12_1] (by rfl) rfl rfl (by (try simp only [List.map_toArray, List.map_cons, List.map_nil]); first | done | rfl | (simp only [List.length_drop, List.length_take]; rfl)) ?_
             with_reducible refine (impl_Decides.calls k1 _ _ y520 _ _ t523 x12_1 true _ ?side1 ?side2 ?side3 ?side4 A63.out).mono ?_
             (case side1 => repeat (first | exact (Kd.R_reads' HO_4.out).2.2 | (with_reducible refine Kd.C_alloc ?_ _) | (with_reducible refine Kd.C_drewN ?_ _) | (with_reducible refine Kd.C_drew ?_)))
             (case side2 => exact (Kd.R_reads' HO_4.out).2.1)
             (case side3 => repeat (first | exact (Kd.R_reads' HO_527000.out).2.2 | (with_reducible refine Kd.C_alloc ?_ _) | (with_reducible refine Kd.C_drewN ?_ _) | (with_reducible refine Kd.C_drew ?_)))
             (case side4 => exact (Kd.R_reads' HO_527000.out).2.1)
             rintro e w77 ⟨rfl, hb⟩
             refine ⟨_, rfl, ?_⟩
             replace HO_3 := Aside0.mk (Kd.R_below (by (with_reducible repeat (first | apply Kd.R_alloc | apply Kd.R_drewN | apply Kd.R_drew)); exact HO_3.out) hb)
             replace HO_4 := Aside0.mk (Kd.R_below (by (with_reducible repeat (first | apply Kd.R_alloc | apply Kd.R_drewN | apply Kd.R_drew)); exact HO_4.out) hb)
             replace HO_11 := Aside0.mk (Kd.R_below (by (with_reducible repeat (first | apply Kd.R_alloc | apply Kd.R_drewN | apply Kd.R_drew)); exact HO_11.out) hb)
             replace HO_527000 := Aside0.mk (Kd.R_below (by (with_reducible repeat (first | apply Kd.R_alloc | apply Kd.R_drewN | apply Kd.R_drew)); exact HO_527000.out) hb)
             replace HO_531000 := Aside0.mk (Kd.R_below (by (with_reducible repeat (first | apply Kd.R_alloc | apply Kd.R_drewN | apply Kd.R_drew)); exact HO_531000.out) hb)
             replace HO_544000 := Aside0.mk (Kd.R_below (by (with_reducible repeat (first | apply Kd.R_alloc | apply Kd.R_drewN | apply Kd.R_drew)); exact HO_544000.out) hb)
             replace HO_550000 := Aside0.mk (Kd.R_below (by (with_reducible repeat (first | apply Kd.R_alloc | apply Kd.R_drewN | apply Kd.R_drew)); exact HO_550000.out) hb)
             replace BK526 := bkb_ BK526 hb
             replace BK530 := bkb_ BK530 hb
             replace BK543 := bkb_ BK543 hb
             replace BK549 := bkb_ BK549 hb
             replace HB := hbs_ hb
             (try clear hb)
             (try clear hb2)
             (try clear hk)
             (try clear hi)
             refine hK.out _ _ ⟨(blk_cell BK526.out 0).trans rfl, (blk_cell BK543.out 0).trans rfl, (blk_cell BK530.out 0).trans rfl⟩ (fun hHeld => ?_)
             clear hK K
             refine norm_ (a' := ?_) ?_ ?_
             rotate_left
             ·show Act.put _ (some 65) _ = _
              simp only [Act.put, List.setIfInBounds_toArray, List.set_cons_zero, List.set_cons_succ, i64_w, i32_w]
              rfl
             refine pureZ_ (i := 9) (some 66) #[true, true, true, true, true, true, true, true, true, true, false, false, false, false, false, false, false, false, false, false, false, false] (any_of HT_.out (by kernel_rfl)) ?_
             refine pureZ_ (i := 10) (some 67) #[true, true, true, true, true, true, true, true, true, true, true, false, false, false, false, false, false, false, false, false, false, false] (any_of HT_.out (by kernel_rfl)) ?_
             refine pureZ_ (i := 11) (some 68) #[true, true, true, true, true, true, true, true, true, true, true, true, false, false, false, false, false, false, false, false, false, false] (any_of HT_.out (by kernel_rfl)) ?_
             refine pureZ_ (i := 12) (some 69) #[true, true, true, true, true, true, true, true, true, true, true, true, true, false, false, false, false, false, false, false, false, false] (any_of HT_.out (by kernel_rfl)) ?_
             refine pureZ_ (i := 14) (some 71) #[true, true, true, true, true, true, true, true, true, true, true, true, true, false, true, false, false, false, false, false, false, false] (any_of HT_.out (by kernel_rfl)) ?_
             refine pureZ_ (i := 16) (some 73) #[true, true, true, true, true, true, true, true, true, true, true, true, true, false, true, false, true, false, false, false, false, false] (any_of HT_.out (by kernel_rfl)) ?_
             refine pureZ_ (i := 18) (some 75) #[true, true, true, true, true, true, true, true, true, true, true, true, true, false, true, false, true, false, true, false, false, false] (any_of HT_.out (by kernel_rfl)) ?_
             refine takeZ_ (i := 13) (some 70) #[true, true, true, true, true, true, true, true, true, true, true, true, true, true, true, false, true, false, true, false, false, false] (take_ofW HT_.out HW_.out (by kernel_rfl)) hHeld ?_
             refine takeZ_ (i := 17) (some 74) #[true, true, true, true, true, true, true, true, true, true, true, true, true, true, true, false, true, true, true, false, false, false] (take_ofW HT_.out HW_.out (by kernel_rfl)) hHeld ?_
             refine one_ (i := 15) (N := some 72) #[true, true, true, true, true, true, true, true, true, true, true, true, true, true, true, true, true, true, true, false, false, false] rfl rfl (one_of HT_.out (by kernel_rfl)) (by decide) (fun K hK => ?_)
             refine goes_ Try.func47 (by kernel_rfl) rfl #[.slice Ao20 t495.length co20, .agg #[.slice Ao44 y540.length co44], .int .i64 x12_1] (by rfl) rfl rfl (by (try simp only [List.map_toArray, List.map_cons, List.map_nil]); first | done | rfl | (simp only [List.length_drop, List.length_take]; rfl)) ?_
             with_reducible refine (impl_Decides.calls k1 _ _ t495 _ _ y540 x12_1 t555 _ ?side1 ?side2 ?side3 ?side4 A65.out).mono ?_
             (case side1 => repeat (first | exact (Kd.R_reads' HO_3.out).2.2 | (with_reducible refine Kd.C_alloc ?_ _) | (with_reducible refine Kd.C_drewN ?_ _) | (with_reducible refine Kd.C_drew ?_)))
             (case side2 => exact (Kd.R_reads' HO_3.out).2.1)
             (case side3 => repeat (first | exact (Kd.R_reads' HO_544000.out).2.2 | (with_reducible refine Kd.C_alloc ?_ _) | (with_reducible refine Kd.C_drewN ?_ _) | (with_reducible refine Kd.C_drew ?_)))
             (case side4 => exact (Kd.R_reads' HO_544000.out).2.1)
             rintro e w78 ⟨rfl, hb⟩
             refine ⟨_, rfl, ?_⟩
             replace HO_3 := Aside0.mk (Kd.R_below (by (with_reducible repeat (first | apply Kd.R_alloc | apply Kd.R_drewN | apply Kd.R_drew)); exact HO_3.out) hb)
             replace HO_4 := Aside0.mk (Kd.R_below (by (with_reducible repeat (first | apply Kd.R_alloc | apply Kd.R_drewN | apply Kd.R_drew)); exact HO_4.out) hb)
             replace HO_11 := Aside0.mk (Kd.R_below (by (with_reducible repeat (first | apply Kd.R_alloc | apply Kd.R_drewN | apply Kd.R_drew)); exact HO_11.out) hb)
             replace HO_527000 := Aside0.mk (Kd.R_below (by (with_reducible repeat (first | apply Kd.R_alloc | apply Kd.R_drewN | apply Kd.R_drew)); exact HO_527000.out) hb)
             replace HO_531000 := Aside0.mk (Kd.R_below (by (with_reducible repeat (first | apply Kd.R_alloc | apply Kd.R_drewN | apply Kd.R_drew)); exact HO_531000.out) hb)
             replace HO_544000 := Aside0.mk (Kd.R_below (by (with_reducible repeat (first | apply Kd.R_alloc | apply Kd.R_drewN | apply Kd.R_drew)); exact HO_544000.out) hb)
             replace HO_550000 := Aside0.mk (Kd.R_below (by (with_reducible repeat (first | apply Kd.R_alloc | apply Kd.R_drewN | apply Kd.R_drew)); exact HO_550000.out) hb)
             replace BK526 := bkb_ BK526 hb
             replace BK530 := bkb_ BK530 hb
             replace BK543 := bkb_ BK543 hb
             replace BK549 := bkb_ BK549 hb
             replace HB := hbs_ hb
             (try clear hb)
             (try clear hb2)
             (try clear hk)
             (try clear hi)
             refine hK.out _ _ ⟨(blk_cell BK526.out 0).trans rfl, (blk_cell BK543.out 0).trans rfl, (blk_cell BK530.out 0).trans rfl⟩ (fun hHeld => ?_)
             clear hK K
             refine norm_ (a' := ?_) ?_ ?_
             rotate_left
             ·show Act.put _ (some 72) _ = _
              simp only [Act.put, List.setIfInBounds_toArray, List.set_cons_zero, List.set_cons_succ, i64_w, i32_w]
              rfl
             refine one_ (i := 19) (N := some 76) #[true, true, true, true, true, true, true, true, true, true, true, true, true, true, true, true, true, true, true, true, false, false] rfl rfl (one_of HT_.out (by kernel_rfl)) (by decide) (fun K hK => ?_)
             refine goes_ Try.func47 (by kernel_rfl) rfl #[.slice Ao20 t495.length co20, .agg #[.slice Ao33 t527.length co33], .int .i64 x12_1] (by rfl) rfl rfl (by (try simp only [List.map_toArray, List.map_cons, List.map_nil]); first | done | rfl | (simp only [List.length_drop, List.length_take]; rfl)) ?_
             with_reducible refine (impl_Decides.calls k1 _ _ t495 _ _ t527 x12_1 t556 _ ?side1 ?side2 ?side3 ?side4 A66.out).mono ?_
             (case side1 => repeat (first | exact (Kd.R_reads' HO_3.out).2.2 | (with_reducible refine Kd.C_alloc ?_ _) | (with_reducible refine Kd.C_drewN ?_ _) | (with_reducible refine Kd.C_drew ?_)))
             (case side2 => exact (Kd.R_reads' HO_3.out).2.1)
             (case side3 => repeat (first | exact (Kd.R_reads' HO_531000.out).2.2 | (with_reducible refine Kd.C_alloc ?_ _) | (with_reducible refine Kd.C_drewN ?_ _) | (with_reducible refine Kd.C_drew ?_)))
             (case side4 => exact (Kd.R_reads' HO_531000.out).2.1)
             rintro e w79 ⟨rfl, hb⟩
             refine ⟨_, rfl, ?_⟩
             replace HO_3 := Aside0.mk (Kd.R_below (by (with_reducible repeat (first | apply Kd.R_alloc | apply Kd.R_drewN | apply Kd.R_drew)); exact HO_3.out) hb)
             replace HO_4 := Aside0.mk (Kd.R_below (by (with_reducible repeat (first | apply Kd.R_alloc | apply Kd.R_drewN | apply Kd.R_drew)); exact HO_4.out) hb)
             replace HO_11 := Aside0.mk (Kd.R_below (by (with_reducible repeat (first | apply Kd.R_alloc | apply Kd.R_drewN | apply Kd.R_drew)); exact HO_11.out) hb)
             replace HO_527000 := Aside0.mk (Kd.R_below (by (with_reducible repeat (first | apply Kd.R_alloc | apply Kd.R_drewN | apply Kd.R_drew)); exact HO_527000.out) hb)
             replace HO_531000 := Aside0.mk (Kd.R_below (by (with_reducible repeat (first | apply Kd.R_alloc | apply Kd.R_drewN | apply Kd.R_drew)); exact HO_531000.out) hb)
             replace HO_544000 := Aside0.mk (Kd.R_below (by (with_reducible repeat (first | apply Kd.R_alloc | apply Kd.R_drewN | apply Kd.R_drew)); exact HO_544000.out) hb)
             replace HO_550000 := Aside0.mk (Kd.R_below (by (with_reducible repeat (first | apply Kd.R_alloc | apply Kd.R_drewN | apply Kd.R_drew)); exact HO_550000.out) hb)
             replace BK526 := bkb_ BK526 hb
             replace BK530 := bkb_ BK530 hb
             replace BK543 := bkb_ BK543 hb
             replace BK549 := bkb_ BK549 hb
             replace HB := hbs_ hb
             (try clear hb)
             (try clear hb2)
             (try clear hk)
             (try clear hi)
             refine hK.out _ _ ⟨(blk_cell BK526.out 0).trans rfl, (blk_cell BK543.out 0).trans rfl, (blk_cell BK530.out 0).trans rfl⟩ (fun hHeld => ?_)
             clear hK K
             refine norm_ (a' := ?_) ?_ ?_
             rotate_left
             ·show Act.put _ (some 76) _ = _
              simp only [Act.put, List.setIfInBounds_toArray, List.set_cons_zero, List.set_cons_succ, i64_w, i32_w]
              rfl
             refine pureZ_ (i := 20) (some 77) #[true, true, true, true, true, true, true, true, true, true, true, true, true, true, true, true, true, true, true, true, true, false] (any_of HT_.out (by kernel_rfl)) ?_
             refine pureZ_ (i := 21) (some 78) #[true, true, true, true, true, true, true, true, true, true, true, true, true, true, true, true, true, true, true, true, true, true] (any_of HT_.out (by kernel_rfl)) ?_
             refine done_ (done_of HT_.out (by kernel_rfl)) ?_
             try go_wp2
             go_roundg k1
             case measure => have := HK1.out; omega
             case rel => exact ⟨(wrap64 (x12_1 + 1)), (by first | rfl | (simp; done) | (simp [*]; done)), H', ⟨by have := HK1.out; omega⟩, ⟨by (with_reducible repeat (first | apply Kd.R_alloc | apply Kd.R_drewN | apply Kd.R_drew)); exact HO_3.out⟩, ⟨by (with_reducible repeat (first | apply Kd.R_alloc | apply Kd.R_drewN | apply Kd.R_drew)); exact HO_4.out⟩, ⟨by (with_reducible repeat (first | apply Kd.R_alloc | apply Kd.R_drewN | apply Kd.R_drew)); exact HO_11.out⟩, ⟨by (with_reducible repeat (first | apply Kd.R_alloc | apply Kd.R_drewN | apply Kd.R_drew)); exact HO_527000.out⟩, ⟨by (with_reducible repeat (first | apply Kd.R_alloc | apply Kd.R_drewN | apply Kd.R_drew)); exact HO_531000.out⟩, ⟨by (with_reducible repeat (first | apply Kd.R_alloc | apply Kd.R_drewN | apply Kd.R_drew)); exact HO_544000.out⟩, ⟨by (with_reducible repeat (first | apply Kd.R_alloc | apply Kd.R_drewN | apply Kd.R_drew)); exact HO_550000.out⟩, ⟨bk_ BK526⟩, ⟨bk_ BK530⟩, ⟨bk_ BK543⟩, ⟨bk_ BK549⟩, ⟨bl_⟩⟩
           ·replace c64 := Bool.eq_false_iff.mpr c64
            subst c64
            replace H := ite_f_ H
            obtain rfl := Option.some.inj H
            try go_wp2
            replace HO_3 := Aside0.mk (Kd.R_drew HO_3.out)
            replace HO_4 := Aside0.mk (Kd.R_drew HO_4.out)
            replace HO_11 := Aside0.mk (Kd.R_drew HO_11.out)
            replace HO_527000 := Aside0.mk (Kd.R_drew HO_527000.out)
            replace HO_531000 := Aside0.mk (Kd.R_drew HO_531000.out)
            replace HO_544000 := Aside0.mk (Kd.R_drew HO_544000.out)
            replace HO_550000 := Aside0.mk (Kd.R_drew HO_550000.out)
            replace BK526 := Aside0.mk (blk_drew BK526.out)
            replace BK530 := Aside0.mk (blk_drew BK530.out)
            replace BK543 := Aside0.mk (blk_drew BK543.out)
            replace BK549 := Aside0.mk (blk_drew BK549.out)
            replace HB := Aside0.mk (below_drew1 HB.out)
            refine start_ (n := 22) (S := fun w' => w'.cell? ⟨gb526, 0, none⟩ = some (.slice Ao29 t523.length co29)) (ds := []) #[false, false, false, false, false, false, false, false, false, false, false, false, false, false, false, false, false, false, false, false, false, false] (by kernel_rfl) rfl rfl ((blk_cell BK526.out 0).trans rfl) (fun hHeld => ?_); refine with_tabW laws_FnPolicies.tab14 laws_FnPolicies.bits14 (fun HT_ HW_ => ?_)
            generalize wr.drew = w80 at HO_3 HO_4 HO_11 HO_527000 HO_531000 HO_544000 HO_550000 BK526 BK530 BK543 BK549 HB hHeld ⊢
            refine pureZ_ (i := 0) (some 57) #[true, false, false, false, false, false, false, false, false, false, false, false, false, false, false, false, false, false, false, false, false, false] (any_of HT_.out (by kernel_rfl)) ?_
            refine pureZ_ (i := 2) (some 59) #[true, false, true, false, false, false, false, false, false, false, false, false, false, false, false, false, false, false, false, false, false, false] (any_of HT_.out (by kernel_rfl)) ?_
            refine take_ (i := 1) (N := some 58) (v := ?_) (a' := ?_) #[true, true, true, false, false, false, false, false, false, false, false, false, false, false, false, false, false, false, false, false, false, false] rfl rfl (take_ofW HT_.out HW_.out (by kernel_rfl)) (fun _ _ _ h => h) (Or.inl ⟨by rfl, ?_⟩) hHeld ?_ ?_
            rotate_left
            ·intro w' s0
             go_simp
             with_reducible rfl
            rotate_left
            ·simp only [Act.put, List.setIfInBounds_toArray, List.set_cons_zero, List.set_cons_succ, i64_w, i32_w]
             rfl
            refine one_ (i := 3) (N := some 60) #[true, true, true, true, false, false, false, false, false, false, false, false, false, false, false, false, false, false, false, false, false, false] rfl rfl (one_of HT_.out (by kernel_rfl)) (by decide) (fun K hK => ?_)
            refine goes_ Try.func47 (by kernel_rfl) rfl #[.slice Ao20 t495.length co20, .agg #[.slice Ao29 t523.length co29], .int .i64 x12_1] (by rfl) rfl rfl (by (try simp only [List.map_toArray, List.map_cons, List.map_nil]); first | done | rfl | (simp only [List.length_drop, List.length_take]; rfl)) ?_
            with_reducible refine (impl_Decides.calls k1 _ _ t495 _ _ t523 x12_1 true _ ?side1 ?side2 ?side3 ?side4 A61.out).mono ?_
            (case side1 => repeat (first | exact (Kd.R_reads' HO_3.out).2.2 | (with_reducible refine Kd.C_alloc ?_ _) | (with_reducible refine Kd.C_drewN ?_ _) | (with_reducible refine Kd.C_drew ?_)))
            (case side2 => exact (Kd.R_reads' HO_3.out).2.1)
            (case side3 => repeat (first | exact (Kd.R_reads' HO_527000.out).2.2 | (with_reducible refine Kd.C_alloc ?_ _) | (with_reducible refine Kd.C_drewN ?_ _) | (with_reducible refine Kd.C_drew ?_)))
            (case side4 => exact (Kd.R_reads' HO_527000.out).2.1)
            rintro e w81 ⟨rfl, hb⟩
            refine ⟨_, rfl, ?_⟩
            replace HO_3 := Aside0.mk (Kd.R_below (by (with_reducible repeat (first | apply Kd.R_alloc | apply Kd.R_drewN | apply Kd.R_drew)); exact HO_3.out) hb)
            replace HO_4 := Aside0.mk (Kd.R_below (by (with_reducible repeat (first | apply Kd.R_alloc | apply Kd.R_drewN | apply Kd.R_drew)); exact HO_4.out) hb)
            replace HO_11 := Aside0.mk (Kd.R_below (by (with_reducible repeat (first | apply Kd.R_alloc | apply Kd.R_drewN | apply Kd.R_drew)); exact HO_11.out) hb)
            replace HO_527000 := Aside0.mk (Kd.R_below (by (with_reducible repeat (first | apply Kd.R_alloc | apply Kd.R_drewN | apply Kd.R_drew)); exact HO_527000.out) hb)
            replace HO_531000 := Aside0.mk (Kd.R_below (by (with_reducible repeat (first | apply Kd.R_alloc | apply Kd.R_drewN | apply Kd.R_drew)); exact HO_531000.out) hb)
            replace HO_544000 := Aside0.mk (Kd.R_below (by (with_reducible repeat (first | apply Kd.R_alloc | apply Kd.R_drewN | apply Kd.R_drew)); exact HO_544000.out) hb)
            replace HO_550000 := Aside0.mk (Kd.R_below (by (with_reducible repeat (first | apply Kd.R_alloc | apply Kd.R_drewN | apply Kd.R_drew)); exact HO_550000.out) hb)
            replace BK526 := bkb_ BK526 hb
            replace BK530 := bkb_ BK530 hb
            replace BK543 := bkb_ BK543 hb
            replace BK549 := bkb_ BK549 hb
            replace HB := hbs_ hb
            (try clear hb)
            (try clear hb2)
            (try clear hk)
            (try clear hi)
            obtain ⟨Ao82, co82, eo82⟩ := Kd.R_slice HO_4.out
            (first | subst eo82 | (injection eo82 with f1_ f2_ f3_; have f4_ := f1_.symm; have f5_ := f3_.symm; clear f1_ f2_ f3_; subst f4_; subst f5_))
            refine hK.out _ _ ((blk_cell BK526.out 0).trans rfl) (fun hHeld => ?_)
            clear hK K
            refine norm_ (a' := ?_) ?_ ?_
            rotate_left
            ·show Act.put _ (some 60) _ = _
             simp only [Act.put, List.setIfInBounds_toArray, List.set_cons_zero, List.set_cons_succ, i64_w, i32_w]
             rfl
            refine pureZ_ (i := 4) (some 61) #[true, true, true, true, true, false, false, false, false, false, false, false, false, false, false, false, false, false, false, false, false, false] (any_of HT_.out (by kernel_rfl)) ?_
            refine pureZ_ (i := 5) (some 62) #[true, true, true, true, true, true, false, false, false, false, false, false, false, false, false, false, false, false, false, false, false, false] (any_of HT_.out (by kernel_rfl)) ?_
            refine pureZ_ (i := 7) (some 64) #[true, true, true, true, true, true, false, true, false, false, false, false, false, false, false, false, false, false, false, false, false, false] (any_of HT_.out (by kernel_rfl)) ?_
            refine take_ (i := 6) (N := some 63) (v := ?_) (a' := ?_) #[true, true, true, true, true, true, true, true, false, false, false, false, false, false, false, false, false, false, false, false, false, false] rfl rfl (take_ofW HT_.out HW_.out (by kernel_rfl)) (fun _ _ _ h => h) (Or.inl ⟨by rfl, ?_⟩) hHeld ?_ ?_
            rotate_left
            ·intro w' s0
             go_simp
             with_reducible rfl
            rotate_left
            ·simp only [Act.put, List.setIfInBounds_toArray, List.set_cons_zero, List.set_cons_succ, i64_w, i32_w]
             rfl
            refine one_ (i := 8) (N := some 65) #[true, true, true, true, true, true, true, true, true, false, false, false, false, false, false, false, false, false, false, false, false, false] rfl rfl (one_of HT_.out (by kernel_rfl)) (by decide) (fun K hK => ?_)
            refine goes_ Try.func47 (by kernel_rfl) rfl #[.slice Ao82 y520.length co82, .agg #[.slice Ao29 t523.length co29], .int .i64 x12_1] (by rfl) rfl rfl (by (try simp only [List.map_toArray, List.map_cons, List.map_nil]); first | done | rfl | (simp only [List.length_drop, List.length_take]; rfl)) ?_
            with_reducible refine (impl_Decides.calls k1 _ _ y520 _ _ t523 x12_1 false _ ?side1 ?side2 ?side3 ?side4 A63.out).mono ?_
            (case side1 => repeat (first | exact (Kd.R_reads' HO_4.out).2.2 | (with_reducible refine Kd.C_alloc ?_ _) | (with_reducible refine Kd.C_drewN ?_ _) | (with_reducible refine Kd.C_drew ?_)))
            (case side2 => exact (Kd.R_reads' HO_4.out).2.1)
            (case side3 => repeat (first | exact (Kd.R_reads' HO_527000.out).2.2 | (with_reducible refine Kd.C_alloc ?_ _) | (with_reducible refine Kd.C_drewN ?_ _) | (with_reducible refine Kd.C_drew ?_)))
            (case side4 => exact (Kd.R_reads' HO_527000.out).2.1)
            rintro e w83 ⟨rfl, hb⟩
            refine ⟨_, rfl, ?_⟩
            replace HO_3 := Aside0.mk (Kd.R_below (by (with_reducible repeat (first | apply Kd.R_alloc | apply Kd.R_drewN | apply Kd.R_drew)); exact HO_3.out) hb)
            replace HO_4 := Aside0.mk (Kd.R_below (by (with_reducible repeat (first | apply Kd.R_alloc | apply Kd.R_drewN | apply Kd.R_drew)); exact HO_4.out) hb)
            replace HO_11 := Aside0.mk (Kd.R_below (by (with_reducible repeat (first | apply Kd.R_alloc | apply Kd.R_drewN | apply Kd.R_drew)); exact HO_11.out) hb)
            replace HO_527000 := Aside0.mk (Kd.R_below (by (with_reducible repeat (first | apply Kd.R_alloc | apply Kd.R_drewN | apply Kd.R_drew)); exact HO_527000.out) hb)
            replace HO_531000 := Aside0.mk (Kd.R_below (by (with_reducible repeat (first | apply Kd.R_alloc | apply Kd.R_drewN | apply Kd.R_drew)); exact HO_531000.out) hb)
            replace HO_544000 := Aside0.mk (Kd.R_below (by (with_reducible repeat (first | apply Kd.R_alloc | apply Kd.R_drewN | apply Kd.R_drew)); exact HO_544000.out) hb)
            replace HO_550000 := Aside0.mk (Kd.R_below (by (with_reducible repeat (first | apply Kd.R_alloc | apply Kd.R_drewN | apply Kd.R_drew)); exact HO_550000.out) hb)
            replace BK526 := bkb_ BK526 hb
            replace BK530 := bkb_ BK530 hb
            replace BK543 := bkb_ BK543 hb
            replace BK549 := bkb_ BK549 hb
            replace HB := hbs_ hb
            (try clear hb)
            (try clear hb2)
            (try clear hk)
            (try clear hi)
            refine hK.out _ _ ((blk_cell BK526.out 0).trans rfl) (fun hHeld => ?_)
            clear hK K
            refine norm_ (a' := ?_) ?_ ?_
            rotate_left
            ·show Act.put _ (some 65) _ = _
             simp only [Act.put, List.setIfInBounds_toArray, List.set_cons_zero, List.set_cons_succ, i64_w, i32_w]
             rfl
            refine pureZ_ (i := 9) (some 66) #[true, true, true, true, true, true, true, true, true, true, false, false, false, false, false, false, false, false, false, false, false, false] (any_of HT_.out (by kernel_rfl)) ?_
            refine pureZ_ (i := 10) (some 67) #[true, true, true, true, true, true, true, true, true, true, true, false, false, false, false, false, false, false, false, false, false, false] (any_of HT_.out (by kernel_rfl)) ?_
            refine pureZ_ (i := 11) (some 68) #[true, true, true, true, true, true, true, true, true, true, true, true, false, false, false, false, false, false, false, false, false, false] (any_of HT_.out (by kernel_rfl)) ?_
            refine pure_ (i := 12) (N := some 69) (v := undef) (a' := ?_) #[true, true, true, true, true, true, true, true, true, true, true, true, true, false, false, false, false, false, false, false, false, false] rfl rfl (any_of HT_.out (by kernel_rfl)) (fun _ _ _ h => h) (Or.inr ⟨by rfl, rfl⟩) ?_ ?_
            rotate_left
            ·simp only [Act.put, List.setIfInBounds_toArray, List.set_cons_zero, List.set_cons_succ, i64_w, i32_w]
             rfl
            refine pure_ (i := 13) (N := some 70) (v := undef) (a' := ?_) #[true, true, true, true, true, true, true, true, true, true, true, true, true, true, false, false, false, false, false, false, false, false] rfl rfl (any_of HT_.out (by kernel_rfl)) (fun _ _ _ h => h) (Or.inr ⟨by rfl, rfl⟩) ?_ ?_
            rotate_left
            ·simp only [Act.put, List.setIfInBounds_toArray, List.set_cons_zero, List.set_cons_succ, i64_w, i32_w]
             rfl
            refine pure_ (i := 14) (N := some 71) (v := undef) (a' := ?_) #[true, true, true, true, true, true, true, true, true, true, true, true, true, true, true, false, false, false, false, false, false, false] rfl rfl (any_of HT_.out (by kernel_rfl)) (fun _ _ _ h => h) (Or.inr ⟨by rfl, rfl⟩) ?_ ?_
            rotate_left
            ·simp only [Act.put, List.setIfInBounds_toArray, List.set_cons_zero, List.set_cons_succ, i64_w, i32_w]
             rfl
            refine pure_ (i := 15) (N := some 72) (v := undef) (a' := ?_) #[true, true, true, true, true, true, true, true, true, true, true, true, true, true, true, true, false, false, false, false, false, false] rfl rfl (any_of HT_.out (by kernel_rfl)) (fun _ _ _ h => h) (Or.inr ⟨by rfl, rfl⟩) ?_ ?_
            rotate_left
            ·simp only [Act.put, List.setIfInBounds_toArray, List.set_cons_zero, List.set_cons_succ, i64_w, i32_w]
             rfl
            refine pure_ (i := 16) (N := some 73) (v := undef) (a' := ?_) #[true, true, true, true, true, true, true, true, true, true, true, true, true, true, true, true, true, false, false, false, false, false] rfl rfl (any_of HT_.out (by kernel_rfl)) (fun _ _ _ h => h) (Or.inr ⟨by rfl, rfl⟩) ?_ ?_
            rotate_left
            ·simp only [Act.put, List.setIfInBounds_toArray, List.set_cons_zero, List.set_cons_succ, i64_w, i32_w]
             rfl
            refine pure_ (i := 17) (N := some 74) (v := undef) (a' := ?_) #[true, true, true, true, true, true, true, true, true, true, true, true, true, true, true, true, true, true, false, false, false, false] rfl rfl (any_of HT_.out (by kernel_rfl)) (fun _ _ _ h => h) (Or.inr ⟨by rfl, rfl⟩) ?_ ?_
            rotate_left
            ·simp only [Act.put, List.setIfInBounds_toArray, List.set_cons_zero, List.set_cons_succ, i64_w, i32_w]
             rfl
            refine pure_ (i := 18) (N := some 75) (v := undef) (a' := ?_) #[true, true, true, true, true, true, true, true, true, true, true, true, true, true, true, true, true, true, true, false, false, false] rfl rfl (any_of HT_.out (by kernel_rfl)) (fun _ _ _ h => h) (Or.inr ⟨by rfl, rfl⟩) ?_ ?_
            rotate_left
            ·simp only [Act.put, List.setIfInBounds_toArray, List.set_cons_zero, List.set_cons_succ, i64_w, i32_w]
             rfl
            refine pure_ (i := 19) (N := some 76) (v := undef) (a' := ?_) #[true, true, true, true, true, true, true, true, true, true, true, true, true, true, true, true, true, true, true, true, false, false] rfl rfl (any_of HT_.out (by kernel_rfl)) (fun _ _ _ h => h) (Or.inr ⟨by rfl, rfl⟩) ?_ ?_
            rotate_left
            ·simp only [Act.put, List.setIfInBounds_toArray, List.set_cons_zero, List.set_cons_succ, i64_w, i32_w]
             rfl
            refine pure_ (i := 20) (N := some 77) (v := undef) (a' := ?_) #[true, true, true, true, true, true, true, true, true, true, true, true, true, true, true, true, true, true, true, true, true, false] rfl rfl (any_of HT_.out (by kernel_rfl)) (fun _ _ _ h => h) (Or.inr ⟨by rfl, rfl⟩) ?_ ?_
            rotate_left
            ·simp only [Act.put, List.setIfInBounds_toArray, List.set_cons_zero, List.set_cons_succ, i64_w, i32_w]
             rfl
            refine pureZ_ (i := 21) (some 78) #[true, true, true, true, true, true, true, true, true, true, true, true, true, true, true, true, true, true, true, true, true, true] (any_of HT_.out (by kernel_rfl)) ?_
            refine done_ (done_of HT_.out (by kernel_rfl)) ?_
            try go_wp2
            go_ret
            exact ⟨eq_, bl_⟩
          ·replace c62 := Bool.eq_false_iff.mpr c62
           subst c62
           replace H := ite_f_ H
           obtain ⟨t557, A84, H⟩ := bindE_ H
           obtain ⟨t558, A85, H⟩ := bindE_ H
           by_cases c86 : (t557 != t558) = true
           ·rw [if_pos c86] at H
            have c86b0 : (t557 != t558) = true := c86
            (try (have c86b1 : decide (t557 = t558) = false := by simpa using c86))
            (try (have c86b2 : (t557 == t558) = false := by simpa using c86))
            (try (have c86b3 : ¬ (t557 = t558) := by simpa using c86))
            clear c86
            obtain rfl := Option.some.inj H
            try go_wp2
            replace HO_3 := Aside0.mk (Kd.R_drew HO_3.out)
            replace HO_4 := Aside0.mk (Kd.R_drew HO_4.out)
            replace HO_11 := Aside0.mk (Kd.R_drew HO_11.out)
            replace HO_527000 := Aside0.mk (Kd.R_drew HO_527000.out)
            replace HO_531000 := Aside0.mk (Kd.R_drew HO_531000.out)
            replace HO_544000 := Aside0.mk (Kd.R_drew HO_544000.out)
            replace HO_550000 := Aside0.mk (Kd.R_drew HO_550000.out)
            replace BK526 := Aside0.mk (blk_drew BK526.out)
            replace BK530 := Aside0.mk (blk_drew BK530.out)
            replace BK543 := Aside0.mk (blk_drew BK543.out)
            replace BK549 := Aside0.mk (blk_drew BK549.out)
            replace HB := Aside0.mk (below_drew1 HB.out)
            refine start_ (n := 22) (S := fun w' => w'.cell? ⟨gb526, 0, none⟩ = some (.slice Ao29 t523.length co29) ∧ w'.cell? ⟨gb543, 0, none⟩ = some (.slice Ao44 y540.length co44) ∧ w'.cell? ⟨gb530, 0, none⟩ = some (.slice Ao33 t527.length co33)) (ds := []) #[false, false, false, false, false, false, false, false, false, false, false, false, false, false, false, false, false, false, false, false, false, false] (by kernel_rfl) rfl rfl ⟨(blk_cell BK526.out 0).trans rfl, (blk_cell BK543.out 0).trans rfl, (blk_cell BK530.out 0).trans rfl⟩ (fun hHeld => ?_); refine with_tabW laws_FnPolicies.tab14 laws_FnPolicies.bits14 (fun HT_ HW_ => ?_)
            generalize wr.drew = w87 at HO_3 HO_4 HO_11 HO_527000 HO_531000 HO_544000 HO_550000 BK526 BK530 BK543 BK549 HB hHeld ⊢
            refine pureZ_ (i := 0) (some 57) #[true, false, false, false, false, false, false, false, false, false, false, false, false, false, false, false, false, false, false, false, false, false] (any_of HT_.out (by kernel_rfl)) ?_
            refine pureZ_ (i := 2) (some 59) #[true, false, true, false, false, false, false, false, false, false, false, false, false, false, false, false, false, false, false, false, false, false] (any_of HT_.out (by kernel_rfl)) ?_
            refine takeZ_ (i := 1) (some 58) #[true, true, true, false, false, false, false, false, false, false, false, false, false, false, false, false, false, false, false, false, false, false] (take_ofW HT_.out HW_.out (by kernel_rfl)) hHeld ?_
            refine one_ (i := 3) (N := some 60) #[true, true, true, true, false, false, false, false, false, false, false, false, false, false, false, false, false, false, false, false, false, false] rfl rfl (one_of HT_.out (by kernel_rfl)) (by decide) (fun K hK => ?_)
            refine goes_ Try.func47 (by kernel_rfl) rfl #[.slice Ao20 t495.length co20, .agg #[.slice Ao29 t523.length co29], .int .i64 x12_1] (by rfl) rfl rfl (by (try simp only [List.map_toArray, List.map_cons, List.map_nil]); first | done | rfl | (simp only [List.length_drop, List.length_take]; rfl)) ?_
            with_reducible refine (impl_Decides.calls k1 _ _ t495 _ _ t523 x12_1 false _ ?side1 ?side2 ?side3 ?side4 A61.out).mono ?_
            (case side1 => repeat (first | exact (Kd.R_reads' HO_3.out).2.2 | (with_reducible refine Kd.C_alloc ?_ _) | (with_reducible refine Kd.C_drewN ?_ _) | (with_reducible refine Kd.C_drew ?_)))
            (case side2 => exact (Kd.R_reads' HO_3.out).2.1)
            (case side3 => repeat (first | exact (Kd.R_reads' HO_527000.out).2.2 | (with_reducible refine Kd.C_alloc ?_ _) | (with_reducible refine Kd.C_drewN ?_ _) | (with_reducible refine Kd.C_drew ?_)))
            (case side4 => exact (Kd.R_reads' HO_527000.out).2.1)
            rintro e w88 ⟨rfl, hb⟩
            refine ⟨_, rfl, ?_⟩
            replace HO_3 := Aside0.mk (Kd.R_below (by (with_reducible repeat (first | apply Kd.R_alloc | apply Kd.R_drewN | apply Kd.R_drew)); exact HO_3.out) hb)
            replace HO_4 := Aside0.mk (Kd.R_below (by (with_reducible repeat (first | apply Kd.R_alloc | apply Kd.R_drewN | apply Kd.R_drew)); exact HO_4.out) hb)
            replace HO_11 := Aside0.mk (Kd.R_below (by (with_reducible repeat (first | apply Kd.R_alloc | apply Kd.R_drewN | apply Kd.R_drew)); exact HO_11.out) hb)
            replace HO_527000 := Aside0.mk (Kd.R_below (by (with_reducible repeat (first | apply Kd.R_alloc | apply Kd.R_drewN | apply Kd.R_drew)); exact HO_527000.out) hb)
            replace HO_531000 := Aside0.mk (Kd.R_below (by (with_reducible repeat (first | apply Kd.R_alloc | apply Kd.R_drewN | apply Kd.R_drew)); exact HO_531000.out) hb)
            replace HO_544000 := Aside0.mk (Kd.R_below (by (with_reducible repeat (first | apply Kd.R_alloc | apply Kd.R_drewN | apply Kd.R_drew)); exact HO_544000.out) hb)
            replace HO_550000 := Aside0.mk (Kd.R_below (by (with_reducible repeat (first | apply Kd.R_alloc | apply Kd.R_drewN | apply Kd.R_drew)); exact HO_550000.out) hb)
            replace BK526 := bkb_ BK526 hb
            replace BK530 := bkb_ BK530 hb
            replace BK543 := bkb_ BK543 hb
            replace BK549 := bkb_ BK549 hb
            replace HB := hbs_ hb
            (try clear hb)
            (try clear hb2)
            (try clear hk)
            (try clear hi)
            refine hK.out _ _ ⟨(blk_cell BK526.out 0).trans rfl, (blk_cell BK543.out 0).trans rfl, (blk_cell BK530.out 0).trans rfl⟩ (fun hHeld => ?_)
            clear hK K
            refine norm_ (a' := ?_) ?_ ?_
            rotate_left
            ·show Act.put _ (some 60) _ = _
             simp only [Act.put, List.setIfInBounds_toArray, List.set_cons_zero, List.set_cons_succ, i64_w, i32_w]
             rfl
            refine pureZ_ (i := 4) (some 61) #[true, true, true, true, true, false, false, false, false, false, false, false, false, false, false, false, false, false, false, false, false, false] (any_of HT_.out (by kernel_rfl)) ?_
            refine pure_ (i := 5) (N := some 62) (v := undef) (a' := ?_) #[true, true, true, true, true, true, false, false, false, false, false, false, false, false, false, false, false, false, false, false, false, false] rfl rfl (any_of HT_.out (by kernel_rfl)) (fun _ _ _ h => h) (Or.inr ⟨by rfl, rfl⟩) ?_ ?_
            rotate_left
            ·simp only [Act.put, List.setIfInBounds_toArray, List.set_cons_zero, List.set_cons_succ, i64_w, i32_w]
             rfl
            refine pure_ (i := 6) (N := some 63) (v := undef) (a' := ?_) #[true, true, true, true, true, true, true, false, false, false, false, false, false, false, false, false, false, false, false, false, false, false] rfl rfl (any_of HT_.out (by kernel_rfl)) (fun _ _ _ h => h) (Or.inr ⟨by rfl, rfl⟩) ?_ ?_
            rotate_left
            ·simp only [Act.put, List.setIfInBounds_toArray, List.set_cons_zero, List.set_cons_succ, i64_w, i32_w]
             rfl
            refine pure_ (i := 7) (N := some 64) (v := undef) (a' := ?_) #[true, true, true, true, true, true, true, true, false, false, false, false, false, false, false, false, false, false, false, false, false, false] rfl rfl (any_of HT_.out (by kernel_rfl)) (fun _ _ _ h => h) (Or.inr ⟨by rfl, rfl⟩) ?_ ?_
            rotate_left
            ·simp only [Act.put, List.setIfInBounds_toArray, List.set_cons_zero, List.set_cons_succ, i64_w, i32_w]
             rfl
            refine pure_ (i := 8) (N := some 65) (v := undef) (a' := ?_) #[true, true, true, true, true, true, true, true, true, false, false, false, false, false, false, false, false, false, false, false, false, false] rfl rfl (any_of HT_.out (by kernel_rfl)) (fun _ _ _ h => h) (Or.inr ⟨by rfl, rfl⟩) ?_ ?_
            rotate_left
            ·simp only [Act.put, List.setIfInBounds_toArray, List.set_cons_zero, List.set_cons_succ, i64_w, i32_w]
             rfl
            refine pure_ (i := 9) (N := some 66) (v := undef) (a' := ?_) #[true, true, true, true, true, true, true, true, true, true, false, false, false, false, false, false, false, false, false, false, false, false] rfl rfl (any_of HT_.out (by kernel_rfl)) (fun _ _ _ h => h) (Or.inr ⟨by rfl, rfl⟩) ?_ ?_
            rotate_left
            ·simp only [Act.put, List.setIfInBounds_toArray, List.set_cons_zero, List.set_cons_succ, i64_w, i32_w]
             rfl
            refine pureZ_ (i := 10) (some 67) #[true, true, true, true, true, true, true, true, true, true, true, false, false, false, false, false, false, false, false, false, false, false] (any_of HT_.out (by kernel_rfl)) ?_
            refine pureZ_ (i := 11) (some 68) #[true, true, true, true, true, true, true, true, true, true, true, true, false, false, false, false, false, false, false, false, false, false] (any_of HT_.out (by kernel_rfl)) ?_
            refine pureZ_ (i := 12) (some 69) #[true, true, true, true, true, true, true, true, true, true, true, true, true, false, false, false, false, false, false, false, false, false] (any_of HT_.out (by kernel_rfl)) ?_
            refine pureZ_ (i := 14) (some 71) #[true, true, true, true, true, true, true, true, true, true, true, true, true, false, true, false, false, false, false, false, false, false] (any_of HT_.out (by kernel_rfl)) ?_
            refine pureZ_ (i := 16) (some 73) #[true, true, true, true, true, true, true, true, true, true, true, true, true, false, true, false, true, false, false, false, false, false] (any_of HT_.out (by kernel_rfl)) ?_
            refine pureZ_ (i := 18) (some 75) #[true, true, true, true, true, true, true, true, true, true, true, true, true, false, true, false, true, false, true, false, false, false] (any_of HT_.out (by kernel_rfl)) ?_
            refine takeZ_ (i := 13) (some 70) #[true, true, true, true, true, true, true, true, true, true, true, true, true, true, true, false, true, false, true, false, false, false] (take_ofW HT_.out HW_.out (by kernel_rfl)) hHeld ?_
            refine takeZ_ (i := 17) (some 74) #[true, true, true, true, true, true, true, true, true, true, true, true, true, true, true, false, true, true, true, false, false, false] (take_ofW HT_.out HW_.out (by kernel_rfl)) hHeld ?_
            refine one_ (i := 15) (N := some 72) #[true, true, true, true, true, true, true, true, true, true, true, true, true, true, true, true, true, true, true, false, false, false] rfl rfl (one_of HT_.out (by kernel_rfl)) (by decide) (fun K hK => ?_)
            refine goes_ Try.func47 (by kernel_rfl) rfl #[.slice Ao20 t495.length co20, .agg #[.slice Ao44 y540.length co44], .int .i64 x12_1] (by rfl) rfl rfl (by (try simp only [List.map_toArray, List.map_cons, List.map_nil]); first | done | rfl | (simp only [List.length_drop, List.length_take]; rfl)) ?_
            with_reducible refine (impl_Decides.calls k1 _ _ t495 _ _ y540 x12_1 t557 _ ?side1 ?side2 ?side3 ?side4 A84.out).mono ?_
            (case side1 => repeat (first | exact (Kd.R_reads' HO_3.out).2.2 | (with_reducible refine Kd.C_alloc ?_ _) | (with_reducible refine Kd.C_drewN ?_ _) | (with_reducible refine Kd.C_drew ?_)))
            (case side2 => exact (Kd.R_reads' HO_3.out).2.1)
            (case side3 => repeat (first | exact (Kd.R_reads' HO_544000.out).2.2 | (with_reducible refine Kd.C_alloc ?_ _) | (with_reducible refine Kd.C_drewN ?_ _) | (with_reducible refine Kd.C_drew ?_)))
            (case side4 => exact (Kd.R_reads' HO_544000.out).2.1)
            rintro e w89 ⟨rfl, hb⟩
            refine ⟨_, rfl, ?_⟩
            replace HO_3 := Aside0.mk (Kd.R_below (by (with_reducible repeat (first | apply Kd.R_alloc | apply Kd.R_drewN | apply Kd.R_drew)); exact HO_3.out) hb)
            replace HO_4 := Aside0.mk (Kd.R_below (by (with_reducible repeat (first | apply Kd.R_alloc | apply Kd.R_drewN | apply Kd.R_drew)); exact HO_4.out) hb)
            replace HO_11 := Aside0.mk (Kd.R_below (by (with_reducible repeat (first | apply Kd.R_alloc | apply Kd.R_drewN | apply Kd.R_drew)); exact HO_11.out) hb)
            replace HO_527000 := Aside0.mk (Kd.R_below (by (with_reducible repeat (first | apply Kd.R_alloc | apply Kd.R_drewN | apply Kd.R_drew)); exact HO_527000.out) hb)
            replace HO_531000 := Aside0.mk (Kd.R_below (by (with_reducible repeat (first | apply Kd.R_alloc | apply Kd.R_drewN | apply Kd.R_drew)); exact HO_531000.out) hb)
            replace HO_544000 := Aside0.mk (Kd.R_below (by (with_reducible repeat (first | apply Kd.R_alloc | apply Kd.R_drewN | apply Kd.R_drew)); exact HO_544000.out) hb)
            replace HO_550000 := Aside0.mk (Kd.R_below (by (with_reducible repeat (first | apply Kd.R_alloc | apply Kd.R_drewN | apply Kd.R_drew)); exact HO_550000.out) hb)
            replace BK526 := bkb_ BK526 hb
            replace BK530 := bkb_ BK530 hb
            replace BK543 := bkb_ BK543 hb
            replace BK549 := bkb_ BK549 hb
            replace HB := hbs_ hb
            (try clear hb)
            (try clear hb2)
            (try clear hk)
            (try clear hi)
            refine hK.out _ _ ⟨(blk_cell BK526.out 0).trans rfl, (blk_cell BK543.out 0).trans rfl, (blk_cell BK530.out 0).trans rfl⟩ (fun hHeld => ?_)
            clear hK K
            refine norm_ (a' := ?_) ?_ ?_
            rotate_left
            ·show Act.put _ (some 72) _ = _
             simp only [Act.put, List.setIfInBounds_toArray, List.set_cons_zero, List.set_cons_succ, i64_w, i32_w]
             rfl
            refine one_ (i := 19) (N := some 76) #[true, true, true, true, true, true, true, true, true, true, true, true, true, true, true, true, true, true, true, true, false, false] rfl rfl (one_of HT_.out (by kernel_rfl)) (by decide) (fun K hK => ?_)
            refine goes_ Try.func47 (by kernel_rfl) rfl #[.slice Ao20 t495.length co20, .agg #[.slice Ao33 t527.length co33], .int .i64 x12_1] (by rfl) rfl rfl (by (try simp only [List.map_toArray, List.map_cons, List.map_nil]); first | done | rfl | (simp only [List.length_drop, List.length_take]; rfl)) ?_
            with_reducible refine (impl_Decides.calls k1 _ _ t495 _ _ t527 x12_1 t558 _ ?side1 ?side2 ?side3 ?side4 A85.out).mono ?_
            (case side1 => repeat (first | exact (Kd.R_reads' HO_3.out).2.2 | (with_reducible refine Kd.C_alloc ?_ _) | (with_reducible refine Kd.C_drewN ?_ _) | (with_reducible refine Kd.C_drew ?_)))
            (case side2 => exact (Kd.R_reads' HO_3.out).2.1)
            (case side3 => repeat (first | exact (Kd.R_reads' HO_531000.out).2.2 | (with_reducible refine Kd.C_alloc ?_ _) | (with_reducible refine Kd.C_drewN ?_ _) | (with_reducible refine Kd.C_drew ?_)))
            (case side4 => exact (Kd.R_reads' HO_531000.out).2.1)
            rintro e w90 ⟨rfl, hb⟩
            refine ⟨_, rfl, ?_⟩
            replace HO_3 := Aside0.mk (Kd.R_below (by (with_reducible repeat (first | apply Kd.R_alloc | apply Kd.R_drewN | apply Kd.R_drew)); exact HO_3.out) hb)
            replace HO_4 := Aside0.mk (Kd.R_below (by (with_reducible repeat (first | apply Kd.R_alloc | apply Kd.R_drewN | apply Kd.R_drew)); exact HO_4.out) hb)
            replace HO_11 := Aside0.mk (Kd.R_below (by (with_reducible repeat (first | apply Kd.R_alloc | apply Kd.R_drewN | apply Kd.R_drew)); exact HO_11.out) hb)
            replace HO_527000 := Aside0.mk (Kd.R_below (by (with_reducible repeat (first | apply Kd.R_alloc | apply Kd.R_drewN | apply Kd.R_drew)); exact HO_527000.out) hb)
            replace HO_531000 := Aside0.mk (Kd.R_below (by (with_reducible repeat (first | apply Kd.R_alloc | apply Kd.R_drewN | apply Kd.R_drew)); exact HO_531000.out) hb)
            replace HO_544000 := Aside0.mk (Kd.R_below (by (with_reducible repeat (first | apply Kd.R_alloc | apply Kd.R_drewN | apply Kd.R_drew)); exact HO_544000.out) hb)
            replace HO_550000 := Aside0.mk (Kd.R_below (by (with_reducible repeat (first | apply Kd.R_alloc | apply Kd.R_drewN | apply Kd.R_drew)); exact HO_550000.out) hb)
            replace BK526 := bkb_ BK526 hb
            replace BK530 := bkb_ BK530 hb
            replace BK543 := bkb_ BK543 hb
            replace BK549 := bkb_ BK549 hb
            replace HB := hbs_ hb
            (try clear hb)
            (try clear hb2)
            (try clear hk)
            (try clear hi)
            refine hK.out _ _ ⟨(blk_cell BK526.out 0).trans rfl, (blk_cell BK543.out 0).trans rfl, (blk_cell BK530.out 0).trans rfl⟩ (fun hHeld => ?_)
            clear hK K
            refine norm_ (a' := ?_) ?_ ?_
            rotate_left
            ·show Act.put _ (some 76) _ = _
             simp only [Act.put, List.setIfInBounds_toArray, List.set_cons_zero, List.set_cons_succ, i64_w, i32_w]
             rfl
            refine pureZ_ (i := 20) (some 77) #[true, true, true, true, true, true, true, true, true, true, true, true, true, true, true, true, true, true, true, true, true, false] (any_of HT_.out (by kernel_rfl)) ?_
            refine pureZ_ (i := 21) (some 78) #[true, true, true, true, true, true, true, true, true, true, true, true, true, true, true, true, true, true, true, true, true, true] (any_of HT_.out (by kernel_rfl)) ?_
            refine done_ (done_of HT_.out (by kernel_rfl)) ?_
            try go_wp2
            go_ret
            exact ⟨eq_, bl_⟩
           ·rw [if_neg c86] at H
            have c86b0 : (t557 != t558) = false := by simpa using c86
            (try (have c86b1 : decide (t557 = t558) = true := by simpa using c86))
            (try (have c86b2 : (t557 == t558) = true := by simpa using c86))
            clear c86
            have H' := Aside0.mk H
            clear H
            try go_wp2
            replace HO_3 := Aside0.mk (Kd.R_drew HO_3.out)
            replace HO_4 := Aside0.mk (Kd.R_drew HO_4.out)
            replace HO_11 := Aside0.mk (Kd.R_drew HO_11.out)
            replace HO_527000 := Aside0.mk (Kd.R_drew HO_527000.out)
            replace HO_531000 := Aside0.mk (Kd.R_drew HO_531000.out)
            replace HO_544000 := Aside0.mk (Kd.R_drew HO_544000.out)
            replace HO_550000 := Aside0.mk (Kd.R_drew HO_550000.out)
            replace BK526 := Aside0.mk (blk_drew BK526.out)
            replace BK530 := Aside0.mk (blk_drew BK530.out)
            replace BK543 := Aside0.mk (blk_drew BK543.out)
            replace BK549 := Aside0.mk (blk_drew BK549.out)
            replace HB := Aside0.mk (below_drew1 HB.out)
            refine start_ (n := 22) (S := fun w' => w'.cell? ⟨gb526, 0, none⟩ = some (.slice Ao29 t523.length co29) ∧ w'.cell? ⟨gb543, 0, none⟩ = some (.slice Ao44 y540.length co44) ∧ w'.cell? ⟨gb530, 0, none⟩ = some (.slice Ao33 t527.length co33)) (ds := []) #[false, false, false, false, false, false, false, false, false, false, false, false, false, false, false, false, false, false, false, false, false, false] (by kernel_rfl) rfl rfl ⟨(blk_cell BK526.out 0).trans rfl, (blk_cell BK543.out 0).trans rfl, (blk_cell BK530.out 0).trans rfl⟩ (fun hHeld => ?_); refine with_tabW laws_FnPolicies.tab14 laws_FnPolicies.bits14 (fun HT_ HW_ => ?_)
            generalize wr.drew = w91 at HO_3 HO_4 HO_11 HO_527000 HO_531000 HO_544000 HO_550000 BK526 BK530 BK543 BK549 HB hHeld ⊢
            refine pureZ_ (i := 0) (some 57) #[true, false, false, false, false, false, false, false, false, false, false, false, false, false, false, false, false, false, false, false, false, false] (any_of HT_.out (by kernel_rfl)) ?_
            refine pureZ_ (i := 2) (some 59) #[true, false, true, false, false, false, false, false, false, false, false, false, false, false, false, false, false, false, false, false, false, false] (any_of HT_.out (by kernel_rfl)) ?_
            refine takeZ_ (i := 1) (some 58) #[true, true, true, false, false, false, false, false, false, false, false, false, false, false, false, false, false, false, false, false, false, false] (take_ofW HT_.out HW_.out (by kernel_rfl)) hHeld ?_
            refine one_ (i := 3) (N := some 60) #[true, true, true, true, false, false, false, false, false, false, false, false, false, false, false, false, false, false, false, false, false, false] rfl rfl (one_of HT_.out (by kernel_rfl)) (by decide) (fun K hK => ?_)
            refine goes_ Try.func47 (by kernel_rfl) rfl #[.slice Ao20 t495.length co20, .agg #[.slice Ao29 t523.length co29], .int .i64 x12_1] (by rfl) rfl rfl (by (try simp only [List.map_toArray, List.map_cons, List.map_nil]); first | done | rfl | (simp only [List.length_drop, List.length_take]; rfl)) ?_
            with_reducible refine (impl_Decides.calls k1 _ _ t495 _ _ t523 x12_1 false _ ?side1 ?side2 ?side3 ?side4 A61.out).mono ?_
            (case side1 => repeat (first | exact (Kd.R_reads' HO_3.out).2.2 | (with_reducible refine Kd.C_alloc ?_ _) | (with_reducible refine Kd.C_drewN ?_ _) | (with_reducible refine Kd.C_drew ?_)))
            (case side2 => exact (Kd.R_reads' HO_3.out).2.1)
            (case side3 => repeat (first | exact (Kd.R_reads' HO_527000.out).2.2 | (with_reducible refine Kd.C_alloc ?_ _) | (with_reducible refine Kd.C_drewN ?_ _) | (with_reducible refine Kd.C_drew ?_)))
            (case side4 => exact (Kd.R_reads' HO_527000.out).2.1)
            rintro e w92 ⟨rfl, hb⟩
            refine ⟨_, rfl, ?_⟩
            replace HO_3 := Aside0.mk (Kd.R_below (by (with_reducible repeat (first | apply Kd.R_alloc | apply Kd.R_drewN | apply Kd.R_drew)); exact HO_3.out) hb)
            replace HO_4 := Aside0.mk (Kd.R_below (by (with_reducible repeat (first | apply Kd.R_alloc | apply Kd.R_drewN | apply Kd.R_drew)); exact HO_4.out) hb)
            replace HO_11 := Aside0.mk (Kd.R_below (by (with_reducible repeat (first | apply Kd.R_alloc | apply Kd.R_drewN | apply Kd.R_drew)); exact HO_11.out) hb)
            replace HO_527000 := Aside0.mk (Kd.R_below (by (with_reducible repeat (first | apply Kd.R_alloc | apply Kd.R_drewN | apply Kd.R_drew)); exact HO_527000.out) hb)
            replace HO_531000 := Aside0.mk (Kd.R_below (by (with_reducible repeat (first | apply Kd.R_alloc | apply Kd.R_drewN | apply Kd.R_drew)); exact HO_531000.out) hb)
            replace HO_544000 := Aside0.mk (Kd.R_below (by (with_reducible repeat (first | apply Kd.R_alloc | apply Kd.R_drewN | apply Kd.R_drew)); exact HO_544000.out) hb)
            replace HO_550000 := Aside0.mk (Kd.R_below (by (with_reducible repeat (first | apply Kd.R_alloc | apply Kd.R_drewN | apply Kd.R_drew)); exact HO_550000.out) hb)
            replace BK526 := bkb_ BK526 hb
            replace BK530 := bkb_ BK530 hb
            replace BK543 := bkb_ BK543 hb
            replace BK549 := bkb_ BK549 hb
            replace HB := hbs_ hb
            (try clear hb)
            (try clear hb2)
            (try clear hk)
            (try clear hi)
            refine hK.out _ _ ⟨(blk_cell BK526.out 0).trans rfl, (blk_cell BK543.out 0).trans rfl, (blk_cell BK530.out 0).trans rfl⟩ (fun hHeld => ?_)
            clear hK K
            refine norm_ (a' := ?_) ?_ ?_
            rotate_left
            ·show Act.put _ (some 60) _ = _
             simp only [Act.put, List.setIfInBounds_toArray, List.set_cons_zero, List.set_cons_succ, i64_w, i32_w]
             rfl
            refine pureZ_ (i := 4) (some 61) #[true, true, true, true, true, false, false, false, false, false, false, false, false, false, false, false, false, false, false, false, false, false] (any_of HT_.out (by kernel_rfl)) ?_
            refine pure_ (i := 5) (N := some 62) (v := undef) (a' := ?_) #[true, true, true, true, true, true, false, false, false, false, false, false, false, false, false, false, false, false, false, false, false, false] rfl rfl (any_of HT_.out (by kernel_rfl)) (fun _ _ _ h => h) (Or.inr ⟨by rfl, rfl⟩) ?_ ?_
            rotate_left
            ·simp only [Act.put, List.setIfInBounds_toArray, List.set_cons_zero, List.set_cons_succ, i64_w, i32_w]
             rfl
            refine pure_ (i := 6) (N := some 63) (v := undef) (a' := ?_) #[true, true, true, true, true, true, true, false, false, false, false, false, false, false, false, false, false, false, false, false, false, false] rfl rfl (any_of HT_.out (by kernel_rfl)) (fun _ _ _ h => h) (Or.inr ⟨by rfl, rfl⟩) ?_ ?_
            rotate_left
            ·simp only [Act.put, List.setIfInBounds_toArray, List.set_cons_zero, List.set_cons_succ, i64_w, i32_w]
             rfl
            refine pure_ (i := 7) (N := some 64) (v := undef) (a' := ?_) #[true, true, true, true, true, true, true, true, false, false, false, false, false, false, false, false, false, false, false, false, false, false] rfl rfl (any_of HT_.out (by kernel_rfl)) (fun _ _ _ h => h) (Or.inr ⟨by rfl, rfl⟩) ?_ ?_
            rotate_left
            ·simp only [Act.put, List.setIfInBounds_toArray, List.set_cons_zero, List.set_cons_succ, i64_w, i32_w]
             rfl
            refine pure_ (i := 8) (N := some 65) (v := undef) (a' := ?_) #[true, true, true, true, true, true, true, true, true, false, false, false, false, false, false, false, false, false, false, false, false, false] rfl rfl (any_of HT_.out (by kernel_rfl)) (fun _ _ _ h => h) (Or.inr ⟨by rfl, rfl⟩) ?_ ?_
            rotate_left
            ·simp only [Act.put, List.setIfInBounds_toArray, List.set_cons_zero, List.set_cons_succ, i64_w, i32_w]
             rfl
            refine pure_ (i := 9) (N := some 66) (v := undef) (a' := ?_) #[true, true, true, true, true, true, true, true, true, true, false, false, false, false, false, false, false, false, false, false, false, false] rfl rfl (any_of HT_.out (by kernel_rfl)) (fun _ _ _ h => h) (Or.inr ⟨by rfl, rfl⟩) ?_ ?_
            rotate_left
            ·simp only [Act.put, List.setIfInBounds_toArray, List.set_cons_zero, List.set_cons_succ, i64_w, i32_w]
             rfl
            refine pureZ_ (i := 10) (some 67) #[true, true, true, true, true, true, true, true, true, true, true, false, false, false, false, false, false, false, false, false, false, false] (any_of HT_.out (by kernel_rfl)) ?_
            refine pureZ_ (i := 11) (some 68) #[true, true, true, true, true, true, true, true, true, true, true, true, false, false, false, false, false, false, false, false, false, false] (any_of HT_.out (by kernel_rfl)) ?_
            refine pureZ_ (i := 12) (some 69) #[true, true, true, true, true, true, true, true, true, true, true, true, true, false, false, false, false, false, false, false, false, false] (any_of HT_.out (by kernel_rfl)) ?_
            refine pureZ_ (i := 14) (some 71) #[true, true, true, true, true, true, true, true, true, true, true, true, true, false, true, false, false, false, false, false, false, false] (any_of HT_.out (by kernel_rfl)) ?_
            refine pureZ_ (i := 16) (some 73) #[true, true, true, true, true, true, true, true, true, true, true, true, true, false, true, false, true, false, false, false, false, false] (any_of HT_.out (by kernel_rfl)) ?_
            refine pureZ_ (i := 18) (some 75) #[true, true, true, true, true, true, true, true, true, true, true, true, true, false, true, false, true, false, true, false, false, false] (any_of HT_.out (by kernel_rfl)) ?_
            refine takeZ_ (i := 13) (some 70) #[true, true, true, true, true, true, true, true, true, true, true, true, true, true, true, false, true, false, true, false, false, false] (take_ofW HT_.out HW_.out (by kernel_rfl)) hHeld ?_
            refine takeZ_ (i := 17) (some 74) #[true, true, true, true, true, true, true, true, true, true, true, true, true, true, true, false, true, true, true, false, false, false] (take_ofW HT_.out HW_.out (by kernel_rfl)) hHeld ?_
            refine one_ (i := 15) (N := some 72) #[true, true, true, true, true, true, true, true, true, true, true, true, true, true, true, true, true, true, true, false, false, false] rfl rfl (one_of HT_.out (by kernel_rfl)) (by decide) (fun K hK => ?_)
            refine goes_ Try.func47 (by kernel_rfl) rfl #[.slice Ao20 t495.length co20, .agg #[.slice Ao44 y540.length co44], .int .i64 x12_1] (by rfl) rfl rfl (by (try simp only [List.map_toArray, List.map_cons, List.map_nil]); first | done | rfl | (simp only [List.length_drop, List.length_take]; rfl)) ?_
            with_reducible refine (impl_Decides.calls k1 _ _ t495 _ _ y540 x12_1 t557 _ ?side1 ?side2 ?side3 ?side4 A84.out).mono ?_
            (case side1 => repeat (first | exact (Kd.R_reads' HO_3.out).2.2 | (with_reducible refine Kd.C_alloc ?_ _) | (with_reducible refine Kd.C_drewN ?_ _) | (with_reducible refine Kd.C_drew ?_)))
            (case side2 => exact (Kd.R_reads' HO_3.out).2.1)
            (case side3 => repeat (first | exact (Kd.R_reads' HO_544000.out).2.2 | (with_reducible refine Kd.C_alloc ?_ _) | (with_reducible refine Kd.C_drewN ?_ _) | (with_reducible refine Kd.C_drew ?_)))
            (case side4 => exact (Kd.R_reads' HO_544000.out).2.1)
            rintro e w93 ⟨rfl, hb⟩
            refine ⟨_, rfl, ?_⟩
            replace HO_3 := Aside0.mk (Kd.R_below (by (with_reducible repeat (first | apply Kd.R_alloc | apply Kd.R_drewN | apply Kd.R_drew)); exact HO_3.out) hb)
            replace HO_4 := Aside0.mk (Kd.R_below (by (with_reducible repeat (first | apply Kd.R_alloc | apply Kd.R_drewN | apply Kd.R_drew)); exact HO_4.out) hb)
            replace HO_11 := Aside0.mk (Kd.R_below (by (with_reducible repeat (first | apply Kd.R_alloc | apply Kd.R_drewN | apply Kd.R_drew)); exact HO_11.out) hb)
            replace HO_527000 := Aside0.mk (Kd.R_below (by (with_reducible repeat (first | apply Kd.R_alloc | apply Kd.R_drewN | apply Kd.R_drew)); exact HO_527000.out) hb)
            replace HO_531000 := Aside0.mk (Kd.R_below (by (with_reducible repeat (first | apply Kd.R_alloc | apply Kd.R_drewN | apply Kd.R_drew)); exact HO_531000.out) hb)
            replace HO_544000 := Aside0.mk (Kd.R_below (by (with_reducible repeat (first | apply Kd.R_alloc | apply Kd.R_drewN | apply Kd.R_drew)); exact HO_544000.out) hb)
            replace HO_550000 := Aside0.mk (Kd.R_below (by (with_reducible repeat (first | apply Kd.R_alloc | apply Kd.R_drewN | apply Kd.R_drew)); exact HO_550000.out) hb)
            replace BK526 := bkb_ BK526 hb
            replace BK530 := bkb_ BK530 hb
            replace BK543 := bkb_ BK543 hb
            replace BK549 := bkb_ BK549 hb
            replace HB := hbs_ hb
            (try clear hb)
            (try clear hb2)
            (try clear hk)
            (try clear hi)
            refine hK.out _ _ ⟨(blk_cell BK526.out 0).trans rfl, (blk_cell BK543.out 0).trans rfl, (blk_cell BK530.out 0).trans rfl⟩ (fun hHeld => ?_)
            clear hK K
            refine norm_ (a' := ?_) ?_ ?_
            rotate_left
            ·show Act.put _ (some 72) _ = _
             simp only [Act.put, List.setIfInBounds_toArray, List.set_cons_zero, List.set_cons_succ, i64_w, i32_w]
             rfl
            refine one_ (i := 19) (N := some 76) #[true, true, true, true, true, true, true, true, true, true, true, true, true, true, true, true, true, true, true, true, false, false] rfl rfl (one_of HT_.out (by kernel_rfl)) (by decide) (fun K hK => ?_)
            refine goes_ Try.func47 (by kernel_rfl) rfl #[.slice Ao20 t495.length co20, .agg #[.slice Ao33 t527.length co33], .int .i64 x12_1] (by rfl) rfl rfl (by (try simp only [List.map_toArray, List.map_cons, List.map_nil]); first | done | rfl | (simp only [List.length_drop, List.length_take]; rfl)) ?_
            with_reducible refine (impl_Decides.calls k1 _ _ t495 _ _ t527 x12_1 t558 _ ?side1 ?side2 ?side3 ?side4 A85.out).mono ?_
            (case side1 => repeat (first | exact (Kd.R_reads' HO_3.out).2.2 | (with_reducible refine Kd.C_alloc ?_ _) | (with_reducible refine Kd.C_drewN ?_ _) | (with_reducible refine Kd.C_drew ?_)))
            (case side2 => exact (Kd.R_reads' HO_3.out).2.1)
            (case side3 => repeat (first | exact (Kd.R_reads' HO_531000.out).2.2 | (with_reducible refine Kd.C_alloc ?_ _) | (with_reducible refine Kd.C_drewN ?_ _) | (with_reducible refine Kd.C_drew ?_)))
            (case side4 => exact (Kd.R_reads' HO_531000.out).2.1)
            rintro e w94 ⟨rfl, hb⟩
            refine ⟨_, rfl, ?_⟩
            replace HO_3 := Aside0.mk (Kd.R_below (by (with_reducible repeat (first | apply Kd.R_alloc | apply Kd.R_drewN | apply Kd.R_drew)); exact HO_3.out) hb)
            replace HO_4 := Aside0.mk (Kd.R_below (by (with_reducible repeat (first | apply Kd.R_alloc | apply Kd.R_drewN | apply Kd.R_drew)); exact HO_4.out) hb)
            replace HO_11 := Aside0.mk (Kd.R_below (by (with_reducible repeat (first | apply Kd.R_alloc | apply Kd.R_drewN | apply Kd.R_drew)); exact HO_11.out) hb)
            replace HO_527000 := Aside0.mk (Kd.R_below (by (with_reducible repeat (first | apply Kd.R_alloc | apply Kd.R_drewN | apply Kd.R_drew)); exact HO_527000.out) hb)
            replace HO_531000 := Aside0.mk (Kd.R_below (by (with_reducible repeat (first | apply Kd.R_alloc | apply Kd.R_drewN | apply Kd.R_drew)); exact HO_531000.out) hb)
            replace HO_544000 := Aside0.mk (Kd.R_below (by (with_reducible repeat (first | apply Kd.R_alloc | apply Kd.R_drewN | apply Kd.R_drew)); exact HO_544000.out) hb)
            replace HO_550000 := Aside0.mk (Kd.R_below (by (with_reducible repeat (first | apply Kd.R_alloc | apply Kd.R_drewN | apply Kd.R_drew)); exact HO_550000.out) hb)
            replace BK526 := bkb_ BK526 hb
            replace BK530 := bkb_ BK530 hb
            replace BK543 := bkb_ BK543 hb
            replace BK549 := bkb_ BK549 hb
            replace HB := hbs_ hb
            (try clear hb)
            (try clear hb2)
            (try clear hk)
            (try clear hi)
            refine hK.out _ _ ⟨(blk_cell BK526.out 0).trans rfl, (blk_cell BK543.out 0).trans rfl, (blk_cell BK530.out 0).trans rfl⟩ (fun hHeld => ?_)
            clear hK K
            refine norm_ (a' := ?_) ?_ ?_
            rotate_left
            ·show Act.put _ (some 76) _ = _
             simp only [Act.put, List.setIfInBounds_toArray, List.set_cons_zero, List.set_cons_succ, i64_w, i32_w]
             rfl
            refine pureZ_ (i := 20) (some 77) #[true, true, true, true, true, true, true, true, true, true, true, true, true, true, true, true, true, true, true, true, true, false] (any_of HT_.out (by kernel_rfl)) ?_
            refine pureZ_ (i := 21) (some 78) #[true, true, true, true, true, true, true, true, true, true, true, true, true, true, true, true, true, true, true, true, true, true] (any_of HT_.out (by kernel_rfl)) ?_
            refine done_ (done_of HT_.out (by kernel_rfl)) ?_
            try go_wp2
            go_roundg k1
            case measure => have := HK1.out; omega
            case rel => exact ⟨(wrap64 (x12_1 + 1)), (by first | rfl | (simp; done) | (simp [*]; done)), H', ⟨by have := HK1.out; omega⟩, ⟨by (with_reducible repeat (first | apply Kd.R_alloc | apply Kd.R_drewN | apply Kd.R_drew)); exact HO_3.out⟩, ⟨by (with_reducible repeat (first | apply Kd.R_alloc | apply Kd.R_drewN | apply Kd.R_drew)); exact HO_4.out⟩, ⟨by (with_reducible repeat (first | apply Kd.R_alloc | apply Kd.R_drewN | apply Kd.R_drew)); exact HO_11.out⟩, ⟨by (with_reducible repeat (first | apply Kd.R_alloc | apply Kd.R_drewN | apply Kd.R_drew)); exact HO_527000.out⟩, ⟨by (with_reducible repeat (first | apply Kd.R_alloc | apply Kd.R_drewN | apply Kd.R_drew)); exact HO_531000.out⟩, ⟨by (with_reducible repeat (first | apply Kd.R_alloc | apply Kd.R_drewN | apply Kd.R_drew)); exact HO_544000.out⟩, ⟨by (with_reducible repeat (first | apply Kd.R_alloc | apply Kd.R_drewN | apply Kd.R_drew)); exact HO_550000.out⟩, ⟨bk_ BK526⟩, ⟨bk_ BK530⟩, ⟨bk_ BK543⟩, ⟨bk_ BK549⟩, ⟨bl_⟩⟩
         ·rw [if_neg c60] at H
          have c60b0 : decide (x12_1 < 6) = false := decide_eq_false c60
          clear c60
          obtain ⟨t559, A95, H⟩ := bindE_ H
          by_cases c96 : t559 = true
          ·subst c96
           replace H := ite_t_ H
           obtain ⟨t560, A97, H⟩ := bindE_ H
           by_cases c98 : t560 = true
           ·subst c98
            replace H := ite_t_ H
            obtain rfl := Option.some.inj H
            have hnb99 := NB526_530.out
            have hnc99 := NB530_526.out
            have hnb100 := NB526_543.out
            have hnc100 := NB543_526.out
            have hnb101 := NB526_549.out
            have hnc101 := NB549_526.out
            have hcz102 := blk_cell BK526.out
            have hfz102 := blk_frozen BK526.out
            go_wp2_with (first | ((with_reducible refine gate_callee (f := 48) rfl ?_); refine goesC_ (some 80) Try.func48 #[.agg #[.slice Ao29 t523.length co29]] ?_; (with_reducible refine (impl_Rising.calls k1 _ _ t523 true _ ?side1 ?side2 A95.out).mono ?_); (case side1 => repeat (first | exact (Kd.R_reads' HO_527000.out).2.2 | (with_reducible refine Kd.C_alloc ?_ _) | (with_reducible refine Kd.C_drewN ?_ _) | (with_reducible refine Kd.C_drew ?_))); (case side2 => exact (Kd.R_reads' HO_527000.out).2.1); rintro e w103 ⟨rfl, hb⟩; refine ⟨_, rfl, ?_⟩; replace HO_3 := Aside0.mk (Kd.R_below (by (with_reducible repeat (first | apply Kd.R_alloc | apply Kd.R_drewN | apply Kd.R_drew)); exact HO_3.out) hb); replace HO_4 := Aside0.mk (Kd.R_below (by (with_reducible repeat (first | apply Kd.R_alloc | apply Kd.R_drewN | apply Kd.R_drew)); exact HO_4.out) hb); replace HO_11 := Aside0.mk (Kd.R_below (by (with_reducible repeat (first | apply Kd.R_alloc | apply Kd.R_drewN | apply Kd.R_drew)); exact HO_11.out) hb); replace HO_527000 := Aside0.mk (Kd.R_below (by (with_reducible repeat (first | apply Kd.R_alloc | apply Kd.R_drewN | apply Kd.R_drew)); exact HO_527000.out) hb); replace HO_531000 := Aside0.mk (Kd.R_below (by (with_reducible repeat (first | apply Kd.R_alloc | apply Kd.R_drewN | apply Kd.R_drew)); exact HO_531000.out) hb); replace HO_544000 := Aside0.mk (Kd.R_below (by (with_reducible repeat (first | apply Kd.R_alloc | apply Kd.R_drewN | apply Kd.R_drew)); exact HO_544000.out) hb); replace HO_550000 := Aside0.mk (Kd.R_below (by (with_reducible repeat (first | apply Kd.R_alloc | apply Kd.R_drewN | apply Kd.R_drew)); exact HO_550000.out) hb); replace BK526 := bkb_ BK526 hb; replace BK530 := bkb_ BK530 hb; replace BK543 := bkb_ BK543 hb; replace BK549 := bkb_ BK549 hb; replace HB := hbs_ hb; clear hb; have hnb104 := NB543_530.out; have hnc104 := NB530_543.out; have hnb105 := NB543_549.out; have hnc105 := NB549_543.out; have hcz106 := blk_cell BK543.out; have hfz106 := blk_frozen BK543.out) | (go_at_call 48; (with_reducible refine (impl_Rising.calls k1 _ _ y540 true _ ?side1 ?side2 A97.out).mono ?_); (case side1 => repeat (first | exact (Kd.R_reads' HO_544000.out).2.2 | (with_reducible refine Kd.C_alloc ?_ _) | (with_reducible refine Kd.C_drewN ?_ _) | (with_reducible refine Kd.C_drew ?_))); (case side2 => exact (Kd.R_reads' HO_544000.out).2.1); rintro e w107 ⟨rfl, hb⟩; replace HO_3 := Aside0.mk (Kd.R_below (by (with_reducible repeat (first | apply Kd.R_alloc | apply Kd.R_drewN | apply Kd.R_drew)); exact HO_3.out) hb); replace HO_4 := Aside0.mk (Kd.R_below (by (with_reducible repeat (first | apply Kd.R_alloc | apply Kd.R_drewN | apply Kd.R_drew)); exact HO_4.out) hb); replace HO_11 := Aside0.mk (Kd.R_below (by (with_reducible repeat (first | apply Kd.R_alloc | apply Kd.R_drewN | apply Kd.R_drew)); exact HO_11.out) hb); replace HO_527000 := Aside0.mk (Kd.R_below (by (with_reducible repeat (first | apply Kd.R_alloc | apply Kd.R_drewN | apply Kd.R_drew)); exact HO_527000.out) hb); replace HO_531000 := Aside0.mk (Kd.R_below (by (with_reducible repeat (first | apply Kd.R_alloc | apply Kd.R_drewN | apply Kd.R_drew)); exact HO_531000.out) hb); replace HO_544000 := Aside0.mk (Kd.R_below (by (with_reducible repeat (first | apply Kd.R_alloc | apply Kd.R_drewN | apply Kd.R_drew)); exact HO_544000.out) hb); replace HO_550000 := Aside0.mk (Kd.R_below (by (with_reducible repeat (first | apply Kd.R_alloc | apply Kd.R_drewN | apply Kd.R_drew)); exact HO_550000.out) hb); replace BK526 := bkb_ BK526 hb; replace BK530 := bkb_ BK530 hb; replace BK543 := bkb_ BK543 hb; replace BK549 := bkb_ BK549 hb; replace HB := hbs_ hb; clear hb))
            go_ret
            exact ⟨eq_, bl_⟩
           ·replace c98 := Bool.eq_false_iff.mpr c98
            subst c98
            replace H := ite_f_ H
            obtain ⟨t561, A108, H⟩ := bindE_ H
            by_cases c109 : t561 = true
            ·subst c109
             replace H := ite_t_ H
             by_cases c110 : t548 = true
             ·subst c110
              replace H := ite_t_ H
              obtain ⟨t562, A111, H⟩ := bindE_ H
              by_cases c112 : t562 = true
              ·subst c112
               replace H := ite_t_ H
               by_cases c113 : (t550.length : Int) ≥ 1
               ·rw [if_pos c113] at H
                have c113b0 : decide (1 ≤ (t550.length : Int)) = true := decide_eq_true c113
                have c113b1 : decide (1 ≤ t550.length) = true := decide_eq_true (by omega)
                clear c113
                obtain rfl := Option.some.inj H
                have hnb114 := NB526_530.out
                have hnc114 := NB530_526.out
                have hnb115 := NB526_543.out
                have hnc115 := NB543_526.out
                have hnb116 := NB526_549.out
                have hnc116 := NB549_526.out
                have hcz117 := blk_cell BK526.out
                have hfz117 := blk_frozen BK526.out
                go_wp2_with (first | ((with_reducible refine gate_callee (f := 48) rfl ?_); refine goesC_ (some 80) Try.func48 #[.agg #[.slice Ao29 t523.length co29]] ?_; (with_reducible refine (impl_Rising.calls k1 _ _ t523 true _ ?side1 ?side2 A95.out).mono ?_); (case side1 => repeat (first | exact (Kd.R_reads' HO_527000.out).2.2 | (with_reducible refine Kd.C_alloc ?_ _) | (with_reducible refine Kd.C_drewN ?_ _) | (with_reducible refine Kd.C_drew ?_))); (case side2 => exact (Kd.R_reads' HO_527000.out).2.1); rintro e w118 ⟨rfl, hb⟩; refine ⟨_, rfl, ?_⟩; replace HO_3 := Aside0.mk (Kd.R_below (by (with_reducible repeat (first | apply Kd.R_alloc | apply Kd.R_drewN | apply Kd.R_drew)); exact HO_3.out) hb); replace HO_4 := Aside0.mk (Kd.R_below (by (with_reducible repeat (first | apply Kd.R_alloc | apply Kd.R_drewN | apply Kd.R_drew)); exact HO_4.out) hb); replace HO_11 := Aside0.mk (Kd.R_below (by (with_reducible repeat (first | apply Kd.R_alloc | apply Kd.R_drewN | apply Kd.R_drew)); exact HO_11.out) hb); replace HO_527000 := Aside0.mk (Kd.R_below (by (with_reducible repeat (first | apply Kd.R_alloc | apply Kd.R_drewN | apply Kd.R_drew)); exact HO_527000.out) hb); replace HO_531000 := Aside0.mk (Kd.R_below (by (with_reducible repeat (first | apply Kd.R_alloc | apply Kd.R_drewN | apply Kd.R_drew)); exact HO_531000.out) hb); replace HO_544000 := Aside0.mk (Kd.R_below (by (with_reducible repeat (first | apply Kd.R_alloc | apply Kd.R_drewN | apply Kd.R_drew)); exact HO_544000.out) hb); replace HO_550000 := Aside0.mk (Kd.R_below (by (with_reducible repeat (first | apply Kd.R_alloc | apply Kd.R_drewN | apply Kd.R_drew)); exact HO_550000.out) hb); replace BK526 := bkb_ BK526 hb; replace BK530 := bkb_ BK530 hb; replace BK543 := bkb_ BK543 hb; replace BK549 := bkb_ BK549 hb; replace HB := hbs_ hb; clear hb; have hnb119 := NB543_530.out; have hnc119 := NB530_543.out; have hnb120 := NB543_549.out; have hnc120 := NB549_543.out; have hcz121 := blk_cell BK543.out; have hfz121 := blk_frozen BK543.out) | (go_at_call 48; (with_reducible refine (impl_Rising.calls k1 _ _ y540 false _ ?side1 ?side2 A97.out).mono ?_); (case side1 => repeat (first | exact (Kd.R_reads' HO_544000.out).2.2 | (with_reducible refine Kd.C_alloc ?_ _) | (with_reducible refine Kd.C_drewN ?_ _) | (with_reducible refine Kd.C_drew ?_))); (case side2 => exact (Kd.R_reads' HO_544000.out).2.1); rintro e w122 ⟨rfl, hb⟩; replace HO_3 := Aside0.mk (Kd.R_below (by (with_reducible repeat (first | apply Kd.R_alloc | apply Kd.R_drewN | apply Kd.R_drew)); exact HO_3.out) hb); replace HO_4 := Aside0.mk (Kd.R_below (by (with_reducible repeat (first | apply Kd.R_alloc | apply Kd.R_drewN | apply Kd.R_drew)); exact HO_4.out) hb); replace HO_11 := Aside0.mk (Kd.R_below (by (with_reducible repeat (first | apply Kd.R_alloc | apply Kd.R_drewN | apply Kd.R_drew)); exact HO_11.out) hb); replace HO_527000 := Aside0.mk (Kd.R_below (by (with_reducible repeat (first | apply Kd.R_alloc | apply Kd.R_drewN | apply Kd.R_drew)); exact HO_527000.out) hb); replace HO_531000 := Aside0.mk (Kd.R_below (by (with_reducible repeat (first | apply Kd.R_alloc | apply Kd.R_drewN | apply Kd.R_drew)); exact HO_531000.out) hb); replace HO_544000 := Aside0.mk (Kd.R_below (by (with_reducible repeat (first | apply Kd.R_alloc | apply Kd.R_drewN | apply Kd.R_drew)); exact HO_544000.out) hb); replace HO_550000 := Aside0.mk (Kd.R_below (by (with_reducible repeat (first | apply Kd.R_alloc | apply Kd.R_drewN | apply Kd.R_drew)); exact HO_550000.out) hb); replace BK526 := bkb_ BK526 hb; replace BK530 := bkb_ BK530 hb; replace BK543 := bkb_ BK543 hb; replace BK549 := bkb_ BK549 hb; replace HB := hbs_ hb; clear hb; have hcz123 := blk_cell BK543.out; have hfz123 := blk_frozen BK543.out) | (go_at_call 49; (with_reducible refine (impl_PolicyOk.calls k1 _ _ y540 true _ ?side1 ?side2 A108.out).mono ?_); (case side1 => repeat (first | exact (Kd.R_reads' HO_544000.out).2.2 | (with_reducible refine Kd.C_alloc ?_ _) | (with_reducible refine Kd.C_drewN ?_ _) | (with_reducible refine Kd.C_drew ?_))); (case side2 => exact (Kd.R_reads' HO_544000.out).2.1); rintro e w124 ⟨rfl, hb⟩; replace HO_3 := Aside0.mk (Kd.R_below (by (with_reducible repeat (first | apply Kd.R_alloc | apply Kd.R_drewN | apply Kd.R_drew)); exact HO_3.out) hb); replace HO_4 := Aside0.mk (Kd.R_below (by (with_reducible repeat (first | apply Kd.R_alloc | apply Kd.R_drewN | apply Kd.R_drew)); exact HO_4.out) hb); replace HO_11 := Aside0.mk (Kd.R_below (by (with_reducible repeat (first | apply Kd.R_alloc | apply Kd.R_drewN | apply Kd.R_drew)); exact HO_11.out) hb); replace HO_527000 := Aside0.mk (Kd.R_below (by (with_reducible repeat (first | apply Kd.R_alloc | apply Kd.R_drewN | apply Kd.R_drew)); exact HO_527000.out) hb); replace HO_531000 := Aside0.mk (Kd.R_below (by (with_reducible repeat (first | apply Kd.R_alloc | apply Kd.R_drewN | apply Kd.R_drew)); exact HO_531000.out) hb); replace HO_544000 := Aside0.mk (Kd.R_below (by (with_reducible repeat (first | apply Kd.R_alloc | apply Kd.R_drewN | apply Kd.R_drew)); exact HO_544000.out) hb); replace HO_550000 := Aside0.mk (Kd.R_below (by (with_reducible repeat (first | apply Kd.R_alloc | apply Kd.R_drewN | apply Kd.R_drew)); exact HO_550000.out) hb); replace BK526 := bkb_ BK526 hb; replace BK530 := bkb_ BK530 hb; replace BK543 := bkb_ BK543 hb; replace BK549 := bkb_ BK549 hb; replace HB := hbs_ hb; clear hb; have hnb125 := NB549_530.out; have hnc125 := NB530_549.out; have hcz126 := blk_cell BK549.out; have hfz126 := blk_frozen BK549.out; have hcz127 := blk_cell BK530.out; have hfz127 := blk_frozen BK530.out) | (go_at_call 50; (with_reducible refine (laws_samePolicy.calls k1 _ _ t545 _ _ t527 true _ ?side1 ?side2 ?side3 ?side4 A111.out).mono ?_); (case side1 => repeat (first | exact (Kd.R_reads' HO_550000.out).2.2 | (with_reducible refine Kd.C_alloc ?_ _) | (with_reducible refine Kd.C_drewN ?_ _) | (with_reducible refine Kd.C_drew ?_))); (case side2 => exact (Kd.R_reads' HO_550000.out).2.1); (case side3 => repeat (first | exact (Kd.R_reads' HO_531000.out).2.2 | (with_reducible refine Kd.C_alloc ?_ _) | (with_reducible refine Kd.C_drewN ?_ _) | (with_reducible refine Kd.C_drew ?_))); (case side4 => exact (Kd.R_reads' HO_531000.out).2.1); rintro e w128 ⟨rfl, hb⟩; replace HO_3 := Aside0.mk (Kd.R_below (by (with_reducible repeat (first | apply Kd.R_alloc | apply Kd.R_drewN | apply Kd.R_drew)); exact HO_3.out) hb); replace HO_4 := Aside0.mk (Kd.R_below (by (with_reducible repeat (first | apply Kd.R_alloc | apply Kd.R_drewN | apply Kd.R_drew)); exact HO_4.out) hb); replace HO_11 := Aside0.mk (Kd.R_below (by (with_reducible repeat (first | apply Kd.R_alloc | apply Kd.R_drewN | apply Kd.R_drew)); exact HO_11.out) hb); replace HO_527000 := Aside0.mk (Kd.R_below (by (with_reducible repeat (first | apply Kd.R_alloc | apply Kd.R_drewN | apply Kd.R_drew)); exact HO_527000.out) hb); replace HO_531000 := Aside0.mk (Kd.R_below (by (with_reducible repeat (first | apply Kd.R_alloc | apply Kd.R_drewN | apply Kd.R_drew)); exact HO_531000.out) hb); replace HO_544000 := Aside0.mk (Kd.R_below (by (with_reducible repeat (first | apply Kd.R_alloc | apply Kd.R_drewN | apply Kd.R_drew)); exact HO_544000.out) hb); replace HO_550000 := Aside0.mk (Kd.R_below (by (with_reducible repeat (first | apply Kd.R_alloc | apply Kd.R_drewN | apply Kd.R_drew)); exact HO_550000.out) hb); replace BK526 := bkb_ BK526 hb; replace BK530 := bkb_ BK530 hb; replace BK543 := bkb_ BK543 hb; replace BK549 := bkb_ BK549 hb; replace HB := hbs_ hb; clear hb; obtain ⟨Ao129, co129, eo129⟩ := Kd.R_slice HO_11.out; subst eo129))
                go_ret
                exact ⟨eq_, bl_⟩
               ·rw [if_neg c113] at H
                have c113b0 : decide (1 ≤ (t550.length : Int)) = false := decide_eq_false c113
                have c113b1 : decide (1 ≤ t550.length) = false := decide_eq_false (by omega)
                clear c113
                obtain rfl := Option.some.inj H
                have hnb130 := NB526_530.out
                have hnc130 := NB530_526.out
                have hnb131 := NB526_543.out
                have hnc131 := NB543_526.out
                have hnb132 := NB526_549.out
                have hnc132 := NB549_526.out
                have hcz133 := blk_cell BK526.out
                have hfz133 := blk_frozen BK526.out
                go_wp2_with (first | ((with_reducible refine gate_callee (f := 48) rfl ?_); refine goesC_ (some 80) Try.func48 #[.agg #[.slice Ao29 t523.length co29]] ?_; (with_reducible refine (impl_Rising.calls k1 _ _ t523 true _ ?side1 ?side2 A95.out).mono ?_); (case side1 => repeat (first | exact (Kd.R_reads' HO_527000.out).2.2 | (with_reducible refine Kd.C_alloc ?_ _) | (with_reducible refine Kd.C_drewN ?_ _) | (with_reducible refine Kd.C_drew ?_))); (case side2 => exact (Kd.R_reads' HO_527000.out).2.1); rintro e w134 ⟨rfl, hb⟩; refine ⟨_, rfl, ?_⟩; replace HO_3 := Aside0.mk (Kd.R_below (by (with_reducible repeat (first | apply Kd.R_alloc | apply Kd.R_drewN | apply Kd.R_drew)); exact HO_3.out) hb); replace HO_4 := Aside0.mk (Kd.R_below (by (with_reducible repeat (first | apply Kd.R_alloc | apply Kd.R_drewN | apply Kd.R_drew)); exact HO_4.out) hb); replace HO_11 := Aside0.mk (Kd.R_below (by (with_reducible repeat (first | apply Kd.R_alloc | apply Kd.R_drewN | apply Kd.R_drew)); exact HO_11.out) hb); replace HO_527000 := Aside0.mk (Kd.R_below (by (with_reducible repeat (first | apply Kd.R_alloc | apply Kd.R_drewN | apply Kd.R_drew)); exact HO_527000.out) hb); replace HO_531000 := Aside0.mk (Kd.R_below (by (with_reducible repeat (first | apply Kd.R_alloc | apply Kd.R_drewN | apply Kd.R_drew)); exact HO_531000.out) hb); replace HO_544000 := Aside0.mk (Kd.R_below (by (with_reducible repeat (first | apply Kd.R_alloc | apply Kd.R_drewN | apply Kd.R_drew)); exact HO_544000.out) hb); replace HO_550000 := Aside0.mk (Kd.R_below (by (with_reducible repeat (first | apply Kd.R_alloc | apply Kd.R_drewN | apply Kd.R_drew)); exact HO_550000.out) hb); replace BK526 := bkb_ BK526 hb; replace BK530 := bkb_ BK530 hb; replace BK543 := bkb_ BK543 hb; replace BK549 := bkb_ BK549 hb; replace HB := hbs_ hb; clear hb; have hnb135 := NB543_530.out; have hnc135 := NB530_543.out; have hnb136 := NB543_549.out; have hnc136 := NB549_543.out; have hcz137 := blk_cell BK543.out; have hfz137 := blk_frozen BK543.out) | (go_at_call 48; (with_reducible refine (impl_Rising.calls k1 _ _ y540 false _ ?side1 ?side2 A97.out).mono ?_); (case side1 => repeat (first | exact (Kd.R_reads' HO_544000.out).2.2 | (with_reducible refine Kd.C_alloc ?_ _) | (with_reducible refine Kd.C_drewN ?_ _) | (with_reducible refine Kd.C_drew ?_))); (case side2 => exact (Kd.R_reads' HO_544000.out).2.1); rintro e w138 ⟨rfl, hb⟩; replace HO_3 := Aside0.mk (Kd.R_below (by (with_reducible repeat (first | apply Kd.R_alloc | apply Kd.R_drewN | apply Kd.R_drew)); exact HO_3.out) hb); replace HO_4 := Aside0.mk (Kd.R_below (by (with_reducible repeat (first | apply Kd.R_alloc | apply Kd.R_drewN | apply Kd.R_drew)); exact HO_4.out) hb); replace HO_11 := Aside0.mk (Kd.R_below (by (with_reducible repeat (first | apply Kd.R_alloc | apply Kd.R_drewN | apply Kd.R_drew)); exact HO_11.out) hb); replace HO_527000 := Aside0.mk (Kd.R_below (by (with_reducible repeat (first | apply Kd.R_alloc | apply Kd.R_drewN | apply Kd.R_drew)); exact HO_527000.out) hb); replace HO_531000 := Aside0.mk (Kd.R_below (by (with_reducible repeat (first | apply Kd.R_alloc | apply Kd.R_drewN | apply Kd.R_drew)); exact HO_531000.out) hb); replace HO_544000 := Aside0.mk (Kd.R_below (by (with_reducible repeat (first | apply Kd.R_alloc | apply Kd.R_drewN | apply Kd.R_drew)); exact HO_544000.out) hb); replace HO_550000 := Aside0.mk (Kd.R_below (by (with_reducible repeat (first | apply Kd.R_alloc | apply Kd.R_drewN | apply Kd.R_drew)); exact HO_550000.out) hb); replace BK526 := bkb_ BK526 hb; replace BK530 := bkb_ BK530 hb; replace BK543 := bkb_ BK543 hb; replace BK549 := bkb_ BK549 hb; replace HB := hbs_ hb; clear hb; have hcz139 := blk_cell BK543.out; have hfz139 := blk_frozen BK543.out) | (go_at_call 49; (with_reducible refine (impl_PolicyOk.calls k1 _ _ y540 true _ ?side1 ?side2 A108.out).mono ?_); (case side1 => repeat (first | exact (Kd.R_reads' HO_544000.out).2.2 | (with_reducible refine Kd.C_alloc ?_ _) | (with_reducible refine Kd.C_drewN ?_ _) | (with_reducible refine Kd.C_drew ?_))); (case side2 => exact (Kd.R_reads' HO_544000.out).2.1); rintro e w140 ⟨rfl, hb⟩; replace HO_3 := Aside0.mk (Kd.R_below (by (with_reducible repeat (first | apply Kd.R_alloc | apply Kd.R_drewN | apply Kd.R_drew)); exact HO_3.out) hb); replace HO_4 := Aside0.mk (Kd.R_below (by (with_reducible repeat (first | apply Kd.R_alloc | apply Kd.R_drewN | apply Kd.R_drew)); exact HO_4.out) hb); replace HO_11 := Aside0.mk (Kd.R_below (by (with_reducible repeat (first | apply Kd.R_alloc | apply Kd.R_drewN | apply Kd.R_drew)); exact HO_11.out) hb); replace HO_527000 := Aside0.mk (Kd.R_below (by (with_reducible repeat (first | apply Kd.R_alloc | apply Kd.R_drewN | apply Kd.R_drew)); exact HO_527000.out) hb); replace HO_531000 := Aside0.mk (Kd.R_below (by (with_reducible repeat (first | apply Kd.R_alloc | apply Kd.R_drewN | apply Kd.R_drew)); exact HO_531000.out) hb); replace HO_544000 := Aside0.mk (Kd.R_below (by (with_reducible repeat (first | apply Kd.R_alloc | apply Kd.R_drewN | apply Kd.R_drew)); exact HO_544000.out) hb); replace HO_550000 := Aside0.mk (Kd.R_below (by (with_reducible repeat (first | apply Kd.R_alloc | apply Kd.R_drewN | apply Kd.R_drew)); exact HO_550000.out) hb); replace BK526 := bkb_ BK526 hb; replace BK530 := bkb_ BK530 hb; replace BK543 := bkb_ BK543 hb; replace BK549 := bkb_ BK549 hb; replace HB := hbs_ hb; clear hb; have hnb141 := NB549_530.out; have hnc141 := NB530_549.out; have hcz142 := blk_cell BK549.out; have hfz142 := blk_frozen BK549.out; have hcz143 := blk_cell BK530.out; have hfz143 := blk_frozen BK530.out) | (go_at_call 50; (with_reducible refine (laws_samePolicy.calls k1 _ _ t545 _ _ t527 true _ ?side1 ?side2 ?side3 ?side4 A111.out).mono ?_); (case side1 => repeat (first | exact (Kd.R_reads' HO_550000.out).2.2 | (with_reducible refine Kd.C_alloc ?_ _) | (with_reducible refine Kd.C_drewN ?_ _) | (with_reducible refine Kd.C_drew ?_))); (case side2 => exact (Kd.R_reads' HO_550000.out).2.1); (case side3 => repeat (first | exact (Kd.R_reads' HO_531000.out).2.2 | (with_reducible refine Kd.C_alloc ?_ _) | (with_reducible refine Kd.C_drewN ?_ _) | (with_reducible refine Kd.C_drew ?_))); (case side4 => exact (Kd.R_reads' HO_531000.out).2.1); rintro e w144 ⟨rfl, hb⟩; replace HO_3 := Aside0.mk (Kd.R_below (by (with_reducible repeat (first | apply Kd.R_alloc | apply Kd.R_drewN | apply Kd.R_drew)); exact HO_3.out) hb); replace HO_4 := Aside0.mk (Kd.R_below (by (with_reducible repeat (first | apply Kd.R_alloc | apply Kd.R_drewN | apply Kd.R_drew)); exact HO_4.out) hb); replace HO_11 := Aside0.mk (Kd.R_below (by (with_reducible repeat (first | apply Kd.R_alloc | apply Kd.R_drewN | apply Kd.R_drew)); exact HO_11.out) hb); replace HO_527000 := Aside0.mk (Kd.R_below (by (with_reducible repeat (first | apply Kd.R_alloc | apply Kd.R_drewN | apply Kd.R_drew)); exact HO_527000.out) hb); replace HO_531000 := Aside0.mk (Kd.R_below (by (with_reducible repeat (first | apply Kd.R_alloc | apply Kd.R_drewN | apply Kd.R_drew)); exact HO_531000.out) hb); replace HO_544000 := Aside0.mk (Kd.R_below (by (with_reducible repeat (first | apply Kd.R_alloc | apply Kd.R_drewN | apply Kd.R_drew)); exact HO_544000.out) hb); replace HO_550000 := Aside0.mk (Kd.R_below (by (with_reducible repeat (first | apply Kd.R_alloc | apply Kd.R_drewN | apply Kd.R_drew)); exact HO_550000.out) hb); replace BK526 := bkb_ BK526 hb; replace BK530 := bkb_ BK530 hb; replace BK543 := bkb_ BK543 hb; replace BK549 := bkb_ BK549 hb; replace HB := hbs_ hb; clear hb; obtain ⟨Ao145, co145, eo145⟩ := Kd.R_slice HO_11.out; subst eo145))
                go_ret
                exact ⟨eq_, bl_⟩
              ·replace c112 := Bool.eq_false_iff.mpr c112
               subst c112
               replace H := ite_f_ H
               obtain rfl := Option.some.inj H
               have hnb146 := NB526_530.out
               have hnc146 := NB530_526.out
               have hnb147 := NB526_543.out
               have hnc147 := NB543_526.out
               have hnb148 := NB526_549.out
               have hnc148 := NB549_526.out
               have hcz149 := blk_cell BK526.out
               have hfz149 := blk_frozen BK526.out
               go_wp2_with (first | ((with_reducible refine gate_callee (f := 48) rfl ?_); refine goesC_ (some 80) Try.func48 #[.agg #[.slice Ao29 t523.length co29]] ?_; (with_reducible refine (impl_Rising.calls k1 _ _ t523 true _ ?side1 ?side2 A95.out).mono ?_); (case side1 => repeat (first | exact (Kd.R_reads' HO_527000.out).2.2 | (with_reducible refine Kd.C_alloc ?_ _) | (with_reducible refine Kd.C_drewN ?_ _) | (with_reducible refine Kd.C_drew ?_))); (case side2 => exact (Kd.R_reads' HO_527000.out).2.1); rintro e w150 ⟨rfl, hb⟩; refine ⟨_, rfl, ?_⟩; replace HO_3 := Aside0.mk (Kd.R_below (by (with_reducible repeat (first | apply Kd.R_alloc | apply Kd.R_drewN | apply Kd.R_drew)); exact HO_3.out) hb); replace HO_4 := Aside0.mk (Kd.R_below (by (with_reducible repeat (first | apply Kd.R_alloc | apply Kd.R_drewN | apply Kd.R_drew)); exact HO_4.out) hb); replace HO_11 := Aside0.mk (Kd.R_below (by (with_reducible repeat (first | apply Kd.R_alloc | apply Kd.R_drewN | apply Kd.R_drew)); exact HO_11.out) hb); replace HO_527000 := Aside0.mk (Kd.R_below (by (with_reducible repeat (first | apply Kd.R_alloc | apply Kd.R_drewN | apply Kd.R_drew)); exact HO_527000.out) hb); replace HO_531000 := Aside0.mk (Kd.R_below (by (with_reducible repeat (first | apply Kd.R_alloc | apply Kd.R_drewN | apply Kd.R_drew)); exact HO_531000.out) hb); replace HO_544000 := Aside0.mk (Kd.R_below (by (with_reducible repeat (first | apply Kd.R_alloc | apply Kd.R_drewN | apply Kd.R_drew)); exact HO_544000.out) hb); replace HO_550000 := Aside0.mk (Kd.R_below (by (with_reducible repeat (first | apply Kd.R_alloc | apply Kd.R_drewN | apply Kd.R_drew)); exact HO_550000.out) hb); replace BK526 := bkb_ BK526 hb; replace BK530 := bkb_ BK530 hb; replace BK543 := bkb_ BK543 hb; replace BK549 := bkb_ BK549 hb; replace HB := hbs_ hb; clear hb; have hnb151 := NB543_530.out; have hnc151 := NB530_543.out; have hnb152 := NB543_549.out; have hnc152 := NB549_543.out; have hcz153 := blk_cell BK543.out; have hfz153 := blk_frozen BK543.out) | (go_at_call 48; (with_reducible refine (impl_Rising.calls k1 _ _ y540 false _ ?side1 ?side2 A97.out).mono ?_); (case side1 => repeat (first | exact (Kd.R_reads' HO_544000.out).2.2 | (with_reducible refine Kd.C_alloc ?_ _) | (with_reducible refine Kd.C_drewN ?_ _) | (with_reducible refine Kd.C_drew ?_))); (case side2 => exact (Kd.R_reads' HO_544000.out).2.1); rintro e w154 ⟨rfl, hb⟩; replace HO_3 := Aside0.mk (Kd.R_below (by (with_reducible repeat (first | apply Kd.R_alloc | apply Kd.R_drewN | apply Kd.R_drew)); exact HO_3.out) hb); replace HO_4 := Aside0.mk (Kd.R_below (by (with_reducible repeat (first | apply Kd.R_alloc | apply Kd.R_drewN | apply Kd.R_drew)); exact HO_4.out) hb); replace HO_11 := Aside0.mk (Kd.R_below (by (with_reducible repeat (first | apply Kd.R_alloc | apply Kd.R_drewN | apply Kd.R_drew)); exact HO_11.out) hb); replace HO_527000 := Aside0.mk (Kd.R_below (by (with_reducible repeat (first | apply Kd.R_alloc | apply Kd.R_drewN | apply Kd.R_drew)); exact HO_527000.out) hb); replace HO_531000 := Aside0.mk (Kd.R_below (by (with_reducible repeat (first | apply Kd.R_alloc | apply Kd.R_drewN | apply Kd.R_drew)); exact HO_531000.out) hb); replace HO_544000 := Aside0.mk (Kd.R_below (by (with_reducible repeat (first | apply Kd.R_alloc | apply Kd.R_drewN | apply Kd.R_drew)); exact HO_544000.out) hb); replace HO_550000 := Aside0.mk (Kd.R_below (by (with_reducible repeat (first | apply Kd.R_alloc | apply Kd.R_drewN | apply Kd.R_drew)); exact HO_550000.out) hb); replace BK526 := bkb_ BK526 hb; replace BK530 := bkb_ BK530 hb; replace BK543 := bkb_ BK543 hb; replace BK549 := bkb_ BK549 hb; replace HB := hbs_ hb; clear hb; have hcz155 := blk_cell BK543.out; have hfz155 := blk_frozen BK543.out) | (go_at_call 49; (with_reducible refine (impl_PolicyOk.calls k1 _ _ y540 true _ ?side1 ?side2 A108.out).mono ?_); (case side1 => repeat (first | exact (Kd.R_reads' HO_544000.out).2.2 | (with_reducible refine Kd.C_alloc ?_ _) | (with_reducible refine Kd.C_drewN ?_ _) | (with_reducible refine Kd.C_drew ?_))); (case side2 => exact (Kd.R_reads' HO_544000.out).2.1); rintro e w156 ⟨rfl, hb⟩; replace HO_3 := Aside0.mk (Kd.R_below (by (with_reducible repeat (first | apply Kd.R_alloc | apply Kd.R_drewN | apply Kd.R_drew)); exact HO_3.out) hb); replace HO_4 := Aside0.mk (Kd.R_below (by (with_reducible repeat (first | apply Kd.R_alloc | apply Kd.R_drewN | apply Kd.R_drew)); exact HO_4.out) hb); replace HO_11 := Aside0.mk (Kd.R_below (by (with_reducible repeat (first | apply Kd.R_alloc | apply Kd.R_drewN | apply Kd.R_drew)); exact HO_11.out) hb); replace HO_527000 := Aside0.mk (Kd.R_below (by (with_reducible repeat (first | apply Kd.R_alloc | apply Kd.R_drewN | apply Kd.R_drew)); exact HO_527000.out) hb); replace HO_531000 := Aside0.mk (Kd.R_below (by (with_reducible repeat (first | apply Kd.R_alloc | apply Kd.R_drewN | apply Kd.R_drew)); exact HO_531000.out) hb); replace HO_544000 := Aside0.mk (Kd.R_below (by (with_reducible repeat (first | apply Kd.R_alloc | apply Kd.R_drewN | apply Kd.R_drew)); exact HO_544000.out) hb); replace HO_550000 := Aside0.mk (Kd.R_below (by (with_reducible repeat (first | apply Kd.R_alloc | apply Kd.R_drewN | apply Kd.R_drew)); exact HO_550000.out) hb); replace BK526 := bkb_ BK526 hb; replace BK530 := bkb_ BK530 hb; replace BK543 := bkb_ BK543 hb; replace BK549 := bkb_ BK549 hb; replace HB := hbs_ hb; clear hb; have hnb157 := NB549_530.out; have hnc157 := NB530_549.out; have hcz158 := blk_cell BK549.out; have hfz158 := blk_frozen BK549.out; have hcz159 := blk_cell BK530.out; have hfz159 := blk_frozen BK530.out) | (go_at_call 50; (with_reducible refine (laws_samePolicy.calls k1 _ _ t545 _ _ t527 false _ ?side1 ?side2 ?side3 ?side4 A111.out).mono ?_); (case side1 => repeat (first | exact (Kd.R_reads' HO_550000.out).2.2 | (with_reducible refine Kd.C_alloc ?_ _) | (with_reducible refine Kd.C_drewN ?_ _) | (with_reducible refine Kd.C_drew ?_))); (case side2 => exact (Kd.R_reads' HO_550000.out).2.1); (case side3 => repeat (first | exact (Kd.R_reads' HO_531000.out).2.2 | (with_reducible refine Kd.C_alloc ?_ _) | (with_reducible refine Kd.C_drewN ?_ _) | (with_reducible refine Kd.C_drew ?_))); (case side4 => exact (Kd.R_reads' HO_531000.out).2.1); rintro e w160 ⟨rfl, hb⟩; replace HO_3 := Aside0.mk (Kd.R_below (by (with_reducible repeat (first | apply Kd.R_alloc | apply Kd.R_drewN | apply Kd.R_drew)); exact HO_3.out) hb); replace HO_4 := Aside0.mk (Kd.R_below (by (with_reducible repeat (first | apply Kd.R_alloc | apply Kd.R_drewN | apply Kd.R_drew)); exact HO_4.out) hb); replace HO_11 := Aside0.mk (Kd.R_below (by (with_reducible repeat (first | apply Kd.R_alloc | apply Kd.R_drewN | apply Kd.R_drew)); exact HO_11.out) hb); replace HO_527000 := Aside0.mk (Kd.R_below (by (with_reducible repeat (first | apply Kd.R_alloc | apply Kd.R_drewN | apply Kd.R_drew)); exact HO_527000.out) hb); replace HO_531000 := Aside0.mk (Kd.R_below (by (with_reducible repeat (first | apply Kd.R_alloc | apply Kd.R_drewN | apply Kd.R_drew)); exact HO_531000.out) hb); replace HO_544000 := Aside0.mk (Kd.R_below (by (with_reducible repeat (first | apply Kd.R_alloc | apply Kd.R_drewN | apply Kd.R_drew)); exact HO_544000.out) hb); replace HO_550000 := Aside0.mk (Kd.R_below (by (with_reducible repeat (first | apply Kd.R_alloc | apply Kd.R_drewN | apply Kd.R_drew)); exact HO_550000.out) hb); replace BK526 := bkb_ BK526 hb; replace BK530 := bkb_ BK530 hb; replace BK543 := bkb_ BK543 hb; replace BK549 := bkb_ BK549 hb; replace HB := hbs_ hb; clear hb))
               go_ret
               exact ⟨eq_, bl_⟩
             ·replace c110 := Bool.eq_false_iff.mpr c110
              subst c110
              replace H := ite_f_ H
              obtain rfl := Option.some.inj H
              have hnb161 := NB526_530.out
              have hnc161 := NB530_526.out
              have hnb162 := NB526_543.out
              have hnc162 := NB543_526.out
              have hnb163 := NB526_549.out
              have hnc163 := NB549_526.out
              have hcz164 := blk_cell BK526.out
              have hfz164 := blk_frozen BK526.out
              go_wp2_with (first | ((with_reducible refine gate_callee (f := 48) rfl ?_); refine goesC_ (some 80) Try.func48 #[.agg #[.slice Ao29 t523.length co29]] ?_; (with_reducible refine (impl_Rising.calls k1 _ _ t523 true _ ?side1 ?side2 A95.out).mono ?_); (case side1 => repeat (first | exact (Kd.R_reads' HO_527000.out).2.2 | (with_reducible refine Kd.C_alloc ?_ _) | (with_reducible refine Kd.C_drewN ?_ _) | (with_reducible refine Kd.C_drew ?_))); (case side2 => exact (Kd.R_reads' HO_527000.out).2.1); rintro e w165 ⟨rfl, hb⟩; refine ⟨_, rfl, ?_⟩; replace HO_3 := Aside0.mk (Kd.R_below (by (with_reducible repeat (first | apply Kd.R_alloc | apply Kd.R_drewN | apply Kd.R_drew)); exact HO_3.out) hb); replace HO_4 := Aside0.mk (Kd.R_below (by (with_reducible repeat (first | apply Kd.R_alloc | apply Kd.R_drewN | apply Kd.R_drew)); exact HO_4.out) hb); replace HO_11 := Aside0.mk (Kd.R_below (by (with_reducible repeat (first | apply Kd.R_alloc | apply Kd.R_drewN | apply Kd.R_drew)); exact HO_11.out) hb); replace HO_527000 := Aside0.mk (Kd.R_below (by (with_reducible repeat (first | apply Kd.R_alloc | apply Kd.R_drewN | apply Kd.R_drew)); exact HO_527000.out) hb); replace HO_531000 := Aside0.mk (Kd.R_below (by (with_reducible repeat (first | apply Kd.R_alloc | apply Kd.R_drewN | apply Kd.R_drew)); exact HO_531000.out) hb); replace HO_544000 := Aside0.mk (Kd.R_below (by (with_reducible repeat (first | apply Kd.R_alloc | apply Kd.R_drewN | apply Kd.R_drew)); exact HO_544000.out) hb); replace HO_550000 := Aside0.mk (Kd.R_below (by (with_reducible repeat (first | apply Kd.R_alloc | apply Kd.R_drewN | apply Kd.R_drew)); exact HO_550000.out) hb); replace BK526 := bkb_ BK526 hb; replace BK530 := bkb_ BK530 hb; replace BK543 := bkb_ BK543 hb; replace BK549 := bkb_ BK549 hb; replace HB := hbs_ hb; clear hb; have hnb166 := NB543_530.out; have hnc166 := NB530_543.out; have hnb167 := NB543_549.out; have hnc167 := NB549_543.out; have hcz168 := blk_cell BK543.out; have hfz168 := blk_frozen BK543.out) | (go_at_call 48; (with_reducible refine (impl_Rising.calls k1 _ _ y540 false _ ?side1 ?side2 A97.out).mono ?_); (case side1 => repeat (first | exact (Kd.R_reads' HO_544000.out).2.2 | (with_reducible refine Kd.C_alloc ?_ _) | (with_reducible refine Kd.C_drewN ?_ _) | (with_reducible refine Kd.C_drew ?_))); (case side2 => exact (Kd.R_reads' HO_544000.out).2.1); rintro e w169 ⟨rfl, hb⟩; replace HO_3 := Aside0.mk (Kd.R_below (by (with_reducible repeat (first | apply Kd.R_alloc | apply Kd.R_drewN | apply Kd.R_drew)); exact HO_3.out) hb); replace HO_4 := Aside0.mk (Kd.R_below (by (with_reducible repeat (first | apply Kd.R_alloc | apply Kd.R_drewN | apply Kd.R_drew)); exact HO_4.out) hb); replace HO_11 := Aside0.mk (Kd.R_below (by (with_reducible repeat (first | apply Kd.R_alloc | apply Kd.R_drewN | apply Kd.R_drew)); exact HO_11.out) hb); replace HO_527000 := Aside0.mk (Kd.R_below (by (with_reducible repeat (first | apply Kd.R_alloc | apply Kd.R_drewN | apply Kd.R_drew)); exact HO_527000.out) hb); replace HO_531000 := Aside0.mk (Kd.R_below (by (with_reducible repeat (first | apply Kd.R_alloc | apply Kd.R_drewN | apply Kd.R_drew)); exact HO_531000.out) hb); replace HO_544000 := Aside0.mk (Kd.R_below (by (with_reducible repeat (first | apply Kd.R_alloc | apply Kd.R_drewN | apply Kd.R_drew)); exact HO_544000.out) hb); replace HO_550000 := Aside0.mk (Kd.R_below (by (with_reducible repeat (first | apply Kd.R_alloc | apply Kd.R_drewN | apply Kd.R_drew)); exact HO_550000.out) hb); replace BK526 := bkb_ BK526 hb; replace BK530 := bkb_ BK530 hb; replace BK543 := bkb_ BK543 hb; replace BK549 := bkb_ BK549 hb; replace HB := hbs_ hb; clear hb; have hcz170 := blk_cell BK543.out; have hfz170 := blk_frozen BK543.out) | (go_at_call 49; (with_reducible refine (impl_PolicyOk.calls k1 _ _ y540 true _ ?side1 ?side2 A108.out).mono ?_); (case side1 => repeat (first | exact (Kd.R_reads' HO_544000.out).2.2 | (with_reducible refine Kd.C_alloc ?_ _) | (with_reducible refine Kd.C_drewN ?_ _) | (with_reducible refine Kd.C_drew ?_))); (case side2 => exact (Kd.R_reads' HO_544000.out).2.1); rintro e w171 ⟨rfl, hb⟩; replace HO_3 := Aside0.mk (Kd.R_below (by (with_reducible repeat (first | apply Kd.R_alloc | apply Kd.R_drewN | apply Kd.R_drew)); exact HO_3.out) hb); replace HO_4 := Aside0.mk (Kd.R_below (by (with_reducible repeat (first | apply Kd.R_alloc | apply Kd.R_drewN | apply Kd.R_drew)); exact HO_4.out) hb); replace HO_11 := Aside0.mk (Kd.R_below (by (with_reducible repeat (first | apply Kd.R_alloc | apply Kd.R_drewN | apply Kd.R_drew)); exact HO_11.out) hb); replace HO_527000 := Aside0.mk (Kd.R_below (by (with_reducible repeat (first | apply Kd.R_alloc | apply Kd.R_drewN | apply Kd.R_drew)); exact HO_527000.out) hb); replace HO_531000 := Aside0.mk (Kd.R_below (by (with_reducible repeat (first | apply Kd.R_alloc | apply Kd.R_drewN | apply Kd.R_drew)); exact HO_531000.out) hb); replace HO_544000 := Aside0.mk (Kd.R_below (by (with_reducible repeat (first | apply Kd.R_alloc | apply Kd.R_drewN | apply Kd.R_drew)); exact HO_544000.out) hb); replace HO_550000 := Aside0.mk (Kd.R_below (by (with_reducible repeat (first | apply Kd.R_alloc | apply Kd.R_drewN | apply Kd.R_drew)); exact HO_550000.out) hb); replace BK526 := bkb_ BK526 hb; replace BK530 := bkb_ BK530 hb; replace BK543 := bkb_ BK543 hb; replace BK549 := bkb_ BK549 hb; replace HB := hbs_ hb; clear hb))
              go_ret
              exact ⟨eq_, bl_⟩
            ·replace c109 := Bool.eq_false_iff.mpr c109
             subst c109
             replace H := ite_f_ H
             obtain rfl := Option.some.inj H
             have hnb172 := NB526_530.out
             have hnc172 := NB530_526.out
             have hnb173 := NB526_543.out
             have hnc173 := NB543_526.out
             have hnb174 := NB526_549.out
             have hnc174 := NB549_526.out
             have hcz175 := blk_cell BK526.out
             have hfz175 := blk_frozen BK526.out
             go_wp2_with (first | ((with_reducible refine gate_callee (f := 48) rfl ?_); refine goesC_ (some 80) Try.func48 #[.agg #[.slice Ao29 t523.length co29]] ?_; (with_reducible refine (impl_Rising.calls k1 _ _ t523 true _ ?side1 ?side2 A95.out).mono ?_); (case side1 => repeat (first | exact (Kd.R_reads' HO_527000.out).2.2 | (with_reducible refine Kd.C_alloc ?_ _) | (with_reducible refine Kd.C_drewN ?_ _) | (with_reducible refine Kd.C_drew ?_))); (case side2 => exact (Kd.R_reads' HO_527000.out).2.1); rintro e w176 ⟨rfl, hb⟩; refine ⟨_, rfl, ?_⟩; replace HO_3 := Aside0.mk (Kd.R_below (by (with_reducible repeat (first | apply Kd.R_alloc | apply Kd.R_drewN | apply Kd.R_drew)); exact HO_3.out) hb); replace HO_4 := Aside0.mk (Kd.R_below (by (with_reducible repeat (first | apply Kd.R_alloc | apply Kd.R_drewN | apply Kd.R_drew)); exact HO_4.out) hb); replace HO_11 := Aside0.mk (Kd.R_below (by (with_reducible repeat (first | apply Kd.R_alloc | apply Kd.R_drewN | apply Kd.R_drew)); exact HO_11.out) hb); replace HO_527000 := Aside0.mk (Kd.R_below (by (with_reducible repeat (first | apply Kd.R_alloc | apply Kd.R_drewN | apply Kd.R_drew)); exact HO_527000.out) hb); replace HO_531000 := Aside0.mk (Kd.R_below (by (with_reducible repeat (first | apply Kd.R_alloc | apply Kd.R_drewN | apply Kd.R_drew)); exact HO_531000.out) hb); replace HO_544000 := Aside0.mk (Kd.R_below (by (with_reducible repeat (first | apply Kd.R_alloc | apply Kd.R_drewN | apply Kd.R_drew)); exact HO_544000.out) hb); replace HO_550000 := Aside0.mk (Kd.R_below (by (with_reducible repeat (first | apply Kd.R_alloc | apply Kd.R_drewN | apply Kd.R_drew)); exact HO_550000.out) hb); replace BK526 := bkb_ BK526 hb; replace BK530 := bkb_ BK530 hb; replace BK543 := bkb_ BK543 hb; replace BK549 := bkb_ BK549 hb; replace HB := hbs_ hb; clear hb; have hnb177 := NB543_530.out; have hnc177 := NB530_543.out; have hnb178 := NB543_549.out; have hnc178 := NB549_543.out; have hcz179 := blk_cell BK543.out; have hfz179 := blk_frozen BK543.out) | (go_at_call 48; (with_reducible refine (impl_Rising.calls k1 _ _ y540 false _ ?side1 ?side2 A97.out).mono ?_); (case side1 => repeat (first | exact (Kd.R_reads' HO_544000.out).2.2 | (with_reducible refine Kd.C_alloc ?_ _) | (with_reducible refine Kd.C_drewN ?_ _) | (with_reducible refine Kd.C_drew ?_))); (case side2 => exact (Kd.R_reads' HO_544000.out).2.1); rintro e w180 ⟨rfl, hb⟩; replace HO_3 := Aside0.mk (Kd.R_below (by (with_reducible repeat (first | apply Kd.R_alloc | apply Kd.R_drewN | apply Kd.R_drew)); exact HO_3.out) hb); replace HO_4 := Aside0.mk (Kd.R_below (by (with_reducible repeat (first | apply Kd.R_alloc | apply Kd.R_drewN | apply Kd.R_drew)); exact HO_4.out) hb); replace HO_11 := Aside0.mk (Kd.R_below (by (with_reducible repeat (first | apply Kd.R_alloc | apply Kd.R_drewN | apply Kd.R_drew)); exact HO_11.out) hb); replace HO_527000 := Aside0.mk (Kd.R_below (by (with_reducible repeat (first | apply Kd.R_alloc | apply Kd.R_drewN | apply Kd.R_drew)); exact HO_527000.out) hb); replace HO_531000 := Aside0.mk (Kd.R_below (by (with_reducible repeat (first | apply Kd.R_alloc | apply Kd.R_drewN | apply Kd.R_drew)); exact HO_531000.out) hb); replace HO_544000 := Aside0.mk (Kd.R_below (by (with_reducible repeat (first | apply Kd.R_alloc | apply Kd.R_drewN | apply Kd.R_drew)); exact HO_544000.out) hb); replace HO_550000 := Aside0.mk (Kd.R_below (by (with_reducible repeat (first | apply Kd.R_alloc | apply Kd.R_drewN | apply Kd.R_drew)); exact HO_550000.out) hb); replace BK526 := bkb_ BK526 hb; replace BK530 := bkb_ BK530 hb; replace BK543 := bkb_ BK543 hb; replace BK549 := bkb_ BK549 hb; replace HB := hbs_ hb; clear hb; have hcz181 := blk_cell BK543.out; have hfz181 := blk_frozen BK543.out) | (go_at_call 49; (with_reducible refine (impl_PolicyOk.calls k1 _ _ y540 false _ ?side1 ?side2 A108.out).mono ?_); (case side1 => repeat (first | exact (Kd.R_reads' HO_544000.out).2.2 | (with_reducible refine Kd.C_alloc ?_ _) | (with_reducible refine Kd.C_drewN ?_ _) | (with_reducible refine Kd.C_drew ?_))); (case side2 => exact (Kd.R_reads' HO_544000.out).2.1); rintro e w182 ⟨rfl, hb⟩; replace HO_3 := Aside0.mk (Kd.R_below (by (with_reducible repeat (first | apply Kd.R_alloc | apply Kd.R_drewN | apply Kd.R_drew)); exact HO_3.out) hb); replace HO_4 := Aside0.mk (Kd.R_below (by (with_reducible repeat (first | apply Kd.R_alloc | apply Kd.R_drewN | apply Kd.R_drew)); exact HO_4.out) hb); replace HO_11 := Aside0.mk (Kd.R_below (by (with_reducible repeat (first | apply Kd.R_alloc | apply Kd.R_drewN | apply Kd.R_drew)); exact HO_11.out) hb); replace HO_527000 := Aside0.mk (Kd.R_below (by (with_reducible repeat (first | apply Kd.R_alloc | apply Kd.R_drewN | apply Kd.R_drew)); exact HO_527000.out) hb); replace HO_531000 := Aside0.mk (Kd.R_below (by (with_reducible repeat (first | apply Kd.R_alloc | apply Kd.R_drewN | apply Kd.R_drew)); exact HO_531000.out) hb); replace HO_544000 := Aside0.mk (Kd.R_below (by (with_reducible repeat (first | apply Kd.R_alloc | apply Kd.R_drewN | apply Kd.R_drew)); exact HO_544000.out) hb); replace HO_550000 := Aside0.mk (Kd.R_below (by (with_reducible repeat (first | apply Kd.R_alloc | apply Kd.R_drewN | apply Kd.R_drew)); exact HO_550000.out) hb); replace BK526 := bkb_ BK526 hb; replace BK530 := bkb_ BK530 hb; replace BK543 := bkb_ BK543 hb; replace BK549 := bkb_ BK549 hb; replace HB := hbs_ hb; clear hb))
             go_ret
             exact ⟨eq_, bl_⟩
          ·replace c96 := Bool.eq_false_iff.mpr c96
           subst c96
           replace H := ite_f_ H
           obtain rfl := Option.some.inj H
           have hnb183 := NB526_530.out
           have hnc183 := NB530_526.out
           have hnb184 := NB526_543.out
           have hnc184 := NB543_526.out
           have hnb185 := NB526_549.out
           have hnc185 := NB549_526.out
           have hcz186 := blk_cell BK526.out
           have hfz186 := blk_frozen BK526.out
           go_wp2_with (first | ((with_reducible refine gate_callee (f := 48) rfl ?_); refine goesC_ (some 80) Try.func48 #[.agg #[.slice Ao29 t523.length co29]] ?_; (with_reducible refine (impl_Rising.calls k1 _ _ t523 false _ ?side1 ?side2 A95.out).mono ?_); (case side1 => repeat (first | exact (Kd.R_reads' HO_527000.out).2.2 | (with_reducible refine Kd.C_alloc ?_ _) | (with_reducible refine Kd.C_drewN ?_ _) | (with_reducible refine Kd.C_drew ?_))); (case side2 => exact (Kd.R_reads' HO_527000.out).2.1); rintro e w187 ⟨rfl, hb⟩; refine ⟨_, rfl, ?_⟩; replace HO_3 := Aside0.mk (Kd.R_below (by (with_reducible repeat (first | apply Kd.R_alloc | apply Kd.R_drewN | apply Kd.R_drew)); exact HO_3.out) hb); replace HO_4 := Aside0.mk (Kd.R_below (by (with_reducible repeat (first | apply Kd.R_alloc | apply Kd.R_drewN | apply Kd.R_drew)); exact HO_4.out) hb); replace HO_11 := Aside0.mk (Kd.R_below (by (with_reducible repeat (first | apply Kd.R_alloc | apply Kd.R_drewN | apply Kd.R_drew)); exact HO_11.out) hb); replace HO_527000 := Aside0.mk (Kd.R_below (by (with_reducible repeat (first | apply Kd.R_alloc | apply Kd.R_drewN | apply Kd.R_drew)); exact HO_527000.out) hb); replace HO_531000 := Aside0.mk (Kd.R_below (by (with_reducible repeat (first | apply Kd.R_alloc | apply Kd.R_drewN | apply Kd.R_drew)); exact HO_531000.out) hb); replace HO_544000 := Aside0.mk (Kd.R_below (by (with_reducible repeat (first | apply Kd.R_alloc | apply Kd.R_drewN | apply Kd.R_drew)); exact HO_544000.out) hb); replace HO_550000 := Aside0.mk (Kd.R_below (by (with_reducible repeat (first | apply Kd.R_alloc | apply Kd.R_drewN | apply Kd.R_drew)); exact HO_550000.out) hb); replace BK526 := bkb_ BK526 hb; replace BK530 := bkb_ BK530 hb; replace BK543 := bkb_ BK543 hb; replace BK549 := bkb_ BK549 hb; replace HB := hbs_ hb; clear hb))
           go_ret
           exact ⟨eq_, bl_⟩
      ·rw [if_neg c12] at H
       exact absurd H (by simp)
     ·rw [if_neg c11] at H
      exact absurd H (by simp)
    ·rw [if_neg c8] at H
     exact absurd H (by simp)
   ·rw [if_neg c6] at H
    exact absurd H (by simp)
  ·rw [if_neg c5] at H
   exact absurd H (by simp)
end Go.Proofs.Ytppdmcimddhbaaa.PE
