import Derived.Test.YtppdmcimddhbaaaKFnExactDeepOfProofPAx0
import Derived.Test.YtppdmcimddhbaaaKFnExactDeepOfProofPAx3
import Derived.Test.YtppdmcimddhbaaaKFnExactDeepOfProofPAx4
import Derived.Test.YtppdmcimddhbaaaKFnExactDeepOfProofPAx5
import Derived.Test.YtppdmcimddhbaaaKFnExactDeepOfProofPAx6
import Derived.Test.YtppdmcimddhbaaaKFnExactDeepOfProofPAx8
-- A text of this claim: written by the session's own program out of the translation (wip/tools). Lean checks it.
namespace Go.Proofs.Ytppdmcimddhbaaa.PA
open Go.RowKit Go.Proofs.YtppdmcimddhbaaaW.PrintWords Go.Proofs.YtppdmcimddhbaaaW.PrintLast Go.Proofs.YtppdmcimddhbaaaW.PrintMore
attribute [local go_sem] max2_int min2_int max_two min_two max_three min_three max_four min_four   -- for this text's walks alone
set_option linter.unusedVariables false
set_option linter.unusedSimpArgs false
def laws_eqStepS.l0 : Nat → List (S105) → List (S105) → Int → Option (Bool)
 | 0, _, _, _ => none
 | k + 1, x0, x1, x5 => if x5 < (x0.length : Int) then (if 0 ≤ x5 then (if x5 < (x1.length : Int) then ((laws_eqStep.f k ((rd_T105 x0 x5).f0.f0) ((rd_T105 x0 x5).f0.f1.f0) ((rd_T105 x0 x5).f0.f1.f1) ((rd_T105 x0 x5).f0.f2) ((rd_T105 x0 x5).f0.f3.f0) ((rd_T105 x0 x5).f0.f3.f1) ((rd_T105 x0 x5).f0.f4.f0) ((rd_T105 x0 x5).f0.f4.f1) ((rd_T105 x0 x5).f0.f5) ((rd_T105 x0 x5).f0.f6) ((rd_T105 x0 x5).f1.f0.f0) ((rd_T105 x0 x5).f1.f0.f1) ((rd_T105 x0 x5).f1.f1) ((rd_T105 x0 x5).f2) ((rd_T105 x1 x5).f0.f0) ((rd_T105 x1 x5).f0.f1.f0) ((rd_T105 x1 x5).f0.f1.f1) ((rd_T105 x1 x5).f0.f2) ((rd_T105 x1 x5).f0.f3.f0) ((rd_T105 x1 x5).f0.f3.f1) ((rd_T105 x1 x5).f0.f4.f0) ((rd_T105 x1 x5).f0.f4.f1) ((rd_T105 x1 x5).f0.f5) ((rd_T105 x1 x5).f0.f6) ((rd_T105 x1 x5).f1.f0.f0) ((rd_T105 x1 x5).f1.f0.f1) ((rd_T105 x1 x5).f1.f1) ((rd_T105 x1 x5).f2)).bind fun t290 => (if t290 = true then (laws_eqStepS.l0 k x0 x1 (wrap64 (x5 + 1))) else (some false))) else (none)) else (none)) else (some true)
def laws_eqStepS.f (k : Nat) (l0 : List (S105)) (l1 : List (S105)) : Option (Bool) := if (l0.length : Int) = (l1.length : Int) then (laws_eqStepS.l0 k l0 l1 0) else (some false)
def laws_eqStepS.T6 : Bool × List (List Nat × List Nat) := (true, [([], []), ([], []), ([0, 1], [0, 1]), ([2], [2]), ([], []), ([], []), ([4, 5], [4, 5]), ([6], [6]), ([3, 7], [3, 7]), ([8], [8])])
def laws_eqStepS.B6 : List Nat := [0, 0, 3, 7, 0, 0, 48, 112, 255, 511]
theorem laws_eqStepS.tab6 : rtab .any (opsOf Try.f33 6) = laws_eqStepS.T6 := by kernel_rfl
theorem laws_eqStepS.bits6 : waitsOk laws_eqStepS.T6.2 laws_eqStepS.B6 = true := by kernel_rfl
set_option maxHeartbeats 8000000 in
set_option maxRecDepth 100000 in
theorem laws_eqStepS.calls (k : Nat) (A0 : Option Addr) (c0 : Nat) (l0 : List (S105)) (A1 : Option Addr) (c1 : Nat) (l1 : List (S105)) (r : Bool) (w : World) (hr0 : Kd.C k105 w A0 l0.length l0) (hc0 : l0.length ≤ c0) (hr1 : Kd.C k105 w A1 l1.length l1) (hc1 : l1.length ≤ c1) (h : laws_eqStepS.f k l0 l1 = some r) :
  Calls Try.prog 33 #[.slice A0 l0.length c0, .slice A1 l1.length c1] w fun e w' => e = .returned (.bool r) ∧ Below w.heap.size w w' := by
 have hu105 := Try.underlying105
 have HR0 := Aside0.mk hr0
 have HC0 := Aside0.mk hc0
 clear hr0 hc0
 have HR1 := Aside0.mk hr1
 have HC1 := Aside0.mk hc1
 clear hr1 hc1
 have HB := Aside0.mk (Below.refl w.heap.size w)
 have H : (if (l0.length : Int) = (l1.length : Int) then (laws_eqStepS.l0 k l0 l1 0) else (some false)) = some r := h
 clear h
 by_cases c3 : (l0.length : Int) = (l1.length : Int)
 ·rw [if_pos c3] at H
  have c3b0 : ((l0.length : Int) == (l1.length : Int)) = true := beq_iff_eq.mpr c3
  have c3b1 : ((l0.length : Int) != (l1.length : Int)) = false := bne_eq_false_iff_eq.mpr c3
  have c3b2 : (l0.length == l1.length) = true := by first | simpa using c3 | (simp at c3 ⊢; omega)
  clear c3
  have H' := Aside0.mk H
  clear H
  go_enter Try.func33, Try.ntmps33
  go_wp2
  go_loopg [5] k (fun kq v5 w' => ∃ (x5_1 : Int), v5 = .int .i64 x5_1 ∧ Aside0 (laws_eqStepS.l0 kq l0 l1 x5_1 = some r) ∧ Aside0 (kq ≤ k) ∧ Aside0 (Below w.heap.size w w'))
  case atStart => exact ⟨(0), (by first | rfl | (simp; done) | (simp [*]; done)), H', ⟨Nat.le_refl _⟩, ⟨bl_⟩⟩
  case round =>
   clear H'
   try clear c1
   try clear p2
   try clear c3
   try clear c3b0
   try clear c3b1
   try clear c3b2
   obtain ⟨x5_1, rfl, HA, HK1, HB⟩ := hrel
   cases gk with
   | zero => exact absurd HA.out (by simp [laws_eqStepS.l0])
   | succ k1 =>
    have H := HA.out
    clear HA
    simp only [laws_eqStepS.l0] at H
    by_cases c4 : x5_1 < (l0.length : Int)
    ·rw [if_pos c4] at H
     have c4b0 : decide (x5_1 < (l0.length : Int)) = true := decide_eq_true c4
     clear c4
     by_cases c5 : 0 ≤ x5_1
     ·rw [if_pos c5] at H
      have c5b0 : decide (0 ≤ x5_1) = true := decide_eq_true c5
      clear c5
      by_cases c6 : x5_1 < (l1.length : Int)
      ·rw [if_pos c6] at H
       have c6b0 : decide (x5_1 < (l1.length : Int)) = true := decide_eq_true c6
       clear c6
       obtain ⟨t290, A7, H⟩ := bindE_ H
       by_cases c8 : t290 = true
       ·subst c8
        replace H := ite_t_ H
        have H' := Aside0.mk H
        clear H
        try go_wp2
        replace HB := Aside0.mk (below_drew1 HB.out)
        have p288 : 0 ≤ (x5_1 : Int) := of_decide_eq_true (by first | (with_reducible assumption) | assumption)
        have q288 : x5_1 < (l0.length : Int) := of_decide_eq_true (by first | (with_reducible assumption) | assumption)
        obtain ⟨ad288, A288_13, c288_13, e288, hx288_0, hx288_1, hx288_2, hx288_3, hx288_4, hx288_5, hx288_6, hx288_7, hx288_8, hx288_9, hx288_10, hx288_11, hx288_12, hx288_13, hl288_13, hi288_13⟩ := at_T105 HR0.out x5_1 p288 q288
        have hw288_13 := hx288_13
        have hw288_12 := hx288_12
        have hw288_11 := hx288_11
        have hw288_10 := hx288_10
        have hw288_9 := hx288_9
        have hw288_8 := hx288_8
        have hw288_7 := hx288_7
        have hw288_6 := hx288_6
        have hw288_5 := hx288_5
        have hw288_4 := hx288_4
        have hw288_3 := hx288_3
        have hw288_2 := hx288_2
        have hw288_1 := hx288_1
        have hw288_0 := hx288_0
        cases e288
        replace hx288_0 := cb_ HB hx288_0
        replace hx288_1 := cb_ HB hx288_1
        replace hx288_2 := cb_ HB hx288_2
        replace hx288_3 := cb_ HB hx288_3
        replace hx288_4 := cb_ HB hx288_4
        replace hx288_5 := cb_ HB hx288_5
        replace hx288_6 := cb_ HB hx288_6
        replace hx288_7 := cb_ HB hx288_7
        replace hx288_8 := cb_ HB hx288_8
        replace hx288_9 := cb_ HB hx288_9
        replace hx288_10 := cb_ HB hx288_10
        replace hx288_11 := cb_ HB hx288_11
        replace hx288_12 := cb_ HB hx288_12
        replace hx288_13 := cb_ HB hx288_13
        have HR288_13 := Aside0.mk hi288_13
        have HC288_13 := Aside0.mk hl288_13
        clear hi288_13 hl288_13
        replace p288 := eq_true p288
        replace q288 := eq_true q288
        have p289 : 0 ≤ (x5_1 : Int) := of_decide_eq_true (by first | (with_reducible assumption) | assumption)
        have q289 : x5_1 < (l1.length : Int) := of_decide_eq_true (by first | (with_reducible assumption) | assumption)
        obtain ⟨ad289, A289_13, c289_13, e289, hx289_0, hx289_1, hx289_2, hx289_3, hx289_4, hx289_5, hx289_6, hx289_7, hx289_8, hx289_9, hx289_10, hx289_11, hx289_12, hx289_13, hl289_13, hi289_13⟩ := at_T105 HR1.out x5_1 p289 q289
        have hw289_13 := hx289_13
        have hw289_12 := hx289_12
        have hw289_11 := hx289_11
        have hw289_10 := hx289_10
        have hw289_9 := hx289_9
        have hw289_8 := hx289_8
        have hw289_7 := hx289_7
        have hw289_6 := hx289_6
        have hw289_5 := hx289_5
        have hw289_4 := hx289_4
        have hw289_3 := hx289_3
        have hw289_2 := hx289_2
        have hw289_1 := hx289_1
        have hw289_0 := hx289_0
        cases e289
        replace hx289_0 := cb_ HB hx289_0
        replace hx289_1 := cb_ HB hx289_1
        replace hx289_2 := cb_ HB hx289_2
        replace hx289_3 := cb_ HB hx289_3
        replace hx289_4 := cb_ HB hx289_4
        replace hx289_5 := cb_ HB hx289_5
        replace hx289_6 := cb_ HB hx289_6
        replace hx289_7 := cb_ HB hx289_7
        replace hx289_8 := cb_ HB hx289_8
        replace hx289_9 := cb_ HB hx289_9
        replace hx289_10 := cb_ HB hx289_10
        replace hx289_11 := cb_ HB hx289_11
        replace hx289_12 := cb_ HB hx289_12
        replace hx289_13 := cb_ HB hx289_13
        have HR289_13 := Aside0.mk hi289_13
        have HC289_13 := Aside0.mk hl289_13
        clear hi289_13 hl289_13
        replace p289 := eq_true p289
        replace q289 := eq_true q289
        refine start_ (n := 10) (S := fun w' => w'.cell? (ad288.add ((x5_1).toNat * 14)) = some (.int .i64 ((rd_T105 l0 x5_1).f0.f0)) ∧ w'.cell? ⟨(ad288.add ((x5_1).toNat * 14)).block, (ad288.add ((x5_1).toNat * 14)).off + 1, none⟩ = some (.int .i64 ((rd_T105 l0 x5_1).f0.f1.f0)) ∧ w'.cell? ⟨(ad288.add ((x5_1).toNat * 14)).block, (ad288.add ((x5_1).toNat * 14)).off + 2, none⟩ = some (.int .i64 ((rd_T105 l0 x5_1).f0.f1.f1)) ∧ w'.cell? ⟨(ad288.add ((x5_1).toNat * 14)).block, (ad288.add ((x5_1).toNat * 14)).off + 3, none⟩ = some (.int .i64 ((rd_T105 l0 x5_1).f0.f2)) ∧ w'.cell? ⟨(ad288.add ((x5_1).toNat * 14)).block, (ad288.add ((x5_1).toNat * 14)).off + 4, none⟩ = some (.int .i64 ((rd_T105 l0 x5_1).f0.f3.f0)) ∧ w'.cell? ⟨(ad288.add ((x5_1).toNat * 14)).block, (ad288.add ((x5_1).toNat * 14)).off + 5, none⟩ = some (.int .i64 ((rd_T105 l0 x5_1).f0.f3.f1)) ∧ w'.cell? ⟨(ad288.add ((x5_1).toNat * 14)).block, (ad288.add ((x5_1).toNat * 14)).off + 6, none⟩ = some (.int .i64 ((rd_T105 l0 x5_1).f0.f4.f0)) ∧ w'.cell? ⟨(ad288.add ((x5_1).toNat * 14)).block, (ad288.add ((x5_1).toNat * 14)).off + 7, none⟩ = some (.int .i64 ((rd_T105 l0 x5_1).f0.f4.f1)) ∧ w'.cell? ⟨(ad288.add ((x5_1).toNat * 14)).block, (ad288.add ((x5_1).toNat * 14)).off + 8, none⟩ = some (.int .i64 ((rd_T105 l0 x5_1).f0.f5)) ∧ w'.cell? ⟨(ad288.add ((x5_1).toNat * 14)).block, (ad288.add ((x5_1).toNat * 14)).off + 9, none⟩ = some (.int .i64 ((rd_T105 l0 x5_1).f0.f6)) ∧ w'.cell? ⟨(ad288.add ((x5_1).toNat * 14)).block, (ad288.add ((x5_1).toNat * 14)).off + 10, none⟩ = some (.int .i64 ((rd_T105 l0 x5_1).f1.f0.f0)) ∧ w'.cell? ⟨(ad288.add ((x5_1).toNat * 14)).block, (ad288.add ((x5_1).toNat * 14)).off + 11, none⟩ = some (.int .i64 ((rd_T105 l0 x5_1).f1.f0.f1)) ∧ w'.cell? ⟨(ad288.add ((x5_1).toNat * 14)).block, (ad288.add ((x5_1).toNat * 14)).off + 12, none⟩ = some (.int .i64 ((rd_T105 l0 x5_1).f1.f1)) ∧ w'.cell? ⟨(ad288.add ((x5_1).toNat * 14)).block, (ad288.add ((x5_1).toNat * 14)).off + 13, none⟩ = some (.slice A288_13 ((rd_T105 l0 x5_1).f2).length c288_13) ∧ w'.cell? (ad289.add ((x5_1).toNat * 14)) = some (.int .i64 ((rd_T105 l1 x5_1).f0.f0)) ∧ w'.cell? ⟨(ad289.add ((x5_1).toNat * 14)).block, (ad289.add ((x5_1).toNat * 14)).off + 1, none⟩ = some (.int .i64 ((rd_T105 l1 x5_1).f0.f1.f0)) ∧ w'.cell? ⟨(ad289.add ((x5_1).toNat * 14)).block, (ad289.add ((x5_1).toNat * 14)).off + 2, none⟩ = some (.int .i64 ((rd_T105 l1 x5_1).f0.f1.f1)) ∧ w'.cell? ⟨(ad289.add ((x5_1).toNat * 14)).block, (ad289.add ((x5_1).toNat * 14)).off + 3, none⟩ = some (.int .i64 ((rd_T105 l1 x5_1).f0.f2)) ∧ w'.cell? ⟨(ad289.add ((x5_1).toNat * 14)).block, (ad289.add ((x5_1).toNat * 14)).off + 4, none⟩ = some (.int .i64 ((rd_T105 l1 x5_1).f0.f3.f0)) ∧ w'.cell? ⟨(ad289.add ((x5_1).toNat * 14)).block, (ad289.add ((x5_1).toNat * 14)).off + 5, none⟩ = some (.int .i64 ((rd_T105 l1 x5_1).f0.f3.f1)) ∧ w'.cell? ⟨(ad289.add ((x5_1).toNat * 14)).block, (ad289.add ((x5_1).toNat * 14)).off + 6, none⟩ = some (.int .i64 ((rd_T105 l1 x5_1).f0.f4.f0)) ∧ w'.cell? ⟨(ad289.add ((x5_1).toNat * 14)).block, (ad289.add ((x5_1).toNat * 14)).off + 7, none⟩ = some (.int .i64 ((rd_T105 l1 x5_1).f0.f4.f1)) ∧ w'.cell? ⟨(ad289.add ((x5_1).toNat * 14)).block, (ad289.add ((x5_1).toNat * 14)).off + 8, none⟩ = some (.int .i64 ((rd_T105 l1 x5_1).f0.f5)) ∧ w'.cell? ⟨(ad289.add ((x5_1).toNat * 14)).block, (ad289.add ((x5_1).toNat * 14)).off + 9, none⟩ = some (.int .i64 ((rd_T105 l1 x5_1).f0.f6)) ∧ w'.cell? ⟨(ad289.add ((x5_1).toNat * 14)).block, (ad289.add ((x5_1).toNat * 14)).off + 10, none⟩ = some (.int .i64 ((rd_T105 l1 x5_1).f1.f0.f0)) ∧ w'.cell? ⟨(ad289.add ((x5_1).toNat * 14)).block, (ad289.add ((x5_1).toNat * 14)).off + 11, none⟩ = some (.int .i64 ((rd_T105 l1 x5_1).f1.f0.f1)) ∧ w'.cell? ⟨(ad289.add ((x5_1).toNat * 14)).block, (ad289.add ((x5_1).toNat * 14)).off + 12, none⟩ = some (.int .i64 ((rd_T105 l1 x5_1).f1.f1)) ∧ w'.cell? ⟨(ad289.add ((x5_1).toNat * 14)).block, (ad289.add ((x5_1).toNat * 14)).off + 13, none⟩ = some (.slice A289_13 ((rd_T105 l1 x5_1).f2).length c289_13)) (ds := []) #[false, false, false, false, false, false, false, false, false, false] (by kernel_rfl) rfl rfl ⟨((HB.out.cell (World.block_lt_of_cell? w _ hw288_0)).trans hw288_0), ((HB.out.cell (World.block_lt_of_cell? w _ hw288_1)).trans hw288_1), ((HB.out.cell (World.block_lt_of_cell? w _ hw288_2)).trans hw288_2), ((HB.out.cell (World.block_lt_of_cell? w _ hw288_3)).trans hw288_3), ((HB.out.cell (World.block_lt_of_cell? w _ hw288_4)).trans hw288_4), ((HB.out.cell (World.block_lt_of_cell? w _ hw288_5)).trans hw288_5), ((HB.out.cell (World.block_lt_of_cell? w _ hw288_6)).trans hw288_6), ((HB.out.cell (World.block_lt_of_cell? w _ hw288_7)).trans hw288_7), ((HB.out.cell (World.block_lt_of_cell? w _ hw288_8)).trans hw288_8), ((HB.out.cell (World.block_lt_of_cell? w _ hw288_9)).trans hw288_9), ((HB.out.cell (World.block_lt_of_cell? w _ hw288_10)).trans hw288_10), ((HB.out.cell (World.block_lt_of_cell? w _ hw288_11)).trans hw288_11), ((HB.out.cell (World.block_lt_of_cell? w _ hw288_12)).trans hw288_12), ((HB.out.cell (World.block_lt_of_cell? w _ hw288_13)).trans hw288_13), ((HB.out.cell (World.block_lt_of_cell? w _ hw289_0)).trans hw289_0), ((HB.out.cell (World.block_lt_of_cell? w _ hw289_1)).trans hw289_1), ((HB.out.cell (World.block_lt_of_cell? w _ hw289_2)).trans hw289_2), ((HB.out.cell (World.block_lt_of_cell? w _ hw289_3)).trans hw289_3), ((HB.out.cell (World.block_lt_of_cell? w _ hw289_4)).trans hw289_4), ((HB.out.cell (World.block_lt_of_cell? w _ hw289_5)).trans hw289_5), ((HB.out.cell (World.block_lt_of_cell? w _ hw289_6)).trans hw289_6), ((HB.out.cell (World.block_lt_of_cell? w _ hw289_7)).trans hw289_7), ((HB.out.cell (World.block_lt_of_cell? w _ hw289_8)).trans hw289_8), ((HB.out.cell (World.block_lt_of_cell? w _ hw289_9)).trans hw289_9), ((HB.out.cell (World.block_lt_of_cell? w _ hw289_10)).trans hw289_10), ((HB.out.cell (World.block_lt_of_cell? w _ hw289_11)).trans hw289_11), ((HB.out.cell (World.block_lt_of_cell? w _ hw289_12)).trans hw289_12), ((HB.out.cell (World.block_lt_of_cell? w _ hw289_13)).trans hw289_13)⟩ (fun hHeld => ?_); refine with_tabW laws_eqStepS.tab6 laws_eqStepS.bits6 (fun HT_ HW_ => ?_)
        generalize wr.drew = w9 at HB HR288_13 HR289_13 hx288_0 hx288_1 hx288_10 hx288_11 hx288_12 hx288_13 hx288_2 hx288_3 hx288_4 hx288_5 hx288_6 hx288_7 hx288_8 hx288_9 hx289_0 hx289_1 hx289_10 hx289_11 hx289_12 hx289_13 hx289_2 hx289_3 hx289_4 hx289_5 hx289_6 hx289_7 hx289_8 hx289_9 hHeld ⊢
        refine pureZ_ (i := 0) (some 17) #[true, false, false, false, false, false, false, false, false, false] (any_of HT_.out (by kernel_rfl)) ?_
        refine pureZ_ (i := 1) (some 18) #[true, true, false, false, false, false, false, false, false, false] (any_of HT_.out (by kernel_rfl)) ?_
        refine pureZ_ (i := 2) (some 19) #[true, true, true, false, false, false, false, false, false, false] (any_of HT_.out (by kernel_rfl)) ?_
        refine pureZ_ (i := 4) (some 21) #[true, true, true, false, true, false, false, false, false, false] (any_of HT_.out (by kernel_rfl)) ?_
        refine pureZ_ (i := 5) (some 22) #[true, true, true, false, true, true, false, false, false, false] (any_of HT_.out (by kernel_rfl)) ?_
        refine pureZ_ (i := 6) (some 23) #[true, true, true, false, true, true, true, false, false, false] (any_of HT_.out (by kernel_rfl)) ?_
        refine takeZ_ (i := 3) (some 20) #[true, true, true, true, true, true, true, false, false, false] (take_ofW HT_.out HW_.out (by kernel_rfl)) hHeld ?_
        refine takeZ_ (i := 7) (some 24) #[true, true, true, true, true, true, true, true, false, false] (take_ofW HT_.out HW_.out (by kernel_rfl)) hHeld ?_
        refine one_ (i := 8) (N := some 25) #[true, true, true, true, true, true, true, true, true, false] rfl rfl (one_of HT_.out (by kernel_rfl)) (by decide) (fun K hK => ?_)
        refine goes_ Try.func89 (by kernel_rfl) rfl #[.agg #[.int .i64 ((rd_T105 l0 x5_1).f0.f0), .int .i64 ((rd_T105 l0 x5_1).f0.f1.f0), .int .i64 ((rd_T105 l0 x5_1).f0.f1.f1), .int .i64 ((rd_T105 l0 x5_1).f0.f2), .int .i64 ((rd_T105 l0 x5_1).f0.f3.f0), .int .i64 ((rd_T105 l0 x5_1).f0.f3.f1), .int .i64 ((rd_T105 l0 x5_1).f0.f4.f0), .int .i64 ((rd_T105 l0 x5_1).f0.f4.f1), .int .i64 ((rd_T105 l0 x5_1).f0.f5), .int .i64 ((rd_T105 l0 x5_1).f0.f6), .int .i64 ((rd_T105 l0 x5_1).f1.f0.f0), .int .i64 ((rd_T105 l0 x5_1).f1.f0.f1), .int .i64 ((rd_T105 l0 x5_1).f1.f1), .slice A288_13 ((rd_T105 l0 x5_1).f2).length c288_13], .agg #[.int .i64 ((rd_T105 l1 x5_1).f0.f0), .int .i64 ((rd_T105 l1 x5_1).f0.f1.f0), .int .i64 ((rd_T105 l1 x5_1).f0.f1.f1), .int .i64 ((rd_T105 l1 x5_1).f0.f2), .int .i64 ((rd_T105 l1 x5_1).f0.f3.f0), .int .i64 ((rd_T105 l1 x5_1).f0.f3.f1), .int .i64 ((rd_T105 l1 x5_1).f0.f4.f0), .int .i64 ((rd_T105 l1 x5_1).f0.f4.f1), .int .i64 ((rd_T105 l1 x5_1).f0.f5), .int .i64 ((rd_T105 l1 x5_1).f0.f6), .int .i64 ((rd_T105 l1 x5_1).f1.f0.f0), .int .i64 ((rd_T105 l1 x5_1).f1.f0.f1), .int .i64 ((rd_T105 l1 x5_1).f1.f1), .slice A289_13 ((rd_T105 l1 x5_1).f2).length c289_13]] (by rfl) rfl rfl (by (try simp only [List.map_toArray, List.map_cons, List.map_nil]); first | done | rfl | (simp only [List.length_drop, List.length_take]; rfl)) ?_
        with_reducible refine (laws_eqStep.calls k1 ((rd_T105 l0 x5_1).f0.f0) ((rd_T105 l0 x5_1).f0.f1.f0) ((rd_T105 l0 x5_1).f0.f1.f1) ((rd_T105 l0 x5_1).f0.f2) ((rd_T105 l0 x5_1).f0.f3.f0) ((rd_T105 l0 x5_1).f0.f3.f1) ((rd_T105 l0 x5_1).f0.f4.f0) ((rd_T105 l0 x5_1).f0.f4.f1) ((rd_T105 l0 x5_1).f0.f5) ((rd_T105 l0 x5_1).f0.f6) ((rd_T105 l0 x5_1).f1.f0.f0) ((rd_T105 l0 x5_1).f1.f0.f1) ((rd_T105 l0 x5_1).f1.f1) _ _ ((rd_T105 l0 x5_1).f2) ((rd_T105 l1 x5_1).f0.f0) ((rd_T105 l1 x5_1).f0.f1.f0) ((rd_T105 l1 x5_1).f0.f1.f1) ((rd_T105 l1 x5_1).f0.f2) ((rd_T105 l1 x5_1).f0.f3.f0) ((rd_T105 l1 x5_1).f0.f3.f1) ((rd_T105 l1 x5_1).f0.f4.f0) ((rd_T105 l1 x5_1).f0.f4.f1) ((rd_T105 l1 x5_1).f0.f5) ((rd_T105 l1 x5_1).f0.f6) ((rd_T105 l1 x5_1).f1.f0.f0) ((rd_T105 l1 x5_1).f1.f0.f1) ((rd_T105 l1 x5_1).f1.f1) _ _ ((rd_T105 l1 x5_1).f2) true _ ?side1 ?side2 ?side3 ?side4 A7.out).mono ?_
        (case side1 => repeat (first | exact (Kd.C_below HR288_13.out HB.out) | (with_reducible refine Kd.C_alloc ?_ _) | (with_reducible refine Kd.C_drewN ?_ _) | (with_reducible refine Kd.C_drew ?_)))
        (case side2 => exact HC288_13.out)
        (case side3 => repeat (first | exact (Kd.C_below HR289_13.out HB.out) | (with_reducible refine Kd.C_alloc ?_ _) | (with_reducible refine Kd.C_drewN ?_ _) | (with_reducible refine Kd.C_drew ?_)))
        (case side4 => exact HC289_13.out)
        rintro e w10 ⟨rfl, hb⟩
        refine ⟨_, rfl, ?_⟩
        replace HB := hbs_ hb
        (try clear hb)
        (try clear hb2)
        (try clear hk)
        (try clear hi)
        refine hK.out _ _ ⟨((HB.out.cell (World.block_lt_of_cell? w _ hw288_0)).trans hw288_0), ((HB.out.cell (World.block_lt_of_cell? w _ hw288_1)).trans hw288_1), ((HB.out.cell (World.block_lt_of_cell? w _ hw288_2)).trans hw288_2), ((HB.out.cell (World.block_lt_of_cell? w _ hw288_3)).trans hw288_3), ((HB.out.cell (World.block_lt_of_cell? w _ hw288_4)).trans hw288_4), ((HB.out.cell (World.block_lt_of_cell? w _ hw288_5)).trans hw288_5), ((HB.out.cell (World.block_lt_of_cell? w _ hw288_6)).trans hw288_6), ((HB.out.cell (World.block_lt_of_cell? w _ hw288_7)).trans hw288_7), ((HB.out.cell (World.block_lt_of_cell? w _ hw288_8)).trans hw288_8), ((HB.out.cell (World.block_lt_of_cell? w _ hw288_9)).trans hw288_9), ((HB.out.cell (World.block_lt_of_cell? w _ hw288_10)).trans hw288_10), ((HB.out.cell (World.block_lt_of_cell? w _ hw288_11)).trans hw288_11), ((HB.out.cell (World.block_lt_of_cell? w _ hw288_12)).trans hw288_12), ((HB.out.cell (World.block_lt_of_cell? w _ hw288_13)).trans hw288_13), ((HB.out.cell (World.block_lt_of_cell? w _ hw289_0)).trans hw289_0), ((HB.out.cell (World.block_lt_of_cell? w _ hw289_1)).trans hw289_1), ((HB.out.cell (World.block_lt_of_cell? w _ hw289_2)).trans hw289_2), ((HB.out.cell (World.block_lt_of_cell? w _ hw289_3)).trans hw289_3), ((HB.out.cell (World.block_lt_of_cell? w _ hw289_4)).trans hw289_4), ((HB.out.cell (World.block_lt_of_cell? w _ hw289_5)).trans hw289_5), ((HB.out.cell (World.block_lt_of_cell? w _ hw289_6)).trans hw289_6), ((HB.out.cell (World.block_lt_of_cell? w _ hw289_7)).trans hw289_7), ((HB.out.cell (World.block_lt_of_cell? w _ hw289_8)).trans hw289_8), ((HB.out.cell (World.block_lt_of_cell? w _ hw289_9)).trans hw289_9), ((HB.out.cell (World.block_lt_of_cell? w _ hw289_10)).trans hw289_10), ((HB.out.cell (World.block_lt_of_cell? w _ hw289_11)).trans hw289_11), ((HB.out.cell (World.block_lt_of_cell? w _ hw289_12)).trans hw289_12), ((HB.out.cell (World.block_lt_of_cell? w _ hw289_13)).trans hw289_13)⟩ (fun hHeld => ?_)
        clear hK K
        refine norm_ (a' := ?_) ?_ ?_
        rotate_left
        ·show Act.put _ (some 25) _ = _
         simp only [Act.put, List.setIfInBounds_toArray, List.set_cons_zero, List.set_cons_succ, i64_w, i32_w]
         rfl
        refine pureZ_ (i := 9) (some 26) #[true, true, true, true, true, true, true, true, true, true] (any_of HT_.out (by kernel_rfl)) ?_
        refine done_ (done_of HT_.out (by kernel_rfl)) ?_
        try go_wp2
        go_roundg k1
        case measure => have := HK1.out; omega
        case rel => exact ⟨(wrap64 (x5_1 + 1)), (by first | rfl | (simp; done) | (simp [*]; done)), H', ⟨by have := HK1.out; omega⟩, ⟨bl_⟩⟩
       ·replace c8 := Bool.eq_false_iff.mpr c8
        subst c8
        replace H := ite_f_ H
        obtain rfl := Option.some.inj H
        try go_wp2
        replace HB := Aside0.mk (below_drew1 HB.out)
        have p288 : 0 ≤ (x5_1 : Int) := of_decide_eq_true (by first | (with_reducible assumption) | assumption)
        have q288 : x5_1 < (l0.length : Int) := of_decide_eq_true (by first | (with_reducible assumption) | assumption)
        obtain ⟨ad288, A288_13, c288_13, e288, hx288_0, hx288_1, hx288_2, hx288_3, hx288_4, hx288_5, hx288_6, hx288_7, hx288_8, hx288_9, hx288_10, hx288_11, hx288_12, hx288_13, hl288_13, hi288_13⟩ := at_T105 HR0.out x5_1 p288 q288
        have hw288_13 := hx288_13
        have hw288_12 := hx288_12
        have hw288_11 := hx288_11
        have hw288_10 := hx288_10
        have hw288_9 := hx288_9
        have hw288_8 := hx288_8
        have hw288_7 := hx288_7
        have hw288_6 := hx288_6
        have hw288_5 := hx288_5
        have hw288_4 := hx288_4
        have hw288_3 := hx288_3
        have hw288_2 := hx288_2
        have hw288_1 := hx288_1
        have hw288_0 := hx288_0
        cases e288
        replace hx288_0 := cb_ HB hx288_0
        replace hx288_1 := cb_ HB hx288_1
        replace hx288_2 := cb_ HB hx288_2
        replace hx288_3 := cb_ HB hx288_3
        replace hx288_4 := cb_ HB hx288_4
        replace hx288_5 := cb_ HB hx288_5
        replace hx288_6 := cb_ HB hx288_6
        replace hx288_7 := cb_ HB hx288_7
        replace hx288_8 := cb_ HB hx288_8
        replace hx288_9 := cb_ HB hx288_9
        replace hx288_10 := cb_ HB hx288_10
        replace hx288_11 := cb_ HB hx288_11
        replace hx288_12 := cb_ HB hx288_12
        replace hx288_13 := cb_ HB hx288_13
        have HR288_13 := Aside0.mk hi288_13
        have HC288_13 := Aside0.mk hl288_13
        clear hi288_13 hl288_13
        replace p288 := eq_true p288
        replace q288 := eq_true q288
        have p289 : 0 ≤ (x5_1 : Int) := of_decide_eq_true (by first | (with_reducible assumption) | assumption)
        have q289 : x5_1 < (l1.length : Int) := of_decide_eq_true (by first | (with_reducible assumption) | assumption)
        obtain ⟨ad289, A289_13, c289_13, e289, hx289_0, hx289_1, hx289_2, hx289_3, hx289_4, hx289_5, hx289_6, hx289_7, hx289_8, hx289_9, hx289_10, hx289_11, hx289_12, hx289_13, hl289_13, hi289_13⟩ := at_T105 HR1.out x5_1 p289 q289
        have hw289_13 := hx289_13
        have hw289_12 := hx289_12
        have hw289_11 := hx289_11
        have hw289_10 := hx289_10
        have hw289_9 := hx289_9
        have hw289_8 := hx289_8
        have hw289_7 := hx289_7
        have hw289_6 := hx289_6
        have hw289_5 := hx289_5
        have hw289_4 := hx289_4
        have hw289_3 := hx289_3
        have hw289_2 := hx289_2
        have hw289_1 := hx289_1
        have hw289_0 := hx289_0
        cases e289
        replace hx289_0 := cb_ HB hx289_0
        replace hx289_1 := cb_ HB hx289_1
        replace hx289_2 := cb_ HB hx289_2
        replace hx289_3 := cb_ HB hx289_3
        replace hx289_4 := cb_ HB hx289_4
        replace hx289_5 := cb_ HB hx289_5
        replace hx289_6 := cb_ HB hx289_6
        replace hx289_7 := cb_ HB hx289_7
        replace hx289_8 := cb_ HB hx289_8
        replace hx289_9 := cb_ HB hx289_9
        replace hx289_10 := cb_ HB hx289_10
        replace hx289_11 := cb_ HB hx289_11
        replace hx289_12 := cb_ HB hx289_12
        replace hx289_13 := cb_ HB hx289_13
        have HR289_13 := Aside0.mk hi289_13
        have HC289_13 := Aside0.mk hl289_13
        clear hi289_13 hl289_13
        replace p289 := eq_true p289
        replace q289 := eq_true q289
        refine start_ (n := 10) (S := fun w' => w'.cell? (ad288.add ((x5_1).toNat * 14)) = some (.int .i64 ((rd_T105 l0 x5_1).f0.f0)) ∧ w'.cell? ⟨(ad288.add ((x5_1).toNat * 14)).block, (ad288.add ((x5_1).toNat * 14)).off + 1, none⟩ = some (.int .i64 ((rd_T105 l0 x5_1).f0.f1.f0)) ∧ w'.cell? ⟨(ad288.add ((x5_1).toNat * 14)).block, (ad288.add ((x5_1).toNat * 14)).off + 2, none⟩ = some (.int .i64 ((rd_T105 l0 x5_1).f0.f1.f1)) ∧ w'.cell? ⟨(ad288.add ((x5_1).toNat * 14)).block, (ad288.add ((x5_1).toNat * 14)).off + 3, none⟩ = some (.int .i64 ((rd_T105 l0 x5_1).f0.f2)) ∧ w'.cell? ⟨(ad288.add ((x5_1).toNat * 14)).block, (ad288.add ((x5_1).toNat * 14)).off + 4, none⟩ = some (.int .i64 ((rd_T105 l0 x5_1).f0.f3.f0)) ∧ w'.cell? ⟨(ad288.add ((x5_1).toNat * 14)).block, (ad288.add ((x5_1).toNat * 14)).off + 5, none⟩ = some (.int .i64 ((rd_T105 l0 x5_1).f0.f3.f1)) ∧ w'.cell? ⟨(ad288.add ((x5_1).toNat * 14)).block, (ad288.add ((x5_1).toNat * 14)).off + 6, none⟩ = some (.int .i64 ((rd_T105 l0 x5_1).f0.f4.f0)) ∧ w'.cell? ⟨(ad288.add ((x5_1).toNat * 14)).block, (ad288.add ((x5_1).toNat * 14)).off + 7, none⟩ = some (.int .i64 ((rd_T105 l0 x5_1).f0.f4.f1)) ∧ w'.cell? ⟨(ad288.add ((x5_1).toNat * 14)).block, (ad288.add ((x5_1).toNat * 14)).off + 8, none⟩ = some (.int .i64 ((rd_T105 l0 x5_1).f0.f5)) ∧ w'.cell? ⟨(ad288.add ((x5_1).toNat * 14)).block, (ad288.add ((x5_1).toNat * 14)).off + 9, none⟩ = some (.int .i64 ((rd_T105 l0 x5_1).f0.f6)) ∧ w'.cell? ⟨(ad288.add ((x5_1).toNat * 14)).block, (ad288.add ((x5_1).toNat * 14)).off + 10, none⟩ = some (.int .i64 ((rd_T105 l0 x5_1).f1.f0.f0)) ∧ w'.cell? ⟨(ad288.add ((x5_1).toNat * 14)).block, (ad288.add ((x5_1).toNat * 14)).off + 11, none⟩ = some (.int .i64 ((rd_T105 l0 x5_1).f1.f0.f1)) ∧ w'.cell? ⟨(ad288.add ((x5_1).toNat * 14)).block, (ad288.add ((x5_1).toNat * 14)).off + 12, none⟩ = some (.int .i64 ((rd_T105 l0 x5_1).f1.f1)) ∧ w'.cell? ⟨(ad288.add ((x5_1).toNat * 14)).block, (ad288.add ((x5_1).toNat * 14)).off + 13, none⟩ = some (.slice A288_13 ((rd_T105 l0 x5_1).f2).length c288_13) ∧ w'.cell? (ad289.add ((x5_1).toNat * 14)) = some (.int .i64 ((rd_T105 l1 x5_1).f0.f0)) ∧ w'.cell? ⟨(ad289.add ((x5_1).toNat * 14)).block, (ad289.add ((x5_1).toNat * 14)).off + 1, none⟩ = some (.int .i64 ((rd_T105 l1 x5_1).f0.f1.f0)) ∧ w'.cell? ⟨(ad289.add ((x5_1).toNat * 14)).block, (ad289.add ((x5_1).toNat * 14)).off + 2, none⟩ = some (.int .i64 ((rd_T105 l1 x5_1).f0.f1.f1)) ∧ w'.cell? ⟨(ad289.add ((x5_1).toNat * 14)).block, (ad289.add ((x5_1).toNat * 14)).off + 3, none⟩ = some (.int .i64 ((rd_T105 l1 x5_1).f0.f2)) ∧ w'.cell? ⟨(ad289.add ((x5_1).toNat * 14)).block, (ad289.add ((x5_1).toNat * 14)).off + 4, none⟩ = some (.int .i64 ((rd_T105 l1 x5_1).f0.f3.f0)) ∧ w'.cell? ⟨(ad289.add ((x5_1).toNat * 14)).block, (ad289.add ((x5_1).toNat * 14)).off + 5, none⟩ = some (.int .i64 ((rd_T105 l1 x5_1).f0.f3.f1)) ∧ w'.cell? ⟨(ad289.add ((x5_1).toNat * 14)).block, (ad289.add ((x5_1).toNat * 14)).off + 6, none⟩ = some (.int .i64 ((rd_T105 l1 x5_1).f0.f4.f0)) ∧ w'.cell? ⟨(ad289.add ((x5_1).toNat * 14)).block, (ad289.add ((x5_1).toNat * 14)).off + 7, none⟩ = some (.int .i64 ((rd_T105 l1 x5_1).f0.f4.f1)) ∧ w'.cell? ⟨(ad289.add ((x5_1).toNat * 14)).block, (ad289.add ((x5_1).toNat * 14)).off + 8, none⟩ = some (.int .i64 ((rd_T105 l1 x5_1).f0.f5)) ∧ w'.cell? ⟨(ad289.add ((x5_1).toNat * 14)).block, (ad289.add ((x5_1).toNat * 14)).off + 9, none⟩ = some (.int .i64 ((rd_T105 l1 x5_1).f0.f6)) ∧ w'.cell? ⟨(ad289.add ((x5_1).toNat * 14)).block, (ad289.add ((x5_1).toNat * 14)).off + 10, none⟩ = some (.int .i64 ((rd_T105 l1 x5_1).f1.f0.f0)) ∧ w'.cell? ⟨(ad289.add ((x5_1).toNat * 14)).block, (ad289.add ((x5_1).toNat * 14)).off + 11, none⟩ = some (.int .i64 ((rd_T105 l1 x5_1).f1.f0.f1)) ∧ w'.cell? ⟨(ad289.add ((x5_1).toNat * 14)).block, (ad289.add ((x5_1).toNat * 14)).off + 12, none⟩ = some (.int .i64 ((rd_T105 l1 x5_1).f1.f1)) ∧ w'.cell? ⟨(ad289.add ((x5_1).toNat * 14)).block, (ad289.add ((x5_1).toNat * 14)).off + 13, none⟩ = some (.slice A289_13 ((rd_T105 l1 x5_1).f2).length c289_13)) (ds := []) #[false, false, false, false, false, false, false, false, false, false] (by kernel_rfl) rfl rfl ⟨((HB.out.cell (World.block_lt_of_cell? w _ hw288_0)).trans hw288_0), ((HB.out.cell (World.block_lt_of_cell? w _ hw288_1)).trans hw288_1), ((HB.out.cell (World.block_lt_of_cell? w _ hw288_2)).trans hw288_2), ((HB.out.cell (World.block_lt_of_cell? w _ hw288_3)).trans hw288_3), ((HB.out.cell (World.block_lt_of_cell? w _ hw288_4)).trans hw288_4), ((HB.out.cell (World.block_lt_of_cell? w _ hw288_5)).trans hw288_5), ((HB.out.cell (World.block_lt_of_cell? w _ hw288_6)).trans hw288_6), ((HB.out.cell (World.block_lt_of_cell? w _ hw288_7)).trans hw288_7), ((HB.out.cell (World.block_lt_of_cell? w _ hw288_8)).trans hw288_8), ((HB.out.cell (World.block_lt_of_cell? w _ hw288_9)).trans hw288_9), ((HB.out.cell (World.block_lt_of_cell? w _ hw288_10)).trans hw288_10), ((HB.out.cell (World.block_lt_of_cell? w _ hw288_11)).trans hw288_11), ((HB.out.cell (World.block_lt_of_cell? w _ hw288_12)).trans hw288_12), ((HB.out.cell (World.block_lt_of_cell? w _ hw288_13)).trans hw288_13), ((HB.out.cell (World.block_lt_of_cell? w _ hw289_0)).trans hw289_0), ((HB.out.cell (World.block_lt_of_cell? w _ hw289_1)).trans hw289_1), ((HB.out.cell (World.block_lt_of_cell? w _ hw289_2)).trans hw289_2), ((HB.out.cell (World.block_lt_of_cell? w _ hw289_3)).trans hw289_3), ((HB.out.cell (World.block_lt_of_cell? w _ hw289_4)).trans hw289_4), ((HB.out.cell (World.block_lt_of_cell? w _ hw289_5)).trans hw289_5), ((HB.out.cell (World.block_lt_of_cell? w _ hw289_6)).trans hw289_6), ((HB.out.cell (World.block_lt_of_cell? w _ hw289_7)).trans hw289_7), ((HB.out.cell (World.block_lt_of_cell? w _ hw289_8)).trans hw289_8), ((HB.out.cell (World.block_lt_of_cell? w _ hw289_9)).trans hw289_9), ((HB.out.cell (World.block_lt_of_cell? w _ hw289_10)).trans hw289_10), ((HB.out.cell (World.block_lt_of_cell? w _ hw289_11)).trans hw289_11), ((HB.out.cell (World.block_lt_of_cell? w _ hw289_12)).trans hw289_12), ((HB.out.cell (World.block_lt_of_cell? w _ hw289_13)).trans hw289_13)⟩ (fun hHeld => ?_); refine with_tabW laws_eqStepS.tab6 laws_eqStepS.bits6 (fun HT_ HW_ => ?_)
        generalize wr.drew = w11 at HB HR288_13 HR289_13 hx288_0 hx288_1 hx288_10 hx288_11 hx288_12 hx288_13 hx288_2 hx288_3 hx288_4 hx288_5 hx288_6 hx288_7 hx288_8 hx288_9 hx289_0 hx289_1 hx289_10 hx289_11 hx289_12 hx289_13 hx289_2 hx289_3 hx289_4 hx289_5 hx289_6 hx289_7 hx289_8 hx289_9 hHeld ⊢
        refine pureZ_ (i := 0) (some 17) #[true, false, false, false, false, false, false, false, false, false] (any_of HT_.out (by kernel_rfl)) ?_
        refine pureZ_ (i := 1) (some 18) #[true, true, false, false, false, false, false, false, false, false] (any_of HT_.out (by kernel_rfl)) ?_
        refine pureZ_ (i := 2) (some 19) #[true, true, true, false, false, false, false, false, false, false] (any_of HT_.out (by kernel_rfl)) ?_
        refine pureZ_ (i := 4) (some 21) #[true, true, true, false, true, false, false, false, false, false] (any_of HT_.out (by kernel_rfl)) ?_
        refine pureZ_ (i := 5) (some 22) #[true, true, true, false, true, true, false, false, false, false] (any_of HT_.out (by kernel_rfl)) ?_
        refine pureZ_ (i := 6) (some 23) #[true, true, true, false, true, true, true, false, false, false] (any_of HT_.out (by kernel_rfl)) ?_
        refine takeZ_ (i := 3) (some 20) #[true, true, true, true, true, true, true, false, false, false] (take_ofW HT_.out HW_.out (by kernel_rfl)) hHeld ?_
        refine takeZ_ (i := 7) (some 24) #[true, true, true, true, true, true, true, true, false, false] (take_ofW HT_.out HW_.out (by kernel_rfl)) hHeld ?_
        refine one_ (i := 8) (N := some 25) #[true, true, true, true, true, true, true, true, true, false] rfl rfl (one_of HT_.out (by kernel_rfl)) (by decide) (fun K hK => ?_)
        refine goes_ Try.func89 (by kernel_rfl) rfl #[.agg #[.int .i64 ((rd_T105 l0 x5_1).f0.f0), .int .i64 ((rd_T105 l0 x5_1).f0.f1.f0), .int .i64 ((rd_T105 l0 x5_1).f0.f1.f1), .int .i64 ((rd_T105 l0 x5_1).f0.f2), .int .i64 ((rd_T105 l0 x5_1).f0.f3.f0), .int .i64 ((rd_T105 l0 x5_1).f0.f3.f1), .int .i64 ((rd_T105 l0 x5_1).f0.f4.f0), .int .i64 ((rd_T105 l0 x5_1).f0.f4.f1), .int .i64 ((rd_T105 l0 x5_1).f0.f5), .int .i64 ((rd_T105 l0 x5_1).f0.f6), .int .i64 ((rd_T105 l0 x5_1).f1.f0.f0), .int .i64 ((rd_T105 l0 x5_1).f1.f0.f1), .int .i64 ((rd_T105 l0 x5_1).f1.f1), .slice A288_13 ((rd_T105 l0 x5_1).f2).length c288_13], .agg #[.int .i64 ((rd_T105 l1 x5_1).f0.f0), .int .i64 ((rd_T105 l1 x5_1).f0.f1.f0), .int .i64 ((rd_T105 l1 x5_1).f0.f1.f1), .int .i64 ((rd_T105 l1 x5_1).f0.f2), .int .i64 ((rd_T105 l1 x5_1).f0.f3.f0), .int .i64 ((rd_T105 l1 x5_1).f0.f3.f1), .int .i64 ((rd_T105 l1 x5_1).f0.f4.f0), .int .i64 ((rd_T105 l1 x5_1).f0.f4.f1), .int .i64 ((rd_T105 l1 x5_1).f0.f5), .int .i64 ((rd_T105 l1 x5_1).f0.f6), .int .i64 ((rd_T105 l1 x5_1).f1.f0.f0), .int .i64 ((rd_T105 l1 x5_1).f1.f0.f1), .int .i64 ((rd_T105 l1 x5_1).f1.f1), .slice A289_13 ((rd_T105 l1 x5_1).f2).length c289_13]] (by rfl) rfl rfl (by (try simp only [List.map_toArray, List.map_cons, List.map_nil]); first | done | rfl | (simp only [List.length_drop, List.length_take]; rfl)) ?_
        with_reducible refine (laws_eqStep.calls k1 ((rd_T105 l0 x5_1).f0.f0) ((rd_T105 l0 x5_1).f0.f1.f0) ((rd_T105 l0 x5_1).f0.f1.f1) ((rd_T105 l0 x5_1).f0.f2) ((rd_T105 l0 x5_1).f0.f3.f0) ((rd_T105 l0 x5_1).f0.f3.f1) ((rd_T105 l0 x5_1).f0.f4.f0) ((rd_T105 l0 x5_1).f0.f4.f1) ((rd_T105 l0 x5_1).f0.f5) ((rd_T105 l0 x5_1).f0.f6) ((rd_T105 l0 x5_1).f1.f0.f0) ((rd_T105 l0 x5_1).f1.f0.f1) ((rd_T105 l0 x5_1).f1.f1) _ _ ((rd_T105 l0 x5_1).f2) ((rd_T105 l1 x5_1).f0.f0) ((rd_T105 l1 x5_1).f0.f1.f0) ((rd_T105 l1 x5_1).f0.f1.f1) ((rd_T105 l1 x5_1).f0.f2) ((rd_T105 l1 x5_1).f0.f3.f0) ((rd_T105 l1 x5_1).f0.f3.f1) ((rd_T105 l1 x5_1).f0.f4.f0) ((rd_T105 l1 x5_1).f0.f4.f1) ((rd_T105 l1 x5_1).f0.f5) ((rd_T105 l1 x5_1).f0.f6) ((rd_T105 l1 x5_1).f1.f0.f0) ((rd_T105 l1 x5_1).f1.f0.f1) ((rd_T105 l1 x5_1).f1.f1) _ _ ((rd_T105 l1 x5_1).f2) false _ ?side1 ?side2 ?side3 ?side4 A7.out).mono ?_
        (case side1 => repeat (first | exact (Kd.C_below HR288_13.out HB.out) | (with_reducible refine Kd.C_alloc ?_ _) | (with_reducible refine Kd.C_drewN ?_ _) | (with_reducible refine Kd.C_drew ?_)))
        (case side2 => exact HC288_13.out)
        (case side3 => repeat (first | exact (Kd.C_below HR289_13.out HB.out) | (with_reducible refine Kd.C_alloc ?_ _) | (with_reducible refine Kd.C_drewN ?_ _) | (with_reducible refine Kd.C_drew ?_)))
        (case side4 => exact HC289_13.out)
        rintro e w12 ⟨rfl, hb⟩
        refine ⟨_, rfl, ?_⟩
        replace HB := hbs_ hb
        (try clear hb)
        (try clear hb2)
        (try clear hk)
        (try clear hi)
        refine hK.out _ _ ⟨((HB.out.cell (World.block_lt_of_cell? w _ hw288_0)).trans hw288_0), ((HB.out.cell (World.block_lt_of_cell? w _ hw288_1)).trans hw288_1), ((HB.out.cell (World.block_lt_of_cell? w _ hw288_2)).trans hw288_2), ((HB.out.cell (World.block_lt_of_cell? w _ hw288_3)).trans hw288_3), ((HB.out.cell (World.block_lt_of_cell? w _ hw288_4)).trans hw288_4), ((HB.out.cell (World.block_lt_of_cell? w _ hw288_5)).trans hw288_5), ((HB.out.cell (World.block_lt_of_cell? w _ hw288_6)).trans hw288_6), ((HB.out.cell (World.block_lt_of_cell? w _ hw288_7)).trans hw288_7), ((HB.out.cell (World.block_lt_of_cell? w _ hw288_8)).trans hw288_8), ((HB.out.cell (World.block_lt_of_cell? w _ hw288_9)).trans hw288_9), ((HB.out.cell (World.block_lt_of_cell? w _ hw288_10)).trans hw288_10), ((HB.out.cell (World.block_lt_of_cell? w _ hw288_11)).trans hw288_11), ((HB.out.cell (World.block_lt_of_cell? w _ hw288_12)).trans hw288_12), ((HB.out.cell (World.block_lt_of_cell? w _ hw288_13)).trans hw288_13), ((HB.out.cell (World.block_lt_of_cell? w _ hw289_0)).trans hw289_0), ((HB.out.cell (World.block_lt_of_cell? w _ hw289_1)).trans hw289_1), ((HB.out.cell (World.block_lt_of_cell? w _ hw289_2)).trans hw289_2), ((HB.out.cell (World.block_lt_of_cell? w _ hw289_3)).trans hw289_3), ((HB.out.cell (World.block_lt_of_cell? w _ hw289_4)).trans hw289_4), ((HB.out.cell (World.block_lt_of_cell? w _ hw289_5)).trans hw289_5), ((HB.out.cell (World.block_lt_of_cell? w _ hw289_6)).trans hw289_6), ((HB.out.cell (World.block_lt_of_cell? w _ hw289_7)).trans hw289_7), ((HB.out.cell (World.block_lt_of_cell? w _ hw289_8)).trans hw289_8), ((HB.out.cell (World.block_lt_of_cell? w _ hw289_9)).trans hw289_9), ((HB.out.cell (World.block_lt_of_cell? w _ hw289_10)).trans hw289_10), ((HB.out.cell (World.block_lt_of_cell? w _ hw289_11)).trans hw289_11), ((HB.out.cell (World.block_lt_of_cell? w _ hw289_12)).trans hw289_12), ((HB.out.cell (World.block_lt_of_cell? w _ hw289_13)).trans hw289_13)⟩ (fun hHeld => ?_)
        clear hK K
        refine norm_ (a' := ?_) ?_ ?_
        rotate_left
        ·show Act.put _ (some 25) _ = _
         simp only [Act.put, List.setIfInBounds_toArray, List.set_cons_zero, List.set_cons_succ, i64_w, i32_w]
         rfl
        refine pureZ_ (i := 9) (some 26) #[true, true, true, true, true, true, true, true, true, true] (any_of HT_.out (by kernel_rfl)) ?_
        refine done_ (done_of HT_.out (by kernel_rfl)) ?_
        try go_wp2
        go_ret
        exact ⟨eq_, bl_⟩
      ·rw [if_neg c6] at H
       exact absurd H (by simp)
     ·rw [if_neg c5] at H
      exact absurd H (by simp)
    ·rw [if_neg c4] at H
     have c4b0 : decide (x5_1 < (l0.length : Int)) = false := decide_eq_false c4
     clear c4
     obtain rfl := Option.some.inj H
     go_wp2
     go_ret
     exact ⟨eq_, bl_⟩
 ·rw [if_neg c3] at H
  have c3b0 : ((l0.length : Int) == (l1.length : Int)) = false := beq_eq_false_iff_ne.mpr c3
  have c3b1 : ((l0.length : Int) != (l1.length : Int)) = true := bne_iff_ne.mpr c3
  have c3b2 : (l0.length == l1.length) = false := by first | simpa using c3 | (simp at c3 ⊢; omega)
  obtain rfl := Option.some.inj H
  go_enter Try.func33, Try.ntmps33
  go_wp2
  go_ret
  exact ⟨eq_, bl_⟩
def laws_FnExactDeepOfProof.f (k : Nat) (l0 : List (S115)) : Option (Bool) := (laws_szStepS.f k l0 1048576).bind fun t291 => (if t291 < 0 then (some true) else ((laws_toStepS.f k l0).bind fun t292 => ((spec_DeepOfProof.f k t292).bind fun t295 => ((laws_toStepS.f k l0).bind fun t296 => ((impl_DeepOfProof.f k t296).bind fun t299 => (if t299 = t295 then ((laws_toStepS.f k l0).bind fun t300 => ((laws_eqStepS.f k t296 t300).bind fun t303 => (if t303 = true then (some true) else (some false)))) else (some false)))))))
set_option maxHeartbeats 8000000 in
set_option maxRecDepth 100000 in
theorem laws_FnExactDeepOfProof.calls (k : Nat) (A0 : Option Addr) (c0 : Nat) (l0 : List (S115)) (r : Bool) (w : World) (hr0 : Kd.C k115 w A0 l0.length l0) (hc0 : l0.length ≤ c0) (h : laws_FnExactDeepOfProof.f k l0 = some r) :
  Calls Try.prog 4 #[.slice A0 l0.length c0] w fun e w' => e = .returned (.bool r) ∧ Below w.heap.size w w' := by
 have HR0 := Aside0.mk hr0
 have HC0 := Aside0.mk hc0
 clear hr0 hc0
 have HB := Aside0.mk (Below.refl w.heap.size w)
 have H : ((laws_szStepS.f k l0 1048576).bind fun t291 => (if t291 < 0 then (some true) else ((laws_toStepS.f k l0).bind fun t292 => ((spec_DeepOfProof.f k t292).bind fun t295 => ((laws_toStepS.f k l0).bind fun t296 => ((impl_DeepOfProof.f k t296).bind fun t299 => (if t299 = t295 then ((laws_toStepS.f k l0).bind fun t300 => ((laws_eqStepS.f k t296 t300).bind fun t303 => (if t303 = true then (some true) else (some false)))) else (some false)))))))) = some r := h
 clear h
 obtain ⟨t291, A2, H⟩ := bindE_ H
 by_cases c3 : t291 < 0
 ·rw [if_pos c3] at H
  have c3b0 : decide (t291 < 0) = true := decide_eq_true c3
  clear c3
  obtain rfl := Option.some.inj H
  go_enter Try.func4, Try.ntmps4
  go_wp2_with (first | ((with_reducible refine gate_callee (f := 29) rfl ?_); refine goesC_ (some 9) Try.func29 #[.slice A0 l0.length c0, .int .i64 1048576] ?_; (with_reducible refine (laws_szStepS.calls k _ _ l0 1048576 t291 _ ?side1 ?side2 A2.out).mono ?_); (case side1 => repeat (first | exact HR0.out | (with_reducible refine Kd.C_alloc ?_ _) | (with_reducible refine Kd.C_drewN ?_ _) | (with_reducible refine Kd.C_drew ?_))); (case side2 => exact HC0.out); rintro e w4 ⟨rfl, hb⟩; refine ⟨_, rfl, ?_⟩; replace HB := hbs_ hb; clear hb))
  go_ret
  exact ⟨eq_, bl_⟩
 ·rw [if_neg c3] at H
  have c3b0 : decide (t291 < 0) = false := decide_eq_false c3
  clear c3
  obtain ⟨t292, A5, H⟩ := bindE_ H
  obtain ⟨t295, A6, H⟩ := bindE_ H
  obtain ⟨t296, A7, H⟩ := bindE_ H
  obtain ⟨t299, A8, H⟩ := bindE_ H
  by_cases c9 : t299 = t295
  ·rw [if_pos c9] at H
   have c9b0 : (t299 == t295) = true := beq_iff_eq.mpr c9
   have c9b1 : (t299 != t295) = false := bne_eq_false_iff_eq.mpr c9
   clear c9
   obtain ⟨t300, A10, H⟩ := bindE_ H
   obtain ⟨t303, A11, H⟩ := bindE_ H
   by_cases c12 : t303 = true
   ·subst c12
    replace H := ite_t_ H
    obtain rfl := Option.some.inj H
    go_enter Try.func4, Try.ntmps4
    go_wp2_with (first | ((with_reducible refine gate_callee (f := 29) rfl ?_); refine goesC_ (some 9) Try.func29 #[.slice A0 l0.length c0, .int .i64 1048576] ?_; (with_reducible refine (laws_szStepS.calls k _ _ l0 1048576 t291 _ ?side1 ?side2 A2.out).mono ?_); (case side1 => repeat (first | exact HR0.out | (with_reducible refine Kd.C_alloc ?_ _) | (with_reducible refine Kd.C_drewN ?_ _) | (with_reducible refine Kd.C_drew ?_))); (case side2 => exact HC0.out); rintro e w13 ⟨rfl, hb⟩; refine ⟨_, rfl, ?_⟩; replace HB := hbs_ hb; clear hb) | ((with_reducible refine gate_callee (f := 31) rfl ?_); refine goesC_ (some 13) Try.func31 #[.slice A0 l0.length c0] ?_; (with_reducible refine (laws_toStepS.calls k _ _ l0 t292 _ ?side1 ?side2 A5.out).mono ?_); (case side1 => repeat (first | exact (Kd.C_below HR0.out HB.out) | (with_reducible refine Kd.C_alloc ?_ _) | (with_reducible refine Kd.C_drewN ?_ _) | (with_reducible refine Kd.C_drew ?_))); (case side2 => exact HC0.out); rintro e w14 ⟨v293, rfl, ho0, hb⟩; refine ⟨_, rfl, ?_⟩; have HO294 := Aside0.mk (Kd.S_lower ho0 bls_); replace HB := hbs_ hb; (try clear hb); (try clear hb2); (try clear hk); (try clear hi); (try clear ho0); obtain ⟨Ao15, co15, eo15⟩ := Kd.S_slice HO294.out; subst eo15) | ((with_reducible refine gate_callee (f := 30) rfl ?_); refine goesC_ (some 14) Try.func30 #[.slice Ao15 t292.length co15] ?_; (with_reducible refine (spec_DeepOfProof.calls k _ _ t292 t295 _ ?side1 ?side2 A6.out).mono ?_); (case side1 => repeat (first | exact (Kd.S_reads' HO294.out).2.2 | (with_reducible refine Kd.C_alloc ?_ _) | (with_reducible refine Kd.C_drewN ?_ _) | (with_reducible refine Kd.C_drew ?_))); (case side2 => exact (Kd.S_reads' HO294.out).2.1); rintro e w16 ⟨rfl, hb⟩; refine ⟨_, rfl, ?_⟩; replace HO294 := Aside0.mk (Kd.S_below (by (with_reducible repeat (first | apply Kd.S_alloc | apply Kd.S_drewN | apply Kd.S_drew)); exact HO294.out) hb); replace HB := hbs_ hb; clear hb) | ((with_reducible refine gate_callee (f := 31) rfl ?_); refine goesC_ (some 16) Try.func31 #[.slice A0 l0.length c0] ?_; (with_reducible refine (laws_toStepS.calls k _ _ l0 t296 _ ?side1 ?side2 A7.out).mono ?_); (case side1 => repeat (first | exact (Kd.C_below HR0.out HB.out) | (with_reducible refine Kd.C_alloc ?_ _) | (with_reducible refine Kd.C_drewN ?_ _) | (with_reducible refine Kd.C_drew ?_))); (case side2 => exact HC0.out); rintro e w17 ⟨v297, rfl, ho0, hb⟩; refine ⟨_, rfl, ?_⟩; have HO298 := Aside0.mk (Kd.S_lower (Kd.S_new' ho0 (Kd.S_lt (by (with_reducible repeat (first | apply Kd.S_alloc | apply Kd.S_drewN | apply Kd.S_drew)); exact HO294.out))) bls_); replace HO294 := Aside0.mk (Kd.S_elder' (by (with_reducible repeat (first | apply Kd.S_alloc | apply Kd.S_drewN | apply Kd.S_drew)); exact HO294.out) (Kd.S_base ho0) hb); replace HB := hbs_ hb; (try clear hb); (try clear hb2); (try clear hk); (try clear hi); (try clear ho0); obtain ⟨Ao18, co18, eo18⟩ := Kd.S_slice HO298.out; subst eo18) | ((with_reducible refine gate_callee (f := 32) rfl ?_); refine goesC_ (some 18) Try.func32 #[.slice Ao18 t296.length co18] ?_; (with_reducible refine (impl_DeepOfProof.calls k _ _ t296 t299 _ ?side1 ?side2 A8.out).mono ?_); (case side1 => repeat (first | exact (Kd.S_reads' HO298.out).2.2 | (with_reducible refine Kd.C_alloc ?_ _) | (with_reducible refine Kd.C_drewN ?_ _) | (with_reducible refine Kd.C_drew ?_))); (case side2 => exact (Kd.S_reads' HO298.out).2.1); rintro e w19 ⟨rfl, hb⟩; refine ⟨_, rfl, ?_⟩; replace HO294 := Aside0.mk (Kd.S_below (by (with_reducible repeat (first | apply Kd.S_alloc | apply Kd.S_drewN | apply Kd.S_drew)); exact HO294.out) hb); replace HO298 := Aside0.mk (Kd.S_below (by (with_reducible repeat (first | apply Kd.S_alloc | apply Kd.S_drewN | apply Kd.S_drew)); exact HO298.out) hb); replace HB := hbs_ hb; clear hb) | ((with_reducible refine gate_callee (f := 31) rfl ?_); refine goesC_ (some 24) Try.func31 #[.slice A0 l0.length c0] ?_; (with_reducible refine (laws_toStepS.calls k _ _ l0 t300 _ ?side1 ?side2 A10.out).mono ?_); (case side1 => repeat (first | exact (Kd.C_below HR0.out HB.out) | (with_reducible refine Kd.C_alloc ?_ _) | (with_reducible refine Kd.C_drewN ?_ _) | (with_reducible refine Kd.C_drew ?_))); (case side2 => exact HC0.out); rintro e w20 ⟨v301, rfl, ho0, hb⟩; refine ⟨_, rfl, ?_⟩; have HO302 := Aside0.mk (Kd.S_lower (Kd.S_new' (Kd.S_new' ho0 (Kd.S_lt (by (with_reducible repeat (first | apply Kd.S_alloc | apply Kd.S_drewN | apply Kd.S_drew)); exact HO294.out))) (Kd.S_lt (by (with_reducible repeat (first | apply Kd.S_alloc | apply Kd.S_drewN | apply Kd.S_drew)); exact HO298.out))) bls_); replace HO294 := Aside0.mk (Kd.S_elder' (by (with_reducible repeat (first | apply Kd.S_alloc | apply Kd.S_drewN | apply Kd.S_drew)); exact HO294.out) (Kd.S_base ho0) hb); replace HO298 := Aside0.mk (Kd.S_elder' (by (with_reducible repeat (first | apply Kd.S_alloc | apply Kd.S_drewN | apply Kd.S_drew)); exact HO298.out) (Kd.S_base ho0) hb); replace HB := hbs_ hb; (try clear hb); (try clear hb2); (try clear hk); (try clear hi); (try clear ho0); obtain ⟨Ao21, co21, eo21⟩ := Kd.S_slice HO302.out; subst eo21) | ((with_reducible refine gate_callee (f := 33) rfl ?_); refine goesC_ (some 25) Try.func33 #[.slice Ao18 t296.length co18, .slice Ao21 t300.length co21] ?_; (with_reducible refine (laws_eqStepS.calls k _ _ t296 _ _ t300 true _ ?side1 ?side2 ?side3 ?side4 A11.out).mono ?_); (case side1 => repeat (first | exact (Kd.S_reads' HO298.out).2.2 | (with_reducible refine Kd.C_alloc ?_ _) | (with_reducible refine Kd.C_drewN ?_ _) | (with_reducible refine Kd.C_drew ?_))); (case side2 => exact (Kd.S_reads' HO298.out).2.1); (case side3 => repeat (first | exact (Kd.S_reads' HO302.out).2.2 | (with_reducible refine Kd.C_alloc ?_ _) | (with_reducible refine Kd.C_drewN ?_ _) | (with_reducible refine Kd.C_drew ?_))); (case side4 => exact (Kd.S_reads' HO302.out).2.1); rintro e w22 ⟨rfl, hb⟩; refine ⟨_, rfl, ?_⟩; replace HO294 := Aside0.mk (Kd.S_below (by (with_reducible repeat (first | apply Kd.S_alloc | apply Kd.S_drewN | apply Kd.S_drew)); exact HO294.out) hb); replace HO298 := Aside0.mk (Kd.S_below (by (with_reducible repeat (first | apply Kd.S_alloc | apply Kd.S_drewN | apply Kd.S_drew)); exact HO298.out) hb); replace HO302 := Aside0.mk (Kd.S_below (by (with_reducible repeat (first | apply Kd.S_alloc | apply Kd.S_drewN | apply Kd.S_drew)); exact HO302.out) hb); replace HB := hbs_ hb; clear hb))
    go_ret
    exact ⟨eq_, bl_⟩
   ·replace c12 := Bool.eq_false_iff.mpr c12
    subst c12
    replace H := ite_f_ H
    obtain rfl := Option.some.inj H
    go_enter Try.func4, Try.ntmps4
    go_wp2_with (first | ((with_reducible refine gate_callee (f := 29) rfl ?_); refine goesC_ (some 9) Try.func29 #[.slice A0 l0.length c0, .int .i64 1048576] ?_; (with_reducible refine (laws_szStepS.calls k _ _ l0 1048576 t291 _ ?side1 ?side2 A2.out).mono ?_); (case side1 => repeat (first | exact HR0.out | (with_reducible refine Kd.C_alloc ?_ _) | (with_reducible refine Kd.C_drewN ?_ _) | (with_reducible refine Kd.C_drew ?_))); (case side2 => exact HC0.out); rintro e w23 ⟨rfl, hb⟩; refine ⟨_, rfl, ?_⟩; replace HB := hbs_ hb; clear hb) | ((with_reducible refine gate_callee (f := 31) rfl ?_); refine goesC_ (some 13) Try.func31 #[.slice A0 l0.length c0] ?_; (with_reducible refine (laws_toStepS.calls k _ _ l0 t292 _ ?side1 ?side2 A5.out).mono ?_); (case side1 => repeat (first | exact (Kd.C_below HR0.out HB.out) | (with_reducible refine Kd.C_alloc ?_ _) | (with_reducible refine Kd.C_drewN ?_ _) | (with_reducible refine Kd.C_drew ?_))); (case side2 => exact HC0.out); rintro e w24 ⟨v293, rfl, ho0, hb⟩; refine ⟨_, rfl, ?_⟩; have HO294 := Aside0.mk (Kd.S_lower ho0 bls_); replace HB := hbs_ hb; (try clear hb); (try clear hb2); (try clear hk); (try clear hi); (try clear ho0); obtain ⟨Ao25, co25, eo25⟩ := Kd.S_slice HO294.out; subst eo25) | ((with_reducible refine gate_callee (f := 30) rfl ?_); refine goesC_ (some 14) Try.func30 #[.slice Ao25 t292.length co25] ?_; (with_reducible refine (spec_DeepOfProof.calls k _ _ t292 t295 _ ?side1 ?side2 A6.out).mono ?_); (case side1 => repeat (first | exact (Kd.S_reads' HO294.out).2.2 | (with_reducible refine Kd.C_alloc ?_ _) | (with_reducible refine Kd.C_drewN ?_ _) | (with_reducible refine Kd.C_drew ?_))); (case side2 => exact (Kd.S_reads' HO294.out).2.1); rintro e w26 ⟨rfl, hb⟩; refine ⟨_, rfl, ?_⟩; replace HO294 := Aside0.mk (Kd.S_below (by (with_reducible repeat (first | apply Kd.S_alloc | apply Kd.S_drewN | apply Kd.S_drew)); exact HO294.out) hb); replace HB := hbs_ hb; clear hb) | ((with_reducible refine gate_callee (f := 31) rfl ?_); refine goesC_ (some 16) Try.func31 #[.slice A0 l0.length c0] ?_; (with_reducible refine (laws_toStepS.calls k _ _ l0 t296 _ ?side1 ?side2 A7.out).mono ?_); (case side1 => repeat (first | exact (Kd.C_below HR0.out HB.out) | (with_reducible refine Kd.C_alloc ?_ _) | (with_reducible refine Kd.C_drewN ?_ _) | (with_reducible refine Kd.C_drew ?_))); (case side2 => exact HC0.out); rintro e w27 ⟨v297, rfl, ho0, hb⟩; refine ⟨_, rfl, ?_⟩; have HO298 := Aside0.mk (Kd.S_lower (Kd.S_new' ho0 (Kd.S_lt (by (with_reducible repeat (first | apply Kd.S_alloc | apply Kd.S_drewN | apply Kd.S_drew)); exact HO294.out))) bls_); replace HO294 := Aside0.mk (Kd.S_elder' (by (with_reducible repeat (first | apply Kd.S_alloc | apply Kd.S_drewN | apply Kd.S_drew)); exact HO294.out) (Kd.S_base ho0) hb); replace HB := hbs_ hb; (try clear hb); (try clear hb2); (try clear hk); (try clear hi); (try clear ho0); obtain ⟨Ao28, co28, eo28⟩ := Kd.S_slice HO298.out; subst eo28) | ((with_reducible refine gate_callee (f := 32) rfl ?_); refine goesC_ (some 18) Try.func32 #[.slice Ao28 t296.length co28] ?_; (with_reducible refine (impl_DeepOfProof.calls k _ _ t296 t299 _ ?side1 ?side2 A8.out).mono ?_); (case side1 => repeat (first | exact (Kd.S_reads' HO298.out).2.2 | (with_reducible refine Kd.C_alloc ?_ _) | (with_reducible refine Kd.C_drewN ?_ _) | (with_reducible refine Kd.C_drew ?_))); (case side2 => exact (Kd.S_reads' HO298.out).2.1); rintro e w29 ⟨rfl, hb⟩; refine ⟨_, rfl, ?_⟩; replace HO294 := Aside0.mk (Kd.S_below (by (with_reducible repeat (first | apply Kd.S_alloc | apply Kd.S_drewN | apply Kd.S_drew)); exact HO294.out) hb); replace HO298 := Aside0.mk (Kd.S_below (by (with_reducible repeat (first | apply Kd.S_alloc | apply Kd.S_drewN | apply Kd.S_drew)); exact HO298.out) hb); replace HB := hbs_ hb; clear hb) | ((with_reducible refine gate_callee (f := 31) rfl ?_); refine goesC_ (some 24) Try.func31 #[.slice A0 l0.length c0] ?_; (with_reducible refine (laws_toStepS.calls k _ _ l0 t300 _ ?side1 ?side2 A10.out).mono ?_); (case side1 => repeat (first | exact (Kd.C_below HR0.out HB.out) | (with_reducible refine Kd.C_alloc ?_ _) | (with_reducible refine Kd.C_drewN ?_ _) | (with_reducible refine Kd.C_drew ?_))); (case side2 => exact HC0.out); rintro e w30 ⟨v301, rfl, ho0, hb⟩; refine ⟨_, rfl, ?_⟩; have HO302 := Aside0.mk (Kd.S_lower (Kd.S_new' (Kd.S_new' ho0 (Kd.S_lt (by (with_reducible repeat (first | apply Kd.S_alloc | apply Kd.S_drewN | apply Kd.S_drew)); exact HO294.out))) (Kd.S_lt (by (with_reducible repeat (first | apply Kd.S_alloc | apply Kd.S_drewN | apply Kd.S_drew)); exact HO298.out))) bls_); replace HO294 := Aside0.mk (Kd.S_elder' (by (with_reducible repeat (first | apply Kd.S_alloc | apply Kd.S_drewN | apply Kd.S_drew)); exact HO294.out) (Kd.S_base ho0) hb); replace HO298 := Aside0.mk (Kd.S_elder' (by (with_reducible repeat (first | apply Kd.S_alloc | apply Kd.S_drewN | apply Kd.S_drew)); exact HO298.out) (Kd.S_base ho0) hb); replace HB := hbs_ hb; (try clear hb); (try clear hb2); (try clear hk); (try clear hi); (try clear ho0); obtain ⟨Ao31, co31, eo31⟩ := Kd.S_slice HO302.out; subst eo31) | ((with_reducible refine gate_callee (f := 33) rfl ?_); refine goesC_ (some 25) Try.func33 #[.slice Ao28 t296.length co28, .slice Ao31 t300.length co31] ?_; (with_reducible refine (laws_eqStepS.calls k _ _ t296 _ _ t300 false _ ?side1 ?side2 ?side3 ?side4 A11.out).mono ?_); (case side1 => repeat (first | exact (Kd.S_reads' HO298.out).2.2 | (with_reducible refine Kd.C_alloc ?_ _) | (with_reducible refine Kd.C_drewN ?_ _) | (with_reducible refine Kd.C_drew ?_))); (case side2 => exact (Kd.S_reads' HO298.out).2.1); (case side3 => repeat (first | exact (Kd.S_reads' HO302.out).2.2 | (with_reducible refine Kd.C_alloc ?_ _) | (with_reducible refine Kd.C_drewN ?_ _) | (with_reducible refine Kd.C_drew ?_))); (case side4 => exact (Kd.S_reads' HO302.out).2.1); rintro e w32 ⟨rfl, hb⟩; refine ⟨_, rfl, ?_⟩; replace HO294 := Aside0.mk (Kd.S_below (by (with_reducible repeat (first | apply Kd.S_alloc | apply Kd.S_drewN | apply Kd.S_drew)); exact HO294.out) hb); replace HO298 := Aside0.mk (Kd.S_below (by (with_reducible repeat (first | apply Kd.S_alloc | apply Kd.S_drewN | apply Kd.S_drew)); exact HO298.out) hb); replace HO302 := Aside0.mk (Kd.S_below (by (with_reducible repeat (first | apply Kd.S_alloc | apply Kd.S_drewN | apply Kd.S_drew)); exact HO302.out) hb); replace HB := hbs_ hb; clear hb))
    go_ret
    exact ⟨eq_, bl_⟩
  ·rw [if_neg c9] at H
   have c9b0 : (t299 == t295) = false := beq_eq_false_iff_ne.mpr c9
   have c9b1 : (t299 != t295) = true := bne_iff_ne.mpr c9
   obtain rfl := Option.some.inj H
   go_enter Try.func4, Try.ntmps4
   go_wp2_with (first | ((with_reducible refine gate_callee (f := 29) rfl ?_); refine goesC_ (some 9) Try.func29 #[.slice A0 l0.length c0, .int .i64 1048576] ?_; (with_reducible refine (laws_szStepS.calls k _ _ l0 1048576 t291 _ ?side1 ?side2 A2.out).mono ?_); (case side1 => repeat (first | exact HR0.out | (with_reducible refine Kd.C_alloc ?_ _) | (with_reducible refine Kd.C_drewN ?_ _) | (with_reducible refine Kd.C_drew ?_))); (case side2 => exact HC0.out); rintro e w33 ⟨rfl, hb⟩; refine ⟨_, rfl, ?_⟩; replace HB := hbs_ hb; clear hb) | ((with_reducible refine gate_callee (f := 31) rfl ?_); refine goesC_ (some 13) Try.func31 #[.slice A0 l0.length c0] ?_; (with_reducible refine (laws_toStepS.calls k _ _ l0 t292 _ ?side1 ?side2 A5.out).mono ?_); (case side1 => repeat (first | exact (Kd.C_below HR0.out HB.out) | (with_reducible refine Kd.C_alloc ?_ _) | (with_reducible refine Kd.C_drewN ?_ _) | (with_reducible refine Kd.C_drew ?_))); (case side2 => exact HC0.out); rintro e w34 ⟨v293, rfl, ho0, hb⟩; refine ⟨_, rfl, ?_⟩; have HO294 := Aside0.mk (Kd.S_lower ho0 bls_); replace HB := hbs_ hb; (try clear hb); (try clear hb2); (try clear hk); (try clear hi); (try clear ho0); obtain ⟨Ao35, co35, eo35⟩ := Kd.S_slice HO294.out; subst eo35) | ((with_reducible refine gate_callee (f := 30) rfl ?_); refine goesC_ (some 14) Try.func30 #[.slice Ao35 t292.length co35] ?_; (with_reducible refine (spec_DeepOfProof.calls k _ _ t292 t295 _ ?side1 ?side2 A6.out).mono ?_); (case side1 => repeat (first | exact (Kd.S_reads' HO294.out).2.2 | (with_reducible refine Kd.C_alloc ?_ _) | (with_reducible refine Kd.C_drewN ?_ _) | (with_reducible refine Kd.C_drew ?_))); (case side2 => exact (Kd.S_reads' HO294.out).2.1); rintro e w36 ⟨rfl, hb⟩; refine ⟨_, rfl, ?_⟩; replace HO294 := Aside0.mk (Kd.S_below (by (with_reducible repeat (first | apply Kd.S_alloc | apply Kd.S_drewN | apply Kd.S_drew)); exact HO294.out) hb); replace HB := hbs_ hb; clear hb) | ((with_reducible refine gate_callee (f := 31) rfl ?_); refine goesC_ (some 16) Try.func31 #[.slice A0 l0.length c0] ?_; (with_reducible refine (laws_toStepS.calls k _ _ l0 t296 _ ?side1 ?side2 A7.out).mono ?_); (case side1 => repeat (first | exact (Kd.C_below HR0.out HB.out) | (with_reducible refine Kd.C_alloc ?_ _) | (with_reducible refine Kd.C_drewN ?_ _) | (with_reducible refine Kd.C_drew ?_))); (case side2 => exact HC0.out); rintro e w37 ⟨v297, rfl, ho0, hb⟩; refine ⟨_, rfl, ?_⟩; have HO298 := Aside0.mk (Kd.S_lower (Kd.S_new' ho0 (Kd.S_lt (by (with_reducible repeat (first | apply Kd.S_alloc | apply Kd.S_drewN | apply Kd.S_drew)); exact HO294.out))) bls_); replace HO294 := Aside0.mk (Kd.S_elder' (by (with_reducible repeat (first | apply Kd.S_alloc | apply Kd.S_drewN | apply Kd.S_drew)); exact HO294.out) (Kd.S_base ho0) hb); replace HB := hbs_ hb; (try clear hb); (try clear hb2); (try clear hk); (try clear hi); (try clear ho0); obtain ⟨Ao38, co38, eo38⟩ := Kd.S_slice HO298.out; subst eo38) | ((with_reducible refine gate_callee (f := 32) rfl ?_); refine goesC_ (some 18) Try.func32 #[.slice Ao38 t296.length co38] ?_; (with_reducible refine (impl_DeepOfProof.calls k _ _ t296 t299 _ ?side1 ?side2 A8.out).mono ?_); (case side1 => repeat (first | exact (Kd.S_reads' HO298.out).2.2 | (with_reducible refine Kd.C_alloc ?_ _) | (with_reducible refine Kd.C_drewN ?_ _) | (with_reducible refine Kd.C_drew ?_))); (case side2 => exact (Kd.S_reads' HO298.out).2.1); rintro e w39 ⟨rfl, hb⟩; refine ⟨_, rfl, ?_⟩; replace HO294 := Aside0.mk (Kd.S_below (by (with_reducible repeat (first | apply Kd.S_alloc | apply Kd.S_drewN | apply Kd.S_drew)); exact HO294.out) hb); replace HO298 := Aside0.mk (Kd.S_below (by (with_reducible repeat (first | apply Kd.S_alloc | apply Kd.S_drewN | apply Kd.S_drew)); exact HO298.out) hb); replace HB := hbs_ hb; clear hb))
   go_ret
   exact ⟨eq_, bl_⟩
end Go.Proofs.Ytppdmcimddhbaaa.PA
