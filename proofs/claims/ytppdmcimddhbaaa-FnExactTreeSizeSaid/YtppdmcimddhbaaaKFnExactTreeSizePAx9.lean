import Derived.Test.YtppdmcimddhbaaaKFnExactTreeSizePAx0
import Derived.Test.YtppdmcimddhbaaaKFnExactTreeSizePAx3
import Derived.Test.YtppdmcimddhbaaaKFnExactTreeSizePAx4
import Derived.Test.YtppdmcimddhbaaaKFnExactTreeSizePAx5
import Derived.Test.YtppdmcimddhbaaaKFnExactTreeSizePAx6
import Derived.Test.YtppdmcimddhbaaaKFnExactTreeSizePAx8
-- A text of this claim: written by the session's own program out of the translation (wip/tools). Lean checks it.
namespace Go.Proofs.Ytppdmcimddhbaaa.PA
open Go.RowKit Go.Proofs.YtppdmcimddhbaaaW.PrintWords Go.Proofs.YtppdmcimddhbaaaW.PrintLast Go.Proofs.YtppdmcimddhbaaaW.PrintMore
attribute [local go_sem] max2_int min2_int max_two min_two max_three min_three max_four min_four   -- for this text's walks alone
set_option linter.unusedVariables false
set_option linter.unusedSimpArgs false
def laws_eqStepS.l0 : Nat → List (S105) → List (S105) → Int → Option (Bool)
 | 0, _, _, _ => none
 | k + 1, x0, x1, x5 => if x5 < (x0.length : Int) then (if 0 ≤ x5 then (if x5 < (x1.length : Int) then ((laws_eqStep.f k ((rd_T105 x0 x5).f0.f0) ((rd_T105 x0 x5).f0.f1.f0) ((rd_T105 x0 x5).f0.f1.f1) ((rd_T105 x0 x5).f0.f2) ((rd_T105 x0 x5).f0.f3.f0) ((rd_T105 x0 x5).f0.f3.f1) ((rd_T105 x0 x5).f0.f4.f0) ((rd_T105 x0 x5).f0.f4.f1) ((rd_T105 x0 x5).f0.f5) ((rd_T105 x0 x5).f0.f6) ((rd_T105 x0 x5).f1.f0.f0) ((rd_T105 x0 x5).f1.f0.f1) ((rd_T105 x0 x5).f1.f1) ((rd_T105 x0 x5).f2) ((rd_T105 x1 x5).f0.f0) ((rd_T105 x1 x5).f0.f1.f0) ((rd_T105 x1 x5).f0.f1.f1) ((rd_T105 x1 x5).f0.f2) ((rd_T105 x1 x5).f0.f3.f0) ((rd_T105 x1 x5).f0.f3.f1) ((rd_T105 x1 x5).f0.f4.f0) ((rd_T105 x1 x5).f0.f4.f1) ((rd_T105 x1 x5).f0.f5) ((rd_T105 x1 x5).f0.f6) ((rd_T105 x1 x5).f1.f0.f0) ((rd_T105 x1 x5).f1.f0.f1) ((rd_T105 x1 x5).f1.f1) ((rd_T105 x1 x5).f2)).bind fun t290 => (if t290 = true then (laws_eqStepS.l0 k x0 x1 (wrap64 (x5 + 1))) else (some false))) else (none)) else (none)) else (some true)
def laws_eqStepS.f (k : Nat) (l0 : List (S105)) (l1 : List (S105)) : Option (Bool) := if (l0.length : Int) = (l1.length : Int) then (laws_eqStepS.l0 k l0 l1 0) else (some false)
def laws_eqStepS.T6 : Bool × List (List Nat × List Nat) := (true, [([], []), ([], []), ([0, 1], [0, 1]), ([2], [2]), ([], []), ([], []), ([4, 5], [4, 5]), ([6], [6]), ([3, 7], [3, 7]), ([8], [8])])
def laws_eqStepS.B6 : List Nat := [0, 0, 3, 7, 0, 0, 48, 112, 255, 511]
theorem laws_eqStepS.tab6 : rtab .any (opsOf Try.f33 6) = laws_eqStepS.T6 := by kernel_rfl
theorem laws_eqStepS.bits6 : waitsOk laws_eqStepS.T6.2 laws_eqStepS.B6 = true := by kernel_rfl
set_option maxHeartbeats 8000000 in
set_option maxRecDepth 100000 in
theorem laws_eqStepS.calls (k : Nat) (A0 : Option Addr) (c0 : Nat) (l0 : List (S105)) (A1 : Option Addr) (c1 : Nat) (l1 : List (S105)) (r : Bool) (w : World) (hr0 : Kd.C k105 w A0 l0.length l0) (hc0 : l0.length ≤ c0) (hr1 : Kd.C k105 w A1 l1.length l1) (hc1 : l1.length ≤ c1) (h : laws_eqStepS.f k l0 l1 = some r) :
  Calls Try.prog 33 #[.slice A0 l0.length c0, .slice A1 l1.length c1] w fun e w' => e = .returned (.bool r) ∧ Below w.heap.size w w' := by
 have hu105 := Try.underlying105
 have HR0 := Aside0.mk hr0
 have HC0 := Aside0.mk hc0
 clear hr0 hc0
 have HR1 := Aside0.mk hr1
 have HC1 := Aside0.mk hc1
 clear hr1 hc1
 have HB := Aside0.mk (Below.refl w.heap.size w)
 have H : (if (l0.length : Int) = (l1.length : Int) then (laws_eqStepS.l0 k l0 l1 0) else (some false)) = some r := h
 clear h
 by_cases c3 : (l0.length : Int) = (l1.length : Int)
 ·rw [if_pos c3] at H
  have c3b0 : ((l0.length : Int) == (l1.length : Int)) = true := beq_iff_eq.mpr c3
  have c3b1 : ((l0.length : Int) != (l1.length : Int)) = false := bne_eq_false_iff_eq.mpr c3
  have c3b2 : (l0.length == l1.length) = true := by first | simpa using c3 | (simp at c3 ⊢; omega)
  clear c3
  have H' := Aside0.mk H
  clear H
  go_enter Try.func33, Try.ntmps33
  go_wp2
  go_loopg [5] k (fun kq v5 w' => ∃ (x5_1 : Int), v5 = .int .i64 x5_1 ∧ Aside0 (laws_eqStepS.l0 kq l0 l1 x5_1 = some r) ∧ Aside0 (kq ≤ k) ∧ Aside0 (Below w.heap.size w w'))
  case atStart => exact ⟨(0), (by first | rfl | (simp; done) | (simp [*]; done)), H', ⟨Nat.le_refl _⟩, ⟨bl_⟩⟩
  case round =>
   clear H'
   try clear c1
   try clear p2
   try clear c3
   try clear c3b0
   try clear c3b1
   try clear c3b2
   obtain ⟨x5_1, rfl, HA, HK1, HB⟩ := hrel
   cases gk with
   | zero => exact absurd HA.out (by simp [laws_eqStepS.l0])
   | succ k1 =>
    have H := HA.out
    clear HA
    simp only [laws_eqStepS.l0] at H
    by_cases c4 : x5_1 < (l0.length : Int)
    ·rw [if_pos c4] at H
     have c4b0 : decide (x5_1 < (l0.length : Int)) = true := decide_eq_true c4
     clear c4
     by_cases c5 : 0 ≤ x5_1
     ·rw [if_pos c5] at H
      have c5b0 : decide (0 ≤ x5_1) = true := decide_eq_true c5
      clear c5
      by_cases c6 : x5_1 < (l1.length : Int)
      ·rw [if_pos c6] at H
       have c6b0 : decide (x5_1 < (l1.length : Int)) = true := decide_eq_true c6
       clear c6
       obtain ⟨t290, A7, H⟩ := bindE_ H
       by_cases c8 : t290 = true
       ·subst c8
        replace H := ite_t_ H
        have H' := Aside0.mk H
        clear H
        try go_wp2
        replace HB := Aside0.mk (below_drew1 HB.out)
        have p288 : 0 ≤ (x5_1 : Int) := of_decide_eq_true (by first | (with_reducible assumption) | assumption)
        have q288 : x5_1 < (l0.length : Int) := of_decide_eq_true (by first | (with_reducible assumption) | assumption)
        obtain ⟨ad288, A288_13, c288_13, e288, hx288_0, hx288_1, hx288_2, hx288_3, hx288_4, hx288_5, hx288_6, hx288_7, hx288_8, hx288_9, hx288_10, hx288_11, hx288_12, hx288_13, hl288_13, hi288_13⟩ := at_T105 HR0.out x5_1 p288 q288
        have hw288_13 := hx288_13
        have hw288_12 := hx288_12
        have hw288_11 := hx288_11
        have hw288_10 := hx288_10
        have hw288_9 := hx288_9
        have hw288_8 := hx288_8
        have hw288_7 := hx288_7
        have hw288_6 := hx288_6
        have hw288_5 := hx288_5
        have hw288_4 := hx288_4
        have hw288_3 := hx288_3
        have hw288_2 := hx288_2
        have hw288_1 := hx288_1
        have hw288_0 := hx288_0
        cases e288
        replace hx288_0 := cb_ HB hx288_0
        replace hx288_1 := cb_ HB hx288_1
        replace hx288_2 := cb_ HB hx288_2
        replace hx288_3 := cb_ HB hx288_3
        replace hx288_4 := cb_ HB hx288_4
        replace hx288_5 := cb_ HB hx288_5
        replace hx288_6 := cb_ HB hx288_6
        replace hx288_7 := cb_ HB hx288_7
        replace hx288_8 := cb_ HB hx288_8
        replace hx288_9 := cb_ HB hx288_9
        replace hx288_10 := cb_ HB hx288_10
        replace hx288_11 := cb_ HB hx288_11
        replace hx288_12 := cb_ HB hx288_12
        replace hx288_13 := cb_ HB hx288_13
        have HR288_13 := Aside0.mk hi288_13
        have HC288_13 := Aside0.mk hl288_13
        clear hi288_13 hl288_13
        replace p288 := eq_true p288
        replace q288 := eq_true q288
        have p289 : 0 ≤ (x5_1 : Int) := of_decide_eq_true (by first | (with_reducible assumption) | assumption)
        have q289 : x5_1 < (l1.length : Int) := of_decide_eq_true (by first | (with_reducible assumption) | assumption)
        obtain ⟨ad289, A289_13, c289_13, e289, hx289_0, hx289_1, hx289_2, hx289_3, hx289_4, hx289_5, hx289_6, hx289_7, hx289_8, hx289_9, hx289_10, hx289_11, hx289_12, hx289_13, hl289_13, hi289_13⟩ := at_T105 HR1.out x5_1 p289 q289
        have hw289_13 := hx289_13
        have hw289_12 := hx289_12
        have hw289_11 := hx289_11
        have hw289_10 := hx289_10
        have hw289_9 := hx289_9
        have hw289_8 := hx289_8
        have hw289_7 := hx289_7
        have hw289_6 := hx289_6
        have hw289_5 := hx289_5
        have hw289_4 := hx289_4
        have hw289_3 := hx289_3
        have hw289_2 := hx289_2
        have hw289_1 := hx289_1
        have hw289_0 := hx289_0
        cases e289
        replace hx289_0 := cb_ HB hx289_0
        replace hx289_1 := cb_ HB hx289_1
        replace hx289_2 := cb_ HB hx289_2
        replace hx289_3 := cb_ HB hx289_3
        replace hx289_4 := cb_ HB hx289_4
        replace hx289_5 := cb_ HB hx289_5
        replace hx289_6 := cb_ HB hx289_6
        replace hx289_7 := cb_ HB hx289_7
        replace hx289_8 := cb_ HB hx289_8
        replace hx289_9 := cb_ HB hx289_9
        replace hx289_10 := cb_ HB hx289_10
        replace hx289_11 := cb_ HB hx289_11
        replace hx289_12 := cb_ HB hx289_12
        replace hx289_13 := cb_ HB hx289_13
        have HR289_13 := Aside0.mk hi289_13
        have HC289_13 := Aside0.mk hl289_13
        clear hi289_13 hl289_13
        replace p289 := eq_true p289
        replace q289 := eq_true q289
        refine start_ (n := 10) (S := fun w' => w'.cell? (ad288.add ((x5_1).toNat * 14)) = some (.int .i64 ((rd_T105 l0 x5_1).f0.f0)) ∧ w'.cell? ⟨(ad288.add ((x5_1).toNat * 14)).block, (ad288.add ((x5_1).toNat * 14)).off + 1, none⟩ = some (.int .i64 ((rd_T105 l0 x5_1).f0.f1.f0)) ∧ w'.cell? ⟨(ad288.add ((x5_1).toNat * 14)).block, (ad288.add ((x5_1).toNat * 14)).off + 2, none⟩ = some (.int .i64 ((rd_T105 l0 x5_1).f0.f1.f1)) ∧ w'.cell? ⟨(ad288.add ((x5_1).toNat * 14)).block, (ad288.add ((x5_1).toNat * 14)).off + 3, none⟩ = some (.int .i64 ((rd_T105 l0 x5_1).f0.f2)) ∧ w'.cell? ⟨(ad288.add ((x5_1).toNat * 14)).block, (ad288.add ((x5_1).toNat * 14)).off + 4, none⟩ = some (.int .i64 ((rd_T105 l0 x5_1).f0.f3.f0)) ∧ w'.cell? ⟨(ad288.add ((x5_1).toNat * 14)).block, (ad288.add ((x5_1).toNat * 14)).off + 5, none⟩ = some (.int .i64 ((rd_T105 l0 x5_1).f0.f3.f1)) ∧ w'.cell? ⟨(ad288.add ((x5_1).toNat * 14)).block, (ad288.add ((x5_1).toNat * 14)).off + 6, none⟩ = some (.int .i64 ((rd_T105 l0 x5_1).f0.f4.f0)) ∧ w'.cell? ⟨(ad288.add ((x5_1).toNat * 14)).block, (ad288.add ((x5_1).toNat * 14)).off + 7, none⟩ = some (.int .i64 ((rd_T105 l0 x5_1).f0.f4.f1)) ∧ w'.cell? ⟨(ad288.add ((x5_1).toNat * 14)).block, (ad288.add ((x5_1).toNat * 14)).off + 8, none⟩ = some (.int .i64 ((rd_T105 l0 x5_1).f0.f5)) ∧ w'.cell? ⟨(ad288.add ((x5_1).toNat * 14)).block, (ad288.add ((x5_1).toNat * 14)).off + 9, none⟩ = some (.int .i64 ((rd_T105 l0 x5_1).f0.f6)) ∧ w'.cell? ⟨(ad288.add ((x5_1).toNat * 14)).block, (ad288.add ((x5_1).toNat * 14)).off + 10, none⟩ = some (.int .i64 ((rd_T105 l0 x5_1).f1.f0.f0)) ∧ w'.cell? ⟨(ad288.add ((x5_1).toNat * 14)).block, (ad288.add ((x5_1).toNat * 14)).off + 11, none⟩ = some (.int .i64 ((rd_T105 l0 x5_1).f1.f0.f1)) ∧ w'.cell? ⟨(ad288.add ((x5_1).toNat * 14)).block, (ad288.add ((x5_1).toNat * 14)).off + 12, none⟩ = some (.int .i64 ((rd_T105 l0 x5_1).f1.f1)) ∧ w'.cell? ⟨(ad288.add ((x5_1).toNat * 14)).block, (ad288.add ((x5_1).toNat * 14)).off + 13, none⟩ = some (.slice A288_13 ((rd_T105 l0 x5_1).f2).length c288_13) ∧ w'.cell? (ad289.add ((x5_1).toNat * 14)) = some (.int .i64 ((rd_T105 l1 x5_1).f0.f0)) ∧ w'.cell? ⟨(ad289.add ((x5_1).toNat * 14)).block, (ad289.add ((x5_1).toNat * 14)).off + 1, none⟩ = some (.int .i64 ((rd_T105 l1 x5_1).f0.f1.f0)) ∧ w'.cell? ⟨(ad289.add ((x5_1).toNat * 14)).block, (ad289.add ((x5_1).toNat * 14)).off + 2, none⟩ = some (.int .i64 ((rd_T105 l1 x5_1).f0.f1.f1)) ∧ w'.cell? ⟨(ad289.add ((x5_1).toNat * 14)).block, (ad289.add ((x5_1).toNat * 14)).off + 3, none⟩ = some (.int .i64 ((rd_T105 l1 x5_1).f0.f2)) ∧ w'.cell? ⟨(ad289.add ((x5_1).toNat * 14)).block, (ad289.add ((x5_1).toNat * 14)).off + 4, none⟩ = some (.int .i64 ((rd_T105 l1 x5_1).f0.f3.f0)) ∧ w'.cell? ⟨(ad289.add ((x5_1).toNat * 14)).block, (ad289.add ((x5_1).toNat * 14)).off + 5, none⟩ = some (.int .i64 ((rd_T105 l1 x5_1).f0.f3.f1)) ∧ w'.cell? ⟨(ad289.add ((x5_1).toNat * 14)).block, (ad289.add ((x5_1).toNat * 14)).off + 6, none⟩ = some (.int .i64 ((rd_T105 l1 x5_1).f0.f4.f0)) ∧ w'.cell? ⟨(ad289.add ((x5_1).toNat * 14)).block, (ad289.add ((x5_1).toNat * 14)).off + 7, none⟩ = some (.int .i64 ((rd_T105 l1 x5_1).f0.f4.f1)) ∧ w'.cell? ⟨(ad289.add ((x5_1).toNat * 14)).block, (ad289.add ((x5_1).toNat * 14)).off + 8, none⟩ = some (.int .i64 ((rd_T105 l1 x5_1).f0.f5)) ∧ w'.cell? ⟨(ad289.add ((x5_1).toNat * 14)).block, (ad289.add ((x5_1).toNat * 14)).off + 9, none⟩ = some (.int .i64 ((rd_T105 l1 x5_1).f0.f6)) ∧ w'.cell? ⟨(ad289.add ((x5_1).toNat * 14)).block, (ad289.add ((x5_1).toNat * 14)).off + 10, none⟩ = some (.int .i64 ((rd_T105 l1 x5_1).f1.f0.f0)) ∧ w'.cell? ⟨(ad289.add ((x5_1).toNat * 14)).block, (ad289.add ((x5_1).toNat * 14)).off + 11, none⟩ = some (.int .i64 ((rd_T105 l1 x5_1).f1.f0.f1)) ∧ w'.cell? ⟨(ad289.add ((x5_1).toNat * 14)).block, (ad289.add ((x5_1).toNat * 14)).off + 12, none⟩ = some (.int .i64 ((rd_T105 l1 x5_1).f1.f1)) ∧ w'.cell? ⟨(ad289.add ((x5_1).toNat * 14)).block, (ad289.add ((x5_1).toNat * 14)).off + 13, none⟩ = some (.slice A289_13 ((rd_T105 l1 x5_1).f2).length c289_13)) (ds := []) #[false, false, false, false, false, false, false, false, false, false] (by kernel_rfl) rfl rfl ⟨((HB.out.cell (World.block_lt_of_cell? w _ hw288_0)).trans hw288_0), ((HB.out.cell (World.block_lt_of_cell? w _ hw288_1)).trans hw288_1), ((HB.out.cell (World.block_lt_of_cell? w _ hw288_2)).trans hw288_2), ((HB.out.cell (World.block_lt_of_cell? w _ hw288_3)).trans hw288_3), ((HB.out.cell (World.block_lt_of_cell? w _ hw288_4)).trans hw288_4), ((HB.out.cell (World.block_lt_of_cell? w _ hw288_5)).trans hw288_5), ((HB.out.cell (World.block_lt_of_cell? w _ hw288_6)).trans hw288_6), ((HB.out.cell (World.block_lt_of_cell? w _ hw288_7)).trans hw288_7), ((HB.out.cell (World.block_lt_of_cell? w _ hw288_8)).trans hw288_8), ((HB.out.cell (World.block_lt_of_cell? w _ hw288_9)).trans hw288_9), ((HB.out.cell (World.block_lt_of_cell? w _ hw288_10)).trans hw288_10), ((HB.out.cell (World.block_lt_of_cell? w _ hw288_11)).trans hw288_11), ((HB.out.cell (World.block_lt_of_cell? w _ hw288_12)).trans hw288_12), ((HB.out.cell (World.block_lt_of_cell? w _ hw288_13)).trans hw288_13), ((HB.out.cell (World.block_lt_of_cell? w _ hw289_0)).trans hw289_0), ((HB.out.cell (World.block_lt_of_cell? w _ hw289_1)).trans hw289_1), ((HB.out.cell (World.block_lt_of_cell? w _ hw289_2)).trans hw289_2), ((HB.out.cell (World.block_lt_of_cell? w _ hw289_3)).trans hw289_3), ((HB.out.cell (World.block_lt_of_cell? w _ hw289_4)).trans hw289_4), ((HB.out.cell (World.block_lt_of_cell? w _ hw289_5)).trans hw289_5), ((HB.out.cell (World.block_lt_of_cell? w _ hw289_6)).trans hw289_6), ((HB.out.cell (World.block_lt_of_cell? w _ hw289_7)).trans hw289_7), ((HB.out.cell (World.block_lt_of_cell? w _ hw289_8)).trans hw289_8), ((HB.out.cell (World.block_lt_of_cell? w _ hw289_9)).trans hw289_9), ((HB.out.cell (World.block_lt_of_cell? w _ hw289_10)).trans hw289_10), ((HB.out.cell (World.block_lt_of_cell? w _ hw289_11)).trans hw289_11), ((HB.out.cell (World.block_lt_of_cell? w _ hw289_12)).trans hw289_12), ((HB.out.cell (World.block_lt_of_cell? w _ hw289_13)).trans hw289_13)⟩ (fun hHeld => ?_); refine with_tabW laws_eqStepS.tab6 laws_eqStepS.bits6 (fun HT_ HW_ => ?_)
        generalize wr.drew = w9 at HB HR288_13 HR289_13 hx288_0 hx288_1 hx288_10 hx288_11 hx288_12 hx288_13 hx288_2 hx288_3 hx288_4 hx288_5 hx288_6 hx288_7 hx288_8 hx288_9 hx289_0 hx289_1 hx289_10 hx289_11 hx289_12 hx289_13 hx289_2 hx289_3 hx289_4 hx289_5 hx289_6 hx289_7 hx289_8 hx289_9 hHeld ⊢
        refine pureZ_ (i := 0) (some 17) #[true, false, false, false, false, false, false, false, false, false] (any_of HT_.out (by kernel_rfl)) ?_
        refine pureZ_ (i := 1) (some 18) #[true, true, false, false, false, false, false, false, false, false] (any_of HT_.out (by kernel_rfl)) ?_
        refine pureZ_ (i := 2) (some 19) #[true, true, true, false, false, false, false, false, false, false] (any_of HT_.out (by kernel_rfl)) ?_
        refine pureZ_ (i := 4) (some 21) #[true, true, true, false, true, false, false, false, false, false] (any_of HT_.out (by kernel_rfl)) ?_
        refine pureZ_ (i := 5) (some 22) #[true, true, true, false, true, true, false, false, false, false] (any_of HT_.out (by kernel_rfl)) ?_
        refine pureZ_ (i := 6) (some 23) #[true, true, true, false, true, true, true, false, false, false] (any_of HT_.out (by kernel_rfl)) ?_
        refine takeZ_ (i := 3) (some 20) #[true, true, true, true, true, true, true, false, false, false] (take_ofW HT_.out HW_.out (by kernel_rfl)) hHeld ?_
        refine takeZ_ (i := 7) (some 24) #[true, true, true, true, true, true, true, true, false, false] (take_ofW HT_.out HW_.out (by kernel_rfl)) hHeld ?_
        refine one_ (i := 8) (N := some 25) #[true, true, true, true, true, true, true, true, true, false] rfl rfl (one_of HT_.out (by kernel_rfl)) (by decide) (fun K hK => ?_)
        refine goes_ Try.func89 (by kernel_rfl) rfl #[.agg #[.int .i64 ((rd_T105 l0 x5_1).f0.f0), .int .i64 ((rd_T105 l0 x5_1).f0.f1.f0), .int .i64 ((rd_T105 l0 x5_1).f0.f1.f1), .int .i64 ((rd_T105 l0 x5_1).f0.f2), .int .i64 ((rd_T105 l0 x5_1).f0.f3.f0), .int .i64 ((rd_T105 l0 x5_1).f0.f3.f1), .int .i64 ((rd_T105 l0 x5_1).f0.f4.f0), .int .i64 ((rd_T105 l0 x5_1).f0.f4.f1), .int .i64 ((rd_T105 l0 x5_1).f0.f5), .int .i64 ((rd_T105 l0 x5_1).f0.f6), .int .i64 ((rd_T105 l0 x5_1).f1.f0.f0), .int .i64 ((rd_T105 l0 x5_1).f1.f0.f1), .int .i64 ((rd_T105 l0 x5_1).f1.f1), .slice A288_13 ((rd_T105 l0 x5_1).f2).length c288_13], .agg #[.int .i64 ((rd_T105 l1 x5_1).f0.f0), .int .i64 ((rd_T105 l1 x5_1).f0.f1.f0), .int .i64 ((rd_T105 l1 x5_1).f0.f1.f1), .int .i64 ((rd_T105 l1 x5_1).f0.f2), .int .i64 ((rd_T105 l1 x5_1).f0.f3.f0), .int .i64 ((rd_T105 l1 x5_1).f0.f3.f1), .int .i64 ((rd_T105 l1 x5_1).f0.f4.f0), .int .i64 ((rd_T105 l1 x5_1).f0.f4.f1), .int .i64 ((rd_T105 l1 x5_1).f0.f5), .int .i64 ((rd_T105 l1 x5_1).f0.f6), .int .i64 ((rd_T105 l1 x5_1).f1.f0.f0), .int .i64 ((rd_T105 l1 x5_1).f1.f0.f1), .int .i64 ((rd_T105 l1 x5_1).f1.f1), .slice A289_13 ((rd_T105 l1 x5_1).f2).length c289_13]] (by rfl) rfl rfl (by (try simp only [List.map_toArray, List.map_cons, List.map_nil]); first | done | rfl | (simp only [List.length_drop, List.length_take]; rfl)) ?_
        with_reducible refine (laws_eqStep.calls k1 ((rd_T105 l0 x5_1).f0.f0) ((rd_T105 l0 x5_1).f0.f1.f0) ((rd_T105 l0 x5_1).f0.f1.f1) ((rd_T105 l0 x5_1).f0.f2) ((rd_T105 l0 x5_1).f0.f3.f0) ((rd_T105 l0 x5_1).f0.f3.f1) ((rd_T105 l0 x5_1).f0.f4.f0) ((rd_T105 l0 x5_1).f0.f4.f1) ((rd_T105 l0 x5_1).f0.f5) ((rd_T105 l0 x5_1).f0.f6) ((rd_T105 l0 x5_1).f1.f0.f0) ((rd_T105 l0 x5_1).f1.f0.f1) ((rd_T105 l0 x5_1).f1.f1) _ _ ((rd_T105 l0 x5_1).f2) ((rd_T105 l1 x5_1).f0.f0) ((rd_T105 l1 x5_1).f0.f1.f0) ((rd_T105 l1 x5_1).f0.f1.f1) ((rd_T105 l1 x5_1).f0.f2) ((rd_T105 l1 x5_1).f0.f3.f0) ((rd_T105 l1 x5_1).f0.f3.f1) ((rd_T105 l1 x5_1).f0.f4.f0) ((rd_T105 l1 x5_1).f0.f4.f1) ((rd_T105 l1 x5_1).f0.f5) ((rd_T105 l1 x5_1).f0.f6) ((rd_T105 l1 x5_1).f1.f0.f0) ((rd_T105 l1 x5_1).f1.f0.f1) ((rd_T105 l1 x5_1).f1.f1) _ _ ((rd_T105 l1 x5_1).f2) true _ ?side1 ?side2 ?side3 ?side4 A7.out).mono ?_
        (case side1 => repeat (first | exact (Kd.C_below HR288_13.out HB.out) | (with_reducible refine Kd.C_alloc ?_ _) | (with_reducible refine Kd.C_drewN ?_ _) | (with_reducible refine Kd.C_drew ?_)))
        (case side2 => exact HC288_13.out)
        (case side3 => repeat (first | exact (Kd.C_below HR289_13.out HB.out) | (with_reducible refine Kd.C_alloc ?_ _) | (with_reducible refine Kd.C_drewN ?_ _) | (with_reducible refine Kd.C_drew ?_)))
        (case side4 => exact HC289_13.out)
        rintro e w10 ⟨rfl, hb⟩
        refine ⟨_, rfl, ?_⟩
        replace HB := hbs_ hb
        (try clear hb)
        (try clear hb2)
        (try clear hk)
        (try clear hi)
        refine hK.out _ _ ⟨((HB.out.cell (World.block_lt_of_cell? w _ hw288_0)).trans hw288_0), ((HB.out.cell (World.block_lt_of_cell? w _ hw288_1)).trans hw288_1), ((HB.out.cell (World.block_lt_of_cell? w _ hw288_2)).trans hw288_2), ((HB.out.cell (World.block_lt_of_cell? w _ hw288_3)).trans hw288_3), ((HB.out.cell (World.block_lt_of_cell? w _ hw288_4)).trans hw288_4), ((HB.out.cell (World.block_lt_of_cell? w _ hw288_5)).trans hw288_5), ((HB.out.cell (World.block_lt_of_cell? w _ hw288_6)).trans hw288_6), ((HB.out.cell (World.block_lt_of_cell? w _ hw288_7)).trans hw288_7), ((HB.out.cell (World.block_lt_of_cell? w _ hw288_8)).trans hw288_8), ((HB.out.cell (World.block_lt_of_cell? w _ hw288_9)).trans hw288_9), ((HB.out.cell (World.block_lt_of_cell? w _ hw288_10)).trans hw288_10), ((HB.out.cell (World.block_lt_of_cell? w _ hw288_11)).trans hw288_11), ((HB.out.cell (World.block_lt_of_cell? w _ hw288_12)).trans hw288_12), ((HB.out.cell (World.block_lt_of_cell? w _ hw288_13)).trans hw288_13), ((HB.out.cell (World.block_lt_of_cell? w _ hw289_0)).trans hw289_0), ((HB.out.cell (World.block_lt_of_cell? w _ hw289_1)).trans hw289_1), ((HB.out.cell (World.block_lt_of_cell? w _ hw289_2)).trans hw289_2), ((HB.out.cell (World.block_lt_of_cell? w _ hw289_3)).trans hw289_3), ((HB.out.cell (World.block_lt_of_cell? w _ hw289_4)).trans hw289_4), ((HB.out.cell (World.block_lt_of_cell? w _ hw289_5)).trans hw289_5), ((HB.out.cell (World.block_lt_of_cell? w _ hw289_6)).trans hw289_6), ((HB.out.cell (World.block_lt_of_cell? w _ hw289_7)).trans hw289_7), ((HB.out.cell (World.block_lt_of_cell? w _ hw289_8)).trans hw289_8), ((HB.out.cell (World.block_lt_of_cell? w _ hw289_9)).trans hw289_9), ((HB.out.cell (World.block_lt_of_cell? w _ hw289_10)).trans hw289_10), ((HB.out.cell (World.block_lt_of_cell? w _ hw289_11)).trans hw289_11), ((HB.out.cell (World.block_lt_of_cell? w _ hw289_12)).trans hw289_12), ((HB.out.cell (World.block_lt_of_cell? w _ hw289_13)).trans hw289_13)⟩ (fun hHeld => ?_)
        clear hK K
        refine norm_ (a' := ?_) ?_ ?_
        rotate_left
        ·show Act.put _ (some 25) _ = _
         simp only [Act.put, List.setIfInBounds_toArray, List.set_cons_zero, List.set_cons_succ, i64_w, i32_w]
         rfl
        refine pureZ_ (i := 9) (some 26) #[true, true, true, true, true, true, true, true, true, true] (any_of HT_.out (by kernel_rfl)) ?_
        refine done_ (done_of HT_.out (by kernel_rfl)) ?_
        try go_wp2
        go_roundg k1
        case measure => have := HK1.out; omega
        case rel => exact ⟨(wrap64 (x5_1 + 1)), (by first | rfl | (simp; done) | (simp [*]; done)), H', ⟨by have := HK1.out; omega⟩, ⟨bl_⟩⟩
       ·replace c8 := Bool.eq_false_iff.mpr c8
        subst c8
        replace H := ite_f_ H
        obtain rfl := Option.some.inj H
        try go_wp2
        replace HB := Aside0.mk (below_drew1 HB.out)
        have p288 : 0 ≤ (x5_1 : Int) := of_decide_eq_true (by first | (with_reducible assumption) | assumption)
        have q288 : x5_1 < (l0.length : Int) := of_decide_eq_true (by first | (with_reducible assumption) | assumption)
        obtain ⟨ad288, A288_13, c288_13, e288, hx288_0, hx288_1, hx288_2, hx288_3, hx288_4, hx288_5, hx288_6, hx288_7, hx288_8, hx288_9, hx288_10, hx288_11, hx288_12, hx288_13, hl288_13, hi288_13⟩ := at_T105 HR0.out x5_1 p288 q288
        have hw288_13 := hx288_13
        have hw288_12 := hx288_12
        have hw288_11 := hx288_11
        have hw288_10 := hx288_10
        have hw288_9 := hx288_9
        have hw288_8 := hx288_8
        have hw288_7 := hx288_7
        have hw288_6 := hx288_6
        have hw288_5 := hx288_5
        have hw288_4 := hx288_4
        have hw288_3 := hx288_3
        have hw288_2 := hx288_2
        have hw288_1 := hx288_1
        have hw288_0 := hx288_0
        cases e288
        replace hx288_0 := cb_ HB hx288_0
        replace hx288_1 := cb_ HB hx288_1
        replace hx288_2 := cb_ HB hx288_2
        replace hx288_3 := cb_ HB hx288_3
        replace hx288_4 := cb_ HB hx288_4
        replace hx288_5 := cb_ HB hx288_5
        replace hx288_6 := cb_ HB hx288_6
        replace hx288_7 := cb_ HB hx288_7
        replace hx288_8 := cb_ HB hx288_8
        replace hx288_9 := cb_ HB hx288_9
        replace hx288_10 := cb_ HB hx288_10
        replace hx288_11 := cb_ HB hx288_11
        replace hx288_12 := cb_ HB hx288_12
        replace hx288_13 := cb_ HB hx288_13
        have HR288_13 := Aside0.mk hi288_13
        have HC288_13 := Aside0.mk hl288_13
        clear hi288_13 hl288_13
        replace p288 := eq_true p288
        replace q288 := eq_true q288
        have p289 : 0 ≤ (x5_1 : Int) := of_decide_eq_true (by first | (with_reducible assumption) | assumption)
        have q289 : x5_1 < (l1.length : Int) := of_decide_eq_true (by first | (with_reducible assumption) | assumption)
        obtain ⟨ad289, A289_13, c289_13, e289, hx289_0, hx289_1, hx289_2, hx289_3, hx289_4, hx289_5, hx289_6, hx289_7, hx289_8, hx289_9, hx289_10, hx289_11, hx289_12, hx289_13, hl289_13, hi289_13⟩ := at_T105 HR1.out x5_1 p289 q289
        have hw289_13 := hx289_13
        have hw289_12 := hx289_12
        have hw289_11 := hx289_11
        have hw289_10 := hx289_10
        have hw289_9 := hx289_9
        have hw289_8 := hx289_8
        have hw289_7 := hx289_7
        have hw289_6 := hx289_6
        have hw289_5 := hx289_5
        have hw289_4 := hx289_4
        have hw289_3 := hx289_3
        have hw289_2 := hx289_2
        have hw289_1 := hx289_1
        have hw289_0 := hx289_0
        cases e289
        replace hx289_0 := cb_ HB hx289_0
        replace hx289_1 := cb_ HB hx289_1
        replace hx289_2 := cb_ HB hx289_2
        replace hx289_3 := cb_ HB hx289_3
        replace hx289_4 := cb_ HB hx289_4
        replace hx289_5 := cb_ HB hx289_5
        replace hx289_6 := cb_ HB hx289_6
        replace hx289_7 := cb_ HB hx289_7
        replace hx289_8 := cb_ HB hx289_8
        replace hx289_9 := cb_ HB hx289_9
        replace hx289_10 := cb_ HB hx289_10
        replace hx289_11 := cb_ HB hx289_11
        replace hx289_12 := cb_ HB hx289_12
        replace hx289_13 := cb_ HB hx289_13
        have HR289_13 := Aside0.mk hi289_13
        have HC289_13 := Aside0.mk hl289_13
        clear hi289_13 hl289_13
        replace p289 := eq_true p289
        replace q289 := eq_true q289
        refine start_ (n := 10) (S := fun w' => w'.cell? (ad288.add ((x5_1).toNat * 14)) = some (.int .i64 ((rd_T105 l0 x5_1).f0.f0)) ∧ w'.cell? ⟨(ad288.add ((x5_1).toNat * 14)).block, (ad288.add ((x5_1).toNat * 14)).off + 1, none⟩ = some (.int .i64 ((rd_T105 l0 x5_1).f0.f1.f0)) ∧ w'.cell? ⟨(ad288.add ((x5_1).toNat * 14)).block, (ad288.add ((x5_1).toNat * 14)).off + 2, none⟩ = some (.int .i64 ((rd_T105 l0 x5_1).f0.f1.f1)) ∧ w'.cell? ⟨(ad288.add ((x5_1).toNat * 14)).block, (ad288.add ((x5_1).toNat * 14)).off + 3, none⟩ = some (.int .i64 ((rd_T105 l0 x5_1).f0.f2)) ∧ w'.cell? ⟨(ad288.add ((x5_1).toNat * 14)).block, (ad288.add ((x5_1).toNat * 14)).off + 4, none⟩ = some (.int .i64 ((rd_T105 l0 x5_1).f0.f3.f0)) ∧ w'.cell? ⟨(ad288.add ((x5_1).toNat * 14)).block, (ad288.add ((x5_1).toNat * 14)).off + 5, none⟩ = some (.int .i64 ((rd_T105 l0 x5_1).f0.f3.f1)) ∧ w'.cell? ⟨(ad288.add ((x5_1).toNat * 14)).block, (ad288.add ((x5_1).toNat * 14)).off + 6, none⟩ = some (.int .i64 ((rd_T105 l0 x5_1).f0.f4.f0)) ∧ w'.cell? ⟨(ad288.add ((x5_1).toNat * 14)).block, (ad288.add ((x5_1).toNat * 14)).off + 7, none⟩ = some (.int .i64 ((rd_T105 l0 x5_1).f0.f4.f1)) ∧ w'.cell? ⟨(ad288.add ((x5_1).toNat * 14)).block, (ad288.add ((x5_1).toNat * 14)).off + 8, none⟩ = some (.int .i64 ((rd_T105 l0 x5_1).f0.f5)) ∧ w'.cell? ⟨(ad288.add ((x5_1).toNat * 14)).block, (ad288.add ((x5_1).toNat * 14)).off + 9, none⟩ = some (.int .i64 ((rd_T105 l0 x5_1).f0.f6)) ∧ w'.cell? ⟨(ad288.add ((x5_1).toNat * 14)).block, (ad288.add ((x5_1).toNat * 14)).off + 10, none⟩ = some (.int .i64 ((rd_T105 l0 x5_1).f1.f0.f0)) ∧ w'.cell? ⟨(ad288.add ((x5_1).toNat * 14)).block, (ad288.add ((x5_1).toNat * 14)).off + 11, none⟩ = some (.int .i64 ((rd_T105 l0 x5_1).f1.f0.f1)) ∧ w'.cell? ⟨(ad288.add ((x5_1).toNat * 14)).block, (ad288.add ((x5_1).toNat * 14)).off + 12, none⟩ = some (.int .i64 ((rd_T105 l0 x5_1).f1.f1)) ∧ w'.cell? ⟨(ad288.add ((x5_1).toNat * 14)).block, (ad288.add ((x5_1).toNat * 14)).off + 13, none⟩ = some (.slice A288_13 ((rd_T105 l0 x5_1).f2).length c288_13) ∧ w'.cell? (ad289.add ((x5_1).toNat * 14)) = some (.int .i64 ((rd_T105 l1 x5_1).f0.f0)) ∧ w'.cell? ⟨(ad289.add ((x5_1).toNat * 14)).block, (ad289.add ((x5_1).toNat * 14)).off + 1, none⟩ = some (.int .i64 ((rd_T105 l1 x5_1).f0.f1.f0)) ∧ w'.cell? ⟨(ad289.add ((x5_1).toNat * 14)).block, (ad289.add ((x5_1).toNat * 14)).off + 2, none⟩ = some (.int .i64 ((rd_T105 l1 x5_1).f0.f1.f1)) ∧ w'.cell? ⟨(ad289.add ((x5_1).toNat * 14)).block, (ad289.add ((x5_1).toNat * 14)).off + 3, none⟩ = some (.int .i64 ((rd_T105 l1 x5_1).f0.f2)) ∧ w'.cell? ⟨(ad289.add ((x5_1).toNat * 14)).block, (ad289.add ((x5_1).toNat * 14)).off + 4, none⟩ = some (.int .i64 ((rd_T105 l1 x5_1).f0.f3.f0)) ∧ w'.cell? ⟨(ad289.add ((x5_1).toNat * 14)).block, (ad289.add ((x5_1).toNat * 14)).off + 5, none⟩ = some (.int .i64 ((rd_T105 l1 x5_1).f0.f3.f1)) ∧ w'.cell? ⟨(ad289.add ((x5_1).toNat * 14)).block, (ad289.add ((x5_1).toNat * 14)).off + 6, none⟩ = some (.int .i64 ((rd_T105 l1 x5_1).f0.f4.f0)) ∧ w'.cell? ⟨(ad289.add ((x5_1).toNat * 14)).block, (ad289.add ((x5_1).toNat * 14)).off + 7, none⟩ = some (.int .i64 ((rd_T105 l1 x5_1).f0.f4.f1)) ∧ w'.cell? ⟨(ad289.add ((x5_1).toNat * 14)).block, (ad289.add ((x5_1).toNat * 14)).off + 8, none⟩ = some (.int .i64 ((rd_T105 l1 x5_1).f0.f5)) ∧ w'.cell? ⟨(ad289.add ((x5_1).toNat * 14)).block, (ad289.add ((x5_1).toNat * 14)).off + 9, none⟩ = some (.int .i64 ((rd_T105 l1 x5_1).f0.f6)) ∧ w'.cell? ⟨(ad289.add ((x5_1).toNat * 14)).block, (ad289.add ((x5_1).toNat * 14)).off + 10, none⟩ = some (.int .i64 ((rd_T105 l1 x5_1).f1.f0.f0)) ∧ w'.cell? ⟨(ad289.add ((x5_1).toNat * 14)).block, (ad289.add ((x5_1).toNat * 14)).off + 11, none⟩ = some (.int .i64 ((rd_T105 l1 x5_1).f1.f0.f1)) ∧ w'.cell? ⟨(ad289.add ((x5_1).toNat * 14)).block, (ad289.add ((x5_1).toNat * 14)).off + 12, none⟩ = some (.int .i64 ((rd_T105 l1 x5_1).f1.f1)) ∧ w'.cell? ⟨(ad289.add ((x5_1).toNat * 14)).block, (ad289.add ((x5_1).toNat * 14)).off + 13, none⟩ = some (.slice A289_13 ((rd_T105 l1 x5_1).f2).length c289_13)) (ds := []) #[false, false, false, false, false, false, false, false, false, false] (by kernel_rfl) rfl rfl ⟨((HB.out.cell (World.block_lt_of_cell? w _ hw288_0)).trans hw288_0), ((HB.out.cell (World.block_lt_of_cell? w _ hw288_1)).trans hw288_1), ((HB.out.cell (World.block_lt_of_cell? w _ hw288_2)).trans hw288_2), ((HB.out.cell (World.block_lt_of_cell? w _ hw288_3)).trans hw288_3), ((HB.out.cell (World.block_lt_of_cell? w _ hw288_4)).trans hw288_4), ((HB.out.cell (World.block_lt_of_cell? w _ hw288_5)).trans hw288_5), ((HB.out.cell (World.block_lt_of_cell? w _ hw288_6)).trans hw288_6), ((HB.out.cell (World.block_lt_of_cell? w _ hw288_7)).trans hw288_7), ((HB.out.cell (World.block_lt_of_cell? w _ hw288_8)).trans hw288_8), ((HB.out.cell (World.block_lt_of_cell? w _ hw288_9)).trans hw288_9), ((HB.out.cell (World.block_lt_of_cell? w _ hw288_10)).trans hw288_10), ((HB.out.cell (World.block_lt_of_cell? w _ hw288_11)).trans hw288_11), ((HB.out.cell (World.block_lt_of_cell? w _ hw288_12)).trans hw288_12), ((HB.out.cell (World.block_lt_of_cell? w _ hw288_13)).trans hw288_13), ((HB.out.cell (World.block_lt_of_cell? w _ hw289_0)).trans hw289_0), ((HB.out.cell (World.block_lt_of_cell? w _ hw289_1)).trans hw289_1), ((HB.out.cell (World.block_lt_of_cell? w _ hw289_2)).trans hw289_2), ((HB.out.cell (World.block_lt_of_cell? w _ hw289_3)).trans hw289_3), ((HB.out.cell (World.block_lt_of_cell? w _ hw289_4)).trans hw289_4), ((HB.out.cell (World.block_lt_of_cell? w _ hw289_5)).trans hw289_5), ((HB.out.cell (World.block_lt_of_cell? w _ hw289_6)).trans hw289_6), ((HB.out.cell (World.block_lt_of_cell? w _ hw289_7)).trans hw289_7), ((HB.out.cell (World.block_lt_of_cell? w _ hw289_8)).trans hw289_8), ((HB.out.cell (World.block_lt_of_cell? w _ hw289_9)).trans hw289_9), ((HB.out.cell (World.block_lt_of_cell? w _ hw289_10)).trans hw289_10), ((HB.out.cell (World.block_lt_of_cell? w _ hw289_11)).trans hw289_11), ((HB.out.cell (World.block_lt_of_cell? w _ hw289_12)).trans hw289_12), ((HB.out.cell (World.block_lt_of_cell? w _ hw289_13)).trans hw289_13)⟩ (fun hHeld => ?_); refine with_tabW laws_eqStepS.tab6 laws_eqStepS.bits6 (fun HT_ HW_ => ?_)
        generalize wr.drew = w11 at HB HR288_13 HR289_13 hx288_0 hx288_1 hx288_10 hx288_11 hx288_12 hx288_13 hx288_2 hx288_3 hx288_4 hx288_5 hx288_6 hx288_7 hx288_8 hx288_9 hx289_0 hx289_1 hx289_10 hx289_11 hx289_12 hx289_13 hx289_2 hx289_3 hx289_4 hx289_5 hx289_6 hx289_7 hx289_8 hx289_9 hHeld ⊢
        refine pureZ_ (i := 0) (some 17) #[true, false, false, false, false, false, false, false, false, false] (any_of HT_.out (by kernel_rfl)) ?_
        refine pureZ_ (i := 1) (some 18) #[true, true, false, false, false, false, false, false, false, false] (any_of HT_.out (by kernel_rfl)) ?_
        refine pureZ_ (i := 2) (some 19) #[true, true, true, false, false, false, false, false, false, false] (any_of HT_.out (by kernel_rfl)) ?_
        refine pureZ_ (i := 4) (some 21) #[true, true, true, false, true, false, false, false, false, false] (any_of HT_.out (by kernel_rfl)) ?_
        refine pureZ_ (i := 5) (some 22) #[true, true, true, false, true, true, false, false, false, false] (any_of HT_.out (by kernel_rfl)) ?_
        refine pureZ_ (i := 6) (some 23) #[true, true, true, false, true, true, true, false, false, false] (any_of HT_.out (by kernel_rfl)) ?_
        refine takeZ_ (i := 3) (some 20) #[true, true, true, true, true, true, true, false, false, false] (take_ofW HT_.out HW_.out (by kernel_rfl)) hHeld ?_
        refine takeZ_ (i := 7) (some 24) #[true, true, true, true, true, true, true, true, false, false] (take_ofW HT_.out HW_.out (by kernel_rfl)) hHeld ?_
        refine one_ (i := 8) (N := some 25) #[true, true, true, true, true, true, true, true, true, false] rfl rfl (one_of HT_.out (by kernel_rfl)) (by decide) (fun K hK => ?_)
        refine goes_ Try.func89 (by kernel_rfl) rfl #[.agg #[.int .i64 ((rd_T105 l0 x5_1).f0.f0), .int .i64 ((rd_T105 l0 x5_1).f0.f1.f0), .int .i64 ((rd_T105 l0 x5_1).f0.f1.f1), .int .i64 ((rd_T105 l0 x5_1).f0.f2), .int .i64 ((rd_T105 l0 x5_1).f0.f3.f0), .int .i64 ((rd_T105 l0 x5_1).f0.f3.f1), .int .i64 ((rd_T105 l0 x5_1).f0.f4.f0), .int .i64 ((rd_T105 l0 x5_1).f0.f4.f1), .int .i64 ((rd_T105 l0 x5_1).f0.f5), .int .i64 ((rd_T105 l0 x5_1).f0.f6), .int .i64 ((rd_T105 l0 x5_1).f1.f0.f0), .int .i64 ((rd_T105 l0 x5_1).f1.f0.f1), .int .i64 ((rd_T105 l0 x5_1).f1.f1), .slice A288_13 ((rd_T105 l0 x5_1).f2).length c288_13], .agg #[.int .i64 ((rd_T105 l1 x5_1).f0.f0), .int .i64 ((rd_T105 l1 x5_1).f0.f1.f0), .int .i64 ((rd_T105 l1 x5_1).f0.f1.f1), .int .i64 ((rd_T105 l1 x5_1).f0.f2), .int .i64 ((rd_T105 l1 x5_1).f0.f3.f0), .int .i64 ((rd_T105 l1 x5_1).f0.f3.f1), .int .i64 ((rd_T105 l1 x5_1).f0.f4.f0), .int .i64 ((rd_T105 l1 x5_1).f0.f4.f1), .int .i64 ((rd_T105 l1 x5_1).f0.f5), .int .i64 ((rd_T105 l1 x5_1).f0.f6), .int .i64 ((rd_T105 l1 x5_1).f1.f0.f0), .int .i64 ((rd_T105 l1 x5_1).f1.f0.f1), .int .i64 ((rd_T105 l1 x5_1).f1.f1), .slice A289_13 ((rd_T105 l1 x5_1).f2).length c289_13]] (by rfl) rfl rfl (by (try simp only [List.map_toArray, List.map_cons, List.map_nil]); first | done | rfl | (simp only [List.length_drop, List.length_take]; rfl)) ?_
        with_reducible refine (laws_eqStep.calls k1 ((rd_T105 l0 x5_1).f0.f0) ((rd_T105 l0 x5_1).f0.f1.f0) ((rd_T105 l0 x5_1).f0.f1.f1) ((rd_T105 l0 x5_1).f0.f2) ((rd_T105 l0 x5_1).f0.f3.f0) ((rd_T105 l0 x5_1).f0.f3.f1) ((rd_T105 l0 x5_1).f0.f4.f0) ((rd_T105 l0 x5_1).f0.f4.f1) ((rd_T105 l0 x5_1).f0.f5) ((rd_T105 l0 x5_1).f0.f6) ((rd_T105 l0 x5_1).f1.f0.f0) ((rd_T105 l0 x5_1).f1.f0.f1) ((rd_T105 l0 x5_1).f1.f1) _ _ ((rd_T105 l0 x5_1).f2) ((rd_T105 l1 x5_1).f0.f0) ((rd_T105 l1 x5_1).f0.f1.f0) ((rd_T105 l1 x5_1).f0.f1.f1) ((rd_T105 l1 x5_1).f0.f2) ((rd_T105 l1 x5_1).f0.f3.f0) ((rd_T105 l1 x5_1).f0.f3.f1) ((rd_T105 l1 x5_1).f0.f4.f0) ((rd_T105 l1 x5_1).f0.f4.f1) ((rd_T105 l1 x5_1).f0.f5) ((rd_T105 l1 x5_1).f0.f6) ((rd_T105 l1 x5_1).f1.f0.f0) ((rd_T105 l1 x5_1).f1.f0.f1) ((rd_T105 l1 x5_1).f1.f1) _ _ ((rd_T105 l1 x5_1).f2) false _ ?side1 ?side2 ?side3 ?side4 A7.out).mono ?_
        (case side1 => repeat (first | exact (Kd.C_below HR288_13.out HB.out) | (with_reducible refine Kd.C_alloc ?_ _) | (with_reducible refine Kd.C_drewN ?_ _) | (with_reducible refine Kd.C_drew ?_)))
        (case side2 => exact HC288_13.out)
        (case side3 => repeat (first | exact (Kd.C_below HR289_13.out HB.out) | (with_reducible refine Kd.C_alloc ?_ _) | (with_reducible refine Kd.C_drewN ?_ _) | (with_reducible refine Kd.C_drew ?_)))
        (case side4 => exact HC289_13.out)
        rintro e w12 ⟨rfl, hb⟩
        refine ⟨_, rfl, ?_⟩
        replace HB := hbs_ hb
        (try clear hb)
        (try clear hb2)
        (try clear hk)
        (try clear hi)
        refine hK.out _ _ ⟨((HB.out.cell (World.block_lt_of_cell? w _ hw288_0)).trans hw288_0), ((HB.out.cell (World.block_lt_of_cell? w _ hw288_1)).trans hw288_1), ((HB.out.cell (World.block_lt_of_cell? w _ hw288_2)).trans hw288_2), ((HB.out.cell (World.block_lt_of_cell? w _ hw288_3)).trans hw288_3), ((HB.out.cell (World.block_lt_of_cell? w _ hw288_4)).trans hw288_4), ((HB.out.cell (World.block_lt_of_cell? w _ hw288_5)).trans hw288_5), ((HB.out.cell (World.block_lt_of_cell? w _ hw288_6)).trans hw288_6), ((HB.out.cell (World.block_lt_of_cell? w _ hw288_7)).trans hw288_7), ((HB.out.cell (World.block_lt_of_cell? w _ hw288_8)).trans hw288_8), ((HB.out.cell (World.block_lt_of_cell? w _ hw288_9)).trans hw288_9), ((HB.out.cell (World.block_lt_of_cell? w _ hw288_10)).trans hw288_10), ((HB.out.cell (World.block_lt_of_cell? w _ hw288_11)).trans hw288_11), ((HB.out.cell (World.block_lt_of_cell? w _ hw288_12)).trans hw288_12), ((HB.out.cell (World.block_lt_of_cell? w _ hw288_13)).trans hw288_13), ((HB.out.cell (World.block_lt_of_cell? w _ hw289_0)).trans hw289_0), ((HB.out.cell (World.block_lt_of_cell? w _ hw289_1)).trans hw289_1), ((HB.out.cell (World.block_lt_of_cell? w _ hw289_2)).trans hw289_2), ((HB.out.cell (World.block_lt_of_cell? w _ hw289_3)).trans hw289_3), ((HB.out.cell (World.block_lt_of_cell? w _ hw289_4)).trans hw289_4), ((HB.out.cell (World.block_lt_of_cell? w _ hw289_5)).trans hw289_5), ((HB.out.cell (World.block_lt_of_cell? w _ hw289_6)).trans hw289_6), ((HB.out.cell (World.block_lt_of_cell? w _ hw289_7)).trans hw289_7), ((HB.out.cell (World.block_lt_of_cell? w _ hw289_8)).trans hw289_8), ((HB.out.cell (World.block_lt_of_cell? w _ hw289_9)).trans hw289_9), ((HB.out.cell (World.block_lt_of_cell? w _ hw289_10)).trans hw289_10), ((HB.out.cell (World.block_lt_of_cell? w _ hw289_11)).trans hw289_11), ((HB.out.cell (World.block_lt_of_cell? w _ hw289_12)).trans hw289_12), ((HB.out.cell (World.block_lt_of_cell? w _ hw289_13)).trans hw289_13)⟩ (fun hHeld => ?_)
        clear hK K
        refine norm_ (a' := ?_) ?_ ?_
        rotate_left
        ·show Act.put _ (some 25) _ = _
         simp only [Act.put, List.setIfInBounds_toArray, List.set_cons_zero, List.set_cons_succ, i64_w, i32_w]
         rfl
        refine pureZ_ (i := 9) (some 26) #[true, true, true, true, true, true, true, true, true, true] (any_of HT_.out (by kernel_rfl)) ?_
        refine done_ (done_of HT_.out (by kernel_rfl)) ?_
        try go_wp2
        go_ret
        exact ⟨eq_, bl_⟩
      ·rw [if_neg c6] at H
       exact absurd H (by simp)
     ·rw [if_neg c5] at H
      exact absurd H (by simp)
    ·rw [if_neg c4] at H
     have c4b0 : decide (x5_1 < (l0.length : Int)) = false := decide_eq_false c4
     clear c4
     obtain rfl := Option.some.inj H
     go_wp2
     go_ret
     exact ⟨eq_, bl_⟩
 ·rw [if_neg c3] at H
  have c3b0 : ((l0.length : Int) == (l1.length : Int)) = false := beq_eq_false_iff_ne.mpr c3
  have c3b1 : ((l0.length : Int) != (l1.length : Int)) = true := bne_iff_ne.mpr c3
  have c3b2 : (l0.length == l1.length) = false := by first | simpa using c3 | (simp at c3 ⊢; omega)
  obtain rfl := Option.some.inj H
  go_enter Try.func33, Try.ntmps33
  go_wp2
  go_ret
  exact ⟨eq_, bl_⟩
def spec_l19Cap.f (a0 : Int) : Option (Int) := if a0 > 1000000 then (some 1000000) else (some a0)
set_option maxHeartbeats 8000000 in
set_option maxRecDepth 100000 in
theorem spec_l19Cap.calls (a0 : Int) (r : Int) (w : World) (h : spec_l19Cap.f a0 = some r) :
  Calls Try.prog 91 #[.int .i64 a0] w fun e w' => e = .returned (.int .i64 r) ∧ Drawn0 w w' := by
 have H : (if a0 > 1000000 then (some 1000000) else (some a0)) = some r := h
 clear h
 by_cases c2 : a0 > 1000000
 ·rw [if_pos c2] at H
  have c2b0 : decide (1000000 < a0) = true := decide_eq_true c2
  clear c2
  obtain rfl := Option.some.inj H
  go_enter Try.func91, Try.ntmps91
  go_wp2
  go_ret
  exact ⟨by first | rfl | (simp; done) | (simp [*]; done), by repeat (first | exact Drawn0.refl _ | apply Drawn0.step)⟩
 ·rw [if_neg c2] at H
  have c2b0 : decide (1000000 < a0) = false := decide_eq_false c2
  clear c2
  obtain rfl := Option.some.inj H
  go_enter Try.func91, Try.ntmps91
  go_wp2
  go_ret
  exact ⟨by first | rfl | (simp; done) | (simp [*]; done), by repeat (first | exact Drawn0.refl _ | apply Drawn0.step)⟩
mutual
def spec_TreeSize.l0 : Nat → List (S105) → Int → List Int → Int → Option (Int)
 | 0, _, _, _, _ => none
 | k + 1, x0, x1, x5, x6 => if x6 ≤ x1 then ((spec_StepOk.f k x0 x6).bind fun t309 => (if t309 = true then (spec_TreeSize.l1 k x0 x1 x5 x6 1 0) else (some 0))) else (if 0 ≤ x1 then (if x1 < (x5.length : Int) then (some (rd x5 x1)) else (none)) else (none))
def spec_TreeSize.l1 : Nat → List (S105) → Int → List Int → Int → Int → Int → Option (Int)
 | 0, _, _, _, _, _, _ => none
 | k + 1, x0, x1, x5, x6, x7, x8 => if 0 ≤ x6 then (if x6 < (x0.length : Int) then (if x8 < (((rd_T105 x0 x6).f2).length : Int) then (if 0 ≤ x8 then (if 0 ≤ (rd ((rd_T105 x0 x6).f2) x8) then (if (rd ((rd_T105 x0 x6).f2) x8) < (x5.length : Int) then ((spec_l19Cap.f (wrap64 (x7 + (rd x5 (rd ((rd_T105 x0 x6).f2) x8))))).bind fun t314 => (spec_TreeSize.l1 k x0 x1 x5 x6 t314 (wrap64 (x8 + 1)))) else (none)) else (none)) else (none)) else (if x5.length < 17592186044416 then (spec_TreeSize.l0 k x0 x1 (x5 ++ [x7]) (wrap64 (x6 + 1))) else (none))) else (none)) else (none)
end
def spec_TreeSize.f (k : Nat) (l0 : List (S105)) (a1 : Int) : Option (Int) := (spec_l01In.f a1 0 (wrap64 ((l0.length : Int) - 1))).bind fun t304 => (if t304 = true then (spec_TreeSize.l0 k l0 a1 (([] : List Int)) 0) else (some 0))
set_option maxHeartbeats 8000000 in
set_option maxRecDepth 100000 in
theorem spec_TreeSize.calls (k : Nat) (A0 : Option Addr) (c0 : Nat) (l0 : List (S105)) (a1 : Int) (r : Int) (w : World) (hr0 : Kd.C k105 w A0 l0.length l0) (hc0 : l0.length ≤ c0) (h : spec_TreeSize.f k l0 a1 = some r) :
  Calls Try.prog 34 #[.slice A0 l0.length c0, .int .i64 a1] w fun e w' => e = .returned (.int .i64 r) ∧ Below w.heap.size w w' := by
 have HR0 := Aside0.mk hr0
 have HC0 := Aside0.mk hc0
 clear hr0 hc0
 have HB := Aside0.mk (Below.refl w.heap.size w)
 have H : ((spec_l01In.f a1 0 (wrap64 ((l0.length : Int) - 1))).bind fun t304 => (if t304 = true then (spec_TreeSize.l0 k l0 a1 (([] : List Int)) 0) else (some 0))) = some r := h
 clear h
 obtain ⟨t304, A3, H⟩ := bindE_ H
 by_cases c4 : t304 = true
 ·subst c4
  replace H := ite_t_ H
  obtain ⟨y305, hy305⟩ : ∃ y_ : List Int, y_ = (([] : List Int)) := ⟨_, rfl⟩
  replace H : (spec_TreeSize.l0 k l0 a1 y305 0) = some r := by first | (rw [hy305]; with_reducible exact H) | (have H2_ := (Option.bind_some _ _).symm.trans H; rw [hy305]; with_reducible exact H2_) | (have H2_ := (Option.bind_some _ _).symm.trans H; with_reducible exact H2_) | with_reducible exact H | (rw [hy305]; exact H) | exact H
  have Ny305 := Aside0.mk hy305
  clear hy305
  have H' := Aside0.mk H
  clear H
  go_enter Try.func34, Try.ntmps34
  go_wp2_with (first | ((with_reducible refine gate_callee (f := 90) rfl ?_); refine goesC_ (some 13) Try.func90 #[.int .i64 a1, .int .i64 0, .int .i64 (wrap64 ((l0.length : Int) - 1))] ?_; (with_reducible refine (spec_l01In.calls a1 0 (wrap64 ((l0.length : Int) - 1)) true _ A3.out).mono ?_); rintro e w' ⟨rfl, ⟨nd, rfl⟩⟩; refine ⟨_, rfl, ?_⟩) | ((with_reducible refine gate_dst (N := 15) rfl ?_); refine Kd.R_lit (Kd.int .i64) _ 3 ?hg (N := 15) ?hd (xs := ([] : List Int)) (inner := []) (ok := fun _ => True) (okp := fun _ => True) ?hr ?hp (fun _ hk => hk) trivial (Below.refl _ _) (Nat.le_refl _) (by simp) ?_; (case hd => rfl); (case hg => rfl); (case hr => first | (go_simp; done) | (go_simp; rfl)); (case hp => exact (Reps.none _ _)); intro v306 w5 ho6 hb hg_ hnew_; clear hg_ hnew_; (first | rw [← Ny305.out] at ho6 | (simp only [Int.reduceToNat] at ho6; rw [← Ny305.out] at ho6)); have HO307 := Aside0.mk (Kd.R_lower ho6 bls_); replace HB := hbs_ hb; clear hb ho6))
  go_loopg [5, 6] k (fun kq v5 v6 w' => ∃ (x5_1 : List Int) (x6_1 : Int), v6 = .int .i64 x6_1 ∧ Aside0 (spec_TreeSize.l0 kq l0 a1 x5_1 x6_1 = some r) ∧ Aside0 (kq ≤ k) ∧ Aside0 (Kd.R (Kd.int .i64) 3 w' w.heap.size (fun _ => True) v5 x5_1) ∧ Aside0 (Below w.heap.size w w'))
  case atStart => exact ⟨(y305), (0), (by first | rfl | (simp; done) | (simp [*]; done)), H', ⟨Nat.le_refl _⟩, ⟨by (with_reducible repeat (first | apply Kd.R_alloc | apply Kd.R_drewN | apply Kd.R_drew)); exact HO307.out⟩, ⟨bl_⟩⟩
  case round =>
   clear H'
   try clear p2
   try clear c3
   try clear c4
   try clear p6
   obtain ⟨x5_1, x6_1, rfl, HA, HK1, HO_5, HB⟩ := hrel
   cases gk with
   | zero => exact absurd HA.out (by simp [spec_TreeSize.l0])
   | succ k1 =>
    have H := HA.out
    clear HA
    simp only [spec_TreeSize.l0] at H
    by_cases c7 : x6_1 ≤ a1
    ·rw [if_pos c7] at H
     have c7b0 : decide (x6_1 ≤ a1) = true := decide_eq_true c7
     clear c7
     obtain ⟨t309, A8, H⟩ := bindE_ H
     by_cases c9 : t309 = true
     ·subst c9
      replace H := ite_t_ H
      have H' := Aside0.mk H
      clear H
      go_wp2_with (first | ((with_reducible refine gate_callee (f := 86) rfl ?_); refine goesC_ (some 23) Try.func86 #[.slice A0 l0.length c0, .int .i64 x6_1] ?_; (with_reducible refine (spec_StepOk.calls k1 _ _ l0 x6_1 true _ ?side1 ?side2 A8.out).mono ?_); (case side1 => repeat (first | exact (Kd.C_below HR0.out HB.out) | (with_reducible refine Kd.C_alloc ?_ _) | (with_reducible refine Kd.C_drewN ?_ _) | (with_reducible refine Kd.C_drew ?_))); (case side2 => exact HC0.out); rintro e w10 ⟨rfl, hb⟩; refine ⟨_, rfl, ?_⟩; replace HO_5 := Aside0.mk (Kd.R_below (by (with_reducible repeat (first | apply Kd.R_alloc | apply Kd.R_drewN | apply Kd.R_drew)); exact HO_5.out) hb); replace HB := hbs_ hb; clear hb))
      go_loopg [7, 8] k1 (fun kq v7 v8 w' => ∃ (x7_2 : Int) (x8_2 : Int), v7 = .int .i64 x7_2 ∧ v8 = .int .i64 x8_2 ∧ Aside0 (spec_TreeSize.l1 kq l0 a1 x5_1 x6_1 x7_2 x8_2 = some r) ∧ Aside0 (kq ≤ k1) ∧ Aside0 (Kd.R (Kd.int .i64) 3 w' w.heap.size (fun _ => True) u5 x5_1) ∧ Aside0 (Below w.heap.size w w'))
      case atStart => exact ⟨(1), (0), (by first | rfl | (simp; done) | (simp [*]; done)), (by first | rfl | (simp; done) | (simp [*]; done)), H', ⟨Nat.le_refl _⟩, ⟨by (with_reducible repeat (first | apply Kd.R_alloc | apply Kd.R_drewN | apply Kd.R_drew)); exact HO_5.out⟩, ⟨bl_⟩⟩
      case round =>
       clear H'
       try clear p2
       try clear c3
       try clear c4
       try clear p6
       try clear c7
       try clear c7b0
       try clear c8
       try clear c9
       try clear p2
       try clear p6
       obtain ⟨x7_2, x8_2, rfl, rfl, HA, HK2, HO_5, HB⟩ := hrel
       cases gk with
       | zero => exact absurd HA.out (by simp [spec_TreeSize.l1])
       | succ k2 =>
        have H := HA.out
        clear HA
        simp only [spec_TreeSize.l1] at H
        by_cases c11 : 0 ≤ x6_1
        ·rw [if_pos c11] at H
         have c11b0 : decide (0 ≤ x6_1) = true := decide_eq_true c11
         clear c11
         by_cases c12 : x6_1 < (l0.length : Int)
         ·rw [if_pos c12] at H
          have c12b0 : decide (x6_1 < (l0.length : Int)) = true := decide_eq_true c12
          clear c12
          by_cases c13 : x8_2 < (((rd_T105 l0 x6_1).f2).length : Int)
          ·rw [if_pos c13] at H
           have c13b0 : decide (x8_2 < (((rd_T105 l0 x6_1).f2).length : Int)) = true := decide_eq_true c13
           clear c13
           by_cases c14 : 0 ≤ x8_2
           ·rw [if_pos c14] at H
            have c14b0 : decide (0 ≤ x8_2) = true := decide_eq_true c14
            clear c14
            by_cases c15 : 0 ≤ (rd ((rd_T105 l0 x6_1).f2) x8_2)
            ·rw [if_pos c15] at H
             have c15b0 : decide (0 ≤ (rd ((rd_T105 l0 x6_1).f2) x8_2)) = true := decide_eq_true c15
             clear c15
             by_cases c16 : (rd ((rd_T105 l0 x6_1).f2) x8_2) < (x5_1.length : Int)
             ·rw [if_pos c16] at H
              have c16b0 : decide ((rd ((rd_T105 l0 x6_1).f2) x8_2) < (x5_1.length : Int)) = true := decide_eq_true c16
              clear c16
              obtain ⟨t314, A17, H⟩ := bindE_ H
              have H' := Aside0.mk H
              clear H
              have p310 : 0 ≤ (x6_1 : Int) := of_decide_eq_true (by first | (with_reducible assumption) | assumption)
              have q310 : x6_1 < (l0.length : Int) := of_decide_eq_true (by first | (with_reducible assumption) | assumption)
              obtain ⟨ad310, A310_13, c310_13, e310, hx310_0, hx310_1, hx310_2, hx310_3, hx310_4, hx310_5, hx310_6, hx310_7, hx310_8, hx310_9, hx310_10, hx310_11, hx310_12, hx310_13, hl310_13, hi310_13⟩ := at_T105 HR0.out x6_1 p310 q310
              cases e310
              replace hx310_0 := cb_ HB hx310_0
              replace hx310_1 := cb_ HB hx310_1
              replace hx310_2 := cb_ HB hx310_2
              replace hx310_3 := cb_ HB hx310_3
              replace hx310_4 := cb_ HB hx310_4
              replace hx310_5 := cb_ HB hx310_5
              replace hx310_6 := cb_ HB hx310_6
              replace hx310_7 := cb_ HB hx310_7
              replace hx310_8 := cb_ HB hx310_8
              replace hx310_9 := cb_ HB hx310_9
              replace hx310_10 := cb_ HB hx310_10
              replace hx310_11 := cb_ HB hx310_11
              replace hx310_12 := cb_ HB hx310_12
              replace hx310_13 := cb_ HB hx310_13
              have HR310_13 := Aside0.mk hi310_13
              have HC310_13 := Aside0.mk hl310_13
              clear hi310_13 hl310_13
              replace p310 := eq_true p310
              replace q310 := eq_true q310
              have p311 : 0 ≤ (x6_1 : Int) := of_decide_eq_true (by first | (with_reducible assumption) | assumption)
              have q311 : x6_1 < (l0.length : Int) := of_decide_eq_true (by first | (with_reducible assumption) | assumption)
              obtain ⟨ad311, A311_13, c311_13, e311, hx311_0, hx311_1, hx311_2, hx311_3, hx311_4, hx311_5, hx311_6, hx311_7, hx311_8, hx311_9, hx311_10, hx311_11, hx311_12, hx311_13, hl311_13, hi311_13⟩ := at_T105 HR0.out x6_1 p311 q311
              obtain rfl : ad310 = ad311 := (by injection e311)
              replace hx311_0 := cb_ HB hx311_0
              replace hx311_1 := cb_ HB hx311_1
              replace hx311_2 := cb_ HB hx311_2
              replace hx311_3 := cb_ HB hx311_3
              replace hx311_4 := cb_ HB hx311_4
              replace hx311_5 := cb_ HB hx311_5
              replace hx311_6 := cb_ HB hx311_6
              replace hx311_7 := cb_ HB hx311_7
              replace hx311_8 := cb_ HB hx311_8
              replace hx311_9 := cb_ HB hx311_9
              replace hx311_10 := cb_ HB hx311_10
              replace hx311_11 := cb_ HB hx311_11
              replace hx311_12 := cb_ HB hx311_12
              replace hx311_13 := cb_ HB hx311_13
              have HR311_13 := Aside0.mk hi311_13
              have HC311_13 := Aside0.mk hl311_13
              clear hi311_13 hl311_13
              replace p311 := eq_true p311
              replace q311 := eq_true q311
              have ea_ := Option.some.inj (hx310_13.symm.trans hx311_13)
              injection ea_ with ea_ en_ ec_
              subst ea_
              subst ec_
              clear en_
              have p312 : 0 ≤ (x8_2 : Int) := of_decide_eq_true (by first | (with_reducible assumption) | assumption)
              have q312 : x8_2 < (((rd_T105 l0 x6_1).f2).length : Int) := of_decide_eq_true (by first | (with_reducible assumption) | assumption)
              obtain ⟨ad312, e312, hx312_0⟩ := Kd.at_int (Kd.C_below HR311_13.out HB.out) x8_2 p312 q312
              cases e312
              replace p312 := eq_true p312
              replace q312 := eq_true q312
              obtain ⟨Ao18, co18, eo18⟩ := Kd.R_slice HO_5.out
              subst eo18
              have p313 : 0 ≤ ((rd ((rd_T105 l0 x6_1).f2) x8_2) : Int) := of_decide_eq_true (by first | (with_reducible assumption) | assumption)
              have q313 : (rd ((rd_T105 l0 x6_1).f2) x8_2) < (x5_1.length : Int) := of_decide_eq_true (by first | (with_reducible assumption) | assumption)
              obtain ⟨ad313, e313, hx313_0⟩ := Kd.at_int (Kd.R_reads' HO_5.out).2.2 (rd ((rd_T105 l0 x6_1).f2) x8_2) p313 q313
              cases e313
              replace p313 := eq_true p313
              replace q313 := eq_true q313
              go_wp2_with (first | ((with_reducible refine gate_callee (f := 91) rfl ?_); refine goesC_ (some 48) Try.func91 #[.int .i64 (wrap64 (x7_2 + (rd x5_1 (rd ((rd_T105 l0 x6_1).f2) x8_2))))] ?_; (with_reducible refine (spec_l19Cap.calls (wrap64 (x7_2 + (rd x5_1 (rd ((rd_T105 l0 x6_1).f2) x8_2)))) t314 _ A17.out).mono ?_); rintro e w' ⟨rfl, ⟨nd, rfl⟩⟩; refine ⟨_, rfl, ?_⟩))
              go_roundg k2
              case measure => have := HK1.out; have := HK2.out; omega
              case rel => exact ⟨(t314), (wrap64 (x8_2 + 1)), (by first | rfl | (simp; done) | (simp [*]; done)), (by first | rfl | (simp; done) | (simp [*]; done)), H', ⟨by have := HK1.out; have := HK2.out; omega⟩, ⟨by (with_reducible repeat (first | apply Kd.R_alloc | apply Kd.R_drewN | apply Kd.R_drew)); exact HO_5.out⟩, ⟨bl_⟩⟩
             ·rw [if_neg c16] at H
              exact absurd H (by simp)
            ·rw [if_neg c15] at H
             exact absurd H (by simp)
           ·rw [if_neg c14] at H
            exact absurd H (by simp)
          ·rw [if_neg c13] at H
           have c13b0 : decide (x8_2 < (((rd_T105 l0 x6_1).f2).length : Int)) = false := decide_eq_false c13
           clear c13
           by_cases c19 : x5_1.length < 17592186044416
           ·rw [if_pos c19] at H
            have LMc19 := Aside0.mk c19
            clear c19
            obtain ⟨y315, hy315⟩ : ∃ y_ : List Int, y_ = (x5_1 ++ [x7_2]) := ⟨_, rfl⟩
            replace H : (spec_TreeSize.l0 k2 l0 a1 y315 (wrap64 (x6_1 + 1))) = some r := by first | (rw [hy315]; with_reducible exact H) | (have H2_ := (Option.bind_some _ _).symm.trans H; rw [hy315]; with_reducible exact H2_) | (have H2_ := (Option.bind_some _ _).symm.trans H; with_reducible exact H2_) | with_reducible exact H | (rw [hy315]; exact H) | exact H
            have Ny315 := Aside0.mk hy315
            clear hy315
            have H' := Aside0.mk H
            clear H
            have p310 : 0 ≤ (x6_1 : Int) := of_decide_eq_true (by first | (with_reducible assumption) | assumption)
            have q310 : x6_1 < (l0.length : Int) := of_decide_eq_true (by first | (with_reducible assumption) | assumption)
            obtain ⟨ad310, A310_13, c310_13, e310, hx310_0, hx310_1, hx310_2, hx310_3, hx310_4, hx310_5, hx310_6, hx310_7, hx310_8, hx310_9, hx310_10, hx310_11, hx310_12, hx310_13, hl310_13, hi310_13⟩ := at_T105 HR0.out x6_1 p310 q310
            cases e310
            replace hx310_0 := cb_ HB hx310_0
            replace hx310_1 := cb_ HB hx310_1
            replace hx310_2 := cb_ HB hx310_2
            replace hx310_3 := cb_ HB hx310_3
            replace hx310_4 := cb_ HB hx310_4
            replace hx310_5 := cb_ HB hx310_5
            replace hx310_6 := cb_ HB hx310_6
            replace hx310_7 := cb_ HB hx310_7
            replace hx310_8 := cb_ HB hx310_8
            replace hx310_9 := cb_ HB hx310_9
            replace hx310_10 := cb_ HB hx310_10
            replace hx310_11 := cb_ HB hx310_11
            replace hx310_12 := cb_ HB hx310_12
            replace hx310_13 := cb_ HB hx310_13
            have HR310_13 := Aside0.mk hi310_13
            have HC310_13 := Aside0.mk hl310_13
            clear hi310_13 hl310_13
            replace p310 := eq_true p310
            replace q310 := eq_true q310
            go_wp2_with (first | ((with_reducible refine gate_builtin (b := .append) (xs := #[.tmp 49, .tmp 51]) rfl ?_); at_builtin; refine Kd.R_append (Kd.int .i64) (w0 := w) w.heap.size rfl (.tmp 49) (.tmp 51) 32 3 (.int .i64 0) 8 rfl Try.underlying32 info3 rfl (by decide) (by omega) u5 x5_1 x7_2 [.int .i64 x7_2] (fun _ => True) (fun _ => False) rfl rfl ?aP (fun _ hk => hk.elim) ?aF ?aO ?aB ?aS ?aL ?_; (case aP => exact rfl); (case aB => exact bl_); (case aF => exact (fun _ _ => trivial)); (case aO => exact (by (with_reducible repeat (first | apply Kd.R_alloc | apply Kd.R_drewN | apply Kd.R_drew)); exact HO_5.out)); (case aS => exact bls_); (case aL => have := LMc19.out; omega); intro v316 w20 ho hb hg hat; rw [← Ny315.out] at ho; replace HB := Aside0.mk (hb); have HO317 := Aside0.mk (ho); clear HO_5; clear ho hb hg hat))
            go_roundg k2
            case measure => have := HK1.out; have := HK2.out; omega
            case rel => exact ⟨(y315), (wrap64 (x6_1 + 1)), (by first | rfl | (simp; done) | (simp [*]; done)), H', ⟨by have := HK1.out; have := HK2.out; omega⟩, ⟨by (with_reducible repeat (first | apply Kd.R_alloc | apply Kd.R_drewN | apply Kd.R_drew)); exact HO317.out⟩, ⟨bl_⟩⟩
           ·rw [if_neg c19] at H
            exact absurd H (by simp)
         ·rw [if_neg c12] at H
          exact absurd H (by simp)
        ·rw [if_neg c11] at H
         exact absurd H (by simp)
     ·replace c9 := Bool.eq_false_iff.mpr c9
      subst c9
      replace H := ite_f_ H
      obtain rfl := Option.some.inj H
      go_wp2_with (first | ((with_reducible refine gate_callee (f := 86) rfl ?_); refine goesC_ (some 23) Try.func86 #[.slice A0 l0.length c0, .int .i64 x6_1] ?_; (with_reducible refine (spec_StepOk.calls k1 _ _ l0 x6_1 false _ ?side1 ?side2 A8.out).mono ?_); (case side1 => repeat (first | exact (Kd.C_below HR0.out HB.out) | (with_reducible refine Kd.C_alloc ?_ _) | (with_reducible refine Kd.C_drewN ?_ _) | (with_reducible refine Kd.C_drew ?_))); (case side2 => exact HC0.out); rintro e w21 ⟨rfl, hb⟩; refine ⟨_, rfl, ?_⟩; replace HO_5 := Aside0.mk (Kd.R_below (by (with_reducible repeat (first | apply Kd.R_alloc | apply Kd.R_drewN | apply Kd.R_drew)); exact HO_5.out) hb); replace HB := hbs_ hb; clear hb))
      go_ret
      exact ⟨eq_, bl_⟩
    ·rw [if_neg c7] at H
     have c7b0 : decide (x6_1 ≤ a1) = false := decide_eq_false c7
     clear c7
     by_cases c22 : 0 ≤ a1
     ·rw [if_pos c22] at H
      have c22b0 : decide (0 ≤ a1) = true := decide_eq_true c22
      clear c22
      by_cases c23 : a1 < (x5_1.length : Int)
      ·rw [if_pos c23] at H
       have c23b0 : decide (a1 < (x5_1.length : Int)) = true := decide_eq_true c23
       clear c23
       obtain rfl := Option.some.inj H
       obtain ⟨Ao24, co24, eo24⟩ := Kd.R_slice HO_5.out
       subst eo24
       have p308 : 0 ≤ (a1 : Int) := of_decide_eq_true (by first | (with_reducible assumption) | assumption)
       have q308 : a1 < (x5_1.length : Int) := of_decide_eq_true (by first | (with_reducible assumption) | assumption)
       obtain ⟨ad308, e308, hx308_0⟩ := Kd.at_int (Kd.R_reads' HO_5.out).2.2 a1 p308 q308
       cases e308
       replace p308 := eq_true p308
       replace q308 := eq_true q308
       go_wp2
       go_ret
       exact ⟨eq_, bl_⟩
      ·rw [if_neg c23] at H
       exact absurd H (by simp)
     ·rw [if_neg c22] at H
      exact absurd H (by simp)
 ·replace c4 := Bool.eq_false_iff.mpr c4
  subst c4
  replace H := ite_f_ H
  obtain rfl := Option.some.inj H
  go_enter Try.func34, Try.ntmps34
  go_wp2_with (first | ((with_reducible refine gate_callee (f := 90) rfl ?_); refine goesC_ (some 13) Try.func90 #[.int .i64 a1, .int .i64 0, .int .i64 (wrap64 ((l0.length : Int) - 1))] ?_; (with_reducible refine (spec_l01In.calls a1 0 (wrap64 ((l0.length : Int) - 1)) false _ A3.out).mono ?_); rintro e w' ⟨rfl, ⟨nd, rfl⟩⟩; refine ⟨_, rfl, ?_⟩))
  go_ret
  exact ⟨eq_, bl_⟩
end Go.Proofs.Ytppdmcimddhbaaa.PA
