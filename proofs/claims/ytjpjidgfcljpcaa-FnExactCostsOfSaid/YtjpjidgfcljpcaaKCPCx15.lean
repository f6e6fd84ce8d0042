import Derived.Test.YtjpjidgfcljpcaaKCPCx14
-- printed by wip/tools
namespace Go.Proofs.Ytjpjidgfcljpcaa.PC
open Go.RowKit Go.Proofs.YtjpjidgfcljpcaaW.PrintWords Go.Proofs.YtjpjidgfcljpcaaW.PrintLast Go.Proofs.YtjpjidgfcljpcaaW.PrintMore
attribute [local go_sem] max2_int min2_int max_two min_two max_three min_three max_four min_four
set_option linter.unusedVariables false
set_option linter.unusedSimpArgs false
def laws_eqCredS.l0 : Nat → List (S56) → List (S56) → Int → Option (Bool)
 | 0, _, _, _ => none
 | k + 1, x0, x1, x5 => if x5 < (x0.length : Int) then (if 0 ≤ x5 then (if x5 < (x1.length : Int) then ((laws_eqCred.f ((rd_T56 x0 x5).f0) ((rd_T56 x0 x5).f1.f0) ((rd_T56 x0 x5).f1.f1) ((rd_T56 x0 x5).f2) ((rd_T56 x0 x5).f3.f0) ((rd_T56 x0 x5).f3.f1) ((rd_T56 x0 x5).f4.f0) ((rd_T56 x0 x5).f4.f1) ((rd_T56 x0 x5).f5) ((rd_T56 x0 x5).f6) ((rd_T56 x1 x5).f0) ((rd_T56 x1 x5).f1.f0) ((rd_T56 x1 x5).f1.f1) ((rd_T56 x1 x5).f2) ((rd_T56 x1 x5).f3.f0) ((rd_T56 x1 x5).f3.f1) ((rd_T56 x1 x5).f4.f0) ((rd_T56 x1 x5).f4.f1) ((rd_T56 x1 x5).f5) ((rd_T56 x1 x5).f6)).bind fun t430 => (if t430 = true then (laws_eqCredS.l0 k x0 x1 (wrap64 (x5 + 1))) else (some false))) else (none)) else (none)) else (some true)
def laws_eqCredS.f (k : Nat) (l0 : List (S56)) (l1 : List (S56)) : Option (Bool) := if (l0.length : Int) = (l1.length : Int) then (laws_eqCredS.l0 k l0 l1 0) else (some false)
def laws_eqCredS.T6 : Bool × List (List Nat × List Nat) := (true, [([], []), ([], []), ([0, 1], [0, 1]), ([2], [2]), ([], []), ([], []), ([4, 5], [4, 5]), ([6], [6]), ([3, 7], [3, 7]), ([8], [8])])
def laws_eqCredS.B6 : List Nat := [0, 0, 3, 7, 0, 0, 48, 112, 255, 511]
theorem laws_eqCredS.tab6 : rtab .any (opsOf Try.f25 6) = laws_eqCredS.T6 := by kernel_rfl
theorem laws_eqCredS.bits6 : waitsOk laws_eqCredS.T6.2 laws_eqCredS.B6 = true := by kernel_rfl
set_option maxHeartbeats 8000000 in
set_option maxRecDepth 100000 in
theorem laws_eqCredS.calls (k : Nat) (A0 : Option Addr) (c0 : Nat) (l0 : List (S56)) (A1 : Option Addr) (c1 : Nat) (l1 : List (S56)) (r : Bool) (w : World) (hr0 : Kd.C k56 w A0 l0.length l0) (hc0 : l0.length ≤ c0) (hr1 : Kd.C k56 w A1 l1.length l1) (hc1 : l1.length ≤ c1) (h : laws_eqCredS.f k l0 l1 = some r) :
  Calls Try.prog 25 #[.slice A0 l0.length c0, .slice A1 l1.length c1] w fun e w' => e = .returned (.bool r) ∧ Below w.heap.size w w' := by
 have hu56 := Try.underlying56
 have HR0 := Aside0.mk hr0
 have HC0 := Aside0.mk hc0
 clear hr0 hc0
 have HR1 := Aside0.mk hr1
 have HC1 := Aside0.mk hc1
 clear hr1 hc1
 have HB := Aside0.mk (Below.refl w.heap.size w)
 have H : (if (l0.length : Int) = (l1.length : Int) then (laws_eqCredS.l0 k l0 l1 0) else (some false)) = some r := h
 clear h
 by_cases c3 : (l0.length : Int) = (l1.length : Int)
 ·rw [if_pos c3] at H
  have c3b0 : ((l0.length : Int) == (l1.length : Int)) = true := beq_iff_eq.mpr c3
  have c3b1 : ((l0.length : Int) != (l1.length : Int)) = false := bne_eq_false_iff_eq.mpr c3
  have c3b2 : (l0.length == l1.length) = true := by first | simpa using c3 | (simp at c3 ⊢; omega)
  clear c3
  have H' := Aside0.mk H
  clear H
  go_enter Try.func25, Try.ntmps25
  go_wp2
  go_loopg [5] k (fun kq v5 w' => ∃ (x5_1 : Int), v5 = .int .i64 x5_1 ∧ Aside0 (laws_eqCredS.l0 kq l0 l1 x5_1 = some r) ∧ Aside0 (kq ≤ k) ∧ Aside0 (Below w.heap.size w w'))
  case atStart => exact ⟨(0), rf_, H', ⟨Nat.le_refl _⟩, ⟨bl_⟩⟩
  case round =>
   clear H'
   try clear c1
   try clear c2
   try clear p2
   try clear c3
   try clear c3b0
   try clear c3b1
   try clear c3b2
   obtain ⟨x5_1, rfl, HA, HK1, HB⟩ := hrel
   cases gk with
   | zero => exact absurd HA.out (by simp [laws_eqCredS.l0])
   | succ k1 =>
    have H := HA.out
    clear HA
    simp only [laws_eqCredS.l0] at H
    by_cases c4 : x5_1 < (l0.length : Int)
    ·rw [if_pos c4] at H
     have c4b0 : decide (x5_1 < (l0.length : Int)) = true := decide_eq_true c4
     clear c4
     obtain ⟨c5b0, H⟩ := ifd_ H
     obtain ⟨c6b0, H⟩ := ifd_ H
     obtain ⟨t430, A7, H⟩ := bindE_ H
     by_cases c8 : t430 = true
     ·subst c8
      replace H := ite_t_ H
      have H' := Aside0.mk H
      clear H
      try go_wp2
      replace HB := Aside0.mk (below_drew1 HB.out)
      have p428 : 0 ≤ (x5_1 : Int) := od_
      have q428 : x5_1 < (l0.length : Int) := od_
      obtain ⟨ad428, e428, hx428_0, hx428_1, hx428_2, hx428_3, hx428_4, hx428_5, hx428_6, hx428_7, hx428_8, hx428_9⟩ := at_T56 HR0.out x5_1 p428 q428
      have hw428_9 := hx428_9
      have hw428_8 := hx428_8
      have hw428_7 := hx428_7
      have hw428_6 := hx428_6
      have hw428_5 := hx428_5
      have hw428_4 := hx428_4
      have hw428_3 := hx428_3
      have hw428_2 := hx428_2
      have hw428_1 := hx428_1
      have hw428_0 := hx428_0
      cases e428
      replace hx428_0 := cb_ HB hx428_0
      replace hx428_1 := cb_ HB hx428_1
      replace hx428_2 := cb_ HB hx428_2
      replace hx428_3 := cb_ HB hx428_3
      replace hx428_4 := cb_ HB hx428_4
      replace hx428_5 := cb_ HB hx428_5
      replace hx428_6 := cb_ HB hx428_6
      replace hx428_7 := cb_ HB hx428_7
      replace hx428_8 := cb_ HB hx428_8
      replace hx428_9 := cb_ HB hx428_9
      replace p428 := eq_true p428
      replace q428 := eq_true q428
      have p429 : 0 ≤ (x5_1 : Int) := od_
      have q429 : x5_1 < (l1.length : Int) := od_
      obtain ⟨ad429, e429, hx429_0, hx429_1, hx429_2, hx429_3, hx429_4, hx429_5, hx429_6, hx429_7, hx429_8, hx429_9⟩ := at_T56 HR1.out x5_1 p429 q429
      have hw429_9 := hx429_9
      have hw429_8 := hx429_8
      have hw429_7 := hx429_7
      have hw429_6 := hx429_6
      have hw429_5 := hx429_5
      have hw429_4 := hx429_4
      have hw429_3 := hx429_3
      have hw429_2 := hx429_2
      have hw429_1 := hx429_1
      have hw429_0 := hx429_0
      cases e429
      replace hx429_0 := cb_ HB hx429_0
      replace hx429_1 := cb_ HB hx429_1
      replace hx429_2 := cb_ HB hx429_2
      replace hx429_3 := cb_ HB hx429_3
      replace hx429_4 := cb_ HB hx429_4
      replace hx429_5 := cb_ HB hx429_5
      replace hx429_6 := cb_ HB hx429_6
      replace hx429_7 := cb_ HB hx429_7
      replace hx429_8 := cb_ HB hx429_8
      replace hx429_9 := cb_ HB hx429_9
      replace p429 := eq_true p429
      replace q429 := eq_true q429
      refine start_ (n := 10) (S := fun w' => w'.cell? (ad428.add ((x5_1).toNat * 10)) = some (.int .i64 ((rd_T56 l0 x5_1).f0)) ∧ w'.cell? ⟨(ad428.add ((x5_1).toNat * 10)).block, (ad428.add ((x5_1).toNat * 10)).off + 1, none⟩ = some (.int .i64 ((rd_T56 l0 x5_1).f1.f0)) ∧ w'.cell? ⟨(ad428.add ((x5_1).toNat * 10)).block, (ad428.add ((x5_1).toNat * 10)).off + 2, none⟩ = some (.int .i64 ((rd_T56 l0 x5_1).f1.f1)) ∧ w'.cell? ⟨(ad428.add ((x5_1).toNat * 10)).block, (ad428.add ((x5_1).toNat * 10)).off + 3, none⟩ = some (.int .i64 ((rd_T56 l0 x5_1).f2)) ∧ w'.cell? ⟨(ad428.add ((x5_1).toNat * 10)).block, (ad428.add ((x5_1).toNat * 10)).off + 4, none⟩ = some (.int .i64 ((rd_T56 l0 x5_1).f3.f0)) ∧ w'.cell? ⟨(ad428.add ((x5_1).toNat * 10)).block, (ad428.add ((x5_1).toNat * 10)).off + 5, none⟩ = some (.int .i64 ((rd_T56 l0 x5_1).f3.f1)) ∧ w'.cell? ⟨(ad428.add ((x5_1).toNat * 10)).block, (ad428.add ((x5_1).toNat * 10)).off + 6, none⟩ = some (.int .i64 ((rd_T56 l0 x5_1).f4.f0)) ∧ w'.cell? ⟨(ad428.add ((x5_1).toNat * 10)).block, (ad428.add ((x5_1).toNat * 10)).off + 7, none⟩ = some (.int .i64 ((rd_T56 l0 x5_1).f4.f1)) ∧ w'.cell? ⟨(ad428.add ((x5_1).toNat * 10)).block, (ad428.add ((x5_1).toNat * 10)).off + 8, none⟩ = some (.int .i64 ((rd_T56 l0 x5_1).f5)) ∧ w'.cell? ⟨(ad428.add ((x5_1).toNat * 10)).block, (ad428.add ((x5_1).toNat * 10)).off + 9, none⟩ = some (.int .i64 ((rd_T56 l0 x5_1).f6)) ∧ w'.cell? (ad429.add ((x5_1).toNat * 10)) = some (.int .i64 ((rd_T56 l1 x5_1).f0)) ∧ w'.cell? ⟨(ad429.add ((x5_1).toNat * 10)).block, (ad429.add ((x5_1).toNat * 10)).off + 1, none⟩ = some (.int .i64 ((rd_T56 l1 x5_1).f1.f0)) ∧ w'.cell? ⟨(ad429.add ((x5_1).toNat * 10)).block, (ad429.add ((x5_1).toNat * 10)).off + 2, none⟩ = some (.int .i64 ((rd_T56 l1 x5_1).f1.f1)) ∧ w'.cell? ⟨(ad429.add ((x5_1).toNat * 10)).block, (ad429.add ((x5_1).toNat * 10)).off + 3, none⟩ = some (.int .i64 ((rd_T56 l1 x5_1).f2)) ∧ w'.cell? ⟨(ad429.add ((x5_1).toNat * 10)).block, (ad429.add ((x5_1).toNat * 10)).off + 4, none⟩ = some (.int .i64 ((rd_T56 l1 x5_1).f3.f0)) ∧ w'.cell? ⟨(ad429.add ((x5_1).toNat * 10)).block, (ad429.add ((x5_1).toNat * 10)).off + 5, none⟩ = some (.int .i64 ((rd_T56 l1 x5_1).f3.f1)) ∧ w'.cell? ⟨(ad429.add ((x5_1).toNat * 10)).block, (ad429.add ((x5_1).toNat * 10)).off + 6, none⟩ = some (.int .i64 ((rd_T56 l1 x5_1).f4.f0)) ∧ w'.cell? ⟨(ad429.add ((x5_1).toNat * 10)).block, (ad429.add ((x5_1).toNat * 10)).off + 7, none⟩ = some (.int .i64 ((rd_T56 l1 x5_1).f4.f1)) ∧ w'.cell? ⟨(ad429.add ((x5_1).toNat * 10)).block, (ad429.add ((x5_1).toNat * 10)).off + 8, none⟩ = some (.int .i64 ((rd_T56 l1 x5_1).f5)) ∧ w'.cell? ⟨(ad429.add ((x5_1).toNat * 10)).block, (ad429.add ((x5_1).toNat * 10)).off + 9, none⟩ = some (.int .i64 ((rd_T56 l1 x5_1).f6))) (ds := []) #[false, false, false, false, false, false, false, false, false, false] (by kernel_rfl) rfl rfl ⟨(cb_ HB hw428_0 :), (cb_ HB hw428_1 :), (cb_ HB hw428_2 :), (cb_ HB hw428_3 :), (cb_ HB hw428_4 :), (cb_ HB hw428_5 :), (cb_ HB hw428_6 :), (cb_ HB hw428_7 :), (cb_ HB hw428_8 :), (cb_ HB hw428_9 :), (cb_ HB hw429_0 :), (cb_ HB hw429_1 :), (cb_ HB hw429_2 :), (cb_ HB hw429_3 :), (cb_ HB hw429_4 :), (cb_ HB hw429_5 :), (cb_ HB hw429_6 :), (cb_ HB hw429_7 :), (cb_ HB hw429_8 :), (cb_ HB hw429_9 :)⟩ (fun hHeld => ?_); refine with_tabW laws_eqCredS.tab6 laws_eqCredS.bits6 (fun HT_ HW_ => ?_)
      generalize wr.drew = w9 at HB hx428_0 hx428_1 hx428_2 hx428_3 hx428_4 hx428_5 hx428_6 hx428_7 hx428_8 hx428_9 hx429_0 hx429_1 hx429_2 hx429_3 hx429_4 hx429_5 hx429_6 hx429_7 hx429_8 hx429_9 hHeld ⊢
      refine pureZ_ (i := 0) (some 17) #[true, false, false, false, false, false, false, false, false, false] (any_of HT_.out (by kernel_rfl)) ?_
      refine pureZ_ (i := 1) (some 18) #[true, true, false, false, false, false, false, false, false, false] (any_of HT_.out (by kernel_rfl)) ?_
      refine pureZ_ (i := 2) (some 19) #[true, true, true, false, false, false, false, false, false, false] (any_of HT_.out (by kernel_rfl)) ?_
      refine pureZ_ (i := 4) (some 21) #[true, true, true, false, true, false, false, false, false, false] (any_of HT_.out (by kernel_rfl)) ?_
      refine pureZ_ (i := 5) (some 22) #[true, true, true, false, true, true, false, false, false, false] (any_of HT_.out (by kernel_rfl)) ?_
      refine pureZ_ (i := 6) (some 23) #[true, true, true, false, true, true, true, false, false, false] (any_of HT_.out (by kernel_rfl)) ?_
      refine takeZ_ (i := 3) (some 20) #[true, true, true, true, true, true, true, false, false, false] (take_ofW HT_.out HW_.out (by kernel_rfl)) hHeld ?_
      refine takeZ_ (i := 7) (some 24) #[true, true, true, true, true, true, true, true, false, false] (take_ofW HT_.out HW_.out (by kernel_rfl)) hHeld ?_
      refine one_ (i := 8) (N := some 25) #[true, true, true, true, true, true, true, true, true, false] rfl rfl (one_of HT_.out (by kernel_rfl)) (by decide) (fun K hK => ?_)
      refine goes_ Try.func93 (by kernel_rfl) rfl #[.agg #[.int .i64 ((rd_T56 l0 x5_1).f0), .int .i64 ((rd_T56 l0 x5_1).f1.f0), .int .i64 ((rd_T56 l0 x5_1).f1.f1), .int .i64 ((rd_T56 l0 x5_1).f2), .int .i64 ((rd_T56 l0 x5_1).f3.f0), .int .i64 ((rd_T56 l0 x5_1).f3.f1), .int .i64 ((rd_T56 l0 x5_1).f4.f0), .int .i64 ((rd_T56 l0 x5_1).f4.f1), .int .i64 ((rd_T56 l0 x5_1).f5), .int .i64 ((rd_T56 l0 x5_1).f6)], .agg #[.int .i64 ((rd_T56 l1 x5_1).f0), .int .i64 ((rd_T56 l1 x5_1).f1.f0), .int .i64 ((rd_T56 l1 x5_1).f1.f1), .int .i64 ((rd_T56 l1 x5_1).f2), .int .i64 ((rd_T56 l1 x5_1).f3.f0), .int .i64 ((rd_T56 l1 x5_1).f3.f1), .int .i64 ((rd_T56 l1 x5_1).f4.f0), .int .i64 ((rd_T56 l1 x5_1).f4.f1), .int .i64 ((rd_T56 l1 x5_1).f5), .int .i64 ((rd_T56 l1 x5_1).f6)]] (by rfl) rfl rfl (by (try simp only [List.map_toArray, List.map_cons, List.map_nil]); first | done | rfl | (simp only [List.length_drop, List.length_take]; rfl)) ?_
      with_reducible refine (laws_eqCred.calls ((rd_T56 l0 x5_1).f0) ((rd_T56 l0 x5_1).f1.f0) ((rd_T56 l0 x5_1).f1.f1) ((rd_T56 l0 x5_1).f2) ((rd_T56 l0 x5_1).f3.f0) ((rd_T56 l0 x5_1).f3.f1) ((rd_T56 l0 x5_1).f4.f0) ((rd_T56 l0 x5_1).f4.f1) ((rd_T56 l0 x5_1).f5) ((rd_T56 l0 x5_1).f6) ((rd_T56 l1 x5_1).f0) ((rd_T56 l1 x5_1).f1.f0) ((rd_T56 l1 x5_1).f1.f1) ((rd_T56 l1 x5_1).f2) ((rd_T56 l1 x5_1).f3.f0) ((rd_T56 l1 x5_1).f3.f1) ((rd_T56 l1 x5_1).f4.f0) ((rd_T56 l1 x5_1).f4.f1) ((rd_T56 l1 x5_1).f5) ((rd_T56 l1 x5_1).f6) true _ A7.out).mono ?_
      rintro e w10 ⟨rfl, hb⟩
      refine ⟨_, rfl, ?_⟩
      replace HB := hbs_ hb
      (try clear hb)
      (try clear hb2)
      (try clear hk)
      (try clear hi)
      refine hK.out _ _ ⟨(cb_ HB hw428_0 :), (cb_ HB hw428_1 :), (cb_ HB hw428_2 :), (cb_ HB hw428_3 :), (cb_ HB hw428_4 :), (cb_ HB hw428_5 :), (cb_ HB hw428_6 :), (cb_ HB hw428_7 :), (cb_ HB hw428_8 :), (cb_ HB hw428_9 :), (cb_ HB hw429_0 :), (cb_ HB hw429_1 :), (cb_ HB hw429_2 :), (cb_ HB hw429_3 :), (cb_ HB hw429_4 :), (cb_ HB hw429_5 :), (cb_ HB hw429_6 :), (cb_ HB hw429_7 :), (cb_ HB hw429_8 :), (cb_ HB hw429_9 :)⟩ (fun hHeld => ?_)
      clear hK K
      refine norm_ (a' := ?_) ?_ ?_
      rotate_left
      ·show Act.put _ (some 25) _ = _
       simp only [Act.put, List.setIfInBounds_toArray, List.set_cons_zero, List.set_cons_succ, i64_w, i32_w]
       rfl
      refine pureZ_ (i := 9) (some 26) #[true, true, true, true, true, true, true, true, true, true] (any_of HT_.out (by kernel_rfl)) ?_
      refine done_ (done_of HT_.out (by kernel_rfl)) ?_
      try go_wp2
      go_roundg k1
      case measure => have := HK1.out; omega
      case rel => exact ⟨(wrap64 (x5_1 + 1)), rf_, H', ⟨by have := HK1.out; omega⟩, ⟨bl_⟩⟩
     ·replace c8 := Bool.eq_false_iff.mpr c8
      subst c8
      replace H := ite_f_ H
      obtain rfl := Option.some.inj H
      try go_wp2
      replace HB := Aside0.mk (below_drew1 HB.out)
      have p428 : 0 ≤ (x5_1 : Int) := od_
      have q428 : x5_1 < (l0.length : Int) := od_
      obtain ⟨ad428, e428, hx428_0, hx428_1, hx428_2, hx428_3, hx428_4, hx428_5, hx428_6, hx428_7, hx428_8, hx428_9⟩ := at_T56 HR0.out x5_1 p428 q428
      have hw428_9 := hx428_9
      have hw428_8 := hx428_8
      have hw428_7 := hx428_7
      have hw428_6 := hx428_6
      have hw428_5 := hx428_5
      have hw428_4 := hx428_4
      have hw428_3 := hx428_3
      have hw428_2 := hx428_2
      have hw428_1 := hx428_1
      have hw428_0 := hx428_0
      cases e428
      replace hx428_0 := cb_ HB hx428_0
      replace hx428_1 := cb_ HB hx428_1
      replace hx428_2 := cb_ HB hx428_2
      replace hx428_3 := cb_ HB hx428_3
      replace hx428_4 := cb_ HB hx428_4
      replace hx428_5 := cb_ HB hx428_5
      replace hx428_6 := cb_ HB hx428_6
      replace hx428_7 := cb_ HB hx428_7
      replace hx428_8 := cb_ HB hx428_8
      replace hx428_9 := cb_ HB hx428_9
      replace p428 := eq_true p428
      replace q428 := eq_true q428
      have p429 : 0 ≤ (x5_1 : Int) := od_
      have q429 : x5_1 < (l1.length : Int) := od_
      obtain ⟨ad429, e429, hx429_0, hx429_1, hx429_2, hx429_3, hx429_4, hx429_5, hx429_6, hx429_7, hx429_8, hx429_9⟩ := at_T56 HR1.out x5_1 p429 q429
      have hw429_9 := hx429_9
      have hw429_8 := hx429_8
      have hw429_7 := hx429_7
      have hw429_6 := hx429_6
      have hw429_5 := hx429_5
      have hw429_4 := hx429_4
      have hw429_3 := hx429_3
      have hw429_2 := hx429_2
      have hw429_1 := hx429_1
      have hw429_0 := hx429_0
      cases e429
      replace hx429_0 := cb_ HB hx429_0
      replace hx429_1 := cb_ HB hx429_1
      replace hx429_2 := cb_ HB hx429_2
      replace hx429_3 := cb_ HB hx429_3
      replace hx429_4 := cb_ HB hx429_4
      replace hx429_5 := cb_ HB hx429_5
      replace hx429_6 := cb_ HB hx429_6
      replace hx429_7 := cb_ HB hx429_7
      replace hx429_8 := cb_ HB hx429_8
      replace hx429_9 := cb_ HB hx429_9
      replace p429 := eq_true p429
      replace q429 := eq_true q429
      refine start_ (n := 10) (S := fun w' => w'.cell? (ad428.add ((x5_1).toNat * 10)) = some (.int .i64 ((rd_T56 l0 x5_1).f0)) ∧ w'.cell? ⟨(ad428.add ((x5_1).toNat * 10)).block, (ad428.add ((x5_1).toNat * 10)).off + 1, none⟩ = some (.int .i64 ((rd_T56 l0 x5_1).f1.f0)) ∧ w'.cell? ⟨(ad428.add ((x5_1).toNat * 10)).block, (ad428.add ((x5_1).toNat * 10)).off + 2, none⟩ = some (.int .i64 ((rd_T56 l0 x5_1).f1.f1)) ∧ w'.cell? ⟨(ad428.add ((x5_1).toNat * 10)).block, (ad428.add ((x5_1).toNat * 10)).off + 3, none⟩ = some (.int .i64 ((rd_T56 l0 x5_1).f2)) ∧ w'.cell? ⟨(ad428.add ((x5_1).toNat * 10)).block, (ad428.add ((x5_1).toNat * 10)).off + 4, none⟩ = some (.int .i64 ((rd_T56 l0 x5_1).f3.f0)) ∧ w'.cell? ⟨(ad428.add ((x5_1).toNat * 10)).block, (ad428.add ((x5_1).toNat * 10)).off + 5, none⟩ = some (.int .i64 ((rd_T56 l0 x5_1).f3.f1)) ∧ w'.cell? ⟨(ad428.add ((x5_1).toNat * 10)).block, (ad428.add ((x5_1).toNat * 10)).off + 6, none⟩ = some (.int .i64 ((rd_T56 l0 x5_1).f4.f0)) ∧ w'.cell? ⟨(ad428.add ((x5_1).toNat * 10)).block, (ad428.add ((x5_1).toNat * 10)).off + 7, none⟩ = some (.int .i64 ((rd_T56 l0 x5_1).f4.f1)) ∧ w'.cell? ⟨(ad428.add ((x5_1).toNat * 10)).block, (ad428.add ((x5_1).toNat * 10)).off + 8, none⟩ = some (.int .i64 ((rd_T56 l0 x5_1).f5)) ∧ w'.cell? ⟨(ad428.add ((x5_1).toNat * 10)).block, (ad428.add ((x5_1).toNat * 10)).off + 9, none⟩ = some (.int .i64 ((rd_T56 l0 x5_1).f6)) ∧ w'.cell? (ad429.add ((x5_1).toNat * 10)) = some (.int .i64 ((rd_T56 l1 x5_1).f0)) ∧ w'.cell? ⟨(ad429.add ((x5_1).toNat * 10)).block, (ad429.add ((x5_1).toNat * 10)).off + 1, none⟩ = some (.int .i64 ((rd_T56 l1 x5_1).f1.f0)) ∧ w'.cell? ⟨(ad429.add ((x5_1).toNat * 10)).block, (ad429.add ((x5_1).toNat * 10)).off + 2, none⟩ = some (.int .i64 ((rd_T56 l1 x5_1).f1.f1)) ∧ w'.cell? ⟨(ad429.add ((x5_1).toNat * 10)).block, (ad429.add ((x5_1).toNat * 10)).off + 3, none⟩ = some (.int .i64 ((rd_T56 l1 x5_1).f2)) ∧ w'.cell? ⟨(ad429.add ((x5_1).toNat * 10)).block, (ad429.add ((x5_1).toNat * 10)).off + 4, none⟩ = some (.int .i64 ((rd_T56 l1 x5_1).f3.f0)) ∧ w'.cell? ⟨(ad429.add ((x5_1).toNat * 10)).block, (ad429.add ((x5_1).toNat * 10)).off + 5, none⟩ = some (.int .i64 ((rd_T56 l1 x5_1).f3.f1)) ∧ w'.cell? ⟨(ad429.add ((x5_1).toNat * 10)).block, (ad429.add ((x5_1).toNat * 10)).off + 6, none⟩ = some (.int .i64 ((rd_T56 l1 x5_1).f4.f0)) ∧ w'.cell? ⟨(ad429.add ((x5_1).toNat * 10)).block, (ad429.add ((x5_1).toNat * 10)).off + 7, none⟩ = some (.int .i64 ((rd_T56 l1 x5_1).f4.f1)) ∧ w'.cell? ⟨(ad429.add ((x5_1).toNat * 10)).block, (ad429.add ((x5_1).toNat * 10)).off + 8, none⟩ = some (.int .i64 ((rd_T56 l1 x5_1).f5)) ∧ w'.cell? ⟨(ad429.add ((x5_1).toNat * 10)).block, (ad429.add ((x5_1).toNat * 10)).off + 9, none⟩ = some (.int .i64 ((rd_T56 l1 x5_1).f6))) (ds := []) #[false, false, false, false, false, false, false, false, false, false] (by kernel_rfl) rfl rfl ⟨(cb_ HB hw428_0 :), (cb_ HB hw428_1 :), (cb_ HB hw428_2 :), (cb_ HB hw428_3 :), (cb_ HB hw428_4 :), (cb_ HB hw428_5 :), (cb_ HB hw428_6 :), (cb_ HB hw428_7 :), (cb_ HB hw428_8 :), (cb_ HB hw428_9 :), (cb_ HB hw429_0 :), (cb_ HB hw429_1 :), (cb_ HB hw429_2 :), (cb_ HB hw429_3 :), (cb_ HB hw429_4 :), (cb_ HB hw429_5 :), (cb_ HB hw429_6 :), (cb_ HB hw429_7 :), (cb_ HB hw429_8 :), (cb_ HB hw429_9 :)⟩ (fun hHeld => ?_); refine with_tabW laws_eqCredS.tab6 laws_eqCredS.bits6 (fun HT_ HW_ => ?_)
      generalize wr.drew = w11 at HB hx428_0 hx428_1 hx428_2 hx428_3 hx428_4 hx428_5 hx428_6 hx428_7 hx428_8 hx428_9 hx429_0 hx429_1 hx429_2 hx429_3 hx429_4 hx429_5 hx429_6 hx429_7 hx429_8 hx429_9 hHeld ⊢
      refine pureZ_ (i := 0) (some 17) #[true, false, false, false, false, false, false, false, false, false] (any_of HT_.out (by kernel_rfl)) ?_
      refine pureZ_ (i := 1) (some 18) #[true, true, false, false, false, false, false, false, false, false] (any_of HT_.out (by kernel_rfl)) ?_
      refine pureZ_ (i := 2) (some 19) #[true, true, true, false, false, false, false, false, false, false] (any_of HT_.out (by kernel_rfl)) ?_
      refine pureZ_ (i := 4) (some 21) #[true, true, true, false, true, false, false, false, false, false] (any_of HT_.out (by kernel_rfl)) ?_
      refine pureZ_ (i := 5) (some 22) #[true, true, true, false, true, true, false, false, false, false] (any_of HT_.out (by kernel_rfl)) ?_
      refine pureZ_ (i := 6) (some 23) #[true, true, true, false, true, true, true, false, false, false] (any_of HT_.out (by kernel_rfl)) ?_
      refine takeZ_ (i := 3) (some 20) #[true, true, true, true, true, true, true, false, false, false] (take_ofW HT_.out HW_.out (by kernel_rfl)) hHeld ?_
      refine takeZ_ (i := 7) (some 24) #[true, true, true, true, true, true, true, true, false, false] (take_ofW HT_.out HW_.out (by kernel_rfl)) hHeld ?_
      refine one_ (i := 8) (N := some 25) #[true, true, true, true, true, true, true, true, true, false] rfl rfl (one_of HT_.out (by kernel_rfl)) (by decide) (fun K hK => ?_)
      refine goes_ Try.func93 (by kernel_rfl) rfl #[.agg #[.int .i64 ((rd_T56 l0 x5_1).f0), .int .i64 ((rd_T56 l0 x5_1).f1.f0), .int .i64 ((rd_T56 l0 x5_1).f1.f1), .int .i64 ((rd_T56 l0 x5_1).f2), .int .i64 ((rd_T56 l0 x5_1).f3.f0), .int .i64 ((rd_T56 l0 x5_1).f3.f1), .int .i64 ((rd_T56 l0 x5_1).f4.f0), .int .i64 ((rd_T56 l0 x5_1).f4.f1), .int .i64 ((rd_T56 l0 x5_1).f5), .int .i64 ((rd_T56 l0 x5_1).f6)], .agg #[.int .i64 ((rd_T56 l1 x5_1).f0), .int .i64 ((rd_T56 l1 x5_1).f1.f0), .int .i64 ((rd_T56 l1 x5_1).f1.f1), .int .i64 ((rd_T56 l1 x5_1).f2), .int .i64 ((rd_T56 l1 x5_1).f3.f0), .int .i64 ((rd_T56 l1 x5_1).f3.f1), .int .i64 ((rd_T56 l1 x5_1).f4.f0), .int .i64 ((rd_T56 l1 x5_1).f4.f1), .int .i64 ((rd_T56 l1 x5_1).f5), .int .i64 ((rd_T56 l1 x5_1).f6)]] (by rfl) rfl rfl (by (try simp only [List.map_toArray, List.map_cons, List.map_nil]); first | done | rfl | (simp only [List.length_drop, List.length_take]; rfl)) ?_
      with_reducible refine (laws_eqCred.calls ((rd_T56 l0 x5_1).f0) ((rd_T56 l0 x5_1).f1.f0) ((rd_T56 l0 x5_1).f1.f1) ((rd_T56 l0 x5_1).f2) ((rd_T56 l0 x5_1).f3.f0) ((rd_T56 l0 x5_1).f3.f1) ((rd_T56 l0 x5_1).f4.f0) ((rd_T56 l0 x5_1).f4.f1) ((rd_T56 l0 x5_1).f5) ((rd_T56 l0 x5_1).f6) ((rd_T56 l1 x5_1).f0) ((rd_T56 l1 x5_1).f1.f0) ((rd_T56 l1 x5_1).f1.f1) ((rd_T56 l1 x5_1).f2) ((rd_T56 l1 x5_1).f3.f0) ((rd_T56 l1 x5_1).f3.f1) ((rd_T56 l1 x5_1).f4.f0) ((rd_T56 l1 x5_1).f4.f1) ((rd_T56 l1 x5_1).f5) ((rd_T56 l1 x5_1).f6) false _ A7.out).mono ?_
      rintro e w12 ⟨rfl, hb⟩
      refine ⟨_, rfl, ?_⟩
      replace HB := hbs_ hb
      (try clear hb)
      (try clear hb2)
      (try clear hk)
      (try clear hi)
      refine hK.out _ _ ⟨(cb_ HB hw428_0 :), (cb_ HB hw428_1 :), (cb_ HB hw428_2 :), (cb_ HB hw428_3 :), (cb_ HB hw428_4 :), (cb_ HB hw428_5 :), (cb_ HB hw428_6 :), (cb_ HB hw428_7 :), (cb_ HB hw428_8 :), (cb_ HB hw428_9 :), (cb_ HB hw429_0 :), (cb_ HB hw429_1 :), (cb_ HB hw429_2 :), (cb_ HB hw429_3 :), (cb_ HB hw429_4 :), (cb_ HB hw429_5 :), (cb_ HB hw429_6 :), (cb_ HB hw429_7 :), (cb_ HB hw429_8 :), (cb_ HB hw429_9 :)⟩ (fun hHeld => ?_)
      clear hK K
      refine norm_ (a' := ?_) ?_ ?_
      rotate_left
      ·show Act.put _ (some 25) _ = _
       simp only [Act.put, List.setIfInBounds_toArray, List.set_cons_zero, List.set_cons_succ, i64_w, i32_w]
       rfl
      refine pureZ_ (i := 9) (some 26) #[true, true, true, true, true, true, true, true, true, true] (any_of HT_.out (by kernel_rfl)) ?_
      refine done_ (done_of HT_.out (by kernel_rfl)) ?_
      try go_wp2
      go_ret
      exact ⟨eq_, bl_⟩
    ·rw [if_neg c4] at H
     have c4b0 : decide (x5_1 < (l0.length : Int)) = false := decide_eq_false c4
     clear c4
     obtain rfl := Option.some.inj H
     go_wp2
     go_ret
     exact ⟨eq_, bl_⟩
 ·rw [if_neg c3] at H
  have c3b0 : ((l0.length : Int) == (l1.length : Int)) = false := beq_eq_false_iff_ne.mpr c3
  have c3b1 : ((l0.length : Int) != (l1.length : Int)) = true := bne_iff_ne.mpr c3
  have c3b2 : (l0.length == l1.length) = false := by first | simpa using c3 | (simp at c3 ⊢; omega)
  obtain rfl := Option.some.inj H
  go_enter Try.func25, Try.ntmps25
  go_wp2
  go_ret
  exact ⟨eq_, bl_⟩
end Go.Proofs.Ytjpjidgfcljpcaa.PC
