import Derived.Test.YtppdmcimddhbaaaKCPGx2
import Derived.Test.YtppdmcimddhbaaaKCPGx3
-- printed by wip/tools
namespace Go.Proofs.Ytppdmcimddhbaaa.PG
open Go.RowKit Go.Proofs.YtppdmcimddhbaaaW.PrintWords Go.Proofs.YtppdmcimddhbaaaW.PrintLast Go.Proofs.YtppdmcimddhbaaaW.PrintMore
attribute [local go_sem] max2_int min2_int max_two min_two max_three min_three max_four min_four
set_option linter.unusedVariables false
set_option linter.unusedSimpArgs false
attribute [local go_sem high] eqA27 eqA29
def laws_eqCredS.l0 : Nat → List (S46) → List (S46) → Int → Option (Bool)
 | 0, _, _, _ => none
 | k + 1, x0, x1, x5 => if x5 < (x0.length : Int) then (if 0 ≤ x5 then (if x5 < (x1.length : Int) then ((laws_eqCred.f ((rd_T46 x0 x5).f0) ((rd_T46 x0 x5).f1.f0) ((rd_T46 x0 x5).f1.f1) ((rd_T46 x0 x5).f2) ((rd_T46 x0 x5).f3.f0) ((rd_T46 x0 x5).f3.f1) ((rd_T46 x0 x5).f4.f0) ((rd_T46 x0 x5).f4.f1) ((rd_T46 x0 x5).f5) ((rd_T46 x0 x5).f6) ((rd_T46 x1 x5).f0) ((rd_T46 x1 x5).f1.f0) ((rd_T46 x1 x5).f1.f1) ((rd_T46 x1 x5).f2) ((rd_T46 x1 x5).f3.f0) ((rd_T46 x1 x5).f3.f1) ((rd_T46 x1 x5).f4.f0) ((rd_T46 x1 x5).f4.f1) ((rd_T46 x1 x5).f5) ((rd_T46 x1 x5).f6)).bind fun t137 => (if t137 = true then (laws_eqCredS.l0 k x0 x1 (wrap64 (x5 + 1))) else (some false))) else (none)) else (none)) else (some true)
def laws_eqCredS.f (k : Nat) (l0 : List (S46)) (l1 : List (S46)) : Option (Bool) := if (l0.length : Int) = (l1.length : Int) then (laws_eqCredS.l0 k l0 l1 0) else (some false)
def laws_eqCredS.T6 : Bool × List (List Nat × List Nat) := (true, [([], []), ([], []), ([0, 1], [0, 1]), ([2], [2]), ([], []), ([], []), ([4, 5], [4, 5]), ([6], [6]), ([3, 7], [3, 7]), ([8], [8])])
def laws_eqCredS.B6 : List Nat := [0, 0, 3, 7, 0, 0, 48, 112, 255, 511]
theorem laws_eqCredS.tab6 : rtab .any (opsOf Try.f41 6) = laws_eqCredS.T6 := by kernel_rfl
theorem laws_eqCredS.bits6 : waitsOk laws_eqCredS.T6.2 laws_eqCredS.B6 = true := by kernel_rfl
set_option maxHeartbeats 8000000 in
set_option maxRecDepth 100000 in
theorem laws_eqCredS.calls (k : Nat) (A0 : Option Addr) (c0 : Nat) (l0 : List (S46)) (A1 : Option Addr) (c1 : Nat) (l1 : List (S46)) (r : Bool) (w : World) (hr0 : Kd.C k46 w A0 l0.length l0) (hc0 : l0.length ≤ c0) (hr1 : Kd.C k46 w A1 l1.length l1) (hc1 : l1.length ≤ c1) (h : laws_eqCredS.f k l0 l1 = some r) :
  Calls Try.prog 41 #[.slice A0 l0.length c0, .slice A1 l1.length c1] w fun e w' => e = .returned (.bool r) ∧ Below w.heap.size w w' := by
 have hu46 := Try.underlying46
 have HR0 := Aside0.mk hr0
 have HC0 := Aside0.mk hc0
 clear hr0 hc0
 have HR1 := Aside0.mk hr1
 have HC1 := Aside0.mk hc1
 clear hr1 hc1
 have HB := Aside0.mk (Below.refl w.heap.size w)
 have H : (if (l0.length : Int) = (l1.length : Int) then (laws_eqCredS.l0 k l0 l1 0) else (some false)) = some r := h
 clear h
 by_cases c3 : (l0.length : Int) = (l1.length : Int)
 ·rw [if_pos c3] at H
  have c3b0 : ((l0.length : Int) == (l1.length : Int)) = true := beq_iff_eq.mpr c3
  have c3b1 : ((l0.length : Int) != (l1.length : Int)) = false := bne_eq_false_iff_eq.mpr c3
  have c3b2 : (l0.length == l1.length) = true := by first | simpa using c3 | (simp at c3 ⊢; omega)
  clear c3
  have H' := Aside0.mk H
  clear H
  go_enter Try.func41, Try.ntmps41
  go_wp2
  go_loopg [5] k (fun kq v5 w' => ∃ (x5_1 : Int), v5 = .int .i64 x5_1 ∧ Aside0 (laws_eqCredS.l0 kq l0 l1 x5_1 = some r) ∧ Aside0 (kq ≤ k) ∧ Aside0 (Below w.heap.size w w'))
  case atStart => exact ⟨(0), rf_, H', ⟨Nat.le_refl _⟩, ⟨bl_⟩⟩
  case round =>
   clear H'
   try clear c1
   try clear p2
   try clear c3
   try clear c3b0
   try clear c3b1
   try clear c3b2
   obtain ⟨x5_1, rfl, HA, HK1, HB⟩ := hrel
   cases gk with
   | zero => exact absurd HA.out (by simp [laws_eqCredS.l0])
   | succ k1 =>
    have H := HA.out
    clear HA
    simp only [laws_eqCredS.l0] at H
    by_cases c4 : x5_1 < (l0.length : Int)
    ·rw [if_pos c4] at H
     have c4b0 : decide (x5_1 < (l0.length : Int)) = true := decide_eq_true c4
     clear c4
     obtain ⟨c5b0, H⟩ := ifd_ H
     obtain ⟨c6b0, H⟩ := ifd_ H
     obtain ⟨t137, A7, H⟩ := bindE_ H
     by_cases c8 : t137 = true
     ·subst c8
      replace H := ite_t_ H
      have H' := Aside0.mk H
      clear H
      try go_wp2
      replace HB := Aside0.mk (below_drew1 HB.out)
      have p135 : 0 ≤ (x5_1 : Int) := od_
      have q135 : x5_1 < (l0.length : Int) := od_
      obtain ⟨ad135, e135, hx135_0, hx135_1, hx135_2, hx135_3, hx135_4, hx135_5, hx135_6, hx135_7, hx135_8, hx135_9⟩ := at_T46 HR0.out x5_1 p135 q135
      have hw135_9 := hx135_9
      have hw135_8 := hx135_8
      have hw135_7 := hx135_7
      have hw135_6 := hx135_6
      have hw135_5 := hx135_5
      have hw135_4 := hx135_4
      have hw135_3 := hx135_3
      have hw135_2 := hx135_2
      have hw135_1 := hx135_1
      have hw135_0 := hx135_0
      cases e135
      replace hx135_0 := cb_ HB hx135_0
      replace hx135_1 := cb_ HB hx135_1
      replace hx135_2 := cb_ HB hx135_2
      replace hx135_3 := cb_ HB hx135_3
      replace hx135_4 := cb_ HB hx135_4
      replace hx135_5 := cb_ HB hx135_5
      replace hx135_6 := cb_ HB hx135_6
      replace hx135_7 := cb_ HB hx135_7
      replace hx135_8 := cb_ HB hx135_8
      replace hx135_9 := cb_ HB hx135_9
      replace p135 := eq_true p135
      replace q135 := eq_true q135
      have p136 : 0 ≤ (x5_1 : Int) := od_
      have q136 : x5_1 < (l1.length : Int) := od_
      obtain ⟨ad136, e136, hx136_0, hx136_1, hx136_2, hx136_3, hx136_4, hx136_5, hx136_6, hx136_7, hx136_8, hx136_9⟩ := at_T46 HR1.out x5_1 p136 q136
      have hw136_9 := hx136_9
      have hw136_8 := hx136_8
      have hw136_7 := hx136_7
      have hw136_6 := hx136_6
      have hw136_5 := hx136_5
      have hw136_4 := hx136_4
      have hw136_3 := hx136_3
      have hw136_2 := hx136_2
      have hw136_1 := hx136_1
      have hw136_0 := hx136_0
      cases e136
      replace hx136_0 := cb_ HB hx136_0
      replace hx136_1 := cb_ HB hx136_1
      replace hx136_2 := cb_ HB hx136_2
      replace hx136_3 := cb_ HB hx136_3
      replace hx136_4 := cb_ HB hx136_4
      replace hx136_5 := cb_ HB hx136_5
      replace hx136_6 := cb_ HB hx136_6
      replace hx136_7 := cb_ HB hx136_7
      replace hx136_8 := cb_ HB hx136_8
      replace hx136_9 := cb_ HB hx136_9
      replace p136 := eq_true p136
      replace q136 := eq_true q136
      refine start_ (n := 10) (S := fun w' => w'.cell? (ad135.add ((x5_1).toNat * 10)) = some (.int .i64 ((rd_T46 l0 x5_1).f0)) ∧ w'.cell? ⟨(ad135.add ((x5_1).toNat * 10)).block, (ad135.add ((x5_1).toNat * 10)).off + 1, none⟩ = some (.int .i64 ((rd_T46 l0 x5_1).f1.f0)) ∧ w'.cell? ⟨(ad135.add ((x5_1).toNat * 10)).block, (ad135.add ((x5_1).toNat * 10)).off + 2, none⟩ = some (.int .i64 ((rd_T46 l0 x5_1).f1.f1)) ∧ w'.cell? ⟨(ad135.add ((x5_1).toNat * 10)).block, (ad135.add ((x5_1).toNat * 10)).off + 3, none⟩ = some (.int .i64 ((rd_T46 l0 x5_1).f2)) ∧ w'.cell? ⟨(ad135.add ((x5_1).toNat * 10)).block, (ad135.add ((x5_1).toNat * 10)).off + 4, none⟩ = some (.int .i64 ((rd_T46 l0 x5_1).f3.f0)) ∧ w'.cell? ⟨(ad135.add ((x5_1).toNat * 10)).block, (ad135.add ((x5_1).toNat * 10)).off + 5, none⟩ = some (.int .i64 ((rd_T46 l0 x5_1).f3.f1)) ∧ w'.cell? ⟨(ad135.add ((x5_1).toNat * 10)).block, (ad135.add ((x5_1).toNat * 10)).off + 6, none⟩ = some (.int .i64 ((rd_T46 l0 x5_1).f4.f0)) ∧ w'.cell? ⟨(ad135.add ((x5_1).toNat * 10)).block, (ad135.add ((x5_1).toNat * 10)).off + 7, none⟩ = some (.int .i64 ((rd_T46 l0 x5_1).f4.f1)) ∧ w'.cell? ⟨(ad135.add ((x5_1).toNat * 10)).block, (ad135.add ((x5_1).toNat * 10)).off + 8, none⟩ = some (.int .i64 ((rd_T46 l0 x5_1).f5)) ∧ w'.cell? ⟨(ad135.add ((x5_1).toNat * 10)).block, (ad135.add ((x5_1).toNat * 10)).off + 9, none⟩ = some (.int .i64 ((rd_T46 l0 x5_1).f6)) ∧ w'.cell? (ad136.add ((x5_1).toNat * 10)) = some (.int .i64 ((rd_T46 l1 x5_1).f0)) ∧ w'.cell? ⟨(ad136.add ((x5_1).toNat * 10)).block, (ad136.add ((x5_1).toNat * 10)).off + 1, none⟩ = some (.int .i64 ((rd_T46 l1 x5_1).f1.f0)) ∧ w'.cell? ⟨(ad136.add ((x5_1).toNat * 10)).block, (ad136.add ((x5_1).toNat * 10)).off + 2, none⟩ = some (.int .i64 ((rd_T46 l1 x5_1).f1.f1)) ∧ w'.cell? ⟨(ad136.add ((x5_1).toNat * 10)).block, (ad136.add ((x5_1).toNat * 10)).off + 3, none⟩ = some (.int .i64 ((rd_T46 l1 x5_1).f2)) ∧ w'.cell? ⟨(ad136.add ((x5_1).toNat * 10)).block, (ad136.add ((x5_1).toNat * 10)).off + 4, none⟩ = some (.int .i64 ((rd_T46 l1 x5_1).f3.f0)) ∧ w'.cell? ⟨(ad136.add ((x5_1).toNat * 10)).block, (ad136.add ((x5_1).toNat * 10)).off + 5, none⟩ = some (.int .i64 ((rd_T46 l1 x5_1).f3.f1)) ∧ w'.cell? ⟨(ad136.add ((x5_1).toNat * 10)).block, (ad136.add ((x5_1).toNat * 10)).off + 6, none⟩ = some (.int .i64 ((rd_T46 l1 x5_1).f4.f0)) ∧ w'.cell? ⟨(ad136.add ((x5_1).toNat * 10)).block, (ad136.add ((x5_1).toNat * 10)).off + 7, none⟩ = some (.int .i64 ((rd_T46 l1 x5_1).f4.f1)) ∧ w'.cell? ⟨(ad136.add ((x5_1).toNat * 10)).block, (ad136.add ((x5_1).toNat * 10)).off + 8, none⟩ = some (.int .i64 ((rd_T46 l1 x5_1).f5)) ∧ w'.cell? ⟨(ad136.add ((x5_1).toNat * 10)).block, (ad136.add ((x5_1).toNat * 10)).off + 9, none⟩ = some (.int .i64 ((rd_T46 l1 x5_1).f6))) (ds := []) #[false, false, false, false, false, false, false, false, false, false] (by kernel_rfl) rfl rfl ⟨(cb_ HB hw135_0 :), (cb_ HB hw135_1 :), (cb_ HB hw135_2 :), (cb_ HB hw135_3 :), (cb_ HB hw135_4 :), (cb_ HB hw135_5 :), (cb_ HB hw135_6 :), (cb_ HB hw135_7 :), (cb_ HB hw135_8 :), (cb_ HB hw135_9 :), (cb_ HB hw136_0 :), (cb_ HB hw136_1 :), (cb_ HB hw136_2 :), (cb_ HB hw136_3 :), (cb_ HB hw136_4 :), (cb_ HB hw136_5 :), (cb_ HB hw136_6 :), (cb_ HB hw136_7 :), (cb_ HB hw136_8 :), (cb_ HB hw136_9 :)⟩ (fun hHeld => ?_); refine with_tabW laws_eqCredS.tab6 laws_eqCredS.bits6 (fun HT_ HW_ => ?_)
      generalize wr.drew = w9 at HB hx135_0 hx135_1 hx135_2 hx135_3 hx135_4 hx135_5 hx135_6 hx135_7 hx135_8 hx135_9 hx136_0 hx136_1 hx136_2 hx136_3 hx136_4 hx136_5 hx136_6 hx136_7 hx136_8 hx136_9 hHeld ⊢
      refine pureZ_ (i := 0) (some 17) #[true, false, false, false, false, false, false, false, false, false] (any_of HT_.out (by kernel_rfl)) ?_
      refine pureZ_ (i := 1) (some 18) #[true, true, false, false, false, false, false, false, false, false] (any_of HT_.out (by kernel_rfl)) ?_
      refine pureZ_ (i := 2) (some 19) #[true, true, true, false, false, false, false, false, false, false] (any_of HT_.out (by kernel_rfl)) ?_
      refine pureZ_ (i := 4) (some 21) #[true, true, true, false, true, false, false, false, false, false] (any_of HT_.out (by kernel_rfl)) ?_
      refine pureZ_ (i := 5) (some 22) #[true, true, true, false, true, true, false, false, false, false] (any_of HT_.out (by kernel_rfl)) ?_
      refine pureZ_ (i := 6) (some 23) #[true, true, true, false, true, true, true, false, false, false] (any_of HT_.out (by kernel_rfl)) ?_
      refine takeZ_ (i := 3) (some 20) #[true, true, true, true, true, true, true, false, false, false] (take_ofW HT_.out HW_.out (by kernel_rfl)) hHeld ?_
      refine takeZ_ (i := 7) (some 24) #[true, true, true, true, true, true, true, true, false, false] (take_ofW HT_.out HW_.out (by kernel_rfl)) hHeld ?_
      refine one_ (i := 8) (N := some 25) #[true, true, true, true, true, true, true, true, true, false] rfl rfl (one_of HT_.out (by kernel_rfl)) (by decide) (fun K hK => ?_)
      refine goes_ Try.func95 (by kernel_rfl) rfl #[.agg #[.int .i64 ((rd_T46 l0 x5_1).f0), .int .i64 ((rd_T46 l0 x5_1).f1.f0), .int .i64 ((rd_T46 l0 x5_1).f1.f1), .int .i64 ((rd_T46 l0 x5_1).f2), .int .i64 ((rd_T46 l0 x5_1).f3.f0), .int .i64 ((rd_T46 l0 x5_1).f3.f1), .int .i64 ((rd_T46 l0 x5_1).f4.f0), .int .i64 ((rd_T46 l0 x5_1).f4.f1), .int .i64 ((rd_T46 l0 x5_1).f5), .int .i64 ((rd_T46 l0 x5_1).f6)], .agg #[.int .i64 ((rd_T46 l1 x5_1).f0), .int .i64 ((rd_T46 l1 x5_1).f1.f0), .int .i64 ((rd_T46 l1 x5_1).f1.f1), .int .i64 ((rd_T46 l1 x5_1).f2), .int .i64 ((rd_T46 l1 x5_1).f3.f0), .int .i64 ((rd_T46 l1 x5_1).f3.f1), .int .i64 ((rd_T46 l1 x5_1).f4.f0), .int .i64 ((rd_T46 l1 x5_1).f4.f1), .int .i64 ((rd_T46 l1 x5_1).f5), .int .i64 ((rd_T46 l1 x5_1).f6)]] (by rfl) rfl rfl (by (try simp only [List.map_toArray, List.map_cons, List.map_nil]); first | done | rfl | (simp only [List.length_drop, List.length_take]; rfl)) ?_
      with_reducible refine (laws_eqCred.calls ((rd_T46 l0 x5_1).f0) ((rd_T46 l0 x5_1).f1.f0) ((rd_T46 l0 x5_1).f1.f1) ((rd_T46 l0 x5_1).f2) ((rd_T46 l0 x5_1).f3.f0) ((rd_T46 l0 x5_1).f3.f1) ((rd_T46 l0 x5_1).f4.f0) ((rd_T46 l0 x5_1).f4.f1) ((rd_T46 l0 x5_1).f5) ((rd_T46 l0 x5_1).f6) ((rd_T46 l1 x5_1).f0) ((rd_T46 l1 x5_1).f1.f0) ((rd_T46 l1 x5_1).f1.f1) ((rd_T46 l1 x5_1).f2) ((rd_T46 l1 x5_1).f3.f0) ((rd_T46 l1 x5_1).f3.f1) ((rd_T46 l1 x5_1).f4.f0) ((rd_T46 l1 x5_1).f4.f1) ((rd_T46 l1 x5_1).f5) ((rd_T46 l1 x5_1).f6) true _ A7.out).mono ?_
      rintro e w10 ⟨rfl, hb⟩
      refine ⟨_, rfl, ?_⟩
      replace HB := hbs_ hb
      (try clear hb)
      (try clear hb2)
      (try clear hk)
      (try clear hi)
      refine hK.out _ _ ⟨(cb_ HB hw135_0 :), (cb_ HB hw135_1 :), (cb_ HB hw135_2 :), (cb_ HB hw135_3 :), (cb_ HB hw135_4 :), (cb_ HB hw135_5 :), (cb_ HB hw135_6 :), (cb_ HB hw135_7 :), (cb_ HB hw135_8 :), (cb_ HB hw135_9 :), (cb_ HB hw136_0 :), (cb_ HB hw136_1 :), (cb_ HB hw136_2 :), (cb_ HB hw136_3 :), (cb_ HB hw136_4 :), (cb_ HB hw136_5 :), (cb_ HB hw136_6 :), (cb_ HB hw136_7 :), (cb_ HB hw136_8 :), (cb_ HB hw136_9 :)⟩ (fun hHeld => ?_)
      clear hK K
      refine norm_ (a' := ?_) ?_ ?_
      rotate_left
      ·show Act.put _ (some 25) _ = _
       simp only [Act.put, List.setIfInBounds_toArray, List.set_cons_zero, List.set_cons_succ, i64_w, i32_w]
       rfl
      refine pureZ_ (i := 9) (some 26) #[true, true, true, true, true, true, true, true, true, true] (any_of HT_.out (by kernel_rfl)) ?_
      refine done_ (done_of HT_.out (by kernel_rfl)) ?_
      try go_wp2
      go_roundg k1
      case measure => have := HK1.out; omega
      case rel => exact ⟨(wrap64 (x5_1 + 1)), rf_, H', ⟨by have := HK1.out; omega⟩, ⟨bl_⟩⟩
     ·replace c8 := Bool.eq_false_iff.mpr c8
      subst c8
      replace H := ite_f_ H
      obtain rfl := Option.some.inj H
      try go_wp2
      replace HB := Aside0.mk (below_drew1 HB.out)
      have p135 : 0 ≤ (x5_1 : Int) := od_
      have q135 : x5_1 < (l0.length : Int) := od_
      obtain ⟨ad135, e135, hx135_0, hx135_1, hx135_2, hx135_3, hx135_4, hx135_5, hx135_6, hx135_7, hx135_8, hx135_9⟩ := at_T46 HR0.out x5_1 p135 q135
      have hw135_9 := hx135_9
      have hw135_8 := hx135_8
      have hw135_7 := hx135_7
      have hw135_6 := hx135_6
      have hw135_5 := hx135_5
      have hw135_4 := hx135_4
      have hw135_3 := hx135_3
      have hw135_2 := hx135_2
      have hw135_1 := hx135_1
      have hw135_0 := hx135_0
      cases e135
      replace hx135_0 := cb_ HB hx135_0
      replace hx135_1 := cb_ HB hx135_1
      replace hx135_2 := cb_ HB hx135_2
      replace hx135_3 := cb_ HB hx135_3
      replace hx135_4 := cb_ HB hx135_4
      replace hx135_5 := cb_ HB hx135_5
      replace hx135_6 := cb_ HB hx135_6
      replace hx135_7 := cb_ HB hx135_7
      replace hx135_8 := cb_ HB hx135_8
      replace hx135_9 := cb_ HB hx135_9
      replace p135 := eq_true p135
      replace q135 := eq_true q135
      have p136 : 0 ≤ (x5_1 : Int) := od_
      have q136 : x5_1 < (l1.length : Int) := od_
      obtain ⟨ad136, e136, hx136_0, hx136_1, hx136_2, hx136_3, hx136_4, hx136_5, hx136_6, hx136_7, hx136_8, hx136_9⟩ := at_T46 HR1.out x5_1 p136 q136
      have hw136_9 := hx136_9
      have hw136_8 := hx136_8
      have hw136_7 := hx136_7
      have hw136_6 := hx136_6
      have hw136_5 := hx136_5
      have hw136_4 := hx136_4
      have hw136_3 := hx136_3
      have hw136_2 := hx136_2
      have hw136_1 := hx136_1
      have hw136_0 := hx136_0
      cases e136
      replace hx136_0 := cb_ HB hx136_0
      replace hx136_1 := cb_ HB hx136_1
      replace hx136_2 := cb_ HB hx136_2
      replace hx136_3 := cb_ HB hx136_3
      replace hx136_4 := cb_ HB hx136_4
      replace hx136_5 := cb_ HB hx136_5
      replace hx136_6 := cb_ HB hx136_6
      replace hx136_7 := cb_ HB hx136_7
      replace hx136_8 := cb_ HB hx136_8
      replace hx136_9 := cb_ HB hx136_9
      replace p136 := eq_true p136
      replace q136 := eq_true q136
      refine start_ (n := 10) (S := fun w' => w'.cell? (ad135.add ((x5_1).toNat * 10)) = some (.int .i64 ((rd_T46 l0 x5_1).f0)) ∧ w'.cell? ⟨(ad135.add ((x5_1).toNat * 10)).block, (ad135.add ((x5_1).toNat * 10)).off + 1, none⟩ = some (.int .i64 ((rd_T46 l0 x5_1).f1.f0)) ∧ w'.cell? ⟨(ad135.add ((x5_1).toNat * 10)).block, (ad135.add ((x5_1).toNat * 10)).off + 2, none⟩ = some (.int .i64 ((rd_T46 l0 x5_1).f1.f1)) ∧ w'.cell? ⟨(ad135.add ((x5_1).toNat * 10)).block, (ad135.add ((x5_1).toNat * 10)).off + 3, none⟩ = some (.int .i64 ((rd_T46 l0 x5_1).f2)) ∧ w'.cell? ⟨(ad135.add ((x5_1).toNat * 10)).block, (ad135.add ((x5_1).toNat * 10)).off + 4, none⟩ = some (.int .i64 ((rd_T46 l0 x5_1).f3.f0)) ∧ w'.cell? ⟨(ad135.add ((x5_1).toNat * 10)).block, (ad135.add ((x5_1).toNat * 10)).off + 5, none⟩ = some (.int .i64 ((rd_T46 l0 x5_1).f3.f1)) ∧ w'.cell? ⟨(ad135.add ((x5_1).toNat * 10)).block, (ad135.add ((x5_1).toNat * 10)).off + 6, none⟩ = some (.int .i64 ((rd_T46 l0 x5_1).f4.f0)) ∧ w'.cell? ⟨(ad135.add ((x5_1).toNat * 10)).block, (ad135.add ((x5_1).toNat * 10)).off + 7, none⟩ = some (.int .i64 ((rd_T46 l0 x5_1).f4.f1)) ∧ w'.cell? ⟨(ad135.add ((x5_1).toNat * 10)).block, (ad135.add ((x5_1).toNat * 10)).off + 8, none⟩ = some (.int .i64 ((rd_T46 l0 x5_1).f5)) ∧ w'.cell? ⟨(ad135.add ((x5_1).toNat * 10)).block, (ad135.add ((x5_1).toNat * 10)).off + 9, none⟩ = some (.int .i64 ((rd_T46 l0 x5_1).f6)) ∧ w'.cell? (ad136.add ((x5_1).toNat * 10)) = some (.int .i64 ((rd_T46 l1 x5_1).f0)) ∧ w'.cell? ⟨(ad136.add ((x5_1).toNat * 10)).block, (ad136.add ((x5_1).toNat * 10)).off + 1, none⟩ = some (.int .i64 ((rd_T46 l1 x5_1).f1.f0)) ∧ w'.cell? ⟨(ad136.add ((x5_1).toNat * 10)).block, (ad136.add ((x5_1).toNat * 10)).off + 2, none⟩ = some (.int .i64 ((rd_T46 l1 x5_1).f1.f1)) ∧ w'.cell? ⟨(ad136.add ((x5_1).toNat * 10)).block, (ad136.add ((x5_1).toNat * 10)).off + 3, none⟩ = some (.int .i64 ((rd_T46 l1 x5_1).f2)) ∧ w'.cell? ⟨(ad136.add ((x5_1).toNat * 10)).block, (ad136.add ((x5_1).toNat * 10)).off + 4, none⟩ = some (.int .i64 ((rd_T46 l1 x5_1).f3.f0)) ∧ w'.cell? ⟨(ad136.add ((x5_1).toNat * 10)).block, (ad136.add ((x5_1).toNat * 10)).off + 5, none⟩ = some (.int .i64 ((rd_T46 l1 x5_1).f3.f1)) ∧ w'.cell? ⟨(ad136.add ((x5_1).toNat * 10)).block, (ad136.add ((x5_1).toNat * 10)).off + 6, none⟩ = some (.int .i64 ((rd_T46 l1 x5_1).f4.f0)) ∧ w'.cell? ⟨(ad136.add ((x5_1).toNat * 10)).block, (ad136.add ((x5_1).toNat * 10)).off + 7, none⟩ = some (.int .i64 ((rd_T46 l1 x5_1).f4.f1)) ∧ w'.cell? ⟨(ad136.add ((x5_1).toNat * 10)).block, (ad136.add ((x5_1).toNat * 10)).off + 8, none⟩ = some (.int .i64 ((rd_T46 l1 x5_1).f5)) ∧ w'.cell? ⟨(ad136.add ((x5_1).toNat * 10)).block, (ad136.add ((x5_1).toNat * 10)).off + 9, none⟩ = some (.int .i64 ((rd_T46 l1 x5_1).f6))) (ds := []) #[false, false, false, false, false, false, false, false, false, false] (by kernel_rfl) rfl rfl ⟨(cb_ HB hw135_0 :), (cb_ HB hw135_1 :), (cb_ HB hw135_2 :), (cb_ HB hw135_3 :), (cb_ HB hw135_4 :), (cb_ HB hw135_5 :), (cb_ HB hw135_6 :), (cb_ HB hw135_7 :), (cb_ HB hw135_8 :), (cb_ HB hw135_9 :), (cb_ HB hw136_0 :), (cb_ HB hw136_1 :), (cb_ HB hw136_2 :), (cb_ HB hw136_3 :), (cb_ HB hw136_4 :), (cb_ HB hw136_5 :), (cb_ HB hw136_6 :), (cb_ HB hw136_7 :), (cb_ HB hw136_8 :), (cb_ HB hw136_9 :)⟩ (fun hHeld => ?_); refine with_tabW laws_eqCredS.tab6 laws_eqCredS.bits6 (fun HT_ HW_ => ?_)
      generalize wr.drew = w11 at HB hx135_0 hx135_1 hx135_2 hx135_3 hx135_4 hx135_5 hx135_6 hx135_7 hx135_8 hx135_9 hx136_0 hx136_1 hx136_2 hx136_3 hx136_4 hx136_5 hx136_6 hx136_7 hx136_8 hx136_9 hHeld ⊢
      refine pureZ_ (i := 0) (some 17) #[true, false, false, false, false, false, false, false, false, false] (any_of HT_.out (by kernel_rfl)) ?_
      refine pureZ_ (i := 1) (some 18) #[true, true, false, false, false, false, false, false, false, false] (any_of HT_.out (by kernel_rfl)) ?_
      refine pureZ_ (i := 2) (some 19) #[true, true, true, false, false, false, false, false, false, false] (any_of HT_.out (by kernel_rfl)) ?_
      refine pureZ_ (i := 4) (some 21) #[true, true, true, false, true, false, false, false, false, false] (any_of HT_.out (by kernel_rfl)) ?_
      refine pureZ_ (i := 5) (some 22) #[true, true, true, false, true, true, false, false, false, false] (any_of HT_.out (by kernel_rfl)) ?_
      refine pureZ_ (i := 6) (some 23) #[true, true, true, false, true, true, true, false, false, false] (any_of HT_.out (by kernel_rfl)) ?_
      refine takeZ_ (i := 3) (some 20) #[true, true, true, true, true, true, true, false, false, false] (take_ofW HT_.out HW_.out (by kernel_rfl)) hHeld ?_
      refine takeZ_ (i := 7) (some 24) #[true, true, true, true, true, true, true, true, false, false] (take_ofW HT_.out HW_.out (by kernel_rfl)) hHeld ?_
      refine one_ (i := 8) (N := some 25) #[true, true, true, true, true, true, true, true, true, false] rfl rfl (one_of HT_.out (by kernel_rfl)) (by decide) (fun K hK => ?_)
      refine goes_ Try.func95 (by kernel_rfl) rfl #[.agg #[.int .i64 ((rd_T46 l0 x5_1).f0), .int .i64 ((rd_T46 l0 x5_1).f1.f0), .int .i64 ((rd_T46 l0 x5_1).f1.f1), .int .i64 ((rd_T46 l0 x5_1).f2), .int .i64 ((rd_T46 l0 x5_1).f3.f0), .int .i64 ((rd_T46 l0 x5_1).f3.f1), .int .i64 ((rd_T46 l0 x5_1).f4.f0), .int .i64 ((rd_T46 l0 x5_1).f4.f1), .int .i64 ((rd_T46 l0 x5_1).f5), .int .i64 ((rd_T46 l0 x5_1).f6)], .agg #[.int .i64 ((rd_T46 l1 x5_1).f0), .int .i64 ((rd_T46 l1 x5_1).f1.f0), .int .i64 ((rd_T46 l1 x5_1).f1.f1), .int .i64 ((rd_T46 l1 x5_1).f2), .int .i64 ((rd_T46 l1 x5_1).f3.f0), .int .i64 ((rd_T46 l1 x5_1).f3.f1), .int .i64 ((rd_T46 l1 x5_1).f4.f0), .int .i64 ((rd_T46 l1 x5_1).f4.f1), .int .i64 ((rd_T46 l1 x5_1).f5), .int .i64 ((rd_T46 l1 x5_1).f6)]] (by rfl) rfl rfl (by (try simp only [List.map_toArray, List.map_cons, List.map_nil]); first | done | rfl | (simp only [List.length_drop, List.length_take]; rfl)) ?_
      with_reducible refine (laws_eqCred.calls ((rd_T46 l0 x5_1).f0) ((rd_T46 l0 x5_1).f1.f0) ((rd_T46 l0 x5_1).f1.f1) ((rd_T46 l0 x5_1).f2) ((rd_T46 l0 x5_1).f3.f0) ((rd_T46 l0 x5_1).f3.f1) ((rd_T46 l0 x5_1).f4.f0) ((rd_T46 l0 x5_1).f4.f1) ((rd_T46 l0 x5_1).f5) ((rd_T46 l0 x5_1).f6) ((rd_T46 l1 x5_1).f0) ((rd_T46 l1 x5_1).f1.f0) ((rd_T46 l1 x5_1).f1.f1) ((rd_T46 l1 x5_1).f2) ((rd_T46 l1 x5_1).f3.f0) ((rd_T46 l1 x5_1).f3.f1) ((rd_T46 l1 x5_1).f4.f0) ((rd_T46 l1 x5_1).f4.f1) ((rd_T46 l1 x5_1).f5) ((rd_T46 l1 x5_1).f6) false _ A7.out).mono ?_
      rintro e w12 ⟨rfl, hb⟩
      refine ⟨_, rfl, ?_⟩
      replace HB := hbs_ hb
      (try clear hb)
      (try clear hb2)
      (try clear hk)
      (try clear hi)
      refine hK.out _ _ ⟨(cb_ HB hw135_0 :), (cb_ HB hw135_1 :), (cb_ HB hw135_2 :), (cb_ HB hw135_3 :), (cb_ HB hw135_4 :), (cb_ HB hw135_5 :), (cb_ HB hw135_6 :), (cb_ HB hw135_7 :), (cb_ HB hw135_8 :), (cb_ HB hw135_9 :), (cb_ HB hw136_0 :), (cb_ HB hw136_1 :), (cb_ HB hw136_2 :), (cb_ HB hw136_3 :), (cb_ HB hw136_4 :), (cb_ HB hw136_5 :), (cb_ HB hw136_6 :), (cb_ HB hw136_7 :), (cb_ HB hw136_8 :), (cb_ HB hw136_9 :)⟩ (fun hHeld => ?_)
      clear hK K
      refine norm_ (a' := ?_) ?_ ?_
      rotate_left
      ·show Act.put _ (some 25) _ = _
       simp only [Act.put, List.setIfInBounds_toArray, List.set_cons_zero, List.set_cons_succ, i64_w, i32_w]
       rfl
      refine pureZ_ (i := 9) (some 26) #[true, true, true, true, true, true, true, true, true, true] (any_of HT_.out (by kernel_rfl)) ?_
      refine done_ (done_of HT_.out (by kernel_rfl)) ?_
      try go_wp2
      go_ret
      exact ⟨eq_, bl_⟩
    ·rw [if_neg c4] at H
     have c4b0 : decide (x5_1 < (l0.length : Int)) = false := decide_eq_false c4
     clear c4
     obtain rfl := Option.some.inj H
     go_wp2
     go_ret
     exact ⟨eq_, bl_⟩
 ·rw [if_neg c3] at H
  have c3b0 : ((l0.length : Int) == (l1.length : Int)) = false := beq_eq_false_iff_ne.mpr c3
  have c3b1 : ((l0.length : Int) != (l1.length : Int)) = true := bne_iff_ne.mpr c3
  have c3b2 : (l0.length == l1.length) = false := by first | simpa using c3 | (simp at c3 ⊢; omega)
  obtain rfl := Option.some.inj H
  go_enter Try.func41, Try.ntmps41
  go_wp2
  go_ret
  exact ⟨eq_, bl_⟩
def spec_l06Has.l0 : Nat → List (S29) → Int → Int → Int → Int → Option (Bool)
 | 0, _, _, _, _, _ => none
 | k + 1, x0, x5, x139000, x139001, x139002 => if x5 < (x0.length : Int) then (if 0 ≤ x5 then (if ((((rd_T29 x0 x5).f0.f0) == x139000 && (((rd_T29 x0 x5).f0.f1) == x139001)) && (((rd_T29 x0 x5).f1) == x139002)) = true then (some true) else (spec_l06Has.l0 k x0 (wrap64 (x5 + 1)) x139000 x139001 x139002)) else (none)) else (some false)
def spec_l06Has.f (k : Nat) (l0 : List (S29)) (a1_0 : Int) (a1_1 : Int) (a1_2 : Int) : Option (Bool) := spec_l06Has.l0 k l0 0 a1_0 a1_1 a1_2
set_option maxHeartbeats 8000000 in
set_option maxRecDepth 100000 in
theorem spec_l06Has.calls (k : Nat) (A0 : Option Addr) (c0 : Nat) (l0 : List (S29)) (a1_0 : Int) (a1_1 : Int) (a1_2 : Int) (r : Bool) (w : World) (hr0 : Kd.C k29 w A0 l0.length l0) (hc0 : l0.length ≤ c0) (h : spec_l06Has.f k l0 a1_0 a1_1 a1_2 = some r) :
  Calls Try.prog 77 #[.slice A0 l0.length c0, .agg #[.int .i64 a1_0, .int .i64 a1_1, .int .i64 a1_2]] w fun e w' => e = .returned (.bool r) ∧ Below w.heap.size w w' := by
 have hu29 := Try.underlying29
 have HR0 := Aside0.mk hr0
 have HC0 := Aside0.mk hc0
 clear hr0 hc0
 have HB := Aside0.mk (Below.refl w.heap.size w)
 have H : (spec_l06Has.l0 k l0 0 a1_0 a1_1 a1_2) = some r := h
 clear h
 have H' := Aside0.mk H
 clear H
 go_enter Try.func77, Try.ntmps77
 go_wp2_with (first | ((with_reducible refine gate_dst (N := 3) rfl ?_); refine box_event ?hg (N := 3) ?hd (cs := #[.int .i64 a1_0, .int .i64 a1_1, .int .i64 a1_2]) (t := 29) ?hr ?_; (case hd => rfl); (case hg => rfl); (case hr => first | (go_simp; done) | (go_simp; rfl)); intro gb138 hg w3 hbox hb; have BK138 := Aside0.mk (hbox); have GW138 := gs_ hg; have GE138 := gs_ hg; replace HB := hbs_ hb; clear hb hbox hg))
 repeat (go_quiet (first | ((with_reducible refine gate_dst (N := 3) rfl ?_); refine box_event ?hg (N := 3) ?hd (cs := #[.int .i64 a1_0, .int .i64 a1_1, .int .i64 a1_2]) (t := 29) ?hr ?_; (case hd => rfl); (case hg => rfl); (case hr => first | (go_simp; done) | (go_simp; rfl)); intro gb138 hg w3 hbox hb; have BK138 := Aside0.mk (hbox); have GW138 := gs_ hg; have GE138 := gs_ hg; replace HB := hbs_ hb; clear hb hbox hg)); try go_wp2_with (first | ((with_reducible refine gate_dst (N := 3) rfl ?_); refine box_event ?hg (N := 3) ?hd (cs := #[.int .i64 a1_0, .int .i64 a1_1, .int .i64 a1_2]) (t := 29) ?hr ?_; (case hd => rfl); (case hg => rfl); (case hr => first | (go_simp; done) | (go_simp; rfl)); intro gb138 hg w3 hbox hb; have BK138 := Aside0.mk (hbox); have GW138 := gs_ hg; have GE138 := gs_ hg; replace HB := hbs_ hb; clear hb hbox hg)))
 go_loopg [5] k (fun kq v5 w' => ∃ (x5_1 : Int), v5 = .int .i64 x5_1 ∧ Aside0 (spec_l06Has.l0 kq l0 x5_1 a1_0 a1_1 a1_2 = some r) ∧ Aside0 (kq ≤ k) ∧ Aside0 (w'.heap[gb138]? = some (.cells #[.int .i64 a1_0, .int .i64 a1_1, .int .i64 a1_2] 29 (0, 0))) ∧ Aside0 (Below w.heap.size w w'))
 case atStart => exact ⟨(0), rf_, H', ⟨Nat.le_refl _⟩, ⟨bk_ BK138⟩, ⟨bl_⟩⟩
 case round =>
  clear H'
  try clear p2
  obtain ⟨x5_1, rfl, HA, HK1, BK138, HB⟩ := hrel
  cases gk with
  | zero => exact absurd HA.out (by simp [spec_l06Has.l0])
  | succ k1 =>
   have H := HA.out
   clear HA
   simp only [spec_l06Has.l0] at H
   by_cases c4 : x5_1 < (l0.length : Int)
   ·rw [if_pos c4] at H
    have c4b0 : decide (x5_1 < (l0.length : Int)) = true := decide_eq_true c4
    clear c4
    obtain ⟨c5b0, H⟩ := ifd_ H
    by_cases c6 : ((((rd_T29 l0 x5_1).f0.f0) == a1_0 && (((rd_T29 l0 x5_1).f0.f1) == a1_1)) && (((rd_T29 l0 x5_1).f1) == a1_2)) = true
    ·rw [if_pos c6] at H
     have c6b0 : ((((rd_T29 l0 x5_1).f0.f0) == a1_0 && (((rd_T29 l0 x5_1).f0.f1) == a1_1)) && (((rd_T29 l0 x5_1).f1) == a1_2)) = true := c6
     clear c6
     obtain rfl := Option.some.inj H
     have p139 : 0 ≤ (x5_1 : Int) := od_
     have q139 : x5_1 < (l0.length : Int) := od_
     obtain ⟨ad139, e139, hx139_0, hx139_1, hx139_2⟩ := at_T29 (Kd.C_below HR0.out HB.out) x5_1 p139 q139
     cases e139
     replace p139 := eq_true p139
     replace q139 := eq_true q139
     have hcz7 := blk_cell BK138.out
     have hfz7 := blk_frozen BK138.out
     go_wp2
     repeat (go_quiet (fail); try go_wp2)
     go_ret
     exact ⟨eq_, bl_⟩
    ·rw [if_neg c6] at H
     have c6b0 : ((((rd_T29 l0 x5_1).f0.f0) == a1_0 && (((rd_T29 l0 x5_1).f0.f1) == a1_1)) && (((rd_T29 l0 x5_1).f1) == a1_2)) = false := by simpa using c6
     clear c6
     have H' := Aside0.mk H
     clear H
     have p139 : 0 ≤ (x5_1 : Int) := od_
     have q139 : x5_1 < (l0.length : Int) := od_
     obtain ⟨ad139, e139, hx139_0, hx139_1, hx139_2⟩ := at_T29 (Kd.C_below HR0.out HB.out) x5_1 p139 q139
     cases e139
     replace p139 := eq_true p139
     replace q139 := eq_true q139
     have hcz8 := blk_cell BK138.out
     have hfz8 := blk_frozen BK138.out
     go_wp2
     repeat (go_quiet (fail); try go_wp2)
     go_roundg k1
     case measure => have := HK1.out; omega
     case rel => exact ⟨(wrap64 (x5_1 + 1)), rf_, H', ⟨by have := HK1.out; omega⟩, ⟨bk_ BK138⟩, ⟨bl_⟩⟩
   ·rw [if_neg c4] at H
    have c4b0 : decide (x5_1 < (l0.length : Int)) = false := decide_eq_false c4
    clear c4
    obtain rfl := Option.some.inj H
    go_wp2
    repeat (go_quiet (fail); try go_wp2)
    go_ret
    exact ⟨eq_, bl_⟩
def spec_l01In.f (a0 : Int) (a1 : Int) (a2 : Int) : Option (Bool) := if a0 ≥ a1 then (some (decide (a0 ≤ a2))) else (some false)
set_option maxHeartbeats 8000000 in
set_option maxRecDepth 100000 in
theorem spec_l01In.calls (a0 : Int) (a1 : Int) (a2 : Int) (r : Bool) (w : World) (h : spec_l01In.f a0 a1 a2 = some r) :
  Calls Try.prog 90 #[.int .i64 a0, .int .i64 a1, .int .i64 a2] w fun e w' => e = .returned (.bool r) ∧ Drawn0 w w' := by
 have H : (if a0 ≥ a1 then (some (decide (a0 ≤ a2))) else (some false)) = some r := h
 clear h
 by_cases c4 : a0 ≥ a1
 ·rw [if_pos c4] at H
  have c4b0 : decide (a1 ≤ a0) = true := decide_eq_true c4
  clear c4
  obtain rfl := Option.some.inj H
  go_enter Try.func90, Try.ntmps90
  go_wp2
  go_ret
  exact ⟨by first | rfl | (simp; done) | (simp [*]; done), by repeat (first | exact Drawn0.refl _ | apply Drawn0.step)⟩
 ·rw [if_neg c4] at H
  have c4b0 : decide (a1 ≤ a0) = false := decide_eq_false c4
  clear c4
  obtain rfl := Option.some.inj H
  go_enter Try.func90, Try.ntmps90
  go_wp2
  go_ret
  exact ⟨by first | rfl | (simp; done) | (simp [*]; done), by repeat (first | exact Drawn0.refl _ | apply Drawn0.step)⟩
def spec_RoleOk.f (a0_0 : Int) (a0_1 : Int) : Option (Bool) := (spec_l01In.f a0_0 0 5).bind fun t141 => (if t141 = true then ((spec_l01In.f a0_1 0 3).bind fun t142 => (some t142)) else (some false))
set_option maxHeartbeats 8000000 in
set_option maxRecDepth 100000 in
theorem spec_RoleOk.calls (a0_0 : Int) (a0_1 : Int) (r : Bool) (w : World) (h : spec_RoleOk.f a0_0 a0_1 = some r) :
  Calls Try.prog 136 #[.agg #[.int .i64 a0_0, .int .i64 a0_1]] w fun e w' => e = .returned (.bool r) ∧ Below w.heap.size w w' := by
 have hu27 := Try.underlying27
 have HB := Aside0.mk (Below.refl w.heap.size w)
 have H : ((spec_l01In.f a0_0 0 5).bind fun t141 => (if t141 = true then ((spec_l01In.f a0_1 0 3).bind fun t142 => (some t142)) else (some false))) = some r := h
 clear h
 obtain ⟨t141, A2, H⟩ := bindE_ H
 by_cases c3 : t141 = true
 ·subst c3
  replace H := ite_t_ H
  obtain ⟨t142, A4, H⟩ := bindE_ H
  obtain rfl := Option.some.inj H
  go_enter Try.func136, Try.ntmps136
  go_wp2_with (first | ((with_reducible refine gate_dst (N := 1) rfl ?_); refine box_event ?hg (N := 1) ?hd (cs := #[.int .i64 a0_0, .int .i64 a0_1]) (t := 27) ?hr ?_; (case hd => rfl); (case hg => rfl); (case hr => first | (go_simp; done) | (go_simp; rfl)); intro gb140 hg w5 hbox hb; have BK140 := Aside0.mk (hbox); have GW140 := gs_ hg; have GE140 := gs_ hg; replace HB := hbs_ hb; clear hb hbox hg; have hcz6 := blk_cell BK140.out; have hfz6 := blk_frozen BK140.out) | ((with_reducible refine gate_callee (f := 90) rfl ?_); refine goesC_ (some 5) Try.func90 #[.int .i64 a0_0, .int .i64 0, .int .i64 5] ?_; (with_reducible refine (spec_l01In.calls a0_0 0 5 true _ A2.out).mono ?_); rintro e w' ⟨rfl, ⟨nd, rfl⟩⟩; refine ⟨_, rfl, ?_⟩) | (go_at_call 90; (with_reducible refine (spec_l01In.calls a0_1 0 3 t142 _ A4.out).mono ?_); rintro e w' ⟨rfl, ⟨nd, rfl⟩⟩))
  go_ret
  exact ⟨eq_, bl_⟩
 ·replace c3 := Bool.eq_false_iff.mpr c3
  subst c3
  replace H := ite_f_ H
  obtain rfl := Option.some.inj H
  go_enter Try.func136, Try.ntmps136
  go_wp2_with (first | ((with_reducible refine gate_dst (N := 1) rfl ?_); refine box_event ?hg (N := 1) ?hd (cs := #[.int .i64 a0_0, .int .i64 a0_1]) (t := 27) ?hr ?_; (case hd => rfl); (case hg => rfl); (case hr => first | (go_simp; done) | (go_simp; rfl)); intro gb140 hg w7 hbox hb; have BK140 := Aside0.mk (hbox); have GW140 := gs_ hg; have GE140 := gs_ hg; replace HB := hbs_ hb; clear hb hbox hg; have hcz8 := blk_cell BK140.out; have hfz8 := blk_frozen BK140.out) | ((with_reducible refine gate_callee (f := 90) rfl ?_); refine goesC_ (some 5) Try.func90 #[.int .i64 a0_0, .int .i64 0, .int .i64 5] ?_; (with_reducible refine (spec_l01In.calls a0_0 0 5 false _ A2.out).mono ?_); rintro e w' ⟨rfl, ⟨nd, rfl⟩⟩; refine ⟨_, rfl, ?_⟩))
  go_ret
  exact ⟨eq_, bl_⟩
def spec_CredOk.j0 : Nat → Bool → Int → Int → Int → Int → Int → Int → Int → Int → Int → Int → Option (Bool)
 | 0, _, _, _, _, _, _, _, _, _, _, _ => none
 | k + 1, x19, x144000, x144001, x144002, x144003, x144004, x144005, x144006, x144007, x144008, x144009 => if x19 = true then (some false) else (if x144000 = 1 then ((spec_l01In.f x144003 0 5).bind fun t148 => (if t148 = true then (if (x144004 == 0 && (x144005 == 0)) = true then (some (x144006 == 0 && (x144007 == 0))) else (some false)) else (some false))) else (if x144000 = 2 then (if x144003 = 0 then ((spec_RoleOk.f x144004 x144005).bind fun t149 => (if t149 = true then (some (x144006 == 0 && (x144007 == 0))) else (some false))) else (some false)) else (if x144000 = 3 then (if x144003 = 0 then ((spec_RoleOk.f x144004 x144005).bind fun t150 => (if t150 = true then ((spec_RoleOk.f x144006 x144007).bind fun t151 => (if t151 = true then (some (x144006 == 0)) else (some false))) else (some false))) else (some false)) else (if x144000 = 4 then (if x144003 = 0 then ((spec_RoleOk.f x144004 x144005).bind fun t152 => (if t152 = true then ((spec_RoleOk.f x144006 x144007).bind fun t153 => (some t153)) else (some false))) else (some false)) else (some false)))))
def spec_CredOk.f (k : Nat) (a0_0 : Int) (a0_1 : Int) (a0_2 : Int) (a0_3 : Int) (a0_4 : Int) (a0_5 : Int) (a0_6 : Int) (a0_7 : Int) (a0_8 : Int) (a0_9 : Int) : Option (Bool) := (spec_RoleOk.f a0_1 a0_2).bind fun t144 => (if t144 = true then ((spec_l01In.f a0_8 1 9999).bind fun t145 => (if t145 = true then ((spec_l01In.f a0_9 0 99).bind fun t146 => (spec_CredOk.j0 k (!t146) a0_0 a0_1 a0_2 a0_3 a0_4 a0_5 a0_6 a0_7 a0_8 a0_9)) else (spec_CredOk.j0 k true a0_0 a0_1 a0_2 a0_3 a0_4 a0_5 a0_6 a0_7 a0_8 a0_9))) else (spec_CredOk.j0 k true a0_0 a0_1 a0_2 a0_3 a0_4 a0_5 a0_6 a0_7 a0_8 a0_9))
set_option maxHeartbeats 8000000 in
set_option maxRecDepth 100000 in
theorem spec_CredOk.calls (k : Nat) (a0_0 : Int) (a0_1 : Int) (a0_2 : Int) (a0_3 : Int) (a0_4 : Int) (a0_5 : Int) (a0_6 : Int) (a0_7 : Int) (a0_8 : Int) (a0_9 : Int) (r : Bool) (w : World) (h : spec_CredOk.f k a0_0 a0_1 a0_2 a0_3 a0_4 a0_5 a0_6 a0_7 a0_8 a0_9 = some r) :
  Calls Try.prog 115 #[.agg #[.int .i64 a0_0, .int .i64 a0_1, .int .i64 a0_2, .int .i64 a0_3, .int .i64 a0_4, .int .i64 a0_5, .int .i64 a0_6, .int .i64 a0_7, .int .i64 a0_8, .int .i64 a0_9]] w fun e w' => e = .returned (.bool r) ∧ Below w.heap.size w w' := by
 have hu46 := Try.underlying46
 have hu27 := Try.underlying27
 have HB := Aside0.mk (Below.refl w.heap.size w)
 have H : ((spec_RoleOk.f a0_1 a0_2).bind fun t144 => (if t144 = true then ((spec_l01In.f a0_8 1 9999).bind fun t145 => (if t145 = true then ((spec_l01In.f a0_9 0 99).bind fun t146 => (spec_CredOk.j0 k (!t146) a0_0 a0_1 a0_2 a0_3 a0_4 a0_5 a0_6 a0_7 a0_8 a0_9)) else (spec_CredOk.j0 k true a0_0 a0_1 a0_2 a0_3 a0_4 a0_5 a0_6 a0_7 a0_8 a0_9))) else (spec_CredOk.j0 k true a0_0 a0_1 a0_2 a0_3 a0_4 a0_5 a0_6 a0_7 a0_8 a0_9))) = some r := h
 clear h
 have HC2 := Aside0.mk H
 clear H
 go_enter Try.func115, Try.ntmps115
 go_upto_region 1 with (first | ((with_reducible refine gate_dst (N := 1) rfl ?_); refine box_event ?hg (N := 1) ?hd (cs := #[.int .i64 a0_0, .int .i64 a0_1, .int .i64 a0_2, .int .i64 a0_3, .int .i64 a0_4, .int .i64 a0_5, .int .i64 a0_6, .int .i64 a0_7, .int .i64 a0_8, .int .i64 a0_9]) (t := 46) ?hr ?_; (case hd => rfl); (case hg => rfl); (case hr => first | (go_simp; done) | (go_simp; rfl)); intro gb143 hg w3 hbox hb; have BK143 := Aside0.mk (hbox); have GW143 := gs_ hg; have GE143 := gs_ hg; replace HB := hbs_ hb; clear hb hbox hg))
 (try simp only [Act.put, List.setIfInBounds_toArray, List.set_cons_zero, List.set_cons_succ])
 go_cut [19] (fun v19 wc => ∃ (kq : Nat) (x19_1 : Bool), v19 = .bool x19_1 ∧ Aside0 (spec_CredOk.j0 kq x19_1 a0_0 a0_1 a0_2 a0_3 a0_4 a0_5 a0_6 a0_7 a0_8 a0_9 = some r) ∧ Aside0 (kq ≤ k) ∧ Aside0 (wc.heap[gb143]? = some (.cells #[.int .i64 a0_0, .int .i64 a0_1, .int .i64 a0_2, .int .i64 a0_3, .int .i64 a0_4, .int .i64 a0_5, .int .i64 a0_6, .int .i64 a0_7, .int .i64 a0_8, .int .i64 a0_9] 46 (0, 0))) ∧ Aside0 (Below w.heap.size w wc))
 case first =>
  have H := HC2.out
  clear HC2
  obtain ⟨t144, A4, H⟩ := bindE_ H
  by_cases c5 : t144 = true
  ·subst c5
   replace H := ite_t_ H
   obtain ⟨t145, A6, H⟩ := bindE_ H
   by_cases c7 : t145 = true
   ·subst c7
    replace H := ite_t_ H
    obtain ⟨t146, A8, H⟩ := bindE_ H
    have H' := Aside0.mk H
    clear H
    have hcz9 := blk_cell BK143.out
    have hfz9 := blk_frozen BK143.out
    go_wp2_with (first | ((with_reducible refine gate_callee (f := 136) rfl ?_); refine goesC_ (some 6) Try.func136 #[.agg #[.int .i64 a0_1, .int .i64 a0_2]] ?_; (with_reducible refine (spec_RoleOk.calls a0_1 a0_2 true _ A4.out).mono ?_); rintro e w10 ⟨rfl, hb⟩; refine ⟨_, rfl, ?_⟩; replace BK143 := bkb_ BK143 hb; replace HB := hbs_ hb; clear hb; have hcz11 := blk_cell BK143.out; have hfz11 := blk_frozen BK143.out) | (go_at_call 90; (with_reducible refine (spec_l01In.calls a0_8 1 9999 true _ A6.out).mono ?_); rintro e w' ⟨rfl, ⟨nd, rfl⟩⟩) | (go_at_call 90; (with_reducible refine (spec_l01In.calls a0_9 0 99 t146 _ A8.out).mono ?_); rintro e w' ⟨rfl, ⟨nd, rfl⟩⟩))
    go_meet
    case rel => exact ⟨_, (!t146), rf_, H', ⟨by first | omega | exact Nat.le_refl _⟩, ⟨bk_ BK143⟩, ⟨bl_⟩⟩
   ·replace c7 := Bool.eq_false_iff.mpr c7
    subst c7
    replace H := ite_f_ H
    have H' := Aside0.mk H
    clear H
    have hcz12 := blk_cell BK143.out
    have hfz12 := blk_frozen BK143.out
    go_wp2_with (first | ((with_reducible refine gate_callee (f := 136) rfl ?_); refine goesC_ (some 6) Try.func136 #[.agg #[.int .i64 a0_1, .int .i64 a0_2]] ?_; (with_reducible refine (spec_RoleOk.calls a0_1 a0_2 true _ A4.out).mono ?_); rintro e w13 ⟨rfl, hb⟩; refine ⟨_, rfl, ?_⟩; replace BK143 := bkb_ BK143 hb; replace HB := hbs_ hb; clear hb; have hcz14 := blk_cell BK143.out; have hfz14 := blk_frozen BK143.out) | (go_at_call 90; (with_reducible refine (spec_l01In.calls a0_8 1 9999 false _ A6.out).mono ?_); rintro e w' ⟨rfl, ⟨nd, rfl⟩⟩))
    go_meet
    case rel => exact ⟨_, (true), rf_, H', ⟨by first | omega | exact Nat.le_refl _⟩, ⟨bk_ BK143⟩, ⟨bl_⟩⟩
  ·replace c5 := Bool.eq_false_iff.mpr c5
   subst c5
   replace H := ite_f_ H
   have H' := Aside0.mk H
   clear H
   have hcz15 := blk_cell BK143.out
   have hfz15 := blk_frozen BK143.out
   go_wp2_with (first | ((with_reducible refine gate_callee (f := 136) rfl ?_); refine goesC_ (some 6) Try.func136 #[.agg #[.int .i64 a0_1, .int .i64 a0_2]] ?_; (with_reducible refine (spec_RoleOk.calls a0_1 a0_2 false _ A4.out).mono ?_); rintro e w16 ⟨rfl, hb⟩; refine ⟨_, rfl, ?_⟩; replace BK143 := bkb_ BK143 hb; replace HB := hbs_ hb; clear hb))
   go_meet
   case rel => exact ⟨_, (true), rf_, H', ⟨by first | omega | exact Nat.le_refl _⟩, ⟨bk_ BK143⟩, ⟨bl_⟩⟩
 case rest =>
  clear HC2
  try clear c1
  try clear p2
  try clear c5
  try clear c7
  try clear c11
  try clear c13
  try clear hcz11
  try clear hcz12
  try clear hcz14
  try clear hcz15
  try clear hcz9
  try clear hfz11
  try clear hfz12
  try clear hfz14
  try clear hfz15
  try clear hfz9
  obtain ⟨kq, x19_1, rfl, HA, HJ1, BK143, HB⟩ := hcut
  cases kq with
  | zero => exact absurd HA.out (by simp [spec_CredOk.j0])
  | succ kj1 =>
   have H := HA.out
   clear HA
   simp only [spec_CredOk.j0] at H
   by_cases c17 : x19_1 = true
   ·subst c17
    replace H := ite_t_ H
    obtain rfl := Option.some.inj H
    go_wp2
    go_ret
    exact ⟨eq_, bl_⟩
   ·replace c17 := Bool.eq_false_iff.mpr c17
    subst c17
    replace H := ite_f_ H
    by_cases c18 : a0_0 = 1
    ·rw [if_pos c18] at H
     have c18b0 : (a0_0 == 1) = true := beq_iff_eq.mpr c18
     have c18b1 : (a0_0 != 1) = false := bne_eq_false_iff_eq.mpr c18
     clear c18
     obtain ⟨t148, A19, H⟩ := bindE_ H
     by_cases c20 : t148 = true
     ·subst c20
      replace H := ite_t_ H
      by_cases c21 : (a0_4 == 0 && (a0_5 == 0)) = true
      ·rw [if_pos c21] at H
       have c21b0 : (a0_4 == 0 && (a0_5 == 0)) = true := c21
       (try (have c21b1 : decide (a0_4 = 0 && (a0_5 == 0)) = true := by simpa using c21))
       (try (have c21b2 : (a0_4 == 0 && (a0_5 == 0)) = true := by simpa using c21))
       clear c21
       obtain rfl := Option.some.inj H
       go_wp2_with (first | ((with_reducible refine gate_dst (N := 3) rfl ?_); refine box_event ?hg (N := 3) ?hd (cs := #[.int .i64 0, .int .i64 0]) (t := 27) ?hr ?_; (case hd => rfl); (case hg => rfl); (case hr => first | (go_simp; done) | (go_simp; rfl)); intro gb147 hg w22 hbox hb; have BK147 := Aside0.mk (hbox); have GW147 := gs_ hg; have GE147 := gs_ hg; replace HB := hbs_ hb; have NB143_147 := nl_ hg BK143; have NB147_143 := nr_ hg BK143; replace BK143 := bkb_ BK143 hb; clear hb hbox hg; have hnb23 := NB147_143.out; have hnc23 := NB143_147.out; have hcz24 := blk_cell BK147.out; have hfz24 := blk_frozen BK147.out; have hcz25 := blk_cell BK143.out; have hfz25 := blk_frozen BK143.out) | ((with_reducible refine gate_callee (f := 90) rfl ?_); refine goesC_ (some 27) Try.func90 #[.int .i64 a0_3, .int .i64 0, .int .i64 5] ?_; (with_reducible refine (spec_l01In.calls a0_3 0 5 true _ A19.out).mono ?_); rintro e w' ⟨rfl, ⟨nd, rfl⟩⟩; refine ⟨_, rfl, ?_⟩))
       go_ret
       exact ⟨eq_, bl_⟩
      ·rw [if_neg c21] at H
       have c21b0 : (a0_4 == 0 && (a0_5 == 0)) = false := by simpa using c21
       (try (have c21b1 : decide (a0_4 = 0 && (a0_5 == 0)) = false := by simpa using c21))
       (try (have c21b2 : (a0_4 == 0 && (a0_5 == 0)) = false := by simpa using c21))
       (try (have c21b3 : ¬ (a0_4 = 0 && (a0_5 == 0)) := by simpa using c21))
       clear c21
       obtain rfl := Option.some.inj H
       go_wp2_with (first | ((with_reducible refine gate_dst (N := 3) rfl ?_); refine box_event ?hg (N := 3) ?hd (cs := #[.int .i64 0, .int .i64 0]) (t := 27) ?hr ?_; (case hd => rfl); (case hg => rfl); (case hr => first | (go_simp; done) | (go_simp; rfl)); intro gb147 hg w26 hbox hb; have BK147 := Aside0.mk (hbox); have GW147 := gs_ hg; have GE147 := gs_ hg; replace HB := hbs_ hb; have NB143_147 := nl_ hg BK143; have NB147_143 := nr_ hg BK143; replace BK143 := bkb_ BK143 hb; clear hb hbox hg; have hnb27 := NB147_143.out; have hnc27 := NB143_147.out; have hcz28 := blk_cell BK147.out; have hfz28 := blk_frozen BK147.out; have hcz29 := blk_cell BK143.out; have hfz29 := blk_frozen BK143.out) | ((with_reducible refine gate_callee (f := 90) rfl ?_); refine goesC_ (some 27) Try.func90 #[.int .i64 a0_3, .int .i64 0, .int .i64 5] ?_; (with_reducible refine (spec_l01In.calls a0_3 0 5 true _ A19.out).mono ?_); rintro e w' ⟨rfl, ⟨nd, rfl⟩⟩; refine ⟨_, rfl, ?_⟩))
       go_ret
       exact ⟨eq_, bl_⟩
     ·replace c20 := Bool.eq_false_iff.mpr c20
      subst c20
      replace H := ite_f_ H
      obtain rfl := Option.some.inj H
      go_wp2_with (first | ((with_reducible refine gate_dst (N := 3) rfl ?_); refine box_event ?hg (N := 3) ?hd (cs := #[.int .i64 0, .int .i64 0]) (t := 27) ?hr ?_; (case hd => rfl); (case hg => rfl); (case hr => first | (go_simp; done) | (go_simp; rfl)); intro gb147 hg w30 hbox hb; have BK147 := Aside0.mk (hbox); have GW147 := gs_ hg; have GE147 := gs_ hg; replace HB := hbs_ hb; have NB143_147 := nl_ hg BK143; have NB147_143 := nr_ hg BK143; replace BK143 := bkb_ BK143 hb; clear hb hbox hg; have hnb31 := NB147_143.out; have hnc31 := NB143_147.out; have hcz32 := blk_cell BK147.out; have hfz32 := blk_frozen BK147.out; have hcz33 := blk_cell BK143.out; have hfz33 := blk_frozen BK143.out) | ((with_reducible refine gate_callee (f := 90) rfl ?_); refine goesC_ (some 27) Try.func90 #[.int .i64 a0_3, .int .i64 0, .int .i64 5] ?_; (with_reducible refine (spec_l01In.calls a0_3 0 5 false _ A19.out).mono ?_); rintro e w' ⟨rfl, ⟨nd, rfl⟩⟩; refine ⟨_, rfl, ?_⟩))
      go_ret
      exact ⟨eq_, bl_⟩
    ·rw [if_neg c18] at H
     have c18b0 : (a0_0 == 1) = false := beq_eq_false_iff_ne.mpr c18
     have c18b1 : (a0_0 != 1) = true := bne_iff_ne.mpr c18
     by_cases c34 : a0_0 = 2
     ·rw [if_pos c34] at H
      have c34b0 : (a0_0 == 2) = true := beq_iff_eq.mpr c34
      have c34b1 : (a0_0 != 2) = false := bne_eq_false_iff_eq.mpr c34
      clear c34
      by_cases c35 : a0_3 = 0
      ·rw [if_pos c35] at H
       have c35b0 : (a0_3 == 0) = true := beq_iff_eq.mpr c35
       have c35b1 : (a0_3 != 0) = false := bne_eq_false_iff_eq.mpr c35
       clear c35
       obtain ⟨t149, A36, H⟩ := bindE_ H
       by_cases c37 : t149 = true
       ·subst c37
        replace H := ite_t_ H
        obtain rfl := Option.some.inj H
        go_wp2_with (first | ((with_reducible refine gate_dst (N := 3) rfl ?_); refine box_event ?hg (N := 3) ?hd (cs := #[.int .i64 0, .int .i64 0]) (t := 27) ?hr ?_; (case hd => rfl); (case hg => rfl); (case hr => first | (go_simp; done) | (go_simp; rfl)); intro gb147 hg w38 hbox hb; have BK147 := Aside0.mk (hbox); have GW147 := gs_ hg; have GE147 := gs_ hg; replace HB := hbs_ hb; have NB143_147 := nl_ hg BK143; have NB147_143 := nr_ hg BK143; replace BK143 := bkb_ BK143 hb; clear hb hbox hg; have hnb39 := NB147_143.out; have hnc39 := NB143_147.out; have hcz40 := blk_cell BK147.out; have hfz40 := blk_frozen BK147.out; have hcz41 := blk_cell BK143.out; have hfz41 := blk_frozen BK143.out) | (go_at_call 136; (with_reducible refine (spec_RoleOk.calls a0_4 a0_5 true _ A36.out).mono ?_); rintro e w42 ⟨rfl, hb⟩; replace BK143 := Aside0.mk (blk_below (g := gb143) (o := .cells #[.int .i64 a0_0, .int .i64 a0_1, .int .i64 a0_2, .int .i64 a0_3, .int .i64 a0_4, .int .i64 a0_5, .int .i64 a0_6, .int .i64 a0_7, .int .i64 a0_8, .int .i64 a0_9] 46 (0, 0)) (bk_ BK143) hb); replace BK147 := Aside0.mk (blk_below (g := gb147) (o := .cells #[.int .i64 0, .int .i64 0] 27 (0, 0)) (bk_ BK147) hb); replace HB := hbs_ hb; clear hb; have hcz43 := blk_cell BK143.out; have hfz43 := blk_frozen BK143.out; have hcz44 := blk_cell BK147.out; have hfz44 := blk_frozen BK147.out))
        go_ret
        exact ⟨eq_, bl_⟩
       ·replace c37 := Bool.eq_false_iff.mpr c37
        subst c37
        replace H := ite_f_ H
        obtain rfl := Option.some.inj H
        go_wp2_with (first | ((with_reducible refine gate_dst (N := 3) rfl ?_); refine box_event ?hg (N := 3) ?hd (cs := #[.int .i64 0, .int .i64 0]) (t := 27) ?hr ?_; (case hd => rfl); (case hg => rfl); (case hr => first | (go_simp; done) | (go_simp; rfl)); intro gb147 hg w45 hbox hb; have BK147 := Aside0.mk (hbox); have GW147 := gs_ hg; have GE147 := gs_ hg; replace HB := hbs_ hb; have NB143_147 := nl_ hg BK143; have NB147_143 := nr_ hg BK143; replace BK143 := bkb_ BK143 hb; clear hb hbox hg; have hnb46 := NB147_143.out; have hnc46 := NB143_147.out; have hcz47 := blk_cell BK147.out; have hfz47 := blk_frozen BK147.out; have hcz48 := blk_cell BK143.out; have hfz48 := blk_frozen BK143.out) | (go_at_call 136; (with_reducible refine (spec_RoleOk.calls a0_4 a0_5 false _ A36.out).mono ?_); rintro e w49 ⟨rfl, hb⟩; replace BK143 := Aside0.mk (blk_below (g := gb143) (o := .cells #[.int .i64 a0_0, .int .i64 a0_1, .int .i64 a0_2, .int .i64 a0_3, .int .i64 a0_4, .int .i64 a0_5, .int .i64 a0_6, .int .i64 a0_7, .int .i64 a0_8, .int .i64 a0_9] 46 (0, 0)) (bk_ BK143) hb); replace BK147 := Aside0.mk (blk_below (g := gb147) (o := .cells #[.int .i64 0, .int .i64 0] 27 (0, 0)) (bk_ BK147) hb); replace HB := hbs_ hb; clear hb))
        go_ret
        exact ⟨eq_, bl_⟩
      ·rw [if_neg c35] at H
       have c35b0 : (a0_3 == 0) = false := beq_eq_false_iff_ne.mpr c35
       have c35b1 : (a0_3 != 0) = true := bne_iff_ne.mpr c35
       obtain rfl := Option.some.inj H
       go_wp2_with (first | ((with_reducible refine gate_dst (N := 3) rfl ?_); refine box_event ?hg (N := 3) ?hd (cs := #[.int .i64 0, .int .i64 0]) (t := 27) ?hr ?_; (case hd => rfl); (case hg => rfl); (case hr => first | (go_simp; done) | (go_simp; rfl)); intro gb147 hg w50 hbox hb; have BK147 := Aside0.mk (hbox); have GW147 := gs_ hg; have GE147 := gs_ hg; replace HB := hbs_ hb; have NB143_147 := nl_ hg BK143; have NB147_143 := nr_ hg BK143; replace BK143 := bkb_ BK143 hb; clear hb hbox hg; have hnb51 := NB147_143.out; have hnc51 := NB143_147.out; have hcz52 := blk_cell BK147.out; have hfz52 := blk_frozen BK147.out; have hcz53 := blk_cell BK143.out; have hfz53 := blk_frozen BK143.out))
       go_ret
       exact ⟨eq_, bl_⟩
     ·rw [if_neg c34] at H
      have c34b0 : (a0_0 == 2) = false := beq_eq_false_iff_ne.mpr c34
      have c34b1 : (a0_0 != 2) = true := bne_iff_ne.mpr c34
      by_cases c54 : a0_0 = 3
      ·rw [if_pos c54] at H
       have c54b0 : (a0_0 == 3) = true := beq_iff_eq.mpr c54
       have c54b1 : (a0_0 != 3) = false := bne_eq_false_iff_eq.mpr c54
       clear c54
       by_cases c55 : a0_3 = 0
       ·rw [if_pos c55] at H
        have c55b0 : (a0_3 == 0) = true := beq_iff_eq.mpr c55
        have c55b1 : (a0_3 != 0) = false := bne_eq_false_iff_eq.mpr c55
        clear c55
        obtain ⟨t150, A56, H⟩ := bindE_ H
        by_cases c57 : t150 = true
        ·subst c57
         replace H := ite_t_ H
         obtain ⟨t151, A58, H⟩ := bindE_ H
         by_cases c59 : t151 = true
         ·subst c59
          replace H := ite_t_ H
          obtain rfl := Option.some.inj H
          go_wp2_with (first | ((with_reducible refine gate_dst (N := 3) rfl ?_); refine box_event ?hg (N := 3) ?hd (cs := #[.int .i64 0, .int .i64 0]) (t := 27) ?hr ?_; (case hd => rfl); (case hg => rfl); (case hr => first | (go_simp; done) | (go_simp; rfl)); intro gb147 hg w60 hbox hb; have BK147 := Aside0.mk (hbox); have GW147 := gs_ hg; have GE147 := gs_ hg; replace HB := hbs_ hb; have NB143_147 := nl_ hg BK143; have NB147_143 := nr_ hg BK143; replace BK143 := bkb_ BK143 hb; clear hb hbox hg; have hnb61 := NB147_143.out; have hnc61 := NB143_147.out; have hcz62 := blk_cell BK147.out; have hfz62 := blk_frozen BK147.out; have hcz63 := blk_cell BK143.out; have hfz63 := blk_frozen BK143.out) | (go_at_call 136; (with_reducible refine (spec_RoleOk.calls a0_4 a0_5 true _ A56.out).mono ?_); rintro e w64 ⟨rfl, hb⟩; replace BK143 := Aside0.mk (blk_below (g := gb143) (o := .cells #[.int .i64 a0_0, .int .i64 a0_1, .int .i64 a0_2, .int .i64 a0_3, .int .i64 a0_4, .int .i64 a0_5, .int .i64 a0_6, .int .i64 a0_7, .int .i64 a0_8, .int .i64 a0_9] 46 (0, 0)) (bk_ BK143) hb); replace BK147 := Aside0.mk (blk_below (g := gb147) (o := .cells #[.int .i64 0, .int .i64 0] 27 (0, 0)) (bk_ BK147) hb); replace HB := hbs_ hb; clear hb; have hcz65 := blk_cell BK143.out; have hfz65 := blk_frozen BK143.out) | (go_at_call 136; (with_reducible refine (spec_RoleOk.calls a0_6 a0_7 true _ A58.out).mono ?_); rintro e w66 ⟨rfl, hb⟩; replace BK143 := bkb_ BK143 hb; replace BK147 := bkb_ BK147 hb; replace HB := hbs_ hb; clear hb; have hcz67 := blk_cell BK143.out; have hfz67 := blk_frozen BK143.out))
          go_ret
          exact ⟨eq_, bl_⟩
         ·replace c59 := Bool.eq_false_iff.mpr c59
          subst c59
          replace H := ite_f_ H
          obtain rfl := Option.some.inj H
          go_wp2_with (first | ((with_reducible refine gate_dst (N := 3) rfl ?_); refine box_event ?hg (N := 3) ?hd (cs := #[.int .i64 0, .int .i64 0]) (t := 27) ?hr ?_; (case hd => rfl); (case hg => rfl); (case hr => first | (go_simp; done) | (go_simp; rfl)); intro gb147 hg w68 hbox hb; have BK147 := Aside0.mk (hbox); have GW147 := gs_ hg; have GE147 := gs_ hg; replace HB := hbs_ hb; have NB143_147 := nl_ hg BK143; have NB147_143 := nr_ hg BK143; replace BK143 := bkb_ BK143 hb; clear hb hbox hg; have hnb69 := NB147_143.out; have hnc69 := NB143_147.out; have hcz70 := blk_cell BK147.out; have hfz70 := blk_frozen BK147.out; have hcz71 := blk_cell BK143.out; have hfz71 := blk_frozen BK143.out) | (go_at_call 136; (with_reducible refine (spec_RoleOk.calls a0_4 a0_5 true _ A56.out).mono ?_); rintro e w72 ⟨rfl, hb⟩; replace BK143 := Aside0.mk (blk_below (g := gb143) (o := .cells #[.int .i64 a0_0, .int .i64 a0_1, .int .i64 a0_2, .int .i64 a0_3, .int .i64 a0_4, .int .i64 a0_5, .int .i64 a0_6, .int .i64 a0_7, .int .i64 a0_8, .int .i64 a0_9] 46 (0, 0)) (bk_ BK143) hb); replace BK147 := Aside0.mk (blk_below (g := gb147) (o := .cells #[.int .i64 0, .int .i64 0] 27 (0, 0)) (bk_ BK147) hb); replace HB := hbs_ hb; clear hb; have hcz73 := blk_cell BK143.out; have hfz73 := blk_frozen BK143.out) | (go_at_call 136; (with_reducible refine (spec_RoleOk.calls a0_6 a0_7 false _ A58.out).mono ?_); rintro e w74 ⟨rfl, hb⟩; replace BK143 := bkb_ BK143 hb; replace BK147 := bkb_ BK147 hb; replace HB := hbs_ hb; clear hb))
          go_ret
          exact ⟨eq_, bl_⟩
        ·replace c57 := Bool.eq_false_iff.mpr c57
         subst c57
         replace H := ite_f_ H
         obtain rfl := Option.some.inj H
         go_wp2_with (first | ((with_reducible refine gate_dst (N := 3) rfl ?_); refine box_event ?hg (N := 3) ?hd (cs := #[.int .i64 0, .int .i64 0]) (t := 27) ?hr ?_; (case hd => rfl); (case hg => rfl); (case hr => first | (go_simp; done) | (go_simp; rfl)); intro gb147 hg w75 hbox hb; have BK147 := Aside0.mk (hbox); have GW147 := gs_ hg; have GE147 := gs_ hg; replace HB := hbs_ hb; have NB143_147 := nl_ hg BK143; have NB147_143 := nr_ hg BK143; replace BK143 := bkb_ BK143 hb; clear hb hbox hg; have hnb76 := NB147_143.out; have hnc76 := NB143_147.out; have hcz77 := blk_cell BK147.out; have hfz77 := blk_frozen BK147.out; have hcz78 := blk_cell BK143.out; have hfz78 := blk_frozen BK143.out) | (go_at_call 136; (with_reducible refine (spec_RoleOk.calls a0_4 a0_5 false _ A56.out).mono ?_); rintro e w79 ⟨rfl, hb⟩; replace BK143 := Aside0.mk (blk_below (g := gb143) (o := .cells #[.int .i64 a0_0, .int .i64 a0_1, .int .i64 a0_2, .int .i64 a0_3, .int .i64 a0_4, .int .i64 a0_5, .int .i64 a0_6, .int .i64 a0_7, .int .i64 a0_8, .int .i64 a0_9] 46 (0, 0)) (bk_ BK143) hb); replace BK147 := Aside0.mk (blk_below (g := gb147) (o := .cells #[.int .i64 0, .int .i64 0] 27 (0, 0)) (bk_ BK147) hb); replace HB := hbs_ hb; clear hb))
         go_ret
         exact ⟨eq_, bl_⟩
       ·rw [if_neg c55] at H
        have c55b0 : (a0_3 == 0) = false := beq_eq_false_iff_ne.mpr c55
        have c55b1 : (a0_3 != 0) = true := bne_iff_ne.mpr c55
        obtain rfl := Option.some.inj H
        go_wp2_with (first | ((with_reducible refine gate_dst (N := 3) rfl ?_); refine box_event ?hg (N := 3) ?hd (cs := #[.int .i64 0, .int .i64 0]) (t := 27) ?hr ?_; (case hd => rfl); (case hg => rfl); (case hr => first | (go_simp; done) | (go_simp; rfl)); intro gb147 hg w80 hbox hb; have BK147 := Aside0.mk (hbox); have GW147 := gs_ hg; have GE147 := gs_ hg; replace HB := hbs_ hb; have NB143_147 := nl_ hg BK143; have NB147_143 := nr_ hg BK143; replace BK143 := bkb_ BK143 hb; clear hb hbox hg; have hnb81 := NB147_143.out; have hnc81 := NB143_147.out; have hcz82 := blk_cell BK147.out; have hfz82 := blk_frozen BK147.out; have hcz83 := blk_cell BK143.out; have hfz83 := blk_frozen BK143.out))
        go_ret
        exact ⟨eq_, bl_⟩
      ·rw [if_neg c54] at H
       have c54b0 : (a0_0 == 3) = false := beq_eq_false_iff_ne.mpr c54
       have c54b1 : (a0_0 != 3) = true := bne_iff_ne.mpr c54
       by_cases c84 : a0_0 = 4
       ·rw [if_pos c84] at H
        have c84b0 : (a0_0 == 4) = true := beq_iff_eq.mpr c84
        have c84b1 : (a0_0 != 4) = false := bne_eq_false_iff_eq.mpr c84
        clear c84
        by_cases c85 : a0_3 = 0
        ·rw [if_pos c85] at H
         have c85b0 : (a0_3 == 0) = true := beq_iff_eq.mpr c85
         have c85b1 : (a0_3 != 0) = false := bne_eq_false_iff_eq.mpr c85
         clear c85
         obtain ⟨t152, A86, H⟩ := bindE_ H
         by_cases c87 : t152 = true
         ·subst c87
          replace H := ite_t_ H
          obtain ⟨t153, A88, H⟩ := bindE_ H
          obtain rfl := Option.some.inj H
          go_wp2_with (first | ((with_reducible refine gate_dst (N := 3) rfl ?_); refine box_event ?hg (N := 3) ?hd (cs := #[.int .i64 0, .int .i64 0]) (t := 27) ?hr ?_; (case hd => rfl); (case hg => rfl); (case hr => first | (go_simp; done) | (go_simp; rfl)); intro gb147 hg w89 hbox hb; have BK147 := Aside0.mk (hbox); have GW147 := gs_ hg; have GE147 := gs_ hg; replace HB := hbs_ hb; have NB143_147 := nl_ hg BK143; have NB147_143 := nr_ hg BK143; replace BK143 := bkb_ BK143 hb; clear hb hbox hg; have hnb90 := NB147_143.out; have hnc90 := NB143_147.out; have hcz91 := blk_cell BK147.out; have hfz91 := blk_frozen BK147.out; have hcz92 := blk_cell BK143.out; have hfz92 := blk_frozen BK143.out) | (go_at_call 136; (with_reducible refine (spec_RoleOk.calls a0_4 a0_5 true _ A86.out).mono ?_); rintro e w93 ⟨rfl, hb⟩; replace BK143 := Aside0.mk (blk_below (g := gb143) (o := .cells #[.int .i64 a0_0, .int .i64 a0_1, .int .i64 a0_2, .int .i64 a0_3, .int .i64 a0_4, .int .i64 a0_5, .int .i64 a0_6, .int .i64 a0_7, .int .i64 a0_8, .int .i64 a0_9] 46 (0, 0)) (bk_ BK143) hb); replace BK147 := Aside0.mk (blk_below (g := gb147) (o := .cells #[.int .i64 0, .int .i64 0] 27 (0, 0)) (bk_ BK147) hb); replace HB := hbs_ hb; clear hb; have hcz94 := blk_cell BK143.out; have hfz94 := blk_frozen BK143.out) | (go_at_call 136; (with_reducible refine (spec_RoleOk.calls a0_6 a0_7 t153 _ A88.out).mono ?_); rintro e w95 ⟨rfl, hb⟩; replace BK143 := bkb_ BK143 hb; replace BK147 := bkb_ BK147 hb; replace HB := hbs_ hb; clear hb))
          go_ret
          exact ⟨eq_, bl_⟩
         ·replace c87 := Bool.eq_false_iff.mpr c87
          subst c87
          replace H := ite_f_ H
          obtain rfl := Option.some.inj H
          go_wp2_with (first | ((with_reducible refine gate_dst (N := 3) rfl ?_); refine box_event ?hg (N := 3) ?hd (cs := #[.int .i64 0, .int .i64 0]) (t := 27) ?hr ?_; (case hd => rfl); (case hg => rfl); (case hr => first | (go_simp; done) | (go_simp; rfl)); intro gb147 hg w96 hbox hb; have BK147 := Aside0.mk (hbox); have GW147 := gs_ hg; have GE147 := gs_ hg; replace HB := hbs_ hb; have NB143_147 := nl_ hg BK143; have NB147_143 := nr_ hg BK143; replace BK143 := bkb_ BK143 hb; clear hb hbox hg; have hnb97 := NB147_143.out; have hnc97 := NB143_147.out; have hcz98 := blk_cell BK147.out; have hfz98 := blk_frozen BK147.out; have hcz99 := blk_cell BK143.out; have hfz99 := blk_frozen BK143.out) | (go_at_call 136; (with_reducible refine (spec_RoleOk.calls a0_4 a0_5 false _ A86.out).mono ?_); rintro e w100 ⟨rfl, hb⟩; replace BK143 := Aside0.mk (blk_below (g := gb143) (o := .cells #[.int .i64 a0_0, .int .i64 a0_1, .int .i64 a0_2, .int .i64 a0_3, .int .i64 a0_4, .int .i64 a0_5, .int .i64 a0_6, .int .i64 a0_7, .int .i64 a0_8, .int .i64 a0_9] 46 (0, 0)) (bk_ BK143) hb); replace BK147 := Aside0.mk (blk_below (g := gb147) (o := .cells #[.int .i64 0, .int .i64 0] 27 (0, 0)) (bk_ BK147) hb); replace HB := hbs_ hb; clear hb))
          go_ret
          exact ⟨eq_, bl_⟩
        ·rw [if_neg c85] at H
         have c85b0 : (a0_3 == 0) = false := beq_eq_false_iff_ne.mpr c85
         have c85b1 : (a0_3 != 0) = true := bne_iff_ne.mpr c85
         obtain rfl := Option.some.inj H
         go_wp2_with (first | ((with_reducible refine gate_dst (N := 3) rfl ?_); refine box_event ?hg (N := 3) ?hd (cs := #[.int .i64 0, .int .i64 0]) (t := 27) ?hr ?_; (case hd => rfl); (case hg => rfl); (case hr => first | (go_simp; done) | (go_simp; rfl)); intro gb147 hg w101 hbox hb; have BK147 := Aside0.mk (hbox); have GW147 := gs_ hg; have GE147 := gs_ hg; replace HB := hbs_ hb; have NB143_147 := nl_ hg BK143; have NB147_143 := nr_ hg BK143; replace BK143 := bkb_ BK143 hb; clear hb hbox hg; have hnb102 := NB147_143.out; have hnc102 := NB143_147.out; have hcz103 := blk_cell BK147.out; have hfz103 := blk_frozen BK147.out; have hcz104 := blk_cell BK143.out; have hfz104 := blk_frozen BK143.out))
         go_ret
         exact ⟨eq_, bl_⟩
       ·rw [if_neg c84] at H
        have c84b0 : (a0_0 == 4) = false := beq_eq_false_iff_ne.mpr c84
        have c84b1 : (a0_0 != 4) = true := bne_iff_ne.mpr c84
        obtain rfl := Option.some.inj H
        go_wp2_with (first | ((with_reducible refine gate_dst (N := 3) rfl ?_); refine box_event ?hg (N := 3) ?hd (cs := #[.int .i64 0, .int .i64 0]) (t := 27) ?hr ?_; (case hd => rfl); (case hg => rfl); (case hr => first | (go_simp; done) | (go_simp; rfl)); intro gb147 hg w105 hbox hb; have BK147 := Aside0.mk (hbox); have GW147 := gs_ hg; have GE147 := gs_ hg; replace HB := hbs_ hb; have NB143_147 := nl_ hg BK143; have NB147_143 := nr_ hg BK143; replace BK143 := bkb_ BK143 hb; clear hb hbox hg; have hnb106 := NB147_143.out; have hnc106 := NB143_147.out; have hcz107 := blk_cell BK147.out; have hfz107 := blk_frozen BK147.out; have hcz108 := blk_cell BK143.out; have hfz108 := blk_frozen BK143.out))
        go_ret
        exact ⟨eq_, bl_⟩
def spec_l06Put.f (k : Nat) (l0 : List (S29)) (a1_0 : Int) (a1_1 : Int) (a1_2 : Int) : Option ((List (S29))) := (spec_l06Has.f k l0 a1_0 a1_1 a1_2).bind fun t155 => (if t155 = true then (some l0) else (if l0.length < 5864062014805 then (some (l0 ++ [(⟨(⟨a1_0, a1_1⟩ : S27), a1_2⟩ : S29)])) else (none)))
set_option maxHeartbeats 8000000 in
set_option maxRecDepth 100000 in
theorem spec_l06Put.calls (k : Nat) (P0_ : Nat → Prop) (u9000_ : Value) (l0 : List (S29)) (a1_0 : Int) (a1_1 : Int) (a1_2 : Int) (r : List (S29)) (w0 w : World) (hB : Below w0.heap.size w0 w) (ho0 : Kd.R k29 29 w w0.heap.size P0_ u9000_ l0) (h : spec_l06Put.f k l0 a1_0 a1_1 a1_2 = some r) :
  Calls Try.prog 144 #[u9000_, .agg #[.int .i64 a1_0, .int .i64 a1_1, .int .i64 a1_2]] w fun e w' => ∃ v0_ : Value, e = .returned (v0_) ∧ Kd.R k29 29 w' w0.heap.size (fun k_ => (P0_ k_ ∨ w.heap.size ≤ k_)) v0_ r ∧ Below w0.heap.size w0 w' ∧ Kept w w' (fun k_ => P0_ k_) := by
 have hu29 := Try.underlying29
 have HO0 := Aside0.mk (show Kd.R k29 29 w w0.heap.size (fun k_ => (P0_ k_ ∨ w.heap.size ≤ k_)) u9000_ l0 from Kd.R_mono ho0 (fun k_ hk => (.inl hk)))
 have HK := Aside0.mk (Kept.refl w (fun k_ => P0_ k_))
 have HW0 := Aside0.mk hB.size
 have HB := Aside0.mk hB
 clear hB
 have H : ((spec_l06Has.f k l0 a1_0 a1_1 a1_2).bind fun t155 => (if t155 = true then (some l0) else (if l0.length < 5864062014805 then (some (l0 ++ [(⟨(⟨a1_0, a1_1⟩ : S27), a1_2⟩ : S29)])) else (none)))) = some r := h
 clear h
 obtain ⟨t155, A3, H⟩ := bindE_ H
 by_cases c4 : t155 = true
 ·subst c4
  replace H := ite_t_ H
  obtain rfl := Option.some.inj H
  go_enter Try.func144, Try.ntmps144
  go_wp2_with (first | ((with_reducible refine gate_dst (N := 3) rfl ?_); refine box_event ?hg (N := 3) ?hd (cs := #[.int .i64 a1_0, .int .i64 a1_1, .int .i64 a1_2]) (t := 29) ?hr ?_; (case hd => rfl); (case hg => rfl); (case hr => first | (go_simp; done) | (go_simp; rfl)); intro gb154 hg w5 hbox hb; replace HO0 := Aside0.mk (Kd.R_below (Kd.R_elderB (by (with_reducible repeat (first | apply Kd.R_alloc | apply Kd.R_drewN | apply Kd.R_drew)); exact HO0.out) gb154 (Nat.le_of_eq hg.symm)) hb); have BK154 := Aside0.mk (hbox); have GW154 := Aside0.mk ((by rw [hg]; exact (by first | exact HK.out.1 | exact (show Kept w _ (fun k_ => P0_ k_) from by repeat (first | (with_reducible first | exact HK.out | apply Kept.alloc | apply Kept.drewN | apply Kept.drew) | exact HK.out)).1) : w.heap.size ≤ gb154)); replace HK := Aside0.mk (Kept.below (S := (fun k_ => P0_ k_)) (by repeat (first | (with_reducible first | exact HK.out | apply Kept.alloc | apply Kept.drewN | apply Kept.drew) | exact HK.out)) hb); have GE154 := Aside0.mk ((by rw [hg]; exact bls_ : w0.heap.size ≤ gb154)); replace HB := hbs_ hb; clear hb hbox hg; have hcz6 := blk_cell BK154.out; have hfz6 := blk_frozen BK154.out; obtain ⟨Ao7, co7, eo7⟩ := Kd.R_slice HO0.out; subst eo7) | ((with_reducible refine gate_callee (f := 77) rfl ?_); refine goesC_ (some 7) Try.func77 #[.slice Ao7 l0.length co7, .agg #[.int .i64 a1_0, .int .i64 a1_1, .int .i64 a1_2]] ?_; (with_reducible refine (spec_l06Has.calls k _ _ l0 a1_0 a1_1 a1_2 true _ ?side1 ?side2 A3.out).mono ?_); (case side1 => repeat (first | exact (Kd.R_reads' HO0.out).2.2 | (with_reducible refine Kd.C_alloc ?_ _) | (with_reducible refine Kd.C_drewN ?_ _) | (with_reducible refine Kd.C_drew ?_))); (case side2 => exact (Kd.R_reads' HO0.out).2.1); rintro e w8 ⟨rfl, hb⟩; refine ⟨_, rfl, ?_⟩; replace HO0 := hob_ HO0 hb; replace BK154 := bkb_ BK154 hb; replace HK := Aside0.mk (Kept.below (S := (fun k_ => P0_ k_)) (by repeat (first | (with_reducible first | exact HK.out | apply Kept.alloc | apply Kept.drewN | apply Kept.drew | refine Kept.setCell ?_ (.inr GW154.out) _) | exact HK.out)) hb); replace HB := hbs_ hb; clear hb))
  go_ret
  exact ⟨_, eq_, by (with_reducible repeat (first | apply Kd.R_alloc | apply Kd.R_drewN | apply Kd.R_drew)); exact Kd.R_mono HO0.out (fun _ hk => hk.1), bl_, by repeat (first | (with_reducible first | exact HK.out | apply Kept.alloc | apply Kept.drewN | apply Kept.drew | refine Kept.setCell ?_ (.inr GW154.out) _) | exact HK.out)⟩
 ·replace c4 := Bool.eq_false_iff.mpr c4
  subst c4
  replace H := ite_f_ H
  obtain ⟨c9, H⟩ := ifn_ H
  have LMc9 := Aside0.mk c9
  clear c9
  obtain ⟨y156, hy156⟩ : ∃ y_ : List (S29), y_ = (l0 ++ [(⟨(⟨a1_0, a1_1⟩ : S27), a1_2⟩ : S29)]) := ⟨_, rfl⟩
  replace H : (some y156) = some r := by first | (rw [hy156]; with_reducible exact H) | (have H2_ := (Option.bind_some _ _).symm.trans H; rw [hy156]; with_reducible exact H2_) | (have H2_ := (Option.bind_some _ _).symm.trans H; with_reducible exact H2_) | with_reducible exact H | (rw [hy156]; exact H) | exact H
  have Ny156 := Aside0.mk hy156
  clear hy156
  obtain rfl := Option.some.inj H
  go_enter Try.func144, Try.ntmps144
  go_wp2_with (first | ((with_reducible refine gate_dst (N := 3) rfl ?_); refine box_event ?hg (N := 3) ?hd (cs := #[.int .i64 a1_0, .int .i64 a1_1, .int .i64 a1_2]) (t := 29) ?hr ?_; (case hd => rfl); (case hg => rfl); (case hr => first | (go_simp; done) | (go_simp; rfl)); intro gb154 hg w10 hbox hb; replace HO0 := Aside0.mk (Kd.R_below (Kd.R_elderB (by (with_reducible repeat (first | apply Kd.R_alloc | apply Kd.R_drewN | apply Kd.R_drew)); exact HO0.out) gb154 (Nat.le_of_eq hg.symm)) hb); have BK154 := Aside0.mk (hbox); have GW154 := Aside0.mk ((by rw [hg]; exact (by first | exact HK.out.1 | exact (show Kept w _ (fun k_ => P0_ k_) from by repeat (first | (with_reducible first | exact HK.out | apply Kept.alloc | apply Kept.drewN | apply Kept.drew) | exact HK.out)).1) : w.heap.size ≤ gb154)); replace HK := Aside0.mk (Kept.below (S := (fun k_ => P0_ k_)) (by repeat (first | (with_reducible first | exact HK.out | apply Kept.alloc | apply Kept.drewN | apply Kept.drew) | exact HK.out)) hb); have GE154 := Aside0.mk ((by rw [hg]; exact bls_ : w0.heap.size ≤ gb154)); replace HB := hbs_ hb; clear hb hbox hg; have hcz11 := blk_cell BK154.out; have hfz11 := blk_frozen BK154.out; obtain ⟨Ao12, co12, eo12⟩ := Kd.R_slice HO0.out; subst eo12) | ((with_reducible refine gate_callee (f := 77) rfl ?_); refine goesC_ (some 7) Try.func77 #[.slice Ao12 l0.length co12, .agg #[.int .i64 a1_0, .int .i64 a1_1, .int .i64 a1_2]] ?_; (with_reducible refine (spec_l06Has.calls k _ _ l0 a1_0 a1_1 a1_2 false _ ?side1 ?side2 A3.out).mono ?_); (case side1 => repeat (first | exact (Kd.R_reads' HO0.out).2.2 | (with_reducible refine Kd.C_alloc ?_ _) | (with_reducible refine Kd.C_drewN ?_ _) | (with_reducible refine Kd.C_drew ?_))); (case side2 => exact (Kd.R_reads' HO0.out).2.1); rintro e w13 ⟨rfl, hb⟩; refine ⟨_, rfl, ?_⟩; replace HO0 := hob_ HO0 hb; replace BK154 := bkb_ BK154 hb; replace HK := Aside0.mk (Kept.below (S := (fun k_ => P0_ k_)) (by repeat (first | (with_reducible first | exact HK.out | apply Kept.alloc | apply Kept.drewN | apply Kept.drew | refine Kept.setCell ?_ (.inr GW154.out) _) | exact HK.out)) hb); replace HB := hbs_ hb; clear hb; have hcz14 := blk_cell BK154.out; have hfz14 := blk_frozen BK154.out) | ((with_reducible refine gate_builtin (b := .append) (xs := #[.tmp 9, .tmp 11]) rfl ?_); at_builtin; refine Kd.R_append k29 (w0 := w0) w0.heap.size rfl (.tmp 9) (.tmp 11) 79 29 (.agg #[(.int .i64 0), (.int .i64 0), (.int .i64 0)]) 24 rfl Try.underlying79 info29 rfl (by decide) (by omega) (.slice Ao12 l0.length co12) l0 (⟨(⟨a1_0, a1_1⟩ : S27), a1_2⟩ : S29) [.int .i64 a1_0, .int .i64 a1_1, .int .i64 a1_2] (fun k_ => (P0_ k_ ∨ w.heap.size ≤ k_) ∧ k_ ≠ gb154) (fun _ => False) rfl rfl ?aP (fun _ hk => hk.elim) ?aF ?aO ?aB ?aS ?aL ?_; (case aP => exact k29_mkM _ _ _ (⟨(⟨a1_0, a1_1⟩ : S27), a1_2⟩ : S29)); (case aB => exact bl_); (case aF => exact (fun k_ hk => ⟨(.inr (Nat.le_trans (by first | exact HK.out.1 | exact (show Kept w _ (fun k_ => P0_ k_) from by repeat (first | (with_reducible first | exact HK.out | apply Kept.alloc | apply Kept.drewN | apply Kept.drew | refine Kept.setCell ?_ (.inr GW154.out) _) | exact HK.out)).1) hk)), Kd.freshB (g := gb154) (o := .cells #[.int .i64 a1_0, .int .i64 a1_1, .int .i64 a1_2] 29 (0, 0)) (bk_ BK154) k_ hk⟩)); (case aO => exact (by (with_reducible repeat (first | apply Kd.R_alloc | apply Kd.R_drewN | apply Kd.R_drew)); exact HO0.out)); (case aS => exact bls_); (case aL => have := LMc9.out; omega); intro v157 w15 ho hb hg hat; rw [← Ny156.out] at ho; replace BK154 := Aside0.mk (blk_grown (g := gb154) (o := .cells #[.int .i64 a1_0, .int .i64 a1_1, .int .i64 a1_2] 29 (0, 0)) (bk_ BK154) hg (Kd.R_away HO0.out (fun _ hk => hk.2))); replace HB := Aside0.mk (hb); replace HK := Aside0.mk (Kept.of_grown (S := (fun k_ => P0_ k_)) hg (by repeat (first | (with_reducible first | exact HK.out | apply Kept.alloc | apply Kept.drewN | apply Kept.drew | refine Kept.setCell ?_ (.inr GW154.out) _) | exact HK.out)) (fun k_ e_ => (HO0.out.1 k_ e_).1)); have HO158 := Aside0.mk (ho); clear HO0; clear ho hb hg hat))
  go_ret
  exact ⟨_, eq_, by (with_reducible repeat (first | apply Kd.R_alloc | apply Kd.R_drewN | apply Kd.R_drew)); exact Kd.R_mono HO158.out (fun _ hk => hk.1), bl_, by repeat (first | (with_reducible first | exact HK.out | apply Kept.alloc | apply Kept.drewN | apply Kept.drew | refine Kept.setCell ?_ (.inr GW154.out) _) | exact HK.out)⟩
end Go.Proofs.Ytppdmcimddhbaaa.PG
