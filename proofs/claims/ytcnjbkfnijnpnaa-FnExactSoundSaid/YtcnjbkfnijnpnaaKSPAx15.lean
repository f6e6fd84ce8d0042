import Derived.Test.YtcnjbkfnijnpnaaKSPAx14
-- printed by wip/tools
namespace Go.Proofs.Ytcnjbkfnijnpnaa.PA
open Go.RowKit Go.Proofs.YtcnjbkfnijnpnaaW.PrintWords Go.Proofs.YtcnjbkfnijnpnaaW.PrintLast Go.Proofs.YtcnjbkfnijnpnaaW.PrintMore
attribute [local go_sem] max2_int min2_int max_two min_two max_three min_three max_four min_four
set_option linter.unusedVariables false
set_option linter.unusedSimpArgs false
def laws_eqCredS.l0 : Nat → List (S61) → List (S61) → Int → Option (Bool)
 | 0, _, _, _ => none
 | k + 1, x0, x1, x5 => if x5 < (x0.length : Int) then (if 0 ≤ x5 then (if x5 < (x1.length : Int) then ((laws_eqCred.f ((rd_T61 x0 x5).f0) ((rd_T61 x0 x5).f1.f0) ((rd_T61 x0 x5).f1.f1) ((rd_T61 x0 x5).f2) ((rd_T61 x0 x5).f3.f0) ((rd_T61 x0 x5).f3.f1) ((rd_T61 x0 x5).f4.f0) ((rd_T61 x0 x5).f4.f1) ((rd_T61 x0 x5).f5) ((rd_T61 x0 x5).f6) ((rd_T61 x1 x5).f0) ((rd_T61 x1 x5).f1.f0) ((rd_T61 x1 x5).f1.f1) ((rd_T61 x1 x5).f2) ((rd_T61 x1 x5).f3.f0) ((rd_T61 x1 x5).f3.f1) ((rd_T61 x1 x5).f4.f0) ((rd_T61 x1 x5).f4.f1) ((rd_T61 x1 x5).f5) ((rd_T61 x1 x5).f6)).bind fun t529 => (if t529 = true then (laws_eqCredS.l0 k x0 x1 (wrap64 (x5 + 1))) else (some false))) else (none)) else (none)) else (some true)
def laws_eqCredS.f (k : Nat) (l0 : List (S61)) (l1 : List (S61)) : Option (Bool) := if (l0.length : Int) = (l1.length : Int) then (laws_eqCredS.l0 k l0 l1 0) else (some false)
def laws_eqCredS.T6 : Bool × List (List Nat × List Nat) := (true, [([], []), ([], []), ([0, 1], [0, 1]), ([2], [2]), ([], []), ([], []), ([4, 5], [4, 5]), ([6], [6]), ([3, 7], [3, 7]), ([8], [8])])
def laws_eqCredS.B6 : List Nat := [0, 0, 3, 7, 0, 0, 48, 112, 255, 511]
theorem laws_eqCredS.tab6 : rtab .any (opsOf Try.f31 6) = laws_eqCredS.T6 := by kernel_rfl
theorem laws_eqCredS.bits6 : waitsOk laws_eqCredS.T6.2 laws_eqCredS.B6 = true := by kernel_rfl
set_option maxHeartbeats 8000000 in
set_option maxRecDepth 100000 in
theorem laws_eqCredS.calls (k : Nat) (A0 : Option Addr) (c0 : Nat) (l0 : List (S61)) (A1 : Option Addr) (c1 : Nat) (l1 : List (S61)) (r : Bool) (w : World) (hr0 : Kd.C k61 w A0 l0.length l0) (hc0 : l0.length ≤ c0) (hr1 : Kd.C k61 w A1 l1.length l1) (hc1 : l1.length ≤ c1) (h : laws_eqCredS.f k l0 l1 = some r) :
  Calls Try.prog 31 #[.slice A0 l0.length c0, .slice A1 l1.length c1] w fun e w' => e = .returned (.bool r) ∧ Below w.heap.size w w' := by
 have hu61 := Try.underlying61
 have HR0 := aa_ hr0
 have HC0 := aa_ hc0
 clear hr0 hc0
 have HR1 := aa_ hr1
 have HC1 := aa_ hc1
 clear hr1 hc1
 have HB := aa_ (Below.refl w.heap.size w)
 have H : (if (l0.length : Int) = (l1.length : Int) then (laws_eqCredS.l0 k l0 l1 0) else (some false)) = some r := h
 clear h
 by_cases c3 : (l0.length : Int) = (l1.length : Int)
 ·rw [if_pos c3] at H
  have c3b0 : ((l0.length : Int) == (l1.length : Int)) = true := beq_iff_eq.mpr c3
  have c3b1 : ((l0.length : Int) != (l1.length : Int)) = false := bne_eq_false_iff_eq.mpr c3
  have c3b2 : (l0.length == l1.length) = true := by first | simpa using c3 | (simp at c3 ⊢; omega)
  clear c3
  have H' := aa_ H
  clear H
  go_enter Try.func31, Try.ntmps31
  go_wp2
  go_loopg [5] k (fun kq v5 w' => ∃ (x5_1 : Int), v5 = .int .i64 x5_1 ∧ Aside0 (laws_eqCredS.l0 kq l0 l1 x5_1 = some r) ∧ Aside0 (kq ≤ k) ∧ Aside0 (Below w.heap.size w w'))
  case atStart => exact ⟨(0), rf_, H', ⟨Nat.le_refl _⟩, ⟨bl_⟩⟩
  case round =>
   clear H'
   try clear c1
   try clear p2
   try clear c3
   try clear c3b0
   try clear c3b1
   try clear c3b2
   obtain ⟨x5_1, rfl, HA, HK1, HB⟩ := hrel
   cases gk with
   | zero => exact absurd HA.out (by simp [laws_eqCredS.l0])
   | succ k1 =>
    have H := HA.out
    clear HA
    simp only [laws_eqCredS.l0] at H
    by_cases c4 : x5_1 < (l0.length : Int)
    ·rw [if_pos c4] at H
     have c4b0 : decide (x5_1 < (l0.length : Int)) = true := decide_eq_true c4
     clear c4
     obtain ⟨c5b0, H⟩ := ifd_ H
     obtain ⟨c6b0, H⟩ := ifd_ H
     obtain ⟨t529, A7, H⟩ := bindE_ H
     have HC8 := aa_ H
     clear H
     try go_wp2
     replace HB := aa_ (below_drew1 HB.out)
     have p527 : 0 ≤ (x5_1 : Int) := od_
     have q527 : x5_1 < (l0.length : Int) := od_
     obtain ⟨ad527, e527, hx527_0, hx527_1, hx527_2, hx527_3, hx527_4, hx527_5, hx527_6, hx527_7, hx527_8, hx527_9⟩ := at_T61 HR0.out x5_1 p527 q527
     have hw527_9 := hx527_9
     have hw527_8 := hx527_8
     have hw527_7 := hx527_7
     have hw527_6 := hx527_6
     have hw527_5 := hx527_5
     have hw527_4 := hx527_4
     have hw527_3 := hx527_3
     have hw527_2 := hx527_2
     have hw527_1 := hx527_1
     have hw527_0 := hx527_0
     cases e527
     replace hx527_0 := cb_ HB hx527_0
     replace hx527_1 := cb_ HB hx527_1
     replace hx527_2 := cb_ HB hx527_2
     replace hx527_3 := cb_ HB hx527_3
     replace hx527_4 := cb_ HB hx527_4
     replace hx527_5 := cb_ HB hx527_5
     replace hx527_6 := cb_ HB hx527_6
     replace hx527_7 := cb_ HB hx527_7
     replace hx527_8 := cb_ HB hx527_8
     replace hx527_9 := cb_ HB hx527_9
     replace p527 := eq_true p527
     replace q527 := eq_true q527
     have p528 : 0 ≤ (x5_1 : Int) := od_
     have q528 : x5_1 < (l1.length : Int) := od_
     obtain ⟨ad528, e528, hx528_0, hx528_1, hx528_2, hx528_3, hx528_4, hx528_5, hx528_6, hx528_7, hx528_8, hx528_9⟩ := at_T61 HR1.out x5_1 p528 q528
     have hw528_9 := hx528_9
     have hw528_8 := hx528_8
     have hw528_7 := hx528_7
     have hw528_6 := hx528_6
     have hw528_5 := hx528_5
     have hw528_4 := hx528_4
     have hw528_3 := hx528_3
     have hw528_2 := hx528_2
     have hw528_1 := hx528_1
     have hw528_0 := hx528_0
     cases e528
     replace hx528_0 := cb_ HB hx528_0
     replace hx528_1 := cb_ HB hx528_1
     replace hx528_2 := cb_ HB hx528_2
     replace hx528_3 := cb_ HB hx528_3
     replace hx528_4 := cb_ HB hx528_4
     replace hx528_5 := cb_ HB hx528_5
     replace hx528_6 := cb_ HB hx528_6
     replace hx528_7 := cb_ HB hx528_7
     replace hx528_8 := cb_ HB hx528_8
     replace hx528_9 := cb_ HB hx528_9
     replace p528 := eq_true p528
     replace q528 := eq_true q528
     refine start_ (n := 10) (S := fun w' => w'.cell? (ad527.add ((x5_1).toNat * 10)) = some (.int .i64 ((rd_T61 l0 x5_1).f0)) ∧ w'.cell? ⟨(ad527.add ((x5_1).toNat * 10)).block, (ad527.add ((x5_1).toNat * 10)).off + 1, none⟩ = some (.int .i64 ((rd_T61 l0 x5_1).f1.f0)) ∧ w'.cell? ⟨(ad527.add ((x5_1).toNat * 10)).block, (ad527.add ((x5_1).toNat * 10)).off + 2, none⟩ = some (.int .i64 ((rd_T61 l0 x5_1).f1.f1)) ∧ w'.cell? ⟨(ad527.add ((x5_1).toNat * 10)).block, (ad527.add ((x5_1).toNat * 10)).off + 3, none⟩ = some (.int .i64 ((rd_T61 l0 x5_1).f2)) ∧ w'.cell? ⟨(ad527.add ((x5_1).toNat * 10)).block, (ad527.add ((x5_1).toNat * 10)).off + 4, none⟩ = some (.int .i64 ((rd_T61 l0 x5_1).f3.f0)) ∧ w'.cell? ⟨(ad527.add ((x5_1).toNat * 10)).block, (ad527.add ((x5_1).toNat * 10)).off + 5, none⟩ = some (.int .i64 ((rd_T61 l0 x5_1).f3.f1)) ∧ w'.cell? ⟨(ad527.add ((x5_1).toNat * 10)).block, (ad527.add ((x5_1).toNat * 10)).off + 6, none⟩ = some (.int .i64 ((rd_T61 l0 x5_1).f4.f0)) ∧ w'.cell? ⟨(ad527.add ((x5_1).toNat * 10)).block, (ad527.add ((x5_1).toNat * 10)).off + 7, none⟩ = some (.int .i64 ((rd_T61 l0 x5_1).f4.f1)) ∧ w'.cell? ⟨(ad527.add ((x5_1).toNat * 10)).block, (ad527.add ((x5_1).toNat * 10)).off + 8, none⟩ = some (.int .i64 ((rd_T61 l0 x5_1).f5)) ∧ w'.cell? ⟨(ad527.add ((x5_1).toNat * 10)).block, (ad527.add ((x5_1).toNat * 10)).off + 9, none⟩ = some (.int .i64 ((rd_T61 l0 x5_1).f6)) ∧ w'.cell? (ad528.add ((x5_1).toNat * 10)) = some (.int .i64 ((rd_T61 l1 x5_1).f0)) ∧ w'.cell? ⟨(ad528.add ((x5_1).toNat * 10)).block, (ad528.add ((x5_1).toNat * 10)).off + 1, none⟩ = some (.int .i64 ((rd_T61 l1 x5_1).f1.f0)) ∧ w'.cell? ⟨(ad528.add ((x5_1).toNat * 10)).block, (ad528.add ((x5_1).toNat * 10)).off + 2, none⟩ = some (.int .i64 ((rd_T61 l1 x5_1).f1.f1)) ∧ w'.cell? ⟨(ad528.add ((x5_1).toNat * 10)).block, (ad528.add ((x5_1).toNat * 10)).off + 3, none⟩ = some (.int .i64 ((rd_T61 l1 x5_1).f2)) ∧ w'.cell? ⟨(ad528.add ((x5_1).toNat * 10)).block, (ad528.add ((x5_1).toNat * 10)).off + 4, none⟩ = some (.int .i64 ((rd_T61 l1 x5_1).f3.f0)) ∧ w'.cell? ⟨(ad528.add ((x5_1).toNat * 10)).block, (ad528.add ((x5_1).toNat * 10)).off + 5, none⟩ = some (.int .i64 ((rd_T61 l1 x5_1).f3.f1)) ∧ w'.cell? ⟨(ad528.add ((x5_1).toNat * 10)).block, (ad528.add ((x5_1).toNat * 10)).off + 6, none⟩ = some (.int .i64 ((rd_T61 l1 x5_1).f4.f0)) ∧ w'.cell? ⟨(ad528.add ((x5_1).toNat * 10)).block, (ad528.add ((x5_1).toNat * 10)).off + 7, none⟩ = some (.int .i64 ((rd_T61 l1 x5_1).f4.f1)) ∧ w'.cell? ⟨(ad528.add ((x5_1).toNat * 10)).block, (ad528.add ((x5_1).toNat * 10)).off + 8, none⟩ = some (.int .i64 ((rd_T61 l1 x5_1).f5)) ∧ w'.cell? ⟨(ad528.add ((x5_1).toNat * 10)).block, (ad528.add ((x5_1).toNat * 10)).off + 9, none⟩ = some (.int .i64 ((rd_T61 l1 x5_1).f6))) (ds := []) (ba_ 10 0) (by kernel_rfl) rfl rfl ⟨(cb_ HB hw527_0 :), (cb_ HB hw527_1 :), (cb_ HB hw527_2 :), (cb_ HB hw527_3 :), (cb_ HB hw527_4 :), (cb_ HB hw527_5 :), (cb_ HB hw527_6 :), (cb_ HB hw527_7 :), (cb_ HB hw527_8 :), (cb_ HB hw527_9 :), (cb_ HB hw528_0 :), (cb_ HB hw528_1 :), (cb_ HB hw528_2 :), (cb_ HB hw528_3 :), (cb_ HB hw528_4 :), (cb_ HB hw528_5 :), (cb_ HB hw528_6 :), (cb_ HB hw528_7 :), (cb_ HB hw528_8 :), (cb_ HB hw528_9 :)⟩ (fun hHeld => ?_); refine with_tabW laws_eqCredS.tab6 laws_eqCredS.bits6 (fun HT_ HW_ => ?_)
     generalize wr.drew = w9 at HB hx527_0 hx527_1 hx527_2 hx527_3 hx527_4 hx527_5 hx527_6 hx527_7 hx527_8 hx527_9 hx528_0 hx528_1 hx528_2 hx528_3 hx528_4 hx528_5 hx528_6 hx528_7 hx528_8 hx528_9 hHeld ⊢
     refine pureZ_ (i := 0) (some 17) (ba_ 10 1) (ao_ HT_) ?_
     refine pureZ_ (i := 1) (some 18) (ba_ 10 3) (ao_ HT_) ?_
     refine pureZ_ (i := 2) (some 19) (ba_ 10 7) (ao_ HT_) ?_
     refine pureZ_ (i := 4) (some 21) (ba_ 10 23) (ao_ HT_) ?_
     refine pureZ_ (i := 5) (some 22) (ba_ 10 55) (ao_ HT_) ?_
     refine pureZ_ (i := 6) (some 23) (ba_ 10 119) (ao_ HT_) ?_
     refine takeZ_ (i := 3) (some 20) (ba_ 10 127) (take_ofW HT_.out HW_.out (by kernel_rfl)) hHeld ?_
     refine takeZ_ (i := 7) (some 24) (ba_ 10 255) (take_ofW HT_.out HW_.out (by kernel_rfl)) hHeld ?_
     refine one_ (i := 8) (N := some 25) (ba_ 10 511) rfl rfl (one_of HT_.out (by kernel_rfl)) (by decide) (fun K hK => ?_)
     refine goes_ Try.func47 (by kernel_rfl) rfl #[.agg #[.int .i64 ((rd_T61 l0 x5_1).f0), .int .i64 ((rd_T61 l0 x5_1).f1.f0), .int .i64 ((rd_T61 l0 x5_1).f1.f1), .int .i64 ((rd_T61 l0 x5_1).f2), .int .i64 ((rd_T61 l0 x5_1).f3.f0), .int .i64 ((rd_T61 l0 x5_1).f3.f1), .int .i64 ((rd_T61 l0 x5_1).f4.f0), .int .i64 ((rd_T61 l0 x5_1).f4.f1), .int .i64 ((rd_T61 l0 x5_1).f5), .int .i64 ((rd_T61 l0 x5_1).f6)], .agg #[.int .i64 ((rd_T61 l1 x5_1).f0), .int .i64 ((rd_T61 l1 x5_1).f1.f0), .int .i64 ((rd_T61 l1 x5_1).f1.f1), .int .i64 ((rd_T61 l1 x5_1).f2), .int .i64 ((rd_T61 l1 x5_1).f3.f0), .int .i64 ((rd_T61 l1 x5_1).f3.f1), .int .i64 ((rd_T61 l1 x5_1).f4.f0), .int .i64 ((rd_T61 l1 x5_1).f4.f1), .int .i64 ((rd_T61 l1 x5_1).f5), .int .i64 ((rd_T61 l1 x5_1).f6)]] (by rfl) rfl rfl (by (try simp only [List.map_toArray, List.map_cons, List.map_nil]); first | done | rfl | (simp only [List.length_drop, List.length_take]; rfl)) ?_
     with_reducible refine (laws_eqCred.calls ((rd_T61 l0 x5_1).f0) ((rd_T61 l0 x5_1).f1.f0) ((rd_T61 l0 x5_1).f1.f1) ((rd_T61 l0 x5_1).f2) ((rd_T61 l0 x5_1).f3.f0) ((rd_T61 l0 x5_1).f3.f1) ((rd_T61 l0 x5_1).f4.f0) ((rd_T61 l0 x5_1).f4.f1) ((rd_T61 l0 x5_1).f5) ((rd_T61 l0 x5_1).f6) ((rd_T61 l1 x5_1).f0) ((rd_T61 l1 x5_1).f1.f0) ((rd_T61 l1 x5_1).f1.f1) ((rd_T61 l1 x5_1).f2) ((rd_T61 l1 x5_1).f3.f0) ((rd_T61 l1 x5_1).f3.f1) ((rd_T61 l1 x5_1).f4.f0) ((rd_T61 l1 x5_1).f4.f1) ((rd_T61 l1 x5_1).f5) ((rd_T61 l1 x5_1).f6) t529 _ A7.out).mono ?_
     rintro e w10 ⟨rfl, hb⟩
     refine ⟨_, rfl, ?_⟩
     replace HB := hbs_ hb
     (try clear hb)
     (try clear hb2)
     (try clear hk)
     (try clear hi)
     refine hK.out _ _ ⟨(cb_ HB hw527_0 :), (cb_ HB hw527_1 :), (cb_ HB hw527_2 :), (cb_ HB hw527_3 :), (cb_ HB hw527_4 :), (cb_ HB hw527_5 :), (cb_ HB hw527_6 :), (cb_ HB hw527_7 :), (cb_ HB hw527_8 :), (cb_ HB hw527_9 :), (cb_ HB hw528_0 :), (cb_ HB hw528_1 :), (cb_ HB hw528_2 :), (cb_ HB hw528_3 :), (cb_ HB hw528_4 :), (cb_ HB hw528_5 :), (cb_ HB hw528_6 :), (cb_ HB hw528_7 :), (cb_ HB hw528_8 :), (cb_ HB hw528_9 :)⟩ (fun hHeld => ?_)
     clear hK K
     refine norm_ (a' := ?_) ?_ ?_
     rotate_left
     ·show Act.put _ (some 25) _ = _
      simp only [Act.put, List.setIfInBounds_toArray, List.set_cons_zero, List.set_cons_succ, i64_w, i32_w]
      rfl
     refine pureZ_ (i := 9) (some 26) (ba_ 10 1023) (ao_ HT_) ?_
     refine done_ (done_of HT_.out (by kernel_rfl)) ?_
     go_upto_if 26 with (fail)
     have H := HC8.out
     clear HC8
     by_cases c11 : t529 = true
     ·subst c11
      replace H := ite_t_ H
      have H' := aa_ H
      clear H
      go_wp2
      go_roundg k1
      case measure => have := HK1.out; omega
      case rel => exact ⟨(wrap64 (x5_1 + 1)), rf_, H', ⟨by have := HK1.out; omega⟩, ⟨bl_⟩⟩
     ·replace c11 := Bool.eq_false_iff.mpr c11
      subst c11
      replace H := ite_f_ H
      obtain rfl := Option.some.inj H
      go_wp2
      go_ret
      exact ⟨eq_, bl_⟩
    ·rw [if_neg c4] at H
     have c4b0 : decide (x5_1 < (l0.length : Int)) = false := decide_eq_false c4
     clear c4
     obtain rfl := Option.some.inj H
     go_wp2
     go_ret
     exact ⟨eq_, bl_⟩
 ·rw [if_neg c3] at H
  have c3b0 : ((l0.length : Int) == (l1.length : Int)) = false := beq_eq_false_iff_ne.mpr c3
  have c3b1 : ((l0.length : Int) != (l1.length : Int)) = true := bne_iff_ne.mpr c3
  have c3b2 : (l0.length == l1.length) = false := by first | simpa using c3 | (simp at c3 ⊢; omega)
  obtain rfl := Option.some.inj H
  go_enter Try.func31, Try.ntmps31
  go_wp2
  go_ret
  exact ⟨eq_, bl_⟩
def laws_eqFact.f (a0_0 : Int) (a0_1 : Int) (a0_2 : Int) (a1_0 : Int) (a1_1 : Int) (a1_2 : Int) : Option (Bool) := (laws_eqRole.f a0_0 a0_1 a1_0 a1_1).bind fun t532 => (if t532 = true then (if a0_2 = a1_2 then (some true) else (some false)) else (some false))
set_option maxHeartbeats 8000000 in
set_option maxRecDepth 100000 in
theorem laws_eqFact.calls (a0_0 : Int) (a0_1 : Int) (a0_2 : Int) (a1_0 : Int) (a1_1 : Int) (a1_2 : Int) (r : Bool) (w : World) (h : laws_eqFact.f a0_0 a0_1 a0_2 a1_0 a1_1 a1_2 = some r) :
  Calls Try.prog 49 #[.agg #[.int .i64 a0_0, .int .i64 a0_1, .int .i64 a0_2], .agg #[.int .i64 a1_0, .int .i64 a1_1, .int .i64 a1_2]] w fun e w' => e = .returned (.bool r) ∧ Below w.heap.size w w' := by
 have hu57 := Try.underlying57
 have hu55 := Try.underlying55
 have HB := aa_ (Below.refl w.heap.size w)
 have H : ((laws_eqRole.f a0_0 a0_1 a1_0 a1_1).bind fun t532 => (if t532 = true then (if a0_2 = a1_2 then (some true) else (some false)) else (some false))) = some r := h
 clear h
 obtain ⟨t532, A3, H⟩ := bindE_ H
 have HC4 := aa_ H
 clear H
 go_enter Try.func49, Try.ntmps49
 go_upto_if 10 with (first | ((with_reducible refine gD_ 2 rfl ?_); refine bx_ (N := 2) (cs := #[.int .i64 a0_0, .int .i64 a0_1, .int .i64 a0_2]) (t := 57) ?_; intro gb530 hg w5 hbox hb; have BK530 := aa_ (hbox); have GW530 := gs_ hg; have GE530 := gs_ hg; replace HB := hbs_ hb; clear hb hbox hg) | ((with_reducible refine gD_ 3 rfl ?_); refine bx_ (N := 3) (cs := #[.int .i64 a1_0, .int .i64 a1_1, .int .i64 a1_2]) (t := 57) ?_; intro gb531 hg w6 hbox hb; have BK531 := aa_ (hbox); have GW531 := gs_ hg; have GE531 := gs_ hg; replace HB := hbs_ hb; have NB530_531 := nl_ hg BK530; have NB531_530 := nr_ hg BK530; replace BK530 := bkb_ BK530 hb; clear hb hbox hg; have hnb7 := NB530_531.out; have hnc7 := NB531_530.out; obtain ⟨hcz8, hfz8⟩ := bcf_ BK530; obtain ⟨hcz9, hfz9⟩ := bcf_ BK531) | ((with_reducible refine gC_ 62 rfl ?_); refine goesC_ (some 9) Try.func62 #[.agg #[.int .i64 a0_0, .int .i64 a0_1], .agg #[.int .i64 a1_0, .int .i64 a1_1]] ?_; (with_reducible refine (laws_eqRole.calls a0_0 a0_1 a1_0 a1_1 t532 _ A3.out).mono ?_); rintro e w10 ⟨rfl, hb⟩; refine ⟨_, rfl, ?_⟩; replace BK530 := bkb_ BK530 hb; replace BK531 := bkb_ BK531 hb; replace HB := hbs_ hb; clear hb))
 (try simp only [Act.put, List.setIfInBounds_toArray, List.set_cons_zero, List.set_cons_succ])
 have H := HC4.out
 clear HC4
 by_cases c11 : t532 = true
 ·subst c11
  replace H := ite_t_ H
  by_cases c12 : a0_2 = a1_2
  ·rw [if_pos c12] at H
   have c12b0 : (a0_2 == a1_2) = true := beq_iff_eq.mpr c12
   have c12b1 : (a0_2 != a1_2) = false := bne_eq_false_iff_eq.mpr c12
   clear c12
   (first | rw [c12b0] | (simp only [i64_w, i32_w]; rw [c12b0]) | skip)
   obtain rfl := Option.some.inj H
   have hnb13 := NB530_531.out
   have hnc13 := NB531_530.out
   have hcz14 := blk_cell BK530.out
   have hfz14 := blk_frozen BK530.out
   have hcz15 := blk_cell BK531.out
   have hfz15 := blk_frozen BK531.out
   go_wp2
   go_ret
   exact ⟨eq_, bl_⟩
  ·rw [if_neg c12] at H
   have c12b0 : (a0_2 == a1_2) = false := beq_eq_false_iff_ne.mpr c12
   have c12b1 : (a0_2 != a1_2) = true := bne_iff_ne.mpr c12
   (first | rw [c12b0] | (simp only [i64_w, i32_w]; rw [c12b0]) | skip)
   obtain rfl := Option.some.inj H
   have hnb16 := NB530_531.out
   have hnc16 := NB531_530.out
   have hcz17 := blk_cell BK530.out
   have hfz17 := blk_frozen BK530.out
   have hcz18 := blk_cell BK531.out
   have hfz18 := blk_frozen BK531.out
   go_wp2
   go_ret
   exact ⟨eq_, bl_⟩
 ·replace c11 := Bool.eq_false_iff.mpr c11
  subst c11
  replace H := ite_f_ H
  obtain rfl := Option.some.inj H
  go_wp2
  go_ret
  exact ⟨eq_, bl_⟩
def laws_eqStep.f (k : Nat) (a0_0 : Int) (a0_1 : Int) (a0_2 : Int) (a0_3 : Int) (a0_4 : Int) (a0_5 : Int) (a0_6 : Int) (a0_7 : Int) (a0_8 : Int) (a0_9 : Int) (a0_10 : Int) (a0_11 : Int) (a0_12 : Int) (l0_13 : List Int) (a1_0 : Int) (a1_1 : Int) (a1_2 : Int) (a1_3 : Int) (a1_4 : Int) (a1_5 : Int) (a1_6 : Int) (a1_7 : Int) (a1_8 : Int) (a1_9 : Int) (a1_10 : Int) (a1_11 : Int) (a1_12 : Int) (l1_13 : List Int) : Option (Bool) := (laws_eqCred.f a0_0 a0_1 a0_2 a0_3 a0_4 a0_5 a0_6 a0_7 a0_8 a0_9 a1_0 a1_1 a1_2 a1_3 a1_4 a1_5 a1_6 a1_7 a1_8 a1_9).bind fun t535 => (if t535 = true then ((laws_eqFact.f a0_10 a0_11 a0_12 a1_10 a1_11 a1_12).bind fun t536 => (if t536 = true then ((laws_eqIntS.f k l0_13 l1_13).bind fun t537 => (if t537 = true then (some true) else (some false))) else (some false))) else (some false))
set_option maxHeartbeats 8000000 in
set_option maxRecDepth 100000 in
theorem laws_eqStep.calls (k : Nat) (a0_0 : Int) (a0_1 : Int) (a0_2 : Int) (a0_3 : Int) (a0_4 : Int) (a0_5 : Int) (a0_6 : Int) (a0_7 : Int) (a0_8 : Int) (a0_9 : Int) (a0_10 : Int) (a0_11 : Int) (a0_12 : Int) (A0_13 : Option Addr) (c0_13 : Nat) (l0_13 : List Int) (a1_0 : Int) (a1_1 : Int) (a1_2 : Int) (a1_3 : Int) (a1_4 : Int) (a1_5 : Int) (a1_6 : Int) (a1_7 : Int) (a1_8 : Int) (a1_9 : Int) (a1_10 : Int) (a1_11 : Int) (a1_12 : Int) (A1_13 : Option Addr) (c1_13 : Nat) (l1_13 : List Int) (r : Bool) (w : World) (hr0_13 : Kd.C (Kd.int .i64) w A0_13 l0_13.length l0_13) (hc0_13 : l0_13.length ≤ c0_13) (hr1_13 : Kd.C (Kd.int .i64) w A1_13 l1_13.length l1_13) (hc1_13 : l1_13.length ≤ c1_13) (h : laws_eqStep.f k a0_0 a0_1 a0_2 a0_3 a0_4 a0_5 a0_6 a0_7 a0_8 a0_9 a0_10 a0_11 a0_12 l0_13 a1_0 a1_1 a1_2 a1_3 a1_4 a1_5 a1_6 a1_7 a1_8 a1_9 a1_10 a1_11 a1_12 l1_13 = some r) :
  Calls Try.prog 74 #[.agg #[.int .i64 a0_0, .int .i64 a0_1, .int .i64 a0_2, .int .i64 a0_3, .int .i64 a0_4, .int .i64 a0_5, .int .i64 a0_6, .int .i64 a0_7, .int .i64 a0_8, .int .i64 a0_9, .int .i64 a0_10, .int .i64 a0_11, .int .i64 a0_12, .slice A0_13 l0_13.length c0_13], .agg #[.int .i64 a1_0, .int .i64 a1_1, .int .i64 a1_2, .int .i64 a1_3, .int .i64 a1_4, .int .i64 a1_5, .int .i64 a1_6, .int .i64 a1_7, .int .i64 a1_8, .int .i64 a1_9, .int .i64 a1_10, .int .i64 a1_11, .int .i64 a1_12, .slice A1_13 l1_13.length c1_13]] w fun e w' => e = .returned (.bool r) ∧ Below w.heap.size w w' := by
 have hu80 := Try.underlying80
 have hu61 := Try.underlying61
 have hu57 := Try.underlying57
 have HR0_13 := aa_ hr0_13
 have HC0_13 := aa_ hc0_13
 clear hr0_13 hc0_13
 have HR1_13 := aa_ hr1_13
 have HC1_13 := aa_ hc1_13
 clear hr1_13 hc1_13
 have HB := aa_ (Below.refl w.heap.size w)
 have H : ((laws_eqCred.f a0_0 a0_1 a0_2 a0_3 a0_4 a0_5 a0_6 a0_7 a0_8 a0_9 a1_0 a1_1 a1_2 a1_3 a1_4 a1_5 a1_6 a1_7 a1_8 a1_9).bind fun t535 => (if t535 = true then ((laws_eqFact.f a0_10 a0_11 a0_12 a1_10 a1_11 a1_12).bind fun t536 => (if t536 = true then ((laws_eqIntS.f k l0_13 l1_13).bind fun t537 => (if t537 = true then (some true) else (some false))) else (some false))) else (some false))) = some r := h
 clear h
 obtain ⟨t535, A3, H⟩ := bindE_ H
 have HC4 := aa_ H
 clear H
 go_enter Try.func74, Try.ntmps74
 go_upto_if 10 with (first | ((with_reducible refine gD_ 2 rfl ?_); refine bx_ (N := 2) (cs := #[.int .i64 a0_0, .int .i64 a0_1, .int .i64 a0_2, .int .i64 a0_3, .int .i64 a0_4, .int .i64 a0_5, .int .i64 a0_6, .int .i64 a0_7, .int .i64 a0_8, .int .i64 a0_9, .int .i64 a0_10, .int .i64 a0_11, .int .i64 a0_12, .slice A0_13 l0_13.length c0_13]) (t := 80) ?_; intro gb533 hg w5 hbox hb; have BK533 := aa_ (hbox); have GW533 := gs_ hg; have GE533 := gs_ hg; replace HB := hbs_ hb; clear hb hbox hg) | ((with_reducible refine gD_ 3 rfl ?_); refine bx_ (N := 3) (cs := #[.int .i64 a1_0, .int .i64 a1_1, .int .i64 a1_2, .int .i64 a1_3, .int .i64 a1_4, .int .i64 a1_5, .int .i64 a1_6, .int .i64 a1_7, .int .i64 a1_8, .int .i64 a1_9, .int .i64 a1_10, .int .i64 a1_11, .int .i64 a1_12, .slice A1_13 l1_13.length c1_13]) (t := 80) ?_; intro gb534 hg w6 hbox hb; have BK534 := aa_ (hbox); have GW534 := gs_ hg; have GE534 := gs_ hg; replace HB := hbs_ hb; have NB533_534 := nl_ hg BK533; have NB534_533 := nr_ hg BK533; replace BK533 := bkb_ BK533 hb; clear hb hbox hg; have hnb7 := NB533_534.out; have hnc7 := NB534_533.out; obtain ⟨hcz8, hfz8⟩ := bcf_ BK533; obtain ⟨hcz9, hfz9⟩ := bcf_ BK534) | ((with_reducible refine gC_ 47 rfl ?_); refine goesC_ (some 9) Try.func47 #[.agg #[.int .i64 a0_0, .int .i64 a0_1, .int .i64 a0_2, .int .i64 a0_3, .int .i64 a0_4, .int .i64 a0_5, .int .i64 a0_6, .int .i64 a0_7, .int .i64 a0_8, .int .i64 a0_9], .agg #[.int .i64 a1_0, .int .i64 a1_1, .int .i64 a1_2, .int .i64 a1_3, .int .i64 a1_4, .int .i64 a1_5, .int .i64 a1_6, .int .i64 a1_7, .int .i64 a1_8, .int .i64 a1_9]] ?_; (with_reducible refine (laws_eqCred.calls a0_0 a0_1 a0_2 a0_3 a0_4 a0_5 a0_6 a0_7 a0_8 a0_9 a1_0 a1_1 a1_2 a1_3 a1_4 a1_5 a1_6 a1_7 a1_8 a1_9 t535 _ A3.out).mono ?_); rintro e w10 ⟨rfl, hb⟩; refine ⟨_, rfl, ?_⟩; replace BK533 := bkb_ BK533 hb; replace BK534 := bkb_ BK534 hb; replace HB := hbs_ hb; clear hb))
 (try simp only [Act.put, List.setIfInBounds_toArray, List.set_cons_zero, List.set_cons_succ])
 have H := HC4.out
 clear HC4
 by_cases c11 : t535 = true
 ·subst c11
  replace H := ite_t_ H
  obtain ⟨t536, A12, H⟩ := bindE_ H
  have HC13 := aa_ H
  clear H
  have hnb14 := NB533_534.out
  have hnc14 := NB534_533.out
  have hcz15 := blk_cell BK533.out
  have hfz15 := blk_frozen BK533.out
  have hcz16 := blk_cell BK534.out
  have hfz16 := blk_frozen BK534.out
  go_upto_if 16 with (first | ((with_reducible refine gC_ 49 rfl ?_); refine goesC_ (some 15) Try.func49 #[.agg #[.int .i64 a0_10, .int .i64 a0_11, .int .i64 a0_12], .agg #[.int .i64 a1_10, .int .i64 a1_11, .int .i64 a1_12]] ?_; (with_reducible refine (laws_eqFact.calls a0_10 a0_11 a0_12 a1_10 a1_11 a1_12 t536 _ A12.out).mono ?_); rintro e w17 ⟨rfl, hb⟩; refine ⟨_, rfl, ?_⟩; replace BK533 := bkb_ BK533 hb; replace BK534 := bkb_ BK534 hb; replace HB := hbs_ hb; clear hb))
  (try simp only [Act.put, List.setIfInBounds_toArray, List.set_cons_zero, List.set_cons_succ])
  have H := HC13.out
  clear HC13
  by_cases c18 : t536 = true
  ·subst c18
   replace H := ite_t_ H
   obtain ⟨t537, A19, H⟩ := bindE_ H
   have HC20 := aa_ H
   clear H
   have hnb21 := NB533_534.out
   have hnc21 := NB534_533.out
   have hcz22 := blk_cell BK533.out
   have hfz22 := blk_frozen BK533.out
   have hcz23 := blk_cell BK534.out
   have hfz23 := blk_frozen BK534.out
   go_upto_if 22 with (first | ((with_reducible refine gC_ 30 rfl ?_); refine goesC_ (some 21) Try.func30 #[.slice A0_13 l0_13.length c0_13, .slice A1_13 l1_13.length c1_13] ?_; (with_reducible refine (laws_eqIntS.calls k _ _ l0_13 _ _ l1_13 t537 _ ?side1 ?side2 ?side3 ?side4 A19.out).mono ?_); (case side1 => repeat (first | exact (Kd.C_below HR0_13.out HB.out) | (with_reducible refine Kd.C_alloc ?_ _) | (with_reducible refine Kd.C_drewN ?_ _) | (with_reducible refine Kd.C_drew ?_))); (case side2 => exact HC0_13.out); (case side3 => repeat (first | exact (Kd.C_below HR1_13.out HB.out) | (with_reducible refine Kd.C_alloc ?_ _) | (with_reducible refine Kd.C_drewN ?_ _) | (with_reducible refine Kd.C_drew ?_))); (case side4 => exact HC1_13.out); rintro e w' ⟨rfl, ⟨nd, rfl⟩⟩; refine ⟨_, rfl, ?_⟩))
   (try simp only [Act.put, List.setIfInBounds_toArray, List.set_cons_zero, List.set_cons_succ])
   have H := HC20.out
   clear HC20
   by_cases c24 : t537 = true
   ·subst c24
    replace H := ite_t_ H
    obtain rfl := Option.some.inj H
    go_wp2
    go_ret
    exact ⟨eq_, bl_⟩
   ·replace c24 := Bool.eq_false_iff.mpr c24
    subst c24
    replace H := ite_f_ H
    obtain rfl := Option.some.inj H
    go_wp2
    go_ret
    exact ⟨eq_, bl_⟩
  ·replace c18 := Bool.eq_false_iff.mpr c18
   subst c18
   replace H := ite_f_ H
   obtain rfl := Option.some.inj H
   go_wp2
   go_ret
   exact ⟨eq_, bl_⟩
 ·replace c11 := Bool.eq_false_iff.mpr c11
  subst c11
  replace H := ite_f_ H
  obtain rfl := Option.some.inj H
  go_wp2
  go_ret
  exact ⟨eq_, bl_⟩
def laws_eqStepS.l0 : Nat → List (S80) → List (S80) → Int → Option (Bool)
 | 0, _, _, _ => none
 | k + 1, x0, x1, x5 => if x5 < (x0.length : Int) then (if 0 ≤ x5 then (if x5 < (x1.length : Int) then ((laws_eqStep.f k ((rd_T80 x0 x5).f0.f0) ((rd_T80 x0 x5).f0.f1.f0) ((rd_T80 x0 x5).f0.f1.f1) ((rd_T80 x0 x5).f0.f2) ((rd_T80 x0 x5).f0.f3.f0) ((rd_T80 x0 x5).f0.f3.f1) ((rd_T80 x0 x5).f0.f4.f0) ((rd_T80 x0 x5).f0.f4.f1) ((rd_T80 x0 x5).f0.f5) ((rd_T80 x0 x5).f0.f6) ((rd_T80 x0 x5).f1.f0.f0) ((rd_T80 x0 x5).f1.f0.f1) ((rd_T80 x0 x5).f1.f1) ((rd_T80 x0 x5).f2) ((rd_T80 x1 x5).f0.f0) ((rd_T80 x1 x5).f0.f1.f0) ((rd_T80 x1 x5).f0.f1.f1) ((rd_T80 x1 x5).f0.f2) ((rd_T80 x1 x5).f0.f3.f0) ((rd_T80 x1 x5).f0.f3.f1) ((rd_T80 x1 x5).f0.f4.f0) ((rd_T80 x1 x5).f0.f4.f1) ((rd_T80 x1 x5).f0.f5) ((rd_T80 x1 x5).f0.f6) ((rd_T80 x1 x5).f1.f0.f0) ((rd_T80 x1 x5).f1.f0.f1) ((rd_T80 x1 x5).f1.f1) ((rd_T80 x1 x5).f2)).bind fun t540 => (if t540 = true then (laws_eqStepS.l0 k x0 x1 (wrap64 (x5 + 1))) else (some false))) else (none)) else (none)) else (some true)
def laws_eqStepS.f (k : Nat) (l0 : List (S80)) (l1 : List (S80)) : Option (Bool) := if (l0.length : Int) = (l1.length : Int) then (laws_eqStepS.l0 k l0 l1 0) else (some false)
def laws_eqStepS.T6 : Bool × List (List Nat × List Nat) := (true, [([], []), ([], []), ([0, 1], [0, 1]), ([2], [2]), ([], []), ([], []), ([4, 5], [4, 5]), ([6], [6]), ([3, 7], [3, 7]), ([8], [8])])
def laws_eqStepS.B6 : List Nat := [0, 0, 3, 7, 0, 0, 48, 112, 255, 511]
theorem laws_eqStepS.tab6 : rtab .any (opsOf Try.f63 6) = laws_eqStepS.T6 := by kernel_rfl
theorem laws_eqStepS.bits6 : waitsOk laws_eqStepS.T6.2 laws_eqStepS.B6 = true := by kernel_rfl
set_option maxHeartbeats 8000000 in
set_option maxRecDepth 100000 in
theorem laws_eqStepS.calls (k : Nat) (A0 : Option Addr) (c0 : Nat) (l0 : List (S80)) (A1 : Option Addr) (c1 : Nat) (l1 : List (S80)) (r : Bool) (w : World) (hr0 : Kd.C k80 w A0 l0.length l0) (hc0 : l0.length ≤ c0) (hr1 : Kd.C k80 w A1 l1.length l1) (hc1 : l1.length ≤ c1) (h : laws_eqStepS.f k l0 l1 = some r) :
  Calls Try.prog 63 #[.slice A0 l0.length c0, .slice A1 l1.length c1] w fun e w' => e = .returned (.bool r) ∧ Below w.heap.size w w' := by
 have hu80 := Try.underlying80
 have HR0 := aa_ hr0
 have HC0 := aa_ hc0
 clear hr0 hc0
 have HR1 := aa_ hr1
 have HC1 := aa_ hc1
 clear hr1 hc1
 have HB := aa_ (Below.refl w.heap.size w)
 have H : (if (l0.length : Int) = (l1.length : Int) then (laws_eqStepS.l0 k l0 l1 0) else (some false)) = some r := h
 clear h
 by_cases c3 : (l0.length : Int) = (l1.length : Int)
 ·rw [if_pos c3] at H
  have c3b0 : ((l0.length : Int) == (l1.length : Int)) = true := beq_iff_eq.mpr c3
  have c3b1 : ((l0.length : Int) != (l1.length : Int)) = false := bne_eq_false_iff_eq.mpr c3
  have c3b2 : (l0.length == l1.length) = true := by first | simpa using c3 | (simp at c3 ⊢; omega)
  clear c3
  have H' := aa_ H
  clear H
  go_enter Try.func63, Try.ntmps63
  go_wp2
  go_loopg [5] k (fun kq v5 w' => ∃ (x5_1 : Int), v5 = .int .i64 x5_1 ∧ Aside0 (laws_eqStepS.l0 kq l0 l1 x5_1 = some r) ∧ Aside0 (kq ≤ k) ∧ Aside0 (Below w.heap.size w w'))
  case atStart => exact ⟨(0), rf_, H', ⟨Nat.le_refl _⟩, ⟨bl_⟩⟩
  case round =>
   clear H'
   try clear c1
   try clear p2
   try clear c3
   try clear c3b0
   try clear c3b1
   try clear c3b2
   obtain ⟨x5_1, rfl, HA, HK1, HB⟩ := hrel
   cases gk with
   | zero => exact absurd HA.out (by simp [laws_eqStepS.l0])
   | succ k1 =>
    have H := HA.out
    clear HA
    simp only [laws_eqStepS.l0] at H
    by_cases c4 : x5_1 < (l0.length : Int)
    ·rw [if_pos c4] at H
     have c4b0 : decide (x5_1 < (l0.length : Int)) = true := decide_eq_true c4
     clear c4
     obtain ⟨c5b0, H⟩ := ifd_ H
     obtain ⟨c6b0, H⟩ := ifd_ H
     obtain ⟨t540, A7, H⟩ := bindE_ H
     have HC8 := aa_ H
     clear H
     try go_wp2
     replace HB := aa_ (below_drew1 HB.out)
     have p538 : 0 ≤ (x5_1 : Int) := od_
     have q538 : x5_1 < (l0.length : Int) := od_
     obtain ⟨ad538, A538_13, c538_13, e538, hx538_0, hx538_1, hx538_2, hx538_3, hx538_4, hx538_5, hx538_6, hx538_7, hx538_8, hx538_9, hx538_10, hx538_11, hx538_12, hx538_13, hl538_13, hi538_13⟩ := at_T80 HR0.out x5_1 p538 q538
     have hw538_13 := hx538_13
     have hw538_12 := hx538_12
     have hw538_11 := hx538_11
     have hw538_10 := hx538_10
     have hw538_9 := hx538_9
     have hw538_8 := hx538_8
     have hw538_7 := hx538_7
     have hw538_6 := hx538_6
     have hw538_5 := hx538_5
     have hw538_4 := hx538_4
     have hw538_3 := hx538_3
     have hw538_2 := hx538_2
     have hw538_1 := hx538_1
     have hw538_0 := hx538_0
     cases e538
     replace hx538_0 := cb_ HB hx538_0
     replace hx538_1 := cb_ HB hx538_1
     replace hx538_2 := cb_ HB hx538_2
     replace hx538_3 := cb_ HB hx538_3
     replace hx538_4 := cb_ HB hx538_4
     replace hx538_5 := cb_ HB hx538_5
     replace hx538_6 := cb_ HB hx538_6
     replace hx538_7 := cb_ HB hx538_7
     replace hx538_8 := cb_ HB hx538_8
     replace hx538_9 := cb_ HB hx538_9
     replace hx538_10 := cb_ HB hx538_10
     replace hx538_11 := cb_ HB hx538_11
     replace hx538_12 := cb_ HB hx538_12
     replace hx538_13 := cb_ HB hx538_13
     have HR538_13 := aa_ hi538_13
     have HC538_13 := aa_ hl538_13
     clear hi538_13 hl538_13
     replace p538 := eq_true p538
     replace q538 := eq_true q538
     have p539 : 0 ≤ (x5_1 : Int) := od_
     have q539 : x5_1 < (l1.length : Int) := od_
     obtain ⟨ad539, A539_13, c539_13, e539, hx539_0, hx539_1, hx539_2, hx539_3, hx539_4, hx539_5, hx539_6, hx539_7, hx539_8, hx539_9, hx539_10, hx539_11, hx539_12, hx539_13, hl539_13, hi539_13⟩ := at_T80 HR1.out x5_1 p539 q539
     have hw539_13 := hx539_13
     have hw539_12 := hx539_12
     have hw539_11 := hx539_11
     have hw539_10 := hx539_10
     have hw539_9 := hx539_9
     have hw539_8 := hx539_8
     have hw539_7 := hx539_7
     have hw539_6 := hx539_6
     have hw539_5 := hx539_5
     have hw539_4 := hx539_4
     have hw539_3 := hx539_3
     have hw539_2 := hx539_2
     have hw539_1 := hx539_1
     have hw539_0 := hx539_0
     cases e539
     replace hx539_0 := cb_ HB hx539_0
     replace hx539_1 := cb_ HB hx539_1
     replace hx539_2 := cb_ HB hx539_2
     replace hx539_3 := cb_ HB hx539_3
     replace hx539_4 := cb_ HB hx539_4
     replace hx539_5 := cb_ HB hx539_5
     replace hx539_6 := cb_ HB hx539_6
     replace hx539_7 := cb_ HB hx539_7
     replace hx539_8 := cb_ HB hx539_8
     replace hx539_9 := cb_ HB hx539_9
     replace hx539_10 := cb_ HB hx539_10
     replace hx539_11 := cb_ HB hx539_11
     replace hx539_12 := cb_ HB hx539_12
     replace hx539_13 := cb_ HB hx539_13
     have HR539_13 := aa_ hi539_13
     have HC539_13 := aa_ hl539_13
     clear hi539_13 hl539_13
     replace p539 := eq_true p539
     replace q539 := eq_true q539
     refine start_ (n := 10) (S := fun w' => w'.cell? (ad538.add ((x5_1).toNat * 14)) = some (.int .i64 ((rd_T80 l0 x5_1).f0.f0)) ∧ w'.cell? ⟨(ad538.add ((x5_1).toNat * 14)).block, (ad538.add ((x5_1).toNat * 14)).off + 1, none⟩ = some (.int .i64 ((rd_T80 l0 x5_1).f0.f1.f0)) ∧ w'.cell? ⟨(ad538.add ((x5_1).toNat * 14)).block, (ad538.add ((x5_1).toNat * 14)).off + 2, none⟩ = some (.int .i64 ((rd_T80 l0 x5_1).f0.f1.f1)) ∧ w'.cell? ⟨(ad538.add ((x5_1).toNat * 14)).block, (ad538.add ((x5_1).toNat * 14)).off + 3, none⟩ = some (.int .i64 ((rd_T80 l0 x5_1).f0.f2)) ∧ w'.cell? ⟨(ad538.add ((x5_1).toNat * 14)).block, (ad538.add ((x5_1).toNat * 14)).off + 4, none⟩ = some (.int .i64 ((rd_T80 l0 x5_1).f0.f3.f0)) ∧ w'.cell? ⟨(ad538.add ((x5_1).toNat * 14)).block, (ad538.add ((x5_1).toNat * 14)).off + 5, none⟩ = some (.int .i64 ((rd_T80 l0 x5_1).f0.f3.f1)) ∧ w'.cell? ⟨(ad538.add ((x5_1).toNat * 14)).block, (ad538.add ((x5_1).toNat * 14)).off + 6, none⟩ = some (.int .i64 ((rd_T80 l0 x5_1).f0.f4.f0)) ∧ w'.cell? ⟨(ad538.add ((x5_1).toNat * 14)).block, (ad538.add ((x5_1).toNat * 14)).off + 7, none⟩ = some (.int .i64 ((rd_T80 l0 x5_1).f0.f4.f1)) ∧ w'.cell? ⟨(ad538.add ((x5_1).toNat * 14)).block, (ad538.add ((x5_1).toNat * 14)).off + 8, none⟩ = some (.int .i64 ((rd_T80 l0 x5_1).f0.f5)) ∧ w'.cell? ⟨(ad538.add ((x5_1).toNat * 14)).block, (ad538.add ((x5_1).toNat * 14)).off + 9, none⟩ = some (.int .i64 ((rd_T80 l0 x5_1).f0.f6)) ∧ w'.cell? ⟨(ad538.add ((x5_1).toNat * 14)).block, (ad538.add ((x5_1).toNat * 14)).off + 10, none⟩ = some (.int .i64 ((rd_T80 l0 x5_1).f1.f0.f0)) ∧ w'.cell? ⟨(ad538.add ((x5_1).toNat * 14)).block, (ad538.add ((x5_1).toNat * 14)).off + 11, none⟩ = some (.int .i64 ((rd_T80 l0 x5_1).f1.f0.f1)) ∧ w'.cell? ⟨(ad538.add ((x5_1).toNat * 14)).block, (ad538.add ((x5_1).toNat * 14)).off + 12, none⟩ = some (.int .i64 ((rd_T80 l0 x5_1).f1.f1)) ∧ w'.cell? ⟨(ad538.add ((x5_1).toNat * 14)).block, (ad538.add ((x5_1).toNat * 14)).off + 13, none⟩ = some (.slice A538_13 ((rd_T80 l0 x5_1).f2).length c538_13) ∧ w'.cell? (ad539.add ((x5_1).toNat * 14)) = some (.int .i64 ((rd_T80 l1 x5_1).f0.f0)) ∧ w'.cell? ⟨(ad539.add ((x5_1).toNat * 14)).block, (ad539.add ((x5_1).toNat * 14)).off + 1, none⟩ = some (.int .i64 ((rd_T80 l1 x5_1).f0.f1.f0)) ∧ w'.cell? ⟨(ad539.add ((x5_1).toNat * 14)).block, (ad539.add ((x5_1).toNat * 14)).off + 2, none⟩ = some (.int .i64 ((rd_T80 l1 x5_1).f0.f1.f1)) ∧ w'.cell? ⟨(ad539.add ((x5_1).toNat * 14)).block, (ad539.add ((x5_1).toNat * 14)).off + 3, none⟩ = some (.int .i64 ((rd_T80 l1 x5_1).f0.f2)) ∧ w'.cell? ⟨(ad539.add ((x5_1).toNat * 14)).block, (ad539.add ((x5_1).toNat * 14)).off + 4, none⟩ = some (.int .i64 ((rd_T80 l1 x5_1).f0.f3.f0)) ∧ w'.cell? ⟨(ad539.add ((x5_1).toNat * 14)).block, (ad539.add ((x5_1).toNat * 14)).off + 5, none⟩ = some (.int .i64 ((rd_T80 l1 x5_1).f0.f3.f1)) ∧ w'.cell? ⟨(ad539.add ((x5_1).toNat * 14)).block, (ad539.add ((x5_1).toNat * 14)).off + 6, none⟩ = some (.int .i64 ((rd_T80 l1 x5_1).f0.f4.f0)) ∧ w'.cell? ⟨(ad539.add ((x5_1).toNat * 14)).block, (ad539.add ((x5_1).toNat * 14)).off + 7, none⟩ = some (.int .i64 ((rd_T80 l1 x5_1).f0.f4.f1)) ∧ w'.cell? ⟨(ad539.add ((x5_1).toNat * 14)).block, (ad539.add ((x5_1).toNat * 14)).off + 8, none⟩ = some (.int .i64 ((rd_T80 l1 x5_1).f0.f5)) ∧ w'.cell? ⟨(ad539.add ((x5_1).toNat * 14)).block, (ad539.add ((x5_1).toNat * 14)).off + 9, none⟩ = some (.int .i64 ((rd_T80 l1 x5_1).f0.f6)) ∧ w'.cell? ⟨(ad539.add ((x5_1).toNat * 14)).block, (ad539.add ((x5_1).toNat * 14)).off + 10, none⟩ = some (.int .i64 ((rd_T80 l1 x5_1).f1.f0.f0)) ∧ w'.cell? ⟨(ad539.add ((x5_1).toNat * 14)).block, (ad539.add ((x5_1).toNat * 14)).off + 11, none⟩ = some (.int .i64 ((rd_T80 l1 x5_1).f1.f0.f1)) ∧ w'.cell? ⟨(ad539.add ((x5_1).toNat * 14)).block, (ad539.add ((x5_1).toNat * 14)).off + 12, none⟩ = some (.int .i64 ((rd_T80 l1 x5_1).f1.f1)) ∧ w'.cell? ⟨(ad539.add ((x5_1).toNat * 14)).block, (ad539.add ((x5_1).toNat * 14)).off + 13, none⟩ = some (.slice A539_13 ((rd_T80 l1 x5_1).f2).length c539_13)) (ds := []) (ba_ 10 0) (by kernel_rfl) rfl rfl ⟨(cb_ HB hw538_0 :), (cb_ HB hw538_1 :), (cb_ HB hw538_2 :), (cb_ HB hw538_3 :), (cb_ HB hw538_4 :), (cb_ HB hw538_5 :), (cb_ HB hw538_6 :), (cb_ HB hw538_7 :), (cb_ HB hw538_8 :), (cb_ HB hw538_9 :), (cb_ HB hw538_10 :), (cb_ HB hw538_11 :), (cb_ HB hw538_12 :), (cb_ HB hw538_13 :), (cb_ HB hw539_0 :), (cb_ HB hw539_1 :), (cb_ HB hw539_2 :), (cb_ HB hw539_3 :), (cb_ HB hw539_4 :), (cb_ HB hw539_5 :), (cb_ HB hw539_6 :), (cb_ HB hw539_7 :), (cb_ HB hw539_8 :), (cb_ HB hw539_9 :), (cb_ HB hw539_10 :), (cb_ HB hw539_11 :), (cb_ HB hw539_12 :), (cb_ HB hw539_13 :)⟩ (fun hHeld => ?_); refine with_tabW laws_eqStepS.tab6 laws_eqStepS.bits6 (fun HT_ HW_ => ?_)
     generalize wr.drew = w9 at HB HR538_13 HR539_13 hx538_0 hx538_1 hx538_10 hx538_11 hx538_12 hx538_13 hx538_2 hx538_3 hx538_4 hx538_5 hx538_6 hx538_7 hx538_8 hx538_9 hx539_0 hx539_1 hx539_10 hx539_11 hx539_12 hx539_13 hx539_2 hx539_3 hx539_4 hx539_5 hx539_6 hx539_7 hx539_8 hx539_9 hHeld ⊢
     refine pureZ_ (i := 0) (some 17) (ba_ 10 1) (ao_ HT_) ?_
     refine pureZ_ (i := 1) (some 18) (ba_ 10 3) (ao_ HT_) ?_
     refine pureZ_ (i := 2) (some 19) (ba_ 10 7) (ao_ HT_) ?_
     refine pureZ_ (i := 4) (some 21) (ba_ 10 23) (ao_ HT_) ?_
     refine pureZ_ (i := 5) (some 22) (ba_ 10 55) (ao_ HT_) ?_
     refine pureZ_ (i := 6) (some 23) (ba_ 10 119) (ao_ HT_) ?_
     refine takeZ_ (i := 3) (some 20) (ba_ 10 127) (take_ofW HT_.out HW_.out (by kernel_rfl)) hHeld ?_
     refine takeZ_ (i := 7) (some 24) (ba_ 10 255) (take_ofW HT_.out HW_.out (by kernel_rfl)) hHeld ?_
     refine one_ (i := 8) (N := some 25) (ba_ 10 511) rfl rfl (one_of HT_.out (by kernel_rfl)) (by decide) (fun K hK => ?_)
     refine goes_ Try.func74 (by kernel_rfl) rfl #[.agg #[.int .i64 ((rd_T80 l0 x5_1).f0.f0), .int .i64 ((rd_T80 l0 x5_1).f0.f1.f0), .int .i64 ((rd_T80 l0 x5_1).f0.f1.f1), .int .i64 ((rd_T80 l0 x5_1).f0.f2), .int .i64 ((rd_T80 l0 x5_1).f0.f3.f0), .int .i64 ((rd_T80 l0 x5_1).f0.f3.f1), .int .i64 ((rd_T80 l0 x5_1).f0.f4.f0), .int .i64 ((rd_T80 l0 x5_1).f0.f4.f1), .int .i64 ((rd_T80 l0 x5_1).f0.f5), .int .i64 ((rd_T80 l0 x5_1).f0.f6), .int .i64 ((rd_T80 l0 x5_1).f1.f0.f0), .int .i64 ((rd_T80 l0 x5_1).f1.f0.f1), .int .i64 ((rd_T80 l0 x5_1).f1.f1), .slice A538_13 ((rd_T80 l0 x5_1).f2).length c538_13], .agg #[.int .i64 ((rd_T80 l1 x5_1).f0.f0), .int .i64 ((rd_T80 l1 x5_1).f0.f1.f0), .int .i64 ((rd_T80 l1 x5_1).f0.f1.f1), .int .i64 ((rd_T80 l1 x5_1).f0.f2), .int .i64 ((rd_T80 l1 x5_1).f0.f3.f0), .int .i64 ((rd_T80 l1 x5_1).f0.f3.f1), .int .i64 ((rd_T80 l1 x5_1).f0.f4.f0), .int .i64 ((rd_T80 l1 x5_1).f0.f4.f1), .int .i64 ((rd_T80 l1 x5_1).f0.f5), .int .i64 ((rd_T80 l1 x5_1).f0.f6), .int .i64 ((rd_T80 l1 x5_1).f1.f0.f0), .int .i64 ((rd_T80 l1 x5_1).f1.f0.f1), .int .i64 ((rd_T80 l1 x5_1).f1.f1), .slice A539_13 ((rd_T80 l1 x5_1).f2).length c539_13]] (by rfl) rfl rfl (by (try simp only [List.map_toArray, List.map_cons, List.map_nil]); first | done | rfl | (simp only [List.length_drop, List.length_take]; rfl)) ?_
     with_reducible refine (laws_eqStep.calls k1 ((rd_T80 l0 x5_1).f0.f0) ((rd_T80 l0 x5_1).f0.f1.f0) ((rd_T80 l0 x5_1).f0.f1.f1) ((rd_T80 l0 x5_1).f0.f2) ((rd_T80 l0 x5_1).f0.f3.f0) ((rd_T80 l0 x5_1).f0.f3.f1) ((rd_T80 l0 x5_1).f0.f4.f0) ((rd_T80 l0 x5_1).f0.f4.f1) ((rd_T80 l0 x5_1).f0.f5) ((rd_T80 l0 x5_1).f0.f6) ((rd_T80 l0 x5_1).f1.f0.f0) ((rd_T80 l0 x5_1).f1.f0.f1) ((rd_T80 l0 x5_1).f1.f1) _ _ ((rd_T80 l0 x5_1).f2) ((rd_T80 l1 x5_1).f0.f0) ((rd_T80 l1 x5_1).f0.f1.f0) ((rd_T80 l1 x5_1).f0.f1.f1) ((rd_T80 l1 x5_1).f0.f2) ((rd_T80 l1 x5_1).f0.f3.f0) ((rd_T80 l1 x5_1).f0.f3.f1) ((rd_T80 l1 x5_1).f0.f4.f0) ((rd_T80 l1 x5_1).f0.f4.f1) ((rd_T80 l1 x5_1).f0.f5) ((rd_T80 l1 x5_1).f0.f6) ((rd_T80 l1 x5_1).f1.f0.f0) ((rd_T80 l1 x5_1).f1.f0.f1) ((rd_T80 l1 x5_1).f1.f1) _ _ ((rd_T80 l1 x5_1).f2) t540 _ ?side1 ?side2 ?side3 ?side4 A7.out).mono ?_
     (case side1 => repeat (first | exact (Kd.C_below HR538_13.out HB.out) | (with_reducible refine Kd.C_alloc ?_ _) | (with_reducible refine Kd.C_drewN ?_ _) | (with_reducible refine Kd.C_drew ?_)))
     (case side2 => exact HC538_13.out)
     (case side3 => repeat (first | exact (Kd.C_below HR539_13.out HB.out) | (with_reducible refine Kd.C_alloc ?_ _) | (with_reducible refine Kd.C_drewN ?_ _) | (with_reducible refine Kd.C_drew ?_)))
     (case side4 => exact HC539_13.out)
     rintro e w10 ⟨rfl, hb⟩
     refine ⟨_, rfl, ?_⟩
     replace HB := hbs_ hb
     (try clear hb)
     (try clear hb2)
     (try clear hk)
     (try clear hi)
     refine hK.out _ _ ⟨(cb_ HB hw538_0 :), (cb_ HB hw538_1 :), (cb_ HB hw538_2 :), (cb_ HB hw538_3 :), (cb_ HB hw538_4 :), (cb_ HB hw538_5 :), (cb_ HB hw538_6 :), (cb_ HB hw538_7 :), (cb_ HB hw538_8 :), (cb_ HB hw538_9 :), (cb_ HB hw538_10 :), (cb_ HB hw538_11 :), (cb_ HB hw538_12 :), (cb_ HB hw538_13 :), (cb_ HB hw539_0 :), (cb_ HB hw539_1 :), (cb_ HB hw539_2 :), (cb_ HB hw539_3 :), (cb_ HB hw539_4 :), (cb_ HB hw539_5 :), (cb_ HB hw539_6 :), (cb_ HB hw539_7 :), (cb_ HB hw539_8 :), (cb_ HB hw539_9 :), (cb_ HB hw539_10 :), (cb_ HB hw539_11 :), (cb_ HB hw539_12 :), (cb_ HB hw539_13 :)⟩ (fun hHeld => ?_)
     clear hK K
     refine norm_ (a' := ?_) ?_ ?_
     rotate_left
     ·show Act.put _ (some 25) _ = _
      simp only [Act.put, List.setIfInBounds_toArray, List.set_cons_zero, List.set_cons_succ, i64_w, i32_w]
      rfl
     refine pureZ_ (i := 9) (some 26) (ba_ 10 1023) (ao_ HT_) ?_
     refine done_ (done_of HT_.out (by kernel_rfl)) ?_
     go_upto_if 26 with (fail)
     have H := HC8.out
     clear HC8
     by_cases c11 : t540 = true
     ·subst c11
      replace H := ite_t_ H
      have H' := aa_ H
      clear H
      go_wp2
      go_roundg k1
      case measure => have := HK1.out; omega
      case rel => exact ⟨(wrap64 (x5_1 + 1)), rf_, H', ⟨by have := HK1.out; omega⟩, ⟨bl_⟩⟩
     ·replace c11 := Bool.eq_false_iff.mpr c11
      subst c11
      replace H := ite_f_ H
      obtain rfl := Option.some.inj H
      go_wp2
      go_ret
      exact ⟨eq_, bl_⟩
    ·rw [if_neg c4] at H
     have c4b0 : decide (x5_1 < (l0.length : Int)) = false := decide_eq_false c4
     clear c4
     obtain rfl := Option.some.inj H
     go_wp2
     go_ret
     exact ⟨eq_, bl_⟩
 ·rw [if_neg c3] at H
  have c3b0 : ((l0.length : Int) == (l1.length : Int)) = false := beq_eq_false_iff_ne.mpr c3
  have c3b1 : ((l0.length : Int) != (l1.length : Int)) = true := bne_iff_ne.mpr c3
  have c3b2 : (l0.length == l1.length) = false := by first | simpa using c3 | (simp at c3 ⊢; omega)
  obtain rfl := Option.some.inj H
  go_enter Try.func63, Try.ntmps63
  go_wp2
  go_ret
  exact ⟨eq_, bl_⟩
def laws_eqAnswer.f (k : Nat) (a0_0 : Bool) (l0_1 : List (S80)) (a0_2 : Int) (a0_3 : Bool) (a0_4 : Bool) (a1_0 : Bool) (l1_1 : List (S80)) (a1_2 : Int) (a1_3 : Bool) (a1_4 : Bool) : Option (Bool) := if (a0_0 != a1_0) = true then (some false) else ((laws_eqStepS.f k l0_1 l1_1).bind fun t543 => (if t543 = true then (if a0_2 = a1_2 then (if (a0_3 != a1_3) = true then (some false) else (if (a0_4 != a1_4) = true then (some false) else (some true))) else (some false)) else (some false)))
set_option maxHeartbeats 8000000 in
set_option maxRecDepth 100000 in
theorem laws_eqAnswer.calls (k : Nat) (a0_0 : Bool) (A0_1 : Option Addr) (c0_1 : Nat) (l0_1 : List (S80)) (a0_2 : Int) (a0_3 : Bool) (a0_4 : Bool) (a1_0 : Bool) (A1_1 : Option Addr) (c1_1 : Nat) (l1_1 : List (S80)) (a1_2 : Int) (a1_3 : Bool) (a1_4 : Bool) (r : Bool) (w : World) (hr0_1 : Kd.C k80 w A0_1 l0_1.length l0_1) (hc0_1 : l0_1.length ≤ c0_1) (hr1_1 : Kd.C k80 w A1_1 l1_1.length l1_1) (hc1_1 : l1_1.length ≤ c1_1) (h : laws_eqAnswer.f k a0_0 l0_1 a0_2 a0_3 a0_4 a1_0 l1_1 a1_2 a1_3 a1_4 = some r) :
  Calls Try.prog 48 #[.agg #[.bool a0_0, .slice A0_1 l0_1.length c0_1, .int .i64 a0_2, .bool a0_3, .bool a0_4], .agg #[.bool a1_0, .slice A1_1 l1_1.length c1_1, .int .i64 a1_2, .bool a1_3, .bool a1_4]] w fun e w' => e = .returned (.bool r) ∧ Below w.heap.size w w' := by
 have hu51 := Try.underlying51
 have HR0_1 := aa_ hr0_1
 have HC0_1 := aa_ hc0_1
 clear hr0_1 hc0_1
 have HR1_1 := aa_ hr1_1
 have HC1_1 := aa_ hc1_1
 clear hr1_1 hc1_1
 have HB := aa_ (Below.refl w.heap.size w)
 have H : (if (a0_0 != a1_0) = true then (some false) else ((laws_eqStepS.f k l0_1 l1_1).bind fun t543 => (if t543 = true then (if a0_2 = a1_2 then (if (a0_3 != a1_3) = true then (some false) else (if (a0_4 != a1_4) = true then (some false) else (some true))) else (some false)) else (some false)))) = some r := h
 clear h
 have HC3 := aa_ H
 clear H
 go_enter Try.func48, Try.ntmps48
 go_upto_if 9 with (first | ((with_reducible refine gD_ 2 rfl ?_); refine bx_ (N := 2) (cs := #[.bool a0_0, .slice A0_1 l0_1.length c0_1, .int .i64 a0_2, .bool a0_3, .bool a0_4]) (t := 51) ?_; intro gb541 hg w4 hbox hb; have BK541 := aa_ (hbox); have GW541 := gs_ hg; have GE541 := gs_ hg; replace HB := hbs_ hb; clear hb hbox hg) | ((with_reducible refine gD_ 3 rfl ?_); refine bx_ (N := 3) (cs := #[.bool a1_0, .slice A1_1 l1_1.length c1_1, .int .i64 a1_2, .bool a1_3, .bool a1_4]) (t := 51) ?_; intro gb542 hg w5 hbox hb; have BK542 := aa_ (hbox); have GW542 := gs_ hg; have GE542 := gs_ hg; replace HB := hbs_ hb; have NB541_542 := nl_ hg BK541; have NB542_541 := nr_ hg BK541; replace BK541 := bkb_ BK541 hb; clear hb hbox hg; have hnb6 := NB541_542.out; have hnc6 := NB542_541.out; obtain ⟨hcz7, hfz7⟩ := bcf_ BK541; obtain ⟨hcz8, hfz8⟩ := bcf_ BK542))
 (try simp only [Act.put, List.setIfInBounds_toArray, List.set_cons_zero, List.set_cons_succ])
 have H := HC3.out
 clear HC3
 by_cases c9 : (a0_0 != a1_0) = true
 ·rw [if_pos c9] at H
  have c9b0 : (a0_0 != a1_0) = true := c9
  (try (have c9b1 : decide (a0_0 = a1_0) = false := by simpa using c9))
  (try (have c9b2 : (a0_0 == a1_0) = false := by simpa using c9))
  (try (have c9b5 : (!(a0_0 == a1_0)) = true := by rw [c9b2]; rfl))
  (try (have c9b3 : ¬ (a0_0 = a1_0) := by simpa using c9))
  clear c9
  (first | rw [c9b5] | rw [c9b0] | (simp only [i64_w, i32_w]; rw [c9b0]) | skip)
  obtain rfl := Option.some.inj H
  go_wp2
  go_ret
  exact ⟨eq_, bl_⟩
 ·rw [if_neg c9] at H
  have c9b0 : (a0_0 != a1_0) = false := by simpa using c9
  (try (have c9b1 : decide (a0_0 = a1_0) = true := by simpa using c9))
  (try (have c9b2 : (a0_0 == a1_0) = true := by simpa using c9))
  (try (have c9b5 : (!(a0_0 == a1_0)) = false := by rw [c9b2]; rfl))
  clear c9
  (first | rw [c9b5] | rw [c9b0] | (simp only [i64_w, i32_w]; rw [c9b0]) | skip)
  obtain ⟨t543, A10, H⟩ := bindE_ H
  have HC11 := aa_ H
  clear H
  have hnb12 := NB541_542.out
  have hnc12 := NB542_541.out
  have hcz13 := blk_cell BK541.out
  have hfz13 := blk_frozen BK541.out
  have hcz14 := blk_cell BK542.out
  have hfz14 := blk_frozen BK542.out
  go_upto_if 15 with (first | ((with_reducible refine gC_ 63 rfl ?_); refine goesC_ (some 14) Try.func63 #[.slice A0_1 l0_1.length c0_1, .slice A1_1 l1_1.length c1_1] ?_; (with_reducible refine (laws_eqStepS.calls k _ _ l0_1 _ _ l1_1 t543 _ ?side1 ?side2 ?side3 ?side4 A10.out).mono ?_); (case side1 => repeat (first | exact (Kd.C_below HR0_1.out HB.out) | (with_reducible refine Kd.C_alloc ?_ _) | (with_reducible refine Kd.C_drewN ?_ _) | (with_reducible refine Kd.C_drew ?_))); (case side2 => exact HC0_1.out); (case side3 => repeat (first | exact (Kd.C_below HR1_1.out HB.out) | (with_reducible refine Kd.C_alloc ?_ _) | (with_reducible refine Kd.C_drewN ?_ _) | (with_reducible refine Kd.C_drew ?_))); (case side4 => exact HC1_1.out); rintro e w15 ⟨rfl, hb⟩; refine ⟨_, rfl, ?_⟩; replace BK541 := bkb_ BK541 hb; replace BK542 := bkb_ BK542 hb; replace HB := hbs_ hb; clear hb))
  (try simp only [Act.put, List.setIfInBounds_toArray, List.set_cons_zero, List.set_cons_succ])
  have H := HC11.out
  clear HC11
  by_cases c16 : t543 = true
  ·subst c16
   replace H := ite_t_ H
   by_cases c17 : a0_2 = a1_2
   ·rw [if_pos c17] at H
    have c17b0 : (a0_2 == a1_2) = true := beq_iff_eq.mpr c17
    have c17b1 : (a0_2 != a1_2) = false := bne_eq_false_iff_eq.mpr c17
    clear c17
    (first | rw [c17b0] | (simp only [i64_w, i32_w]; rw [c17b0]) | skip)
    by_cases c18 : (a0_3 != a1_3) = true
    ·rw [if_pos c18] at H
     have c18b0 : (a0_3 != a1_3) = true := c18
     (try (have c18b1 : decide (a0_3 = a1_3) = false := by simpa using c18))
     (try (have c18b2 : (a0_3 == a1_3) = false := by simpa using c18))
     (try (have c18b5 : (!(a0_3 == a1_3)) = true := by rw [c18b2]; rfl))
     (try (have c18b3 : ¬ (a0_3 = a1_3) := by simpa using c18))
     clear c18
     obtain rfl := Option.some.inj H
     have hnb19 := NB541_542.out
     have hnc19 := NB542_541.out
     have hcz20 := blk_cell BK541.out
     have hfz20 := blk_frozen BK541.out
     have hcz21 := blk_cell BK542.out
     have hfz21 := blk_frozen BK542.out
     go_wp2
     go_ret
     exact ⟨eq_, bl_⟩
    ·rw [if_neg c18] at H
     have c18b0 : (a0_3 != a1_3) = false := by simpa using c18
     (try (have c18b1 : decide (a0_3 = a1_3) = true := by simpa using c18))
     (try (have c18b2 : (a0_3 == a1_3) = true := by simpa using c18))
     (try (have c18b5 : (!(a0_3 == a1_3)) = false := by rw [c18b2]; rfl))
     clear c18
     by_cases c22 : (a0_4 != a1_4) = true
     ·rw [if_pos c22] at H
      have c22b0 : (a0_4 != a1_4) = true := c22
      (try (have c22b1 : decide (a0_4 = a1_4) = false := by simpa using c22))
      (try (have c22b2 : (a0_4 == a1_4) = false := by simpa using c22))
      (try (have c22b5 : (!(a0_4 == a1_4)) = true := by rw [c22b2]; rfl))
      (try (have c22b3 : ¬ (a0_4 = a1_4) := by simpa using c22))
      clear c22
      obtain rfl := Option.some.inj H
      have hnb23 := NB541_542.out
      have hnc23 := NB542_541.out
      have hcz24 := blk_cell BK541.out
      have hfz24 := blk_frozen BK541.out
      have hcz25 := blk_cell BK542.out
      have hfz25 := blk_frozen BK542.out
      go_wp2
      go_ret
      exact ⟨eq_, bl_⟩
     ·rw [if_neg c22] at H
      have c22b0 : (a0_4 != a1_4) = false := by simpa using c22
      (try (have c22b1 : decide (a0_4 = a1_4) = true := by simpa using c22))
      (try (have c22b2 : (a0_4 == a1_4) = true := by simpa using c22))
      (try (have c22b5 : (!(a0_4 == a1_4)) = false := by rw [c22b2]; rfl))
      clear c22
      obtain rfl := Option.some.inj H
      have hnb26 := NB541_542.out
      have hnc26 := NB542_541.out
      have hcz27 := blk_cell BK541.out
      have hfz27 := blk_frozen BK541.out
      have hcz28 := blk_cell BK542.out
      have hfz28 := blk_frozen BK542.out
      go_wp2
      go_ret
      exact ⟨eq_, bl_⟩
   ·rw [if_neg c17] at H
    have c17b0 : (a0_2 == a1_2) = false := beq_eq_false_iff_ne.mpr c17
    have c17b1 : (a0_2 != a1_2) = true := bne_iff_ne.mpr c17
    (first | rw [c17b0] | (simp only [i64_w, i32_w]; rw [c17b0]) | skip)
    obtain rfl := Option.some.inj H
    have hnb29 := NB541_542.out
    have hnc29 := NB542_541.out
    have hcz30 := blk_cell BK541.out
    have hfz30 := blk_frozen BK541.out
    have hcz31 := blk_cell BK542.out
    have hfz31 := blk_frozen BK542.out
    go_wp2
    go_ret
    exact ⟨eq_, bl_⟩
  ·replace c16 := Bool.eq_false_iff.mpr c16
   subst c16
   replace H := ite_f_ H
   obtain rfl := Option.some.inj H
   go_wp2
   go_ret
   exact ⟨eq_, bl_⟩
def laws_eqAnswerS.l0 : Nat → List (S51) → List (S51) → Int → Option (Bool)
 | 0, _, _, _ => none
 | k + 1, x0, x1, x5 => if x5 < (x0.length : Int) then (if 0 ≤ x5 then (if x5 < (x1.length : Int) then ((laws_eqAnswer.f k ((rd_T51 x0 x5).f0) ((rd_T51 x0 x5).f1) ((rd_T51 x0 x5).f2) ((rd_T51 x0 x5).f3) ((rd_T51 x0 x5).f4) ((rd_T51 x1 x5).f0) ((rd_T51 x1 x5).f1) ((rd_T51 x1 x5).f2) ((rd_T51 x1 x5).f3) ((rd_T51 x1 x5).f4)).bind fun t546 => (if t546 = true then (laws_eqAnswerS.l0 k x0 x1 (wrap64 (x5 + 1))) else (some false))) else (none)) else (none)) else (some true)
def laws_eqAnswerS.f (k : Nat) (l0 : List (S51)) (l1 : List (S51)) : Option (Bool) := if (l0.length : Int) = (l1.length : Int) then (laws_eqAnswerS.l0 k l0 l1 0) else (some false)
def laws_eqAnswerS.T6 : Bool × List (List Nat × List Nat) := (true, [([], []), ([], []), ([0, 1], [0, 1]), ([2], [2]), ([], []), ([], []), ([4, 5], [4, 5]), ([6], [6]), ([3, 7], [3, 7]), ([8], [8])])
def laws_eqAnswerS.B6 : List Nat := [0, 0, 3, 7, 0, 0, 48, 112, 255, 511]
theorem laws_eqAnswerS.tab6 : rtab .any (opsOf Try.f32 6) = laws_eqAnswerS.T6 := by kernel_rfl
theorem laws_eqAnswerS.bits6 : waitsOk laws_eqAnswerS.T6.2 laws_eqAnswerS.B6 = true := by kernel_rfl
set_option maxHeartbeats 8000000 in
set_option maxRecDepth 100000 in
theorem laws_eqAnswerS.calls (k : Nat) (A0 : Option Addr) (c0 : Nat) (l0 : List (S51)) (A1 : Option Addr) (c1 : Nat) (l1 : List (S51)) (r : Bool) (w : World) (hr0 : Kd.C k51 w A0 l0.length l0) (hc0 : l0.length ≤ c0) (hr1 : Kd.C k51 w A1 l1.length l1) (hc1 : l1.length ≤ c1) (h : laws_eqAnswerS.f k l0 l1 = some r) :
  Calls Try.prog 32 #[.slice A0 l0.length c0, .slice A1 l1.length c1] w fun e w' => e = .returned (.bool r) ∧ Below w.heap.size w w' := by
 have hu51 := Try.underlying51
 have HR0 := aa_ hr0
 have HC0 := aa_ hc0
 clear hr0 hc0
 have HR1 := aa_ hr1
 have HC1 := aa_ hc1
 clear hr1 hc1
 have HB := aa_ (Below.refl w.heap.size w)
 have H : (if (l0.length : Int) = (l1.length : Int) then (laws_eqAnswerS.l0 k l0 l1 0) else (some false)) = some r := h
 clear h
 by_cases c3 : (l0.length : Int) = (l1.length : Int)
 ·rw [if_pos c3] at H
  have c3b0 : ((l0.length : Int) == (l1.length : Int)) = true := beq_iff_eq.mpr c3
  have c3b1 : ((l0.length : Int) != (l1.length : Int)) = false := bne_eq_false_iff_eq.mpr c3
  have c3b2 : (l0.length == l1.length) = true := by first | simpa using c3 | (simp at c3 ⊢; omega)
  clear c3
  have H' := aa_ H
  clear H
  go_enter Try.func32, Try.ntmps32
  go_wp2
  go_loopg [5] k (fun kq v5 w' => ∃ (x5_1 : Int), v5 = .int .i64 x5_1 ∧ Aside0 (laws_eqAnswerS.l0 kq l0 l1 x5_1 = some r) ∧ Aside0 (kq ≤ k) ∧ Aside0 (Below w.heap.size w w'))
  case atStart => exact ⟨(0), rf_, H', ⟨Nat.le_refl _⟩, ⟨bl_⟩⟩
  case round =>
   clear H'
   try clear c1
   try clear p2
   try clear c3
   try clear c3b0
   try clear c3b1
   try clear c3b2
   obtain ⟨x5_1, rfl, HA, HK1, HB⟩ := hrel
   cases gk with
   | zero => exact absurd HA.out (by simp [laws_eqAnswerS.l0])
   | succ k1 =>
    have H := HA.out
    clear HA
    simp only [laws_eqAnswerS.l0] at H
    by_cases c4 : x5_1 < (l0.length : Int)
    ·rw [if_pos c4] at H
     have c4b0 : decide (x5_1 < (l0.length : Int)) = true := decide_eq_true c4
     clear c4
     obtain ⟨c5b0, H⟩ := ifd_ H
     obtain ⟨c6b0, H⟩ := ifd_ H
     obtain ⟨t546, A7, H⟩ := bindE_ H
     have HC8 := aa_ H
     clear H
     try go_wp2
     replace HB := aa_ (below_drew1 HB.out)
     have p544 : 0 ≤ (x5_1 : Int) := od_
     have q544 : x5_1 < (l0.length : Int) := od_
     obtain ⟨ad544, A544_1, c544_1, e544, hx544_0, hx544_1, hx544_2, hx544_3, hx544_4, hl544_1, hi544_1⟩ := at_T51 HR0.out x5_1 p544 q544
     have hw544_4 := hx544_4
     have hw544_3 := hx544_3
     have hw544_2 := hx544_2
     have hw544_1 := hx544_1
     have hw544_0 := hx544_0
     cases e544
     replace hx544_0 := cb_ HB hx544_0
     replace hx544_1 := cb_ HB hx544_1
     replace hx544_2 := cb_ HB hx544_2
     replace hx544_3 := cb_ HB hx544_3
     replace hx544_4 := cb_ HB hx544_4
     have HR544_1 := aa_ hi544_1
     have HC544_1 := aa_ hl544_1
     clear hi544_1 hl544_1
     replace p544 := eq_true p544
     replace q544 := eq_true q544
     have p545 : 0 ≤ (x5_1 : Int) := od_
     have q545 : x5_1 < (l1.length : Int) := od_
     obtain ⟨ad545, A545_1, c545_1, e545, hx545_0, hx545_1, hx545_2, hx545_3, hx545_4, hl545_1, hi545_1⟩ := at_T51 HR1.out x5_1 p545 q545
     have hw545_4 := hx545_4
     have hw545_3 := hx545_3
     have hw545_2 := hx545_2
     have hw545_1 := hx545_1
     have hw545_0 := hx545_0
     cases e545
     replace hx545_0 := cb_ HB hx545_0
     replace hx545_1 := cb_ HB hx545_1
     replace hx545_2 := cb_ HB hx545_2
     replace hx545_3 := cb_ HB hx545_3
     replace hx545_4 := cb_ HB hx545_4
     have HR545_1 := aa_ hi545_1
     have HC545_1 := aa_ hl545_1
     clear hi545_1 hl545_1
     replace p545 := eq_true p545
     replace q545 := eq_true q545
     refine start_ (n := 10) (S := fun w' => w'.cell? (ad544.add ((x5_1).toNat * 5)) = some (.bool ((rd_T51 l0 x5_1).f0)) ∧ w'.cell? ⟨(ad544.add ((x5_1).toNat * 5)).block, (ad544.add ((x5_1).toNat * 5)).off + 1, none⟩ = some (.slice A544_1 ((rd_T51 l0 x5_1).f1).length c544_1) ∧ w'.cell? ⟨(ad544.add ((x5_1).toNat * 5)).block, (ad544.add ((x5_1).toNat * 5)).off + 2, none⟩ = some (.int .i64 ((rd_T51 l0 x5_1).f2)) ∧ w'.cell? ⟨(ad544.add ((x5_1).toNat * 5)).block, (ad544.add ((x5_1).toNat * 5)).off + 3, none⟩ = some (.bool ((rd_T51 l0 x5_1).f3)) ∧ w'.cell? ⟨(ad544.add ((x5_1).toNat * 5)).block, (ad544.add ((x5_1).toNat * 5)).off + 4, none⟩ = some (.bool ((rd_T51 l0 x5_1).f4)) ∧ w'.cell? (ad545.add ((x5_1).toNat * 5)) = some (.bool ((rd_T51 l1 x5_1).f0)) ∧ w'.cell? ⟨(ad545.add ((x5_1).toNat * 5)).block, (ad545.add ((x5_1).toNat * 5)).off + 1, none⟩ = some (.slice A545_1 ((rd_T51 l1 x5_1).f1).length c545_1) ∧ w'.cell? ⟨(ad545.add ((x5_1).toNat * 5)).block, (ad545.add ((x5_1).toNat * 5)).off + 2, none⟩ = some (.int .i64 ((rd_T51 l1 x5_1).f2)) ∧ w'.cell? ⟨(ad545.add ((x5_1).toNat * 5)).block, (ad545.add ((x5_1).toNat * 5)).off + 3, none⟩ = some (.bool ((rd_T51 l1 x5_1).f3)) ∧ w'.cell? ⟨(ad545.add ((x5_1).toNat * 5)).block, (ad545.add ((x5_1).toNat * 5)).off + 4, none⟩ = some (.bool ((rd_T51 l1 x5_1).f4))) (ds := []) (ba_ 10 0) (by kernel_rfl) rfl rfl ⟨(cb_ HB hw544_0 :), (cb_ HB hw544_1 :), (cb_ HB hw544_2 :), (cb_ HB hw544_3 :), (cb_ HB hw544_4 :), (cb_ HB hw545_0 :), (cb_ HB hw545_1 :), (cb_ HB hw545_2 :), (cb_ HB hw545_3 :), (cb_ HB hw545_4 :)⟩ (fun hHeld => ?_); refine with_tabW laws_eqAnswerS.tab6 laws_eqAnswerS.bits6 (fun HT_ HW_ => ?_)
     generalize wr.drew = w9 at HB HR544_1 HR545_1 hx544_0 hx544_1 hx544_2 hx544_3 hx544_4 hx545_0 hx545_1 hx545_2 hx545_3 hx545_4 hHeld ⊢
     refine pureZ_ (i := 0) (some 17) (ba_ 10 1) (ao_ HT_) ?_
     refine pureZ_ (i := 1) (some 18) (ba_ 10 3) (ao_ HT_) ?_
     refine pureZ_ (i := 2) (some 19) (ba_ 10 7) (ao_ HT_) ?_
     refine pureZ_ (i := 4) (some 21) (ba_ 10 23) (ao_ HT_) ?_
     refine pureZ_ (i := 5) (some 22) (ba_ 10 55) (ao_ HT_) ?_
     refine pureZ_ (i := 6) (some 23) (ba_ 10 119) (ao_ HT_) ?_
     refine takeZ_ (i := 3) (some 20) (ba_ 10 127) (take_ofW HT_.out HW_.out (by kernel_rfl)) hHeld ?_
     refine takeZ_ (i := 7) (some 24) (ba_ 10 255) (take_ofW HT_.out HW_.out (by kernel_rfl)) hHeld ?_
     refine one_ (i := 8) (N := some 25) (ba_ 10 511) rfl rfl (one_of HT_.out (by kernel_rfl)) (by decide) (fun K hK => ?_)
     refine goes_ Try.func48 (by kernel_rfl) rfl #[.agg #[.bool ((rd_T51 l0 x5_1).f0), .slice A544_1 ((rd_T51 l0 x5_1).f1).length c544_1, .int .i64 ((rd_T51 l0 x5_1).f2), .bool ((rd_T51 l0 x5_1).f3), .bool ((rd_T51 l0 x5_1).f4)], .agg #[.bool ((rd_T51 l1 x5_1).f0), .slice A545_1 ((rd_T51 l1 x5_1).f1).length c545_1, .int .i64 ((rd_T51 l1 x5_1).f2), .bool ((rd_T51 l1 x5_1).f3), .bool ((rd_T51 l1 x5_1).f4)]] (by rfl) rfl rfl (by (try simp only [List.map_toArray, List.map_cons, List.map_nil]); first | done | rfl | (simp only [List.length_drop, List.length_take]; rfl)) ?_
     with_reducible refine (laws_eqAnswer.calls k1 ((rd_T51 l0 x5_1).f0) _ _ ((rd_T51 l0 x5_1).f1) ((rd_T51 l0 x5_1).f2) ((rd_T51 l0 x5_1).f3) ((rd_T51 l0 x5_1).f4) ((rd_T51 l1 x5_1).f0) _ _ ((rd_T51 l1 x5_1).f1) ((rd_T51 l1 x5_1).f2) ((rd_T51 l1 x5_1).f3) ((rd_T51 l1 x5_1).f4) t546 _ ?side1 ?side2 ?side3 ?side4 A7.out).mono ?_
     (case side1 => repeat (first | exact (Kd.C_below HR544_1.out HB.out) | (with_reducible refine Kd.C_alloc ?_ _) | (with_reducible refine Kd.C_drewN ?_ _) | (with_reducible refine Kd.C_drew ?_)))
     (case side2 => exact HC544_1.out)
     (case side3 => repeat (first | exact (Kd.C_below HR545_1.out HB.out) | (with_reducible refine Kd.C_alloc ?_ _) | (with_reducible refine Kd.C_drewN ?_ _) | (with_reducible refine Kd.C_drew ?_)))
     (case side4 => exact HC545_1.out)
     rintro e w10 ⟨rfl, hb⟩
     refine ⟨_, rfl, ?_⟩
     replace HB := hbs_ hb
     (try clear hb)
     (try clear hb2)
     (try clear hk)
     (try clear hi)
     refine hK.out _ _ ⟨(cb_ HB hw544_0 :), (cb_ HB hw544_1 :), (cb_ HB hw544_2 :), (cb_ HB hw544_3 :), (cb_ HB hw544_4 :), (cb_ HB hw545_0 :), (cb_ HB hw545_1 :), (cb_ HB hw545_2 :), (cb_ HB hw545_3 :), (cb_ HB hw545_4 :)⟩ (fun hHeld => ?_)
     clear hK K
     refine norm_ (a' := ?_) ?_ ?_
     rotate_left
     ·show Act.put _ (some 25) _ = _
      simp only [Act.put, List.setIfInBounds_toArray, List.set_cons_zero, List.set_cons_succ, i64_w, i32_w]
      rfl
     refine pureZ_ (i := 9) (some 26) (ba_ 10 1023) (ao_ HT_) ?_
     refine done_ (done_of HT_.out (by kernel_rfl)) ?_
     go_upto_if 26 with (fail)
     have H := HC8.out
     clear HC8
     by_cases c11 : t546 = true
     ·subst c11
      replace H := ite_t_ H
      have H' := aa_ H
      clear H
      go_wp2
      go_roundg k1
      case measure => have := HK1.out; omega
      case rel => exact ⟨(wrap64 (x5_1 + 1)), rf_, H', ⟨by have := HK1.out; omega⟩, ⟨bl_⟩⟩
     ·replace c11 := Bool.eq_false_iff.mpr c11
      subst c11
      replace H := ite_f_ H
      obtain rfl := Option.some.inj H
      go_wp2
      go_ret
      exact ⟨eq_, bl_⟩
    ·rw [if_neg c4] at H
     have c4b0 : decide (x5_1 < (l0.length : Int)) = false := decide_eq_false c4
     clear c4
     obtain rfl := Option.some.inj H
     go_wp2
     go_ret
     exact ⟨eq_, bl_⟩
 ·rw [if_neg c3] at H
  have c3b0 : ((l0.length : Int) == (l1.length : Int)) = false := beq_eq_false_iff_ne.mpr c3
  have c3b1 : ((l0.length : Int) != (l1.length : Int)) = true := bne_iff_ne.mpr c3
  have c3b2 : (l0.length == l1.length) = false := by first | simpa using c3 | (simp at c3 ⊢; omega)
  obtain rfl := Option.some.inj H
  go_enter Try.func32, Try.ntmps32
  go_wp2
  go_ret
  exact ⟨eq_, bl_⟩
end Go.Proofs.Ytcnjbkfnijnpnaa.PA
