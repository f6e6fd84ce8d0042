import Derived.Test.YteofimccoadmeaaGreatKWPAx19
-- printed by wip/tools
namespace Go.Proofs.YteofimccoadmeaaGreat.PA
open Go.RowKit Go.Proofs.YteofimccoadmeaaGreatW.PrintWords Go.Proofs.YteofimccoadmeaaGreatW.PrintLast Go.Proofs.YteofimccoadmeaaGreatW.PrintMore
attribute [local go_sem] max2_int min2_int max_two min_two max_three min_three max_four min_four
set_option linter.unusedVariables false
set_option linter.unusedSimpArgs false
def laws_eqCredS.l0 : Nat → List (S83) → List (S83) → Int → Option (Bool)
 | 0, _, _, _ => none
 | k + 1, x0, x1, x5 => if x5 < (x0.length : Int) then (if 0 ≤ x5 then (if x5 < (x1.length : Int) then ((laws_eqCred.f ((rd_T83 x0 x5).f0) ((rd_T83 x0 x5).f1.f0) ((rd_T83 x0 x5).f1.f1) ((rd_T83 x0 x5).f2) ((rd_T83 x0 x5).f3.f0) ((rd_T83 x0 x5).f3.f1) ((rd_T83 x0 x5).f4.f0) ((rd_T83 x0 x5).f4.f1) ((rd_T83 x0 x5).f5) ((rd_T83 x0 x5).f6) ((rd_T83 x1 x5).f0) ((rd_T83 x1 x5).f1.f0) ((rd_T83 x1 x5).f1.f1) ((rd_T83 x1 x5).f2) ((rd_T83 x1 x5).f3.f0) ((rd_T83 x1 x5).f3.f1) ((rd_T83 x1 x5).f4.f0) ((rd_T83 x1 x5).f4.f1) ((rd_T83 x1 x5).f5) ((rd_T83 x1 x5).f6)).bind fun t609 => (if t609 = true then (laws_eqCredS.l0 k x0 x1 (wrap64 (x5 + 1))) else (some false))) else (none)) else (none)) else (some true)
def laws_eqCredS.f (k : Nat) (l0 : List (S83)) (l1 : List (S83)) : Option (Bool) := if (l0.length : Int) = (l1.length : Int) then (laws_eqCredS.l0 k l0 l1 0) else (some false)
def laws_eqCredS.T6 : Bool × List (List Nat × List Nat) := (true, [([], []), ([], []), ([0, 1], [0, 1]), ([2], [2]), ([], []), ([], []), ([4, 5], [4, 5]), ([6], [6]), ([3, 7], [3, 7]), ([8], [8])])
def laws_eqCredS.B6 : List Nat := [0, 0, 3, 7, 0, 0, 48, 112, 255, 511]
theorem laws_eqCredS.tab6 : rtab .any (opsOf Tryz.f25 6) = laws_eqCredS.T6 := by kernel_rfl
theorem laws_eqCredS.bits6 : waitsOk laws_eqCredS.T6.2 laws_eqCredS.B6 = true := by kernel_rfl
set_option maxHeartbeats 8000000 in
set_option maxRecDepth 100000 in
theorem laws_eqCredS.calls (k : Nat) (A0 : Option Addr) (c0 : Nat) (l0 : List (S83)) (A1 : Option Addr) (c1 : Nat) (l1 : List (S83)) (r : Bool) (w : World) (hr0 : Kd.C k83 w A0 l0.length l0) (hc0 : l0.length ≤ c0) (hr1 : Kd.C k83 w A1 l1.length l1) (hc1 : l1.length ≤ c1) (h : laws_eqCredS.f k l0 l1 = some r) :
  Calls Tryz.prog 25 #[.slice A0 l0.length c0, .slice A1 l1.length c1] w fun e w' => e = .returned (.bool r) ∧ Below w.heap.size w w' := by
 have hu83 := Tryz.underlying83
 have HR0 := aa_ hr0
 have HC0 := aa_ hc0
 clear hr0 hc0
 have HR1 := aa_ hr1
 have HC1 := aa_ hc1
 clear hr1 hc1
 have HB := aa_ (Below.refl w.heap.size w)
 have H : (if (l0.length : Int) = (l1.length : Int) then (laws_eqCredS.l0 k l0 l1 0) else (some false)) = some r := h
 clear h
 by_cases c3 : (l0.length : Int) = (l1.length : Int)
 ·rw [if_pos c3] at H
  have c3b0 : ((l0.length : Int) == (l1.length : Int)) = true := beq_iff_eq.mpr c3
  have c3b1 : ((l0.length : Int) != (l1.length : Int)) = false := bne_eq_false_iff_eq.mpr c3
  have c3b2 : (l0.length == l1.length) = true := by first | simpa using c3 | (simp at c3 ⊢; omega)
  clear c3
  have H' := aa_ H
  clear H
  go_enter Tryz.func25, Tryz.ntmps25
  go_wp2
  go_loopg [5] k (fun kq v5 w' => ∃ (x5_1 : Int), v5 = .int .i64 x5_1 ∧ Aside0 (laws_eqCredS.l0 kq l0 l1 x5_1 = some r) ∧ Aside0 (kq ≤ k) ∧ Aside0 (Below w.heap.size w w'))
  case atStart => exact ⟨(0), rf_, H', ⟨Nat.le_refl _⟩, ⟨bl_⟩⟩
  case round =>
   clear H'
   try clear p2
   try clear c3b0
   try clear c3b1
   try clear c3b2
   obtain ⟨x5_1, rfl, HA, HK1, HB⟩ := hrel
   cases gk with
   | zero => exact absurd HA.out (by simp [laws_eqCredS.l0])
   | succ k1 =>
    have H := HA.out
    clear HA
    simp only [laws_eqCredS.l0] at H
    by_cases c4 : x5_1 < (l0.length : Int)
    ·rw [if_pos c4] at H
     have c4b0 : decide (x5_1 < (l0.length : Int)) = true := decide_eq_true c4
     clear c4
     obtain ⟨c5b0, H⟩ := ifd_ H
     obtain ⟨c6b0, H⟩ := ifd_ H
     obtain ⟨t609, A7, H⟩ := bindE_ H
     have HC8 := aa_ H
     clear H
     try go_wp2
     replace HB := aa_ (below_drew1 HB.out)
     have p607 : 0 ≤ (x5_1 : Int) := od_
     have q607 : x5_1 < (l0.length : Int) := od_
     obtain ⟨ad607, e607, hx607_0, hx607_1, hx607_2, hx607_3, hx607_4, hx607_5, hx607_6, hx607_7, hx607_8, hx607_9⟩ := at_T83 HR0.out x5_1 p607 q607
     have hw607_9 := hx607_9
     have hw607_8 := hx607_8
     have hw607_7 := hx607_7
     have hw607_6 := hx607_6
     have hw607_5 := hx607_5
     have hw607_4 := hx607_4
     have hw607_3 := hx607_3
     have hw607_2 := hx607_2
     have hw607_1 := hx607_1
     have hw607_0 := hx607_0
     cases e607
     replace hx607_0 := cb_ HB hx607_0
     replace hx607_1 := cb_ HB hx607_1
     replace hx607_2 := cb_ HB hx607_2
     replace hx607_3 := cb_ HB hx607_3
     replace hx607_4 := cb_ HB hx607_4
     replace hx607_5 := cb_ HB hx607_5
     replace hx607_6 := cb_ HB hx607_6
     replace hx607_7 := cb_ HB hx607_7
     replace hx607_8 := cb_ HB hx607_8
     replace hx607_9 := cb_ HB hx607_9
     replace p607 := eq_true p607
     replace q607 := eq_true q607
     have p608 : 0 ≤ (x5_1 : Int) := od_
     have q608 : x5_1 < (l1.length : Int) := od_
     obtain ⟨ad608, e608, hx608_0, hx608_1, hx608_2, hx608_3, hx608_4, hx608_5, hx608_6, hx608_7, hx608_8, hx608_9⟩ := at_T83 HR1.out x5_1 p608 q608
     have hw608_9 := hx608_9
     have hw608_8 := hx608_8
     have hw608_7 := hx608_7
     have hw608_6 := hx608_6
     have hw608_5 := hx608_5
     have hw608_4 := hx608_4
     have hw608_3 := hx608_3
     have hw608_2 := hx608_2
     have hw608_1 := hx608_1
     have hw608_0 := hx608_0
     cases e608
     replace hx608_0 := cb_ HB hx608_0
     replace hx608_1 := cb_ HB hx608_1
     replace hx608_2 := cb_ HB hx608_2
     replace hx608_3 := cb_ HB hx608_3
     replace hx608_4 := cb_ HB hx608_4
     replace hx608_5 := cb_ HB hx608_5
     replace hx608_6 := cb_ HB hx608_6
     replace hx608_7 := cb_ HB hx608_7
     replace hx608_8 := cb_ HB hx608_8
     replace hx608_9 := cb_ HB hx608_9
     replace p608 := eq_true p608
     replace q608 := eq_true q608
     refine start_ (n := 10) (S := fun w' => w'.cell? (ad607.add ((x5_1).toNat * 10)) = some (.int .i64 ((rd_T83 l0 x5_1).f0)) ∧ w'.cell? ⟨(ad607.add ((x5_1).toNat * 10)).block, (ad607.add ((x5_1).toNat * 10)).off + 1, none⟩ = some (.int .i64 ((rd_T83 l0 x5_1).f1.f0)) ∧ w'.cell? ⟨(ad607.add ((x5_1).toNat * 10)).block, (ad607.add ((x5_1).toNat * 10)).off + 2, none⟩ = some (.int .i64 ((rd_T83 l0 x5_1).f1.f1)) ∧ w'.cell? ⟨(ad607.add ((x5_1).toNat * 10)).block, (ad607.add ((x5_1).toNat * 10)).off + 3, none⟩ = some (.int .i64 ((rd_T83 l0 x5_1).f2)) ∧ w'.cell? ⟨(ad607.add ((x5_1).toNat * 10)).block, (ad607.add ((x5_1).toNat * 10)).off + 4, none⟩ = some (.int .i64 ((rd_T83 l0 x5_1).f3.f0)) ∧ w'.cell? ⟨(ad607.add ((x5_1).toNat * 10)).block, (ad607.add ((x5_1).toNat * 10)).off + 5, none⟩ = some (.int .i64 ((rd_T83 l0 x5_1).f3.f1)) ∧ w'.cell? ⟨(ad607.add ((x5_1).toNat * 10)).block, (ad607.add ((x5_1).toNat * 10)).off + 6, none⟩ = some (.int .i64 ((rd_T83 l0 x5_1).f4.f0)) ∧ w'.cell? ⟨(ad607.add ((x5_1).toNat * 10)).block, (ad607.add ((x5_1).toNat * 10)).off + 7, none⟩ = some (.int .i64 ((rd_T83 l0 x5_1).f4.f1)) ∧ w'.cell? ⟨(ad607.add ((x5_1).toNat * 10)).block, (ad607.add ((x5_1).toNat * 10)).off + 8, none⟩ = some (.int .i64 ((rd_T83 l0 x5_1).f5)) ∧ w'.cell? ⟨(ad607.add ((x5_1).toNat * 10)).block, (ad607.add ((x5_1).toNat * 10)).off + 9, none⟩ = some (.int .i64 ((rd_T83 l0 x5_1).f6)) ∧ w'.cell? (ad608.add ((x5_1).toNat * 10)) = some (.int .i64 ((rd_T83 l1 x5_1).f0)) ∧ w'.cell? ⟨(ad608.add ((x5_1).toNat * 10)).block, (ad608.add ((x5_1).toNat * 10)).off + 1, none⟩ = some (.int .i64 ((rd_T83 l1 x5_1).f1.f0)) ∧ w'.cell? ⟨(ad608.add ((x5_1).toNat * 10)).block, (ad608.add ((x5_1).toNat * 10)).off + 2, none⟩ = some (.int .i64 ((rd_T83 l1 x5_1).f1.f1)) ∧ w'.cell? ⟨(ad608.add ((x5_1).toNat * 10)).block, (ad608.add ((x5_1).toNat * 10)).off + 3, none⟩ = some (.int .i64 ((rd_T83 l1 x5_1).f2)) ∧ w'.cell? ⟨(ad608.add ((x5_1).toNat * 10)).block, (ad608.add ((x5_1).toNat * 10)).off + 4, none⟩ = some (.int .i64 ((rd_T83 l1 x5_1).f3.f0)) ∧ w'.cell? ⟨(ad608.add ((x5_1).toNat * 10)).block, (ad608.add ((x5_1).toNat * 10)).off + 5, none⟩ = some (.int .i64 ((rd_T83 l1 x5_1).f3.f1)) ∧ w'.cell? ⟨(ad608.add ((x5_1).toNat * 10)).block, (ad608.add ((x5_1).toNat * 10)).off + 6, none⟩ = some (.int .i64 ((rd_T83 l1 x5_1).f4.f0)) ∧ w'.cell? ⟨(ad608.add ((x5_1).toNat * 10)).block, (ad608.add ((x5_1).toNat * 10)).off + 7, none⟩ = some (.int .i64 ((rd_T83 l1 x5_1).f4.f1)) ∧ w'.cell? ⟨(ad608.add ((x5_1).toNat * 10)).block, (ad608.add ((x5_1).toNat * 10)).off + 8, none⟩ = some (.int .i64 ((rd_T83 l1 x5_1).f5)) ∧ w'.cell? ⟨(ad608.add ((x5_1).toNat * 10)).block, (ad608.add ((x5_1).toNat * 10)).off + 9, none⟩ = some (.int .i64 ((rd_T83 l1 x5_1).f6))) (ds := []) (ba_ 10 0) (by kernel_rfl) rfl rfl ⟨(cb_ HB hw607_0 :), (cb_ HB hw607_1 :), (cb_ HB hw607_2 :), (cb_ HB hw607_3 :), (cb_ HB hw607_4 :), (cb_ HB hw607_5 :), (cb_ HB hw607_6 :), (cb_ HB hw607_7 :), (cb_ HB hw607_8 :), (cb_ HB hw607_9 :), (cb_ HB hw608_0 :), (cb_ HB hw608_1 :), (cb_ HB hw608_2 :), (cb_ HB hw608_3 :), (cb_ HB hw608_4 :), (cb_ HB hw608_5 :), (cb_ HB hw608_6 :), (cb_ HB hw608_7 :), (cb_ HB hw608_8 :), (cb_ HB hw608_9 :)⟩ (fun hHeld => ?_); refine with_tabW laws_eqCredS.tab6 laws_eqCredS.bits6 (fun HT_ HW_ => ?_)
     generalize wr.drew = w9 at HB hx607_0 hx607_1 hx607_2 hx607_3 hx607_4 hx607_5 hx607_6 hx607_7 hx607_8 hx607_9 hx608_0 hx608_1 hx608_2 hx608_3 hx608_4 hx608_5 hx608_6 hx608_7 hx608_8 hx608_9 hHeld ⊢
     refine pz_ 0 17 (ba_ 10 1) (ao_ HT_) ?_
     refine pz_ 1 18 (ba_ 10 3) (ao_ HT_) ?_
     refine pz_ 2 19 (ba_ 10 7) (ao_ HT_) ?_
     refine pz_ 4 21 (ba_ 10 23) (ao_ HT_) ?_
     refine pz_ 5 22 (ba_ 10 55) (ao_ HT_) ?_
     refine pz_ 6 23 (ba_ 10 119) (ao_ HT_) ?_
     refine tz_ 3 20 (ba_ 10 127) (take_ofW HT_.out HW_.out (by kernel_rfl)) hHeld ?_
     refine tz_ 7 24 (ba_ 10 255) (take_ofW HT_.out HW_.out (by kernel_rfl)) hHeld ?_
     refine one_ (i := 8) (N := some 25) (ba_ 10 511) rfl rfl (one_of HT_.out (by kernel_rfl)) (by decide) (fun K hK => ?_)
     refine goes_ Tryz.func53 (by kernel_rfl) rfl #[.agg #[.int .i64 ((rd_T83 l0 x5_1).f0), .int .i64 ((rd_T83 l0 x5_1).f1.f0), .int .i64 ((rd_T83 l0 x5_1).f1.f1), .int .i64 ((rd_T83 l0 x5_1).f2), .int .i64 ((rd_T83 l0 x5_1).f3.f0), .int .i64 ((rd_T83 l0 x5_1).f3.f1), .int .i64 ((rd_T83 l0 x5_1).f4.f0), .int .i64 ((rd_T83 l0 x5_1).f4.f1), .int .i64 ((rd_T83 l0 x5_1).f5), .int .i64 ((rd_T83 l0 x5_1).f6)], .agg #[.int .i64 ((rd_T83 l1 x5_1).f0), .int .i64 ((rd_T83 l1 x5_1).f1.f0), .int .i64 ((rd_T83 l1 x5_1).f1.f1), .int .i64 ((rd_T83 l1 x5_1).f2), .int .i64 ((rd_T83 l1 x5_1).f3.f0), .int .i64 ((rd_T83 l1 x5_1).f3.f1), .int .i64 ((rd_T83 l1 x5_1).f4.f0), .int .i64 ((rd_T83 l1 x5_1).f4.f1), .int .i64 ((rd_T83 l1 x5_1).f5), .int .i64 ((rd_T83 l1 x5_1).f6)]] (by rfl) rfl rfl (by (try simp only [List.map_toArray, List.map_cons, List.map_nil]); first | done | rfl | (simp only [List.length_drop, List.length_take]; rfl)) ?_
     with_reducible refine (laws_eqCred.calls ((rd_T83 l0 x5_1).f0) ((rd_T83 l0 x5_1).f1.f0) ((rd_T83 l0 x5_1).f1.f1) ((rd_T83 l0 x5_1).f2) ((rd_T83 l0 x5_1).f3.f0) ((rd_T83 l0 x5_1).f3.f1) ((rd_T83 l0 x5_1).f4.f0) ((rd_T83 l0 x5_1).f4.f1) ((rd_T83 l0 x5_1).f5) ((rd_T83 l0 x5_1).f6) ((rd_T83 l1 x5_1).f0) ((rd_T83 l1 x5_1).f1.f0) ((rd_T83 l1 x5_1).f1.f1) ((rd_T83 l1 x5_1).f2) ((rd_T83 l1 x5_1).f3.f0) ((rd_T83 l1 x5_1).f3.f1) ((rd_T83 l1 x5_1).f4.f0) ((rd_T83 l1 x5_1).f4.f1) ((rd_T83 l1 x5_1).f5) ((rd_T83 l1 x5_1).f6) t609 _ A7.out).mono ?_
     rintro e w10 ⟨rfl, hb⟩
     refine ⟨_, rfl, ?_⟩
     replace HB := hbs_ hb
     (try clear hb)
     (try clear hb2)
     (try clear hk)
     (try clear hi)
     refine hK.out _ _ ⟨(cb_ HB hw607_0 :), (cb_ HB hw607_1 :), (cb_ HB hw607_2 :), (cb_ HB hw607_3 :), (cb_ HB hw607_4 :), (cb_ HB hw607_5 :), (cb_ HB hw607_6 :), (cb_ HB hw607_7 :), (cb_ HB hw607_8 :), (cb_ HB hw607_9 :), (cb_ HB hw608_0 :), (cb_ HB hw608_1 :), (cb_ HB hw608_2 :), (cb_ HB hw608_3 :), (cb_ HB hw608_4 :), (cb_ HB hw608_5 :), (cb_ HB hw608_6 :), (cb_ HB hw608_7 :), (cb_ HB hw608_8 :), (cb_ HB hw608_9 :)⟩ (fun hHeld => ?_)
     clear hK K
     refine norm_ (a' := ?_) ?_ ?_
     rotate_left
     ·show Act.put _ (some 25) _ = _
      simp only [Act.put, sb_, sz_, ss_, i64_w, i32_w]
      rfl
     refine pz_ 9 26 (ba_ 10 1023) (ao_ HT_) ?_
     refine done_ (done_of HT_.out (by kernel_rfl)) ?_
     go_upto_if 26 with (fail)
     have H := HC8.out
     clear HC8
     by_cases c11 : t609 = true
     ·subst c11
      replace H := ite_t_ H
      have H' := aa_ H
      clear H
      go_wp2
      go_roundg k1
      case measure => have := HK1.out; omega
      case rel => exact ⟨(wrap64 (x5_1 + 1)), rf_, H', ⟨by have := HK1.out; omega⟩, ⟨bl_⟩⟩
     ·replace c11 := Bool.eq_false_iff.mpr c11
      subst c11
      replace H := ite_f_ H
      obtain rfl := Option.some.inj H
      go_wp2
      go_ret
      exact ⟨eq_, bl_⟩
    ·rw [if_neg c4] at H
     have c4b0 : decide (x5_1 < (l0.length : Int)) = false := decide_eq_false c4
     clear c4
     obtain rfl := Option.some.inj H
     go_wp2
     go_ret
     exact ⟨eq_, bl_⟩
 ·rw [if_neg c3] at H
  have c3b0 : ((l0.length : Int) == (l1.length : Int)) = false := beq_eq_false_iff_ne.mpr c3
  have c3b1 : ((l0.length : Int) != (l1.length : Int)) = true := bne_iff_ne.mpr c3
  have c3b2 : (l0.length == l1.length) = false := by first | simpa using c3 | (simp at c3 ⊢; omega)
  obtain rfl := Option.some.inj H
  go_enter Tryz.func25, Tryz.ntmps25
  go_wp2
  go_ret
  exact ⟨eq_, bl_⟩
def laws_eqFact.f (a0_0 : Int) (a0_1 : Int) (a0_2 : Int) (a1_0 : Int) (a1_1 : Int) (a1_2 : Int) : Option (Bool) := (laws_eqRole.f a0_0 a0_1 a1_0 a1_1).bind fun t612 => (if t612 = true then (if a0_2 = a1_2 then (some true) else (some false)) else (some false))
set_option maxHeartbeats 8000000 in
set_option maxRecDepth 100000 in
theorem laws_eqFact.calls (a0_0 : Int) (a0_1 : Int) (a0_2 : Int) (a1_0 : Int) (a1_1 : Int) (a1_2 : Int) (r : Bool) (w : World) (h : laws_eqFact.f a0_0 a0_1 a0_2 a1_0 a1_1 a1_2 = some r) :
  Calls Tryz.prog 55 #[.agg #[.int .i64 a0_0, .int .i64 a0_1, .int .i64 a0_2], .agg #[.int .i64 a1_0, .int .i64 a1_1, .int .i64 a1_2]] w fun e w' => e = .returned (.bool r) ∧ Below w.heap.size w w' := by
 have hu79 := Tryz.underlying79
 have hu77 := Tryz.underlying77
 have HB := aa_ (Below.refl w.heap.size w)
 have H : ((laws_eqRole.f a0_0 a0_1 a1_0 a1_1).bind fun t612 => (if t612 = true then (if a0_2 = a1_2 then (some true) else (some false)) else (some false))) = some r := h
 clear h
 obtain ⟨t612, A3, H⟩ := bindE_ H
 have HC4 := aa_ H
 clear H
 go_enter Tryz.func55, Tryz.ntmps55
 go_upto_if 10 with (first | ((with_reducible refine gD_ 2 rfl ?_); refine bx_ (N := 2) (cs := #[.int .i64 a0_0, .int .i64 a0_1, .int .i64 a0_2]) (t := 79) ?_; intro gb610 hg w5 hbox hb; have BK610 := aa_ (hbox); have GW610 := gs_ hg; have GE610 := gs_ hg; replace HB := hbs_ hb; clear hb hbox hg) | ((with_reducible refine gD_ 3 rfl ?_); refine bx_ (N := 3) (cs := #[.int .i64 a1_0, .int .i64 a1_1, .int .i64 a1_2]) (t := 79) ?_; intro gb611 hg w6 hbox hb; have BK611 := aa_ (hbox); have GW611 := gs_ hg; have GE611 := gs_ hg; replace HB := hbs_ hb; have NB610_611 := nl_ hg BK610; have NB611_610 := nr_ hg BK610; replace BK610 := bkb_ BK610 hb; clear hb hbox hg; have hnb7 := NB610_611.out; have hnc7 := NB611_610.out; obtain ⟨hcz8, hfz8⟩ := bcf_ BK610; obtain ⟨hcz9, hfz9⟩ := bcf_ BK611) | ((with_reducible refine gC_ 78 rfl ?_); refine goesC_ (some 9) Tryz.func78 #[.agg #[.int .i64 a0_0, .int .i64 a0_1], .agg #[.int .i64 a1_0, .int .i64 a1_1]] ?_; (with_reducible refine (laws_eqRole.calls a0_0 a0_1 a1_0 a1_1 t612 _ A3.out).mono ?_); rintro e w10 ⟨rfl, hb⟩; refine ⟨_, rfl, ?_⟩; replace BK610 := bkb_ BK610 hb; replace BK611 := bkb_ BK611 hb; replace HB := hbs_ hb; clear hb))
 (try simp only [Act.put, sb_, sz_, ss_])
 have H := HC4.out
 clear HC4
 by_cases c11 : t612 = true
 ·subst c11
  replace H := ite_t_ H
  by_cases c12 : a0_2 = a1_2
  ·rw [if_pos c12] at H
   have c12b0 : (a0_2 == a1_2) = true := beq_iff_eq.mpr c12
   have c12b1 : (a0_2 != a1_2) = false := bne_eq_false_iff_eq.mpr c12
   clear c12
   (first | rw [c12b0] | (simp only [i64_w, i32_w]; rw [c12b0]) | skip)
   obtain rfl := Option.some.inj H
   have hnb13 := NB610_611.out
   have hnc13 := NB611_610.out
   have hcz14 := blk_cell BK610.out
   have hfz14 := blk_frozen BK610.out
   have hcz15 := blk_cell BK611.out
   have hfz15 := blk_frozen BK611.out
   go_wp2
   go_ret
   exact ⟨eq_, bl_⟩
  ·rw [if_neg c12] at H
   have c12b0 : (a0_2 == a1_2) = false := beq_eq_false_iff_ne.mpr c12
   have c12b1 : (a0_2 != a1_2) = true := bne_iff_ne.mpr c12
   (first | rw [c12b0] | (simp only [i64_w, i32_w]; rw [c12b0]) | skip)
   obtain rfl := Option.some.inj H
   have hnb16 := NB610_611.out
   have hnc16 := NB611_610.out
   have hcz17 := blk_cell BK610.out
   have hfz17 := blk_frozen BK610.out
   have hcz18 := blk_cell BK611.out
   have hfz18 := blk_frozen BK611.out
   go_wp2
   go_ret
   exact ⟨eq_, bl_⟩
 ·replace c11 := Bool.eq_false_iff.mpr c11
  subst c11
  replace H := ite_f_ H
  obtain rfl := Option.some.inj H
  go_wp2
  go_ret
  exact ⟨eq_, bl_⟩
def laws_eqStep.f (k : Nat) (a0_0 : Int) (a0_1 : Int) (a0_2 : Int) (a0_3 : Int) (a0_4 : Int) (a0_5 : Int) (a0_6 : Int) (a0_7 : Int) (a0_8 : Int) (a0_9 : Int) (a0_10 : Int) (a0_11 : Int) (a0_12 : Int) (l0_13 : List Int) (a1_0 : Int) (a1_1 : Int) (a1_2 : Int) (a1_3 : Int) (a1_4 : Int) (a1_5 : Int) (a1_6 : Int) (a1_7 : Int) (a1_8 : Int) (a1_9 : Int) (a1_10 : Int) (a1_11 : Int) (a1_12 : Int) (l1_13 : List Int) : Option (Bool) := (laws_eqCred.f a0_0 a0_1 a0_2 a0_3 a0_4 a0_5 a0_6 a0_7 a0_8 a0_9 a1_0 a1_1 a1_2 a1_3 a1_4 a1_5 a1_6 a1_7 a1_8 a1_9).bind fun t615 => (if t615 = true then ((laws_eqFact.f a0_10 a0_11 a0_12 a1_10 a1_11 a1_12).bind fun t616 => (if t616 = true then ((laws_eqIntS.f k l0_13 l1_13).bind fun t617 => (if t617 = true then (some true) else (some false))) else (some false))) else (some false))
set_option maxHeartbeats 8000000 in
set_option maxRecDepth 100000 in
theorem laws_eqStep.calls (k : Nat) (a0_0 : Int) (a0_1 : Int) (a0_2 : Int) (a0_3 : Int) (a0_4 : Int) (a0_5 : Int) (a0_6 : Int) (a0_7 : Int) (a0_8 : Int) (a0_9 : Int) (a0_10 : Int) (a0_11 : Int) (a0_12 : Int) (A0_13 : Option Addr) (c0_13 : Nat) (l0_13 : List Int) (a1_0 : Int) (a1_1 : Int) (a1_2 : Int) (a1_3 : Int) (a1_4 : Int) (a1_5 : Int) (a1_6 : Int) (a1_7 : Int) (a1_8 : Int) (a1_9 : Int) (a1_10 : Int) (a1_11 : Int) (a1_12 : Int) (A1_13 : Option Addr) (c1_13 : Nat) (l1_13 : List Int) (r : Bool) (w : World) (hr0_13 : Kd.C (Kd.int .i64) w A0_13 l0_13.length l0_13) (hc0_13 : l0_13.length ≤ c0_13) (hr1_13 : Kd.C (Kd.int .i64) w A1_13 l1_13.length l1_13) (hc1_13 : l1_13.length ≤ c1_13) (h : laws_eqStep.f k a0_0 a0_1 a0_2 a0_3 a0_4 a0_5 a0_6 a0_7 a0_8 a0_9 a0_10 a0_11 a0_12 l0_13 a1_0 a1_1 a1_2 a1_3 a1_4 a1_5 a1_6 a1_7 a1_8 a1_9 a1_10 a1_11 a1_12 l1_13 = some r) :
  Calls Tryz.prog 91 #[.agg #[.int .i64 a0_0, .int .i64 a0_1, .int .i64 a0_2, .int .i64 a0_3, .int .i64 a0_4, .int .i64 a0_5, .int .i64 a0_6, .int .i64 a0_7, .int .i64 a0_8, .int .i64 a0_9, .int .i64 a0_10, .int .i64 a0_11, .int .i64 a0_12, .slice A0_13 l0_13.length c0_13], .agg #[.int .i64 a1_0, .int .i64 a1_1, .int .i64 a1_2, .int .i64 a1_3, .int .i64 a1_4, .int .i64 a1_5, .int .i64 a1_6, .int .i64 a1_7, .int .i64 a1_8, .int .i64 a1_9, .int .i64 a1_10, .int .i64 a1_11, .int .i64 a1_12, .slice A1_13 l1_13.length c1_13]] w fun e w' => e = .returned (.bool r) ∧ Below w.heap.size w w' := by
 have hu111 := Tryz.underlying111
 have hu83 := Tryz.underlying83
 have hu79 := Tryz.underlying79
 have HR0_13 := aa_ hr0_13
 have HC0_13 := aa_ hc0_13
 clear hr0_13 hc0_13
 have HR1_13 := aa_ hr1_13
 have HC1_13 := aa_ hc1_13
 clear hr1_13 hc1_13
 have HB := aa_ (Below.refl w.heap.size w)
 have H : ((laws_eqCred.f a0_0 a0_1 a0_2 a0_3 a0_4 a0_5 a0_6 a0_7 a0_8 a0_9 a1_0 a1_1 a1_2 a1_3 a1_4 a1_5 a1_6 a1_7 a1_8 a1_9).bind fun t615 => (if t615 = true then ((laws_eqFact.f a0_10 a0_11 a0_12 a1_10 a1_11 a1_12).bind fun t616 => (if t616 = true then ((laws_eqIntS.f k l0_13 l1_13).bind fun t617 => (if t617 = true then (some true) else (some false))) else (some false))) else (some false))) = some r := h
 clear h
 obtain ⟨t615, A3, H⟩ := bindE_ H
 have HC4 := aa_ H
 clear H
 go_enter Tryz.func91, Tryz.ntmps91
 go_upto_if 10 with (first | ((with_reducible refine gD_ 2 rfl ?_); refine bx_ (N := 2) (cs := #[.int .i64 a0_0, .int .i64 a0_1, .int .i64 a0_2, .int .i64 a0_3, .int .i64 a0_4, .int .i64 a0_5, .int .i64 a0_6, .int .i64 a0_7, .int .i64 a0_8, .int .i64 a0_9, .int .i64 a0_10, .int .i64 a0_11, .int .i64 a0_12, .slice A0_13 l0_13.length c0_13]) (t := 111) ?_; intro gb613 hg w5 hbox hb; have BK613 := aa_ (hbox); have GW613 := gs_ hg; have GE613 := gs_ hg; replace HB := hbs_ hb; clear hb hbox hg) | ((with_reducible refine gD_ 3 rfl ?_); refine bx_ (N := 3) (cs := #[.int .i64 a1_0, .int .i64 a1_1, .int .i64 a1_2, .int .i64 a1_3, .int .i64 a1_4, .int .i64 a1_5, .int .i64 a1_6, .int .i64 a1_7, .int .i64 a1_8, .int .i64 a1_9, .int .i64 a1_10, .int .i64 a1_11, .int .i64 a1_12, .slice A1_13 l1_13.length c1_13]) (t := 111) ?_; intro gb614 hg w6 hbox hb; have BK614 := aa_ (hbox); have GW614 := gs_ hg; have GE614 := gs_ hg; replace HB := hbs_ hb; have NB613_614 := nl_ hg BK613; have NB614_613 := nr_ hg BK613; replace BK613 := bkb_ BK613 hb; clear hb hbox hg; have hnb7 := NB613_614.out; have hnc7 := NB614_613.out; obtain ⟨hcz8, hfz8⟩ := bcf_ BK613; obtain ⟨hcz9, hfz9⟩ := bcf_ BK614) | ((with_reducible refine gC_ 53 rfl ?_); refine goesC_ (some 9) Tryz.func53 #[.agg #[.int .i64 a0_0, .int .i64 a0_1, .int .i64 a0_2, .int .i64 a0_3, .int .i64 a0_4, .int .i64 a0_5, .int .i64 a0_6, .int .i64 a0_7, .int .i64 a0_8, .int .i64 a0_9], .agg #[.int .i64 a1_0, .int .i64 a1_1, .int .i64 a1_2, .int .i64 a1_3, .int .i64 a1_4, .int .i64 a1_5, .int .i64 a1_6, .int .i64 a1_7, .int .i64 a1_8, .int .i64 a1_9]] ?_; (with_reducible refine (laws_eqCred.calls a0_0 a0_1 a0_2 a0_3 a0_4 a0_5 a0_6 a0_7 a0_8 a0_9 a1_0 a1_1 a1_2 a1_3 a1_4 a1_5 a1_6 a1_7 a1_8 a1_9 t615 _ A3.out).mono ?_); rintro e w10 ⟨rfl, hb⟩; refine ⟨_, rfl, ?_⟩; replace BK613 := bkb_ BK613 hb; replace BK614 := bkb_ BK614 hb; replace HB := hbs_ hb; clear hb))
 (try simp only [Act.put, sb_, sz_, ss_])
 have H := HC4.out
 clear HC4
 by_cases c11 : t615 = true
 ·subst c11
  replace H := ite_t_ H
  obtain ⟨t616, A12, H⟩ := bindE_ H
  have HC13 := aa_ H
  clear H
  have hnb14 := NB613_614.out
  have hnc14 := NB614_613.out
  have hcz15 := blk_cell BK613.out
  have hfz15 := blk_frozen BK613.out
  have hcz16 := blk_cell BK614.out
  have hfz16 := blk_frozen BK614.out
  go_upto_if 16 with (first | ((with_reducible refine gC_ 55 rfl ?_); refine goesC_ (some 15) Tryz.func55 #[.agg #[.int .i64 a0_10, .int .i64 a0_11, .int .i64 a0_12], .agg #[.int .i64 a1_10, .int .i64 a1_11, .int .i64 a1_12]] ?_; (with_reducible refine (laws_eqFact.calls a0_10 a0_11 a0_12 a1_10 a1_11 a1_12 t616 _ A12.out).mono ?_); rintro e w17 ⟨rfl, hb⟩; refine ⟨_, rfl, ?_⟩; replace BK613 := bkb_ BK613 hb; replace BK614 := bkb_ BK614 hb; replace HB := hbs_ hb; clear hb))
  (try simp only [Act.put, sb_, sz_, ss_])
  have H := HC13.out
  clear HC13
  by_cases c18 : t616 = true
  ·subst c18
   replace H := ite_t_ H
   obtain ⟨t617, A19, H⟩ := bindE_ H
   have HC20 := aa_ H
   clear H
   have hnb21 := NB613_614.out
   have hnc21 := NB614_613.out
   have hcz22 := blk_cell BK613.out
   have hfz22 := blk_frozen BK613.out
   have hcz23 := blk_cell BK614.out
   have hfz23 := blk_frozen BK614.out
   go_upto_if 22 with (first | ((with_reducible refine gC_ 24 rfl ?_); refine goesC_ (some 21) Tryz.func24 #[.slice A0_13 l0_13.length c0_13, .slice A1_13 l1_13.length c1_13] ?_; (with_reducible refine (laws_eqIntS.calls k _ _ l0_13 _ _ l1_13 t617 _ ?side1 ?side2 ?side3 ?side4 A19.out).mono ?_); (case side1 => repeat (first | exact (Kd.C_below HR0_13.out HB.out) | (with_reducible refine Kd.C_alloc ?_ _) | (with_reducible refine Kd.C_drewN ?_ _) | (with_reducible refine Kd.C_drew ?_))); (case side2 => exact HC0_13.out); (case side3 => repeat (first | exact (Kd.C_below HR1_13.out HB.out) | (with_reducible refine Kd.C_alloc ?_ _) | (with_reducible refine Kd.C_drewN ?_ _) | (with_reducible refine Kd.C_drew ?_))); (case side4 => exact HC1_13.out); rintro e w' ⟨rfl, ⟨nd, rfl⟩⟩; refine ⟨_, rfl, ?_⟩))
   (try simp only [Act.put, sb_, sz_, ss_])
   have H := HC20.out
   clear HC20
   by_cases c24 : t617 = true
   ·subst c24
    replace H := ite_t_ H
    obtain rfl := Option.some.inj H
    go_wp2
    go_ret
    exact ⟨eq_, bl_⟩
   ·replace c24 := Bool.eq_false_iff.mpr c24
    subst c24
    replace H := ite_f_ H
    obtain rfl := Option.some.inj H
    go_wp2
    go_ret
    exact ⟨eq_, bl_⟩
  ·replace c18 := Bool.eq_false_iff.mpr c18
   subst c18
   replace H := ite_f_ H
   obtain rfl := Option.some.inj H
   go_wp2
   go_ret
   exact ⟨eq_, bl_⟩
 ·replace c11 := Bool.eq_false_iff.mpr c11
  subst c11
  replace H := ite_f_ H
  obtain rfl := Option.some.inj H
  go_wp2
  go_ret
  exact ⟨eq_, bl_⟩
def laws_eqStepS.l0 : Nat → List (S111) → List (S111) → Int → Option (Bool)
 | 0, _, _, _ => none
 | k + 1, x0, x1, x5 => if x5 < (x0.length : Int) then (if 0 ≤ x5 then (if x5 < (x1.length : Int) then ((laws_eqStep.f k ((rd_T111 x0 x5).f0.f0) ((rd_T111 x0 x5).f0.f1.f0) ((rd_T111 x0 x5).f0.f1.f1) ((rd_T111 x0 x5).f0.f2) ((rd_T111 x0 x5).f0.f3.f0) ((rd_T111 x0 x5).f0.f3.f1) ((rd_T111 x0 x5).f0.f4.f0) ((rd_T111 x0 x5).f0.f4.f1) ((rd_T111 x0 x5).f0.f5) ((rd_T111 x0 x5).f0.f6) ((rd_T111 x0 x5).f1.f0.f0) ((rd_T111 x0 x5).f1.f0.f1) ((rd_T111 x0 x5).f1.f1) ((rd_T111 x0 x5).f2) ((rd_T111 x1 x5).f0.f0) ((rd_T111 x1 x5).f0.f1.f0) ((rd_T111 x1 x5).f0.f1.f1) ((rd_T111 x1 x5).f0.f2) ((rd_T111 x1 x5).f0.f3.f0) ((rd_T111 x1 x5).f0.f3.f1) ((rd_T111 x1 x5).f0.f4.f0) ((rd_T111 x1 x5).f0.f4.f1) ((rd_T111 x1 x5).f0.f5) ((rd_T111 x1 x5).f0.f6) ((rd_T111 x1 x5).f1.f0.f0) ((rd_T111 x1 x5).f1.f0.f1) ((rd_T111 x1 x5).f1.f1) ((rd_T111 x1 x5).f2)).bind fun t620 => (if t620 = true then (laws_eqStepS.l0 k x0 x1 (wrap64 (x5 + 1))) else (some false))) else (none)) else (none)) else (some true)
def laws_eqStepS.f (k : Nat) (l0 : List (S111)) (l1 : List (S111)) : Option (Bool) := if (l0.length : Int) = (l1.length : Int) then (laws_eqStepS.l0 k l0 l1 0) else (some false)
def laws_eqStepS.T6 : Bool × List (List Nat × List Nat) := (true, [([], []), ([], []), ([0, 1], [0, 1]), ([2], [2]), ([], []), ([], []), ([4, 5], [4, 5]), ([6], [6]), ([3, 7], [3, 7]), ([8], [8])])
def laws_eqStepS.B6 : List Nat := [0, 0, 3, 7, 0, 0, 48, 112, 255, 511]
theorem laws_eqStepS.tab6 : rtab .any (opsOf Tryz.f79 6) = laws_eqStepS.T6 := by kernel_rfl
theorem laws_eqStepS.bits6 : waitsOk laws_eqStepS.T6.2 laws_eqStepS.B6 = true := by kernel_rfl
set_option maxHeartbeats 8000000 in
set_option maxRecDepth 100000 in
theorem laws_eqStepS.calls (k : Nat) (A0 : Option Addr) (c0 : Nat) (l0 : List (S111)) (A1 : Option Addr) (c1 : Nat) (l1 : List (S111)) (r : Bool) (w : World) (hr0 : Kd.C k111 w A0 l0.length l0) (hc0 : l0.length ≤ c0) (hr1 : Kd.C k111 w A1 l1.length l1) (hc1 : l1.length ≤ c1) (h : laws_eqStepS.f k l0 l1 = some r) :
  Calls Tryz.prog 79 #[.slice A0 l0.length c0, .slice A1 l1.length c1] w fun e w' => e = .returned (.bool r) ∧ Below w.heap.size w w' := by
 have hu111 := Tryz.underlying111
 have HR0 := aa_ hr0
 have HC0 := aa_ hc0
 clear hr0 hc0
 have HR1 := aa_ hr1
 have HC1 := aa_ hc1
 clear hr1 hc1
 have HB := aa_ (Below.refl w.heap.size w)
 have H : (if (l0.length : Int) = (l1.length : Int) then (laws_eqStepS.l0 k l0 l1 0) else (some false)) = some r := h
 clear h
 by_cases c3 : (l0.length : Int) = (l1.length : Int)
 ·rw [if_pos c3] at H
  have c3b0 : ((l0.length : Int) == (l1.length : Int)) = true := beq_iff_eq.mpr c3
  have c3b1 : ((l0.length : Int) != (l1.length : Int)) = false := bne_eq_false_iff_eq.mpr c3
  have c3b2 : (l0.length == l1.length) = true := by first | simpa using c3 | (simp at c3 ⊢; omega)
  clear c3
  have H' := aa_ H
  clear H
  go_enter Tryz.func79, Tryz.ntmps79
  go_wp2
  go_loopg [5] k (fun kq v5 w' => ∃ (x5_1 : Int), v5 = .int .i64 x5_1 ∧ Aside0 (laws_eqStepS.l0 kq l0 l1 x5_1 = some r) ∧ Aside0 (kq ≤ k) ∧ Aside0 (Below w.heap.size w w'))
  case atStart => exact ⟨(0), rf_, H', ⟨Nat.le_refl _⟩, ⟨bl_⟩⟩
  case round =>
   clear H'
   try clear p2
   try clear c3b0
   try clear c3b1
   try clear c3b2
   obtain ⟨x5_1, rfl, HA, HK1, HB⟩ := hrel
   cases gk with
   | zero => exact absurd HA.out (by simp [laws_eqStepS.l0])
   | succ k1 =>
    have H := HA.out
    clear HA
    simp only [laws_eqStepS.l0] at H
    by_cases c4 : x5_1 < (l0.length : Int)
    ·rw [if_pos c4] at H
     have c4b0 : decide (x5_1 < (l0.length : Int)) = true := decide_eq_true c4
     clear c4
     obtain ⟨c5b0, H⟩ := ifd_ H
     obtain ⟨c6b0, H⟩ := ifd_ H
     obtain ⟨t620, A7, H⟩ := bindE_ H
     have HC8 := aa_ H
     clear H
     try go_wp2
     replace HB := aa_ (below_drew1 HB.out)
     have p618 : 0 ≤ (x5_1 : Int) := od_
     have q618 : x5_1 < (l0.length : Int) := od_
     obtain ⟨ad618, A618_13, c618_13, e618, hx618_0, hx618_1, hx618_2, hx618_3, hx618_4, hx618_5, hx618_6, hx618_7, hx618_8, hx618_9, hx618_10, hx618_11, hx618_12, hx618_13, hl618_13, hi618_13⟩ := at_T111 HR0.out x5_1 p618 q618
     have hw618_13 := hx618_13
     have hw618_12 := hx618_12
     have hw618_11 := hx618_11
     have hw618_10 := hx618_10
     have hw618_9 := hx618_9
     have hw618_8 := hx618_8
     have hw618_7 := hx618_7
     have hw618_6 := hx618_6
     have hw618_5 := hx618_5
     have hw618_4 := hx618_4
     have hw618_3 := hx618_3
     have hw618_2 := hx618_2
     have hw618_1 := hx618_1
     have hw618_0 := hx618_0
     cases e618
     replace hx618_0 := cb_ HB hx618_0
     replace hx618_1 := cb_ HB hx618_1
     replace hx618_2 := cb_ HB hx618_2
     replace hx618_3 := cb_ HB hx618_3
     replace hx618_4 := cb_ HB hx618_4
     replace hx618_5 := cb_ HB hx618_5
     replace hx618_6 := cb_ HB hx618_6
     replace hx618_7 := cb_ HB hx618_7
     replace hx618_8 := cb_ HB hx618_8
     replace hx618_9 := cb_ HB hx618_9
     replace hx618_10 := cb_ HB hx618_10
     replace hx618_11 := cb_ HB hx618_11
     replace hx618_12 := cb_ HB hx618_12
     replace hx618_13 := cb_ HB hx618_13
     have HR618_13 := aa_ hi618_13
     have HC618_13 := aa_ hl618_13
     clear hi618_13 hl618_13
     replace p618 := eq_true p618
     replace q618 := eq_true q618
     have p619 : 0 ≤ (x5_1 : Int) := od_
     have q619 : x5_1 < (l1.length : Int) := od_
     obtain ⟨ad619, A619_13, c619_13, e619, hx619_0, hx619_1, hx619_2, hx619_3, hx619_4, hx619_5, hx619_6, hx619_7, hx619_8, hx619_9, hx619_10, hx619_11, hx619_12, hx619_13, hl619_13, hi619_13⟩ := at_T111 HR1.out x5_1 p619 q619
     have hw619_13 := hx619_13
     have hw619_12 := hx619_12
     have hw619_11 := hx619_11
     have hw619_10 := hx619_10
     have hw619_9 := hx619_9
     have hw619_8 := hx619_8
     have hw619_7 := hx619_7
     have hw619_6 := hx619_6
     have hw619_5 := hx619_5
     have hw619_4 := hx619_4
     have hw619_3 := hx619_3
     have hw619_2 := hx619_2
     have hw619_1 := hx619_1
     have hw619_0 := hx619_0
     cases e619
     replace hx619_0 := cb_ HB hx619_0
     replace hx619_1 := cb_ HB hx619_1
     replace hx619_2 := cb_ HB hx619_2
     replace hx619_3 := cb_ HB hx619_3
     replace hx619_4 := cb_ HB hx619_4
     replace hx619_5 := cb_ HB hx619_5
     replace hx619_6 := cb_ HB hx619_6
     replace hx619_7 := cb_ HB hx619_7
     replace hx619_8 := cb_ HB hx619_8
     replace hx619_9 := cb_ HB hx619_9
     replace hx619_10 := cb_ HB hx619_10
     replace hx619_11 := cb_ HB hx619_11
     replace hx619_12 := cb_ HB hx619_12
     replace hx619_13 := cb_ HB hx619_13
     have HR619_13 := aa_ hi619_13
     have HC619_13 := aa_ hl619_13
     clear hi619_13 hl619_13
     replace p619 := eq_true p619
     replace q619 := eq_true q619
     refine start_ (n := 10) (S := fun w' => w'.cell? (ad618.add ((x5_1).toNat * 14)) = some (.int .i64 ((rd_T111 l0 x5_1).f0.f0)) ∧ w'.cell? ⟨(ad618.add ((x5_1).toNat * 14)).block, (ad618.add ((x5_1).toNat * 14)).off + 1, none⟩ = some (.int .i64 ((rd_T111 l0 x5_1).f0.f1.f0)) ∧ w'.cell? ⟨(ad618.add ((x5_1).toNat * 14)).block, (ad618.add ((x5_1).toNat * 14)).off + 2, none⟩ = some (.int .i64 ((rd_T111 l0 x5_1).f0.f1.f1)) ∧ w'.cell? ⟨(ad618.add ((x5_1).toNat * 14)).block, (ad618.add ((x5_1).toNat * 14)).off + 3, none⟩ = some (.int .i64 ((rd_T111 l0 x5_1).f0.f2)) ∧ w'.cell? ⟨(ad618.add ((x5_1).toNat * 14)).block, (ad618.add ((x5_1).toNat * 14)).off + 4, none⟩ = some (.int .i64 ((rd_T111 l0 x5_1).f0.f3.f0)) ∧ w'.cell? ⟨(ad618.add ((x5_1).toNat * 14)).block, (ad618.add ((x5_1).toNat * 14)).off + 5, none⟩ = some (.int .i64 ((rd_T111 l0 x5_1).f0.f3.f1)) ∧ w'.cell? ⟨(ad618.add ((x5_1).toNat * 14)).block, (ad618.add ((x5_1).toNat * 14)).off + 6, none⟩ = some (.int .i64 ((rd_T111 l0 x5_1).f0.f4.f0)) ∧ w'.cell? ⟨(ad618.add ((x5_1).toNat * 14)).block, (ad618.add ((x5_1).toNat * 14)).off + 7, none⟩ = some (.int .i64 ((rd_T111 l0 x5_1).f0.f4.f1)) ∧ w'.cell? ⟨(ad618.add ((x5_1).toNat * 14)).block, (ad618.add ((x5_1).toNat * 14)).off + 8, none⟩ = some (.int .i64 ((rd_T111 l0 x5_1).f0.f5)) ∧ w'.cell? ⟨(ad618.add ((x5_1).toNat * 14)).block, (ad618.add ((x5_1).toNat * 14)).off + 9, none⟩ = some (.int .i64 ((rd_T111 l0 x5_1).f0.f6)) ∧ w'.cell? ⟨(ad618.add ((x5_1).toNat * 14)).block, (ad618.add ((x5_1).toNat * 14)).off + 10, none⟩ = some (.int .i64 ((rd_T111 l0 x5_1).f1.f0.f0)) ∧ w'.cell? ⟨(ad618.add ((x5_1).toNat * 14)).block, (ad618.add ((x5_1).toNat * 14)).off + 11, none⟩ = some (.int .i64 ((rd_T111 l0 x5_1).f1.f0.f1)) ∧ w'.cell? ⟨(ad618.add ((x5_1).toNat * 14)).block, (ad618.add ((x5_1).toNat * 14)).off + 12, none⟩ = some (.int .i64 ((rd_T111 l0 x5_1).f1.f1)) ∧ w'.cell? ⟨(ad618.add ((x5_1).toNat * 14)).block, (ad618.add ((x5_1).toNat * 14)).off + 13, none⟩ = some (.slice A618_13 ((rd_T111 l0 x5_1).f2).length c618_13) ∧ w'.cell? (ad619.add ((x5_1).toNat * 14)) = some (.int .i64 ((rd_T111 l1 x5_1).f0.f0)) ∧ w'.cell? ⟨(ad619.add ((x5_1).toNat * 14)).block, (ad619.add ((x5_1).toNat * 14)).off + 1, none⟩ = some (.int .i64 ((rd_T111 l1 x5_1).f0.f1.f0)) ∧ w'.cell? ⟨(ad619.add ((x5_1).toNat * 14)).block, (ad619.add ((x5_1).toNat * 14)).off + 2, none⟩ = some (.int .i64 ((rd_T111 l1 x5_1).f0.f1.f1)) ∧ w'.cell? ⟨(ad619.add ((x5_1).toNat * 14)).block, (ad619.add ((x5_1).toNat * 14)).off + 3, none⟩ = some (.int .i64 ((rd_T111 l1 x5_1).f0.f2)) ∧ w'.cell? ⟨(ad619.add ((x5_1).toNat * 14)).block, (ad619.add ((x5_1).toNat * 14)).off + 4, none⟩ = some (.int .i64 ((rd_T111 l1 x5_1).f0.f3.f0)) ∧ w'.cell? ⟨(ad619.add ((x5_1).toNat * 14)).block, (ad619.add ((x5_1).toNat * 14)).off + 5, none⟩ = some (.int .i64 ((rd_T111 l1 x5_1).f0.f3.f1)) ∧ w'.cell? ⟨(ad619.add ((x5_1).toNat * 14)).block, (ad619.add ((x5_1).toNat * 14)).off + 6, none⟩ = some (.int .i64 ((rd_T111 l1 x5_1).f0.f4.f0)) ∧ w'.cell? ⟨(ad619.add ((x5_1).toNat * 14)).block, (ad619.add ((x5_1).toNat * 14)).off + 7, none⟩ = some (.int .i64 ((rd_T111 l1 x5_1).f0.f4.f1)) ∧ w'.cell? ⟨(ad619.add ((x5_1).toNat * 14)).block, (ad619.add ((x5_1).toNat * 14)).off + 8, none⟩ = some (.int .i64 ((rd_T111 l1 x5_1).f0.f5)) ∧ w'.cell? ⟨(ad619.add ((x5_1).toNat * 14)).block, (ad619.add ((x5_1).toNat * 14)).off + 9, none⟩ = some (.int .i64 ((rd_T111 l1 x5_1).f0.f6)) ∧ w'.cell? ⟨(ad619.add ((x5_1).toNat * 14)).block, (ad619.add ((x5_1).toNat * 14)).off + 10, none⟩ = some (.int .i64 ((rd_T111 l1 x5_1).f1.f0.f0)) ∧ w'.cell? ⟨(ad619.add ((x5_1).toNat * 14)).block, (ad619.add ((x5_1).toNat * 14)).off + 11, none⟩ = some (.int .i64 ((rd_T111 l1 x5_1).f1.f0.f1)) ∧ w'.cell? ⟨(ad619.add ((x5_1).toNat * 14)).block, (ad619.add ((x5_1).toNat * 14)).off + 12, none⟩ = some (.int .i64 ((rd_T111 l1 x5_1).f1.f1)) ∧ w'.cell? ⟨(ad619.add ((x5_1).toNat * 14)).block, (ad619.add ((x5_1).toNat * 14)).off + 13, none⟩ = some (.slice A619_13 ((rd_T111 l1 x5_1).f2).length c619_13)) (ds := []) (ba_ 10 0) (by kernel_rfl) rfl rfl ⟨(cb_ HB hw618_0 :), (cb_ HB hw618_1 :), (cb_ HB hw618_2 :), (cb_ HB hw618_3 :), (cb_ HB hw618_4 :), (cb_ HB hw618_5 :), (cb_ HB hw618_6 :), (cb_ HB hw618_7 :), (cb_ HB hw618_8 :), (cb_ HB hw618_9 :), (cb_ HB hw618_10 :), (cb_ HB hw618_11 :), (cb_ HB hw618_12 :), (cb_ HB hw618_13 :), (cb_ HB hw619_0 :), (cb_ HB hw619_1 :), (cb_ HB hw619_2 :), (cb_ HB hw619_3 :), (cb_ HB hw619_4 :), (cb_ HB hw619_5 :), (cb_ HB hw619_6 :), (cb_ HB hw619_7 :), (cb_ HB hw619_8 :), (cb_ HB hw619_9 :), (cb_ HB hw619_10 :), (cb_ HB hw619_11 :), (cb_ HB hw619_12 :), (cb_ HB hw619_13 :)⟩ (fun hHeld => ?_); refine with_tabW laws_eqStepS.tab6 laws_eqStepS.bits6 (fun HT_ HW_ => ?_)
     generalize wr.drew = w9 at HB HR618_13 HR619_13 hx618_0 hx618_1 hx618_10 hx618_11 hx618_12 hx618_13 hx618_2 hx618_3 hx618_4 hx618_5 hx618_6 hx618_7 hx618_8 hx618_9 hx619_0 hx619_1 hx619_10 hx619_11 hx619_12 hx619_13 hx619_2 hx619_3 hx619_4 hx619_5 hx619_6 hx619_7 hx619_8 hx619_9 hHeld ⊢
     refine pz_ 0 17 (ba_ 10 1) (ao_ HT_) ?_
     refine pz_ 1 18 (ba_ 10 3) (ao_ HT_) ?_
     refine pz_ 2 19 (ba_ 10 7) (ao_ HT_) ?_
     refine pz_ 4 21 (ba_ 10 23) (ao_ HT_) ?_
     refine pz_ 5 22 (ba_ 10 55) (ao_ HT_) ?_
     refine pz_ 6 23 (ba_ 10 119) (ao_ HT_) ?_
     refine tz_ 3 20 (ba_ 10 127) (take_ofW HT_.out HW_.out (by kernel_rfl)) hHeld ?_
     refine tz_ 7 24 (ba_ 10 255) (take_ofW HT_.out HW_.out (by kernel_rfl)) hHeld ?_
     refine one_ (i := 8) (N := some 25) (ba_ 10 511) rfl rfl (one_of HT_.out (by kernel_rfl)) (by decide) (fun K hK => ?_)
     refine goes_ Tryz.func91 (by kernel_rfl) rfl #[.agg #[.int .i64 ((rd_T111 l0 x5_1).f0.f0), .int .i64 ((rd_T111 l0 x5_1).f0.f1.f0), .int .i64 ((rd_T111 l0 x5_1).f0.f1.f1), .int .i64 ((rd_T111 l0 x5_1).f0.f2), .int .i64 ((rd_T111 l0 x5_1).f0.f3.f0), .int .i64 ((rd_T111 l0 x5_1).f0.f3.f1), .int .i64 ((rd_T111 l0 x5_1).f0.f4.f0), .int .i64 ((rd_T111 l0 x5_1).f0.f4.f1), .int .i64 ((rd_T111 l0 x5_1).f0.f5), .int .i64 ((rd_T111 l0 x5_1).f0.f6), .int .i64 ((rd_T111 l0 x5_1).f1.f0.f0), .int .i64 ((rd_T111 l0 x5_1).f1.f0.f1), .int .i64 ((rd_T111 l0 x5_1).f1.f1), .slice A618_13 ((rd_T111 l0 x5_1).f2).length c618_13], .agg #[.int .i64 ((rd_T111 l1 x5_1).f0.f0), .int .i64 ((rd_T111 l1 x5_1).f0.f1.f0), .int .i64 ((rd_T111 l1 x5_1).f0.f1.f1), .int .i64 ((rd_T111 l1 x5_1).f0.f2), .int .i64 ((rd_T111 l1 x5_1).f0.f3.f0), .int .i64 ((rd_T111 l1 x5_1).f0.f3.f1), .int .i64 ((rd_T111 l1 x5_1).f0.f4.f0), .int .i64 ((rd_T111 l1 x5_1).f0.f4.f1), .int .i64 ((rd_T111 l1 x5_1).f0.f5), .int .i64 ((rd_T111 l1 x5_1).f0.f6), .int .i64 ((rd_T111 l1 x5_1).f1.f0.f0), .int .i64 ((rd_T111 l1 x5_1).f1.f0.f1), .int .i64 ((rd_T111 l1 x5_1).f1.f1), .slice A619_13 ((rd_T111 l1 x5_1).f2).length c619_13]] (by rfl) rfl rfl (by (try simp only [List.map_toArray, List.map_cons, List.map_nil]); first | done | rfl | (simp only [List.length_drop, List.length_take]; rfl)) ?_
     with_reducible refine (laws_eqStep.calls k1 ((rd_T111 l0 x5_1).f0.f0) ((rd_T111 l0 x5_1).f0.f1.f0) ((rd_T111 l0 x5_1).f0.f1.f1) ((rd_T111 l0 x5_1).f0.f2) ((rd_T111 l0 x5_1).f0.f3.f0) ((rd_T111 l0 x5_1).f0.f3.f1) ((rd_T111 l0 x5_1).f0.f4.f0) ((rd_T111 l0 x5_1).f0.f4.f1) ((rd_T111 l0 x5_1).f0.f5) ((rd_T111 l0 x5_1).f0.f6) ((rd_T111 l0 x5_1).f1.f0.f0) ((rd_T111 l0 x5_1).f1.f0.f1) ((rd_T111 l0 x5_1).f1.f1) _ _ ((rd_T111 l0 x5_1).f2) ((rd_T111 l1 x5_1).f0.f0) ((rd_T111 l1 x5_1).f0.f1.f0) ((rd_T111 l1 x5_1).f0.f1.f1) ((rd_T111 l1 x5_1).f0.f2) ((rd_T111 l1 x5_1).f0.f3.f0) ((rd_T111 l1 x5_1).f0.f3.f1) ((rd_T111 l1 x5_1).f0.f4.f0) ((rd_T111 l1 x5_1).f0.f4.f1) ((rd_T111 l1 x5_1).f0.f5) ((rd_T111 l1 x5_1).f0.f6) ((rd_T111 l1 x5_1).f1.f0.f0) ((rd_T111 l1 x5_1).f1.f0.f1) ((rd_T111 l1 x5_1).f1.f1) _ _ ((rd_T111 l1 x5_1).f2) t620 _ ?side1 ?side2 ?side3 ?side4 A7.out).mono ?_
     (case side1 => repeat (first | exact (Kd.C_below HR618_13.out HB.out) | (with_reducible refine Kd.C_alloc ?_ _) | (with_reducible refine Kd.C_drewN ?_ _) | (with_reducible refine Kd.C_drew ?_)))
     (case side2 => exact HC618_13.out)
     (case side3 => repeat (first | exact (Kd.C_below HR619_13.out HB.out) | (with_reducible refine Kd.C_alloc ?_ _) | (with_reducible refine Kd.C_drewN ?_ _) | (with_reducible refine Kd.C_drew ?_)))
     (case side4 => exact HC619_13.out)
     rintro e w10 ⟨rfl, hb⟩
     refine ⟨_, rfl, ?_⟩
     replace HB := hbs_ hb
     (try clear hb)
     (try clear hb2)
     (try clear hk)
     (try clear hi)
     refine hK.out _ _ ⟨(cb_ HB hw618_0 :), (cb_ HB hw618_1 :), (cb_ HB hw618_2 :), (cb_ HB hw618_3 :), (cb_ HB hw618_4 :), (cb_ HB hw618_5 :), (cb_ HB hw618_6 :), (cb_ HB hw618_7 :), (cb_ HB hw618_8 :), (cb_ HB hw618_9 :), (cb_ HB hw618_10 :), (cb_ HB hw618_11 :), (cb_ HB hw618_12 :), (cb_ HB hw618_13 :), (cb_ HB hw619_0 :), (cb_ HB hw619_1 :), (cb_ HB hw619_2 :), (cb_ HB hw619_3 :), (cb_ HB hw619_4 :), (cb_ HB hw619_5 :), (cb_ HB hw619_6 :), (cb_ HB hw619_7 :), (cb_ HB hw619_8 :), (cb_ HB hw619_9 :), (cb_ HB hw619_10 :), (cb_ HB hw619_11 :), (cb_ HB hw619_12 :), (cb_ HB hw619_13 :)⟩ (fun hHeld => ?_)
     clear hK K
     refine norm_ (a' := ?_) ?_ ?_
     rotate_left
     ·show Act.put _ (some 25) _ = _
      simp only [Act.put, sb_, sz_, ss_, i64_w, i32_w]
      rfl
     refine pz_ 9 26 (ba_ 10 1023) (ao_ HT_) ?_
     refine done_ (done_of HT_.out (by kernel_rfl)) ?_
     go_upto_if 26 with (fail)
     have H := HC8.out
     clear HC8
     by_cases c11 : t620 = true
     ·subst c11
      replace H := ite_t_ H
      have H' := aa_ H
      clear H
      go_wp2
      go_roundg k1
      case measure => have := HK1.out; omega
      case rel => exact ⟨(wrap64 (x5_1 + 1)), rf_, H', ⟨by have := HK1.out; omega⟩, ⟨bl_⟩⟩
     ·replace c11 := Bool.eq_false_iff.mpr c11
      subst c11
      replace H := ite_f_ H
      obtain rfl := Option.some.inj H
      go_wp2
      go_ret
      exact ⟨eq_, bl_⟩
    ·rw [if_neg c4] at H
     have c4b0 : decide (x5_1 < (l0.length : Int)) = false := decide_eq_false c4
     clear c4
     obtain rfl := Option.some.inj H
     go_wp2
     go_ret
     exact ⟨eq_, bl_⟩
 ·rw [if_neg c3] at H
  have c3b0 : ((l0.length : Int) == (l1.length : Int)) = false := beq_eq_false_iff_ne.mpr c3
  have c3b1 : ((l0.length : Int) != (l1.length : Int)) = true := bne_iff_ne.mpr c3
  have c3b2 : (l0.length == l1.length) = false := by first | simpa using c3 | (simp at c3 ⊢; omega)
  obtain rfl := Option.some.inj H
  go_enter Tryz.func79, Tryz.ntmps79
  go_wp2
  go_ret
  exact ⟨eq_, bl_⟩
def laws_eqAnswer.f (k : Nat) (a0_0 : Bool) (l0_1 : List (S111)) (a0_2 : Int) (a0_3 : Bool) (a0_4 : Bool) (a1_0 : Bool) (l1_1 : List (S111)) (a1_2 : Int) (a1_3 : Bool) (a1_4 : Bool) : Option (Bool) := if (a0_0 != a1_0) = true then (some false) else ((laws_eqStepS.f k l0_1 l1_1).bind fun t623 => (if t623 = true then (if a0_2 = a1_2 then (if (a0_3 != a1_3) = true then (some false) else (if (a0_4 != a1_4) = true then (some false) else (some true))) else (some false)) else (some false)))
set_option maxHeartbeats 8000000 in
set_option maxRecDepth 100000 in
theorem laws_eqAnswer.calls (k : Nat) (a0_0 : Bool) (A0_1 : Option Addr) (c0_1 : Nat) (l0_1 : List (S111)) (a0_2 : Int) (a0_3 : Bool) (a0_4 : Bool) (a1_0 : Bool) (A1_1 : Option Addr) (c1_1 : Nat) (l1_1 : List (S111)) (a1_2 : Int) (a1_3 : Bool) (a1_4 : Bool) (r : Bool) (w : World) (hr0_1 : Kd.C k111 w A0_1 l0_1.length l0_1) (hc0_1 : l0_1.length ≤ c0_1) (hr1_1 : Kd.C k111 w A1_1 l1_1.length l1_1) (hc1_1 : l1_1.length ≤ c1_1) (h : laws_eqAnswer.f k a0_0 l0_1 a0_2 a0_3 a0_4 a1_0 l1_1 a1_2 a1_3 a1_4 = some r) :
  Calls Tryz.prog 54 #[.agg #[.bool a0_0, .slice A0_1 l0_1.length c0_1, .int .i64 a0_2, .bool a0_3, .bool a0_4], .agg #[.bool a1_0, .slice A1_1 l1_1.length c1_1, .int .i64 a1_2, .bool a1_3, .bool a1_4]] w fun e w' => e = .returned (.bool r) ∧ Below w.heap.size w w' := by
 have hu73 := Tryz.underlying73
 have HR0_1 := aa_ hr0_1
 have HC0_1 := aa_ hc0_1
 clear hr0_1 hc0_1
 have HR1_1 := aa_ hr1_1
 have HC1_1 := aa_ hc1_1
 clear hr1_1 hc1_1
 have HB := aa_ (Below.refl w.heap.size w)
 have H : (if (a0_0 != a1_0) = true then (some false) else ((laws_eqStepS.f k l0_1 l1_1).bind fun t623 => (if t623 = true then (if a0_2 = a1_2 then (if (a0_3 != a1_3) = true then (some false) else (if (a0_4 != a1_4) = true then (some false) else (some true))) else (some false)) else (some false)))) = some r := h
 clear h
 have HC3 := aa_ H
 clear H
 go_enter Tryz.func54, Tryz.ntmps54
 go_upto_if 9 with (first | ((with_reducible refine gD_ 2 rfl ?_); refine bx_ (N := 2) (cs := #[.bool a0_0, .slice A0_1 l0_1.length c0_1, .int .i64 a0_2, .bool a0_3, .bool a0_4]) (t := 73) ?_; intro gb621 hg w4 hbox hb; have BK621 := aa_ (hbox); have GW621 := gs_ hg; have GE621 := gs_ hg; replace HB := hbs_ hb; clear hb hbox hg) | ((with_reducible refine gD_ 3 rfl ?_); refine bx_ (N := 3) (cs := #[.bool a1_0, .slice A1_1 l1_1.length c1_1, .int .i64 a1_2, .bool a1_3, .bool a1_4]) (t := 73) ?_; intro gb622 hg w5 hbox hb; have BK622 := aa_ (hbox); have GW622 := gs_ hg; have GE622 := gs_ hg; replace HB := hbs_ hb; have NB621_622 := nl_ hg BK621; have NB622_621 := nr_ hg BK621; replace BK621 := bkb_ BK621 hb; clear hb hbox hg; have hnb6 := NB621_622.out; have hnc6 := NB622_621.out; obtain ⟨hcz7, hfz7⟩ := bcf_ BK621; obtain ⟨hcz8, hfz8⟩ := bcf_ BK622))
 (try simp only [Act.put, sb_, sz_, ss_])
 have H := HC3.out
 clear HC3
 by_cases c9 : (a0_0 != a1_0) = true
 ·rw [if_pos c9] at H
  have c9b0 : (a0_0 != a1_0) = true := c9
  (try (have c9b1 : decide (a0_0 = a1_0) = false := by simpa using c9))
  (try (have c9b2 : (a0_0 == a1_0) = false := by simpa using c9))
  (try (have c9b5 : (!(a0_0 == a1_0)) = true := by rw [c9b2]; rfl))
  (try (have c9b3 : ¬ (a0_0 = a1_0) := by simpa using c9))
  clear c9
  (first | rw [c9b5] | rw [c9b0] | (simp only [i64_w, i32_w]; rw [c9b0]) | skip)
  obtain rfl := Option.some.inj H
  go_wp2
  go_ret
  exact ⟨eq_, bl_⟩
 ·rw [if_neg c9] at H
  have c9b0 : (a0_0 != a1_0) = false := by simpa using c9
  (try (have c9b1 : decide (a0_0 = a1_0) = true := by simpa using c9))
  (try (have c9b2 : (a0_0 == a1_0) = true := by simpa using c9))
  (try (have c9b5 : (!(a0_0 == a1_0)) = false := by rw [c9b2]; rfl))
  clear c9
  (first | rw [c9b5] | rw [c9b0] | (simp only [i64_w, i32_w]; rw [c9b0]) | skip)
  obtain ⟨t623, A10, H⟩ := bindE_ H
  have HC11 := aa_ H
  clear H
  have hnb12 := NB621_622.out
  have hnc12 := NB622_621.out
  have hcz13 := blk_cell BK621.out
  have hfz13 := blk_frozen BK621.out
  have hcz14 := blk_cell BK622.out
  have hfz14 := blk_frozen BK622.out
  go_upto_if 15 with (first | ((with_reducible refine gC_ 79 rfl ?_); refine goesC_ (some 14) Tryz.func79 #[.slice A0_1 l0_1.length c0_1, .slice A1_1 l1_1.length c1_1] ?_; (with_reducible refine (laws_eqStepS.calls k _ _ l0_1 _ _ l1_1 t623 _ ?side1 ?side2 ?side3 ?side4 A10.out).mono ?_); (case side1 => repeat (first | exact (Kd.C_below HR0_1.out HB.out) | (with_reducible refine Kd.C_alloc ?_ _) | (with_reducible refine Kd.C_drewN ?_ _) | (with_reducible refine Kd.C_drew ?_))); (case side2 => exact HC0_1.out); (case side3 => repeat (first | exact (Kd.C_below HR1_1.out HB.out) | (with_reducible refine Kd.C_alloc ?_ _) | (with_reducible refine Kd.C_drewN ?_ _) | (with_reducible refine Kd.C_drew ?_))); (case side4 => exact HC1_1.out); rintro e w15 ⟨rfl, hb⟩; refine ⟨_, rfl, ?_⟩; replace BK621 := bkb_ BK621 hb; replace BK622 := bkb_ BK622 hb; replace HB := hbs_ hb; clear hb))
  (try simp only [Act.put, sb_, sz_, ss_])
  have H := HC11.out
  clear HC11
  by_cases c16 : t623 = true
  ·subst c16
   replace H := ite_t_ H
   by_cases c17 : a0_2 = a1_2
   ·rw [if_pos c17] at H
    have c17b0 : (a0_2 == a1_2) = true := beq_iff_eq.mpr c17
    have c17b1 : (a0_2 != a1_2) = false := bne_eq_false_iff_eq.mpr c17
    clear c17
    (first | rw [c17b0] | (simp only [i64_w, i32_w]; rw [c17b0]) | skip)
    by_cases c18 : (a0_3 != a1_3) = true
    ·rw [if_pos c18] at H
     have c18b0 : (a0_3 != a1_3) = true := c18
     (try (have c18b1 : decide (a0_3 = a1_3) = false := by simpa using c18))
     (try (have c18b2 : (a0_3 == a1_3) = false := by simpa using c18))
     (try (have c18b5 : (!(a0_3 == a1_3)) = true := by rw [c18b2]; rfl))
     (try (have c18b3 : ¬ (a0_3 = a1_3) := by simpa using c18))
     clear c18
     obtain rfl := Option.some.inj H
     have hnb19 := NB621_622.out
     have hnc19 := NB622_621.out
     have hcz20 := blk_cell BK621.out
     have hfz20 := blk_frozen BK621.out
     have hcz21 := blk_cell BK622.out
     have hfz21 := blk_frozen BK622.out
     go_wp2
     go_ret
     exact ⟨eq_, bl_⟩
    ·rw [if_neg c18] at H
     have c18b0 : (a0_3 != a1_3) = false := by simpa using c18
     (try (have c18b1 : decide (a0_3 = a1_3) = true := by simpa using c18))
     (try (have c18b2 : (a0_3 == a1_3) = true := by simpa using c18))
     (try (have c18b5 : (!(a0_3 == a1_3)) = false := by rw [c18b2]; rfl))
     clear c18
     by_cases c22 : (a0_4 != a1_4) = true
     ·rw [if_pos c22] at H
      have c22b0 : (a0_4 != a1_4) = true := c22
      (try (have c22b1 : decide (a0_4 = a1_4) = false := by simpa using c22))
      (try (have c22b2 : (a0_4 == a1_4) = false := by simpa using c22))
      (try (have c22b5 : (!(a0_4 == a1_4)) = true := by rw [c22b2]; rfl))
      (try (have c22b3 : ¬ (a0_4 = a1_4) := by simpa using c22))
      clear c22
      obtain rfl := Option.some.inj H
      have hnb23 := NB621_622.out
      have hnc23 := NB622_621.out
      have hcz24 := blk_cell BK621.out
      have hfz24 := blk_frozen BK621.out
      have hcz25 := blk_cell BK622.out
      have hfz25 := blk_frozen BK622.out
      go_wp2
      go_ret
      exact ⟨eq_, bl_⟩
     ·rw [if_neg c22] at H
      have c22b0 : (a0_4 != a1_4) = false := by simpa using c22
      (try (have c22b1 : decide (a0_4 = a1_4) = true := by simpa using c22))
      (try (have c22b2 : (a0_4 == a1_4) = true := by simpa using c22))
      (try (have c22b5 : (!(a0_4 == a1_4)) = false := by rw [c22b2]; rfl))
      clear c22
      obtain rfl := Option.some.inj H
      have hnb26 := NB621_622.out
      have hnc26 := NB622_621.out
      have hcz27 := blk_cell BK621.out
      have hfz27 := blk_frozen BK621.out
      have hcz28 := blk_cell BK622.out
      have hfz28 := blk_frozen BK622.out
      go_wp2
      go_ret
      exact ⟨eq_, bl_⟩
   ·rw [if_neg c17] at H
    have c17b0 : (a0_2 == a1_2) = false := beq_eq_false_iff_ne.mpr c17
    have c17b1 : (a0_2 != a1_2) = true := bne_iff_ne.mpr c17
    (first | rw [c17b0] | (simp only [i64_w, i32_w]; rw [c17b0]) | skip)
    obtain rfl := Option.some.inj H
    have hnb29 := NB621_622.out
    have hnc29 := NB622_621.out
    have hcz30 := blk_cell BK621.out
    have hfz30 := blk_frozen BK621.out
    have hcz31 := blk_cell BK622.out
    have hfz31 := blk_frozen BK622.out
    go_wp2
    go_ret
    exact ⟨eq_, bl_⟩
  ·replace c16 := Bool.eq_false_iff.mpr c16
   subst c16
   replace H := ite_f_ H
   obtain rfl := Option.some.inj H
   go_wp2
   go_ret
   exact ⟨eq_, bl_⟩
def laws_eqAnswerS.l0 : Nat → List (S73) → List (S73) → Int → Option (Bool)
 | 0, _, _, _ => none
 | k + 1, x0, x1, x5 => if x5 < (x0.length : Int) then (if 0 ≤ x5 then (if x5 < (x1.length : Int) then ((laws_eqAnswer.f k ((rd_T73 x0 x5).f0) ((rd_T73 x0 x5).f1) ((rd_T73 x0 x5).f2) ((rd_T73 x0 x5).f3) ((rd_T73 x0 x5).f4) ((rd_T73 x1 x5).f0) ((rd_T73 x1 x5).f1) ((rd_T73 x1 x5).f2) ((rd_T73 x1 x5).f3) ((rd_T73 x1 x5).f4)).bind fun t626 => (if t626 = true then (laws_eqAnswerS.l0 k x0 x1 (wrap64 (x5 + 1))) else (some false))) else (none)) else (none)) else (some true)
def laws_eqAnswerS.f (k : Nat) (l0 : List (S73)) (l1 : List (S73)) : Option (Bool) := if (l0.length : Int) = (l1.length : Int) then (laws_eqAnswerS.l0 k l0 l1 0) else (some false)
def laws_eqAnswerS.T6 : Bool × List (List Nat × List Nat) := (true, [([], []), ([], []), ([0, 1], [0, 1]), ([2], [2]), ([], []), ([], []), ([4, 5], [4, 5]), ([6], [6]), ([3, 7], [3, 7]), ([8], [8])])
def laws_eqAnswerS.B6 : List Nat := [0, 0, 3, 7, 0, 0, 48, 112, 255, 511]
theorem laws_eqAnswerS.tab6 : rtab .any (opsOf Tryz.f26 6) = laws_eqAnswerS.T6 := by kernel_rfl
theorem laws_eqAnswerS.bits6 : waitsOk laws_eqAnswerS.T6.2 laws_eqAnswerS.B6 = true := by kernel_rfl
set_option maxHeartbeats 8000000 in
set_option maxRecDepth 100000 in
theorem laws_eqAnswerS.calls (k : Nat) (A0 : Option Addr) (c0 : Nat) (l0 : List (S73)) (A1 : Option Addr) (c1 : Nat) (l1 : List (S73)) (r : Bool) (w : World) (hr0 : Kd.C k73 w A0 l0.length l0) (hc0 : l0.length ≤ c0) (hr1 : Kd.C k73 w A1 l1.length l1) (hc1 : l1.length ≤ c1) (h : laws_eqAnswerS.f k l0 l1 = some r) :
  Calls Tryz.prog 26 #[.slice A0 l0.length c0, .slice A1 l1.length c1] w fun e w' => e = .returned (.bool r) ∧ Below w.heap.size w w' := by
 have hu73 := Tryz.underlying73
 have HR0 := aa_ hr0
 have HC0 := aa_ hc0
 clear hr0 hc0
 have HR1 := aa_ hr1
 have HC1 := aa_ hc1
 clear hr1 hc1
 have HB := aa_ (Below.refl w.heap.size w)
 have H : (if (l0.length : Int) = (l1.length : Int) then (laws_eqAnswerS.l0 k l0 l1 0) else (some false)) = some r := h
 clear h
 by_cases c3 : (l0.length : Int) = (l1.length : Int)
 ·rw [if_pos c3] at H
  have c3b0 : ((l0.length : Int) == (l1.length : Int)) = true := beq_iff_eq.mpr c3
  have c3b1 : ((l0.length : Int) != (l1.length : Int)) = false := bne_eq_false_iff_eq.mpr c3
  have c3b2 : (l0.length == l1.length) = true := by first | simpa using c3 | (simp at c3 ⊢; omega)
  clear c3
  have H' := aa_ H
  clear H
  go_enter Tryz.func26, Tryz.ntmps26
  go_wp2
  go_loopg [5] k (fun kq v5 w' => ∃ (x5_1 : Int), v5 = .int .i64 x5_1 ∧ Aside0 (laws_eqAnswerS.l0 kq l0 l1 x5_1 = some r) ∧ Aside0 (kq ≤ k) ∧ Aside0 (Below w.heap.size w w'))
  case atStart => exact ⟨(0), rf_, H', ⟨Nat.le_refl _⟩, ⟨bl_⟩⟩
  case round =>
   clear H'
   try clear p2
   try clear c3b0
   try clear c3b1
   try clear c3b2
   obtain ⟨x5_1, rfl, HA, HK1, HB⟩ := hrel
   cases gk with
   | zero => exact absurd HA.out (by simp [laws_eqAnswerS.l0])
   | succ k1 =>
    have H := HA.out
    clear HA
    simp only [laws_eqAnswerS.l0] at H
    by_cases c4 : x5_1 < (l0.length : Int)
    ·rw [if_pos c4] at H
     have c4b0 : decide (x5_1 < (l0.length : Int)) = true := decide_eq_true c4
     clear c4
     obtain ⟨c5b0, H⟩ := ifd_ H
     obtain ⟨c6b0, H⟩ := ifd_ H
     obtain ⟨t626, A7, H⟩ := bindE_ H
     have HC8 := aa_ H
     clear H
     try go_wp2
     replace HB := aa_ (below_drew1 HB.out)
     have p624 : 0 ≤ (x5_1 : Int) := od_
     have q624 : x5_1 < (l0.length : Int) := od_
     obtain ⟨ad624, A624_1, c624_1, e624, hx624_0, hx624_1, hx624_2, hx624_3, hx624_4, hl624_1, hi624_1⟩ := at_T73 HR0.out x5_1 p624 q624
     have hw624_4 := hx624_4
     have hw624_3 := hx624_3
     have hw624_2 := hx624_2
     have hw624_1 := hx624_1
     have hw624_0 := hx624_0
     cases e624
     replace hx624_0 := cb_ HB hx624_0
     replace hx624_1 := cb_ HB hx624_1
     replace hx624_2 := cb_ HB hx624_2
     replace hx624_3 := cb_ HB hx624_3
     replace hx624_4 := cb_ HB hx624_4
     have HR624_1 := aa_ hi624_1
     have HC624_1 := aa_ hl624_1
     clear hi624_1 hl624_1
     replace p624 := eq_true p624
     replace q624 := eq_true q624
     have p625 : 0 ≤ (x5_1 : Int) := od_
     have q625 : x5_1 < (l1.length : Int) := od_
     obtain ⟨ad625, A625_1, c625_1, e625, hx625_0, hx625_1, hx625_2, hx625_3, hx625_4, hl625_1, hi625_1⟩ := at_T73 HR1.out x5_1 p625 q625
     have hw625_4 := hx625_4
     have hw625_3 := hx625_3
     have hw625_2 := hx625_2
     have hw625_1 := hx625_1
     have hw625_0 := hx625_0
     cases e625
     replace hx625_0 := cb_ HB hx625_0
     replace hx625_1 := cb_ HB hx625_1
     replace hx625_2 := cb_ HB hx625_2
     replace hx625_3 := cb_ HB hx625_3
     replace hx625_4 := cb_ HB hx625_4
     have HR625_1 := aa_ hi625_1
     have HC625_1 := aa_ hl625_1
     clear hi625_1 hl625_1
     replace p625 := eq_true p625
     replace q625 := eq_true q625
     refine start_ (n := 10) (S := fun w' => w'.cell? (ad624.add ((x5_1).toNat * 5)) = some (.bool ((rd_T73 l0 x5_1).f0)) ∧ w'.cell? ⟨(ad624.add ((x5_1).toNat * 5)).block, (ad624.add ((x5_1).toNat * 5)).off + 1, none⟩ = some (.slice A624_1 ((rd_T73 l0 x5_1).f1).length c624_1) ∧ w'.cell? ⟨(ad624.add ((x5_1).toNat * 5)).block, (ad624.add ((x5_1).toNat * 5)).off + 2, none⟩ = some (.int .i64 ((rd_T73 l0 x5_1).f2)) ∧ w'.cell? ⟨(ad624.add ((x5_1).toNat * 5)).block, (ad624.add ((x5_1).toNat * 5)).off + 3, none⟩ = some (.bool ((rd_T73 l0 x5_1).f3)) ∧ w'.cell? ⟨(ad624.add ((x5_1).toNat * 5)).block, (ad624.add ((x5_1).toNat * 5)).off + 4, none⟩ = some (.bool ((rd_T73 l0 x5_1).f4)) ∧ w'.cell? (ad625.add ((x5_1).toNat * 5)) = some (.bool ((rd_T73 l1 x5_1).f0)) ∧ w'.cell? ⟨(ad625.add ((x5_1).toNat * 5)).block, (ad625.add ((x5_1).toNat * 5)).off + 1, none⟩ = some (.slice A625_1 ((rd_T73 l1 x5_1).f1).length c625_1) ∧ w'.cell? ⟨(ad625.add ((x5_1).toNat * 5)).block, (ad625.add ((x5_1).toNat * 5)).off + 2, none⟩ = some (.int .i64 ((rd_T73 l1 x5_1).f2)) ∧ w'.cell? ⟨(ad625.add ((x5_1).toNat * 5)).block, (ad625.add ((x5_1).toNat * 5)).off + 3, none⟩ = some (.bool ((rd_T73 l1 x5_1).f3)) ∧ w'.cell? ⟨(ad625.add ((x5_1).toNat * 5)).block, (ad625.add ((x5_1).toNat * 5)).off + 4, none⟩ = some (.bool ((rd_T73 l1 x5_1).f4))) (ds := []) (ba_ 10 0) (by kernel_rfl) rfl rfl ⟨(cb_ HB hw624_0 :), (cb_ HB hw624_1 :), (cb_ HB hw624_2 :), (cb_ HB hw624_3 :), (cb_ HB hw624_4 :), (cb_ HB hw625_0 :), (cb_ HB hw625_1 :), (cb_ HB hw625_2 :), (cb_ HB hw625_3 :), (cb_ HB hw625_4 :)⟩ (fun hHeld => ?_); refine with_tabW laws_eqAnswerS.tab6 laws_eqAnswerS.bits6 (fun HT_ HW_ => ?_)
     generalize wr.drew = w9 at HB HR624_1 HR625_1 hx624_0 hx624_1 hx624_2 hx624_3 hx624_4 hx625_0 hx625_1 hx625_2 hx625_3 hx625_4 hHeld ⊢
     refine pz_ 0 17 (ba_ 10 1) (ao_ HT_) ?_
     refine pz_ 1 18 (ba_ 10 3) (ao_ HT_) ?_
     refine pz_ 2 19 (ba_ 10 7) (ao_ HT_) ?_
     refine pz_ 4 21 (ba_ 10 23) (ao_ HT_) ?_
     refine pz_ 5 22 (ba_ 10 55) (ao_ HT_) ?_
     refine pz_ 6 23 (ba_ 10 119) (ao_ HT_) ?_
     refine tz_ 3 20 (ba_ 10 127) (take_ofW HT_.out HW_.out (by kernel_rfl)) hHeld ?_
     refine tz_ 7 24 (ba_ 10 255) (take_ofW HT_.out HW_.out (by kernel_rfl)) hHeld ?_
     refine one_ (i := 8) (N := some 25) (ba_ 10 511) rfl rfl (one_of HT_.out (by kernel_rfl)) (by decide) (fun K hK => ?_)
     refine goes_ Tryz.func54 (by kernel_rfl) rfl #[.agg #[.bool ((rd_T73 l0 x5_1).f0), .slice A624_1 ((rd_T73 l0 x5_1).f1).length c624_1, .int .i64 ((rd_T73 l0 x5_1).f2), .bool ((rd_T73 l0 x5_1).f3), .bool ((rd_T73 l0 x5_1).f4)], .agg #[.bool ((rd_T73 l1 x5_1).f0), .slice A625_1 ((rd_T73 l1 x5_1).f1).length c625_1, .int .i64 ((rd_T73 l1 x5_1).f2), .bool ((rd_T73 l1 x5_1).f3), .bool ((rd_T73 l1 x5_1).f4)]] (by rfl) rfl rfl (by (try simp only [List.map_toArray, List.map_cons, List.map_nil]); first | done | rfl | (simp only [List.length_drop, List.length_take]; rfl)) ?_
     with_reducible refine (laws_eqAnswer.calls k1 ((rd_T73 l0 x5_1).f0) _ _ ((rd_T73 l0 x5_1).f1) ((rd_T73 l0 x5_1).f2) ((rd_T73 l0 x5_1).f3) ((rd_T73 l0 x5_1).f4) ((rd_T73 l1 x5_1).f0) _ _ ((rd_T73 l1 x5_1).f1) ((rd_T73 l1 x5_1).f2) ((rd_T73 l1 x5_1).f3) ((rd_T73 l1 x5_1).f4) t626 _ ?side1 ?side2 ?side3 ?side4 A7.out).mono ?_
     (case side1 => repeat (first | exact (Kd.C_below HR624_1.out HB.out) | (with_reducible refine Kd.C_alloc ?_ _) | (with_reducible refine Kd.C_drewN ?_ _) | (with_reducible refine Kd.C_drew ?_)))
     (case side2 => exact HC624_1.out)
     (case side3 => repeat (first | exact (Kd.C_below HR625_1.out HB.out) | (with_reducible refine Kd.C_alloc ?_ _) | (with_reducible refine Kd.C_drewN ?_ _) | (with_reducible refine Kd.C_drew ?_)))
     (case side4 => exact HC625_1.out)
     rintro e w10 ⟨rfl, hb⟩
     refine ⟨_, rfl, ?_⟩
     replace HB := hbs_ hb
     (try clear hb)
     (try clear hb2)
     (try clear hk)
     (try clear hi)
     refine hK.out _ _ ⟨(cb_ HB hw624_0 :), (cb_ HB hw624_1 :), (cb_ HB hw624_2 :), (cb_ HB hw624_3 :), (cb_ HB hw624_4 :), (cb_ HB hw625_0 :), (cb_ HB hw625_1 :), (cb_ HB hw625_2 :), (cb_ HB hw625_3 :), (cb_ HB hw625_4 :)⟩ (fun hHeld => ?_)
     clear hK K
     refine norm_ (a' := ?_) ?_ ?_
     rotate_left
     ·show Act.put _ (some 25) _ = _
      simp only [Act.put, sb_, sz_, ss_, i64_w, i32_w]
      rfl
     refine pz_ 9 26 (ba_ 10 1023) (ao_ HT_) ?_
     refine done_ (done_of HT_.out (by kernel_rfl)) ?_
     go_upto_if 26 with (fail)
     have H := HC8.out
     clear HC8
     by_cases c11 : t626 = true
     ·subst c11
      replace H := ite_t_ H
      have H' := aa_ H
      clear H
      go_wp2
      go_roundg k1
      case measure => have := HK1.out; omega
      case rel => exact ⟨(wrap64 (x5_1 + 1)), rf_, H', ⟨by have := HK1.out; omega⟩, ⟨bl_⟩⟩
     ·replace c11 := Bool.eq_false_iff.mpr c11
      subst c11
      replace H := ite_f_ H
      obtain rfl := Option.some.inj H
      go_wp2
      go_ret
      exact ⟨eq_, bl_⟩
    ·rw [if_neg c4] at H
     have c4b0 : decide (x5_1 < (l0.length : Int)) = false := decide_eq_false c4
     clear c4
     obtain rfl := Option.some.inj H
     go_wp2
     go_ret
     exact ⟨eq_, bl_⟩
 ·rw [if_neg c3] at H
  have c3b0 : ((l0.length : Int) == (l1.length : Int)) = false := beq_eq_false_iff_ne.mpr c3
  have c3b1 : ((l0.length : Int) != (l1.length : Int)) = true := bne_iff_ne.mpr c3
  have c3b2 : (l0.length == l1.length) = false := by first | simpa using c3 | (simp at c3 ⊢; omega)
  obtain rfl := Option.some.inj H
  go_enter Tryz.func26, Tryz.ntmps26
  go_wp2
  go_ret
  exact ⟨eq_, bl_⟩
end Go.Proofs.YteofimccoadmeaaGreat.PA
