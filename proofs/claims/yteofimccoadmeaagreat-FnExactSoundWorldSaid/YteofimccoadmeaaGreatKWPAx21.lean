import Derived.Test.YteofimccoadmeaaGreatKWPAx20
-- printed by wip/tools
namespace Go.Proofs.YteofimccoadmeaaGreat.PA
open Go.RowKit Go.Proofs.YteofimccoadmeaaGreatW.PrintWords Go.Proofs.YteofimccoadmeaaGreatW.PrintLast Go.Proofs.YteofimccoadmeaaGreatW.PrintMore
attribute [local go_sem] max2_int min2_int max_two min_two max_three min_three max_four min_four
set_option linter.unusedVariables false
set_option linter.unusedSimpArgs false
def laws_eqFactS.l0 : Nat → List (S79) → List (S79) → Int → Option (Bool)
 | 0, _, _, _ => none
 | k + 1, x0, x1, x5 => if x5 < (x0.length : Int) then (if 0 ≤ x5 then (if x5 < (x1.length : Int) then ((laws_eqFact.f ((rd_T79 x0 x5).f0.f0) ((rd_T79 x0 x5).f0.f1) ((rd_T79 x0 x5).f1) ((rd_T79 x1 x5).f0.f0) ((rd_T79 x1 x5).f0.f1) ((rd_T79 x1 x5).f1)).bind fun t629 => (if t629 = true then (laws_eqFactS.l0 k x0 x1 (wrap64 (x5 + 1))) else (some false))) else (none)) else (none)) else (some true)
def laws_eqFactS.f (k : Nat) (l0 : List (S79)) (l1 : List (S79)) : Option (Bool) := if (l0.length : Int) = (l1.length : Int) then (laws_eqFactS.l0 k l0 l1 0) else (some false)
def laws_eqFactS.T6 : Bool × List (List Nat × List Nat) := (true, [([], []), ([], []), ([0, 1], [0, 1]), ([2], [2]), ([], []), ([], []), ([4, 5], [4, 5]), ([6], [6]), ([3, 7], [3, 7]), ([8], [8])])
def laws_eqFactS.B6 : List Nat := [0, 0, 3, 7, 0, 0, 48, 112, 255, 511]
theorem laws_eqFactS.tab6 : rtab .any (opsOf Tryz.f27 6) = laws_eqFactS.T6 := by kernel_rfl
theorem laws_eqFactS.bits6 : waitsOk laws_eqFactS.T6.2 laws_eqFactS.B6 = true := by kernel_rfl
set_option maxHeartbeats 8000000 in
set_option maxRecDepth 100000 in
theorem laws_eqFactS.calls (k : Nat) (A0 : Option Addr) (c0 : Nat) (l0 : List (S79)) (A1 : Option Addr) (c1 : Nat) (l1 : List (S79)) (r : Bool) (w : World) (hr0 : Kd.C k79 w A0 l0.length l0) (hc0 : l0.length ≤ c0) (hr1 : Kd.C k79 w A1 l1.length l1) (hc1 : l1.length ≤ c1) (h : laws_eqFactS.f k l0 l1 = some r) :
  Calls Tryz.prog 27 #[.slice A0 l0.length c0, .slice A1 l1.length c1] w fun e w' => e = .returned (.bool r) ∧ Below w.heap.size w w' := by
 have hu79 := Tryz.underlying79
 have HR0 := aa_ hr0
 have HC0 := aa_ hc0
 clear hr0 hc0
 have HR1 := aa_ hr1
 have HC1 := aa_ hc1
 clear hr1 hc1
 have HB := aa_ (Below.refl w.heap.size w)
 have H : (if (l0.length : Int) = (l1.length : Int) then (laws_eqFactS.l0 k l0 l1 0) else (some false)) = some r := h
 clear h
 by_cases c3 : (l0.length : Int) = (l1.length : Int)
 ·rw [if_pos c3] at H
  have c3b0 : ((l0.length : Int) == (l1.length : Int)) = true := beq_iff_eq.mpr c3
  have c3b1 : ((l0.length : Int) != (l1.length : Int)) = false := bne_eq_false_iff_eq.mpr c3
  have c3b2 : (l0.length == l1.length) = true := by first | simpa using c3 | (simp at c3 ⊢; omega)
  clear c3
  have H' := aa_ H
  clear H
  go_enter Tryz.func27, Tryz.ntmps27
  go_wp2
  go_loopg [5] k (fun kq v5 w' => ∃ (x5_1 : Int), v5 = .int .i64 x5_1 ∧ Aside0 (laws_eqFactS.l0 kq l0 l1 x5_1 = some r) ∧ Aside0 (kq ≤ k) ∧ Aside0 (Below w.heap.size w w'))
  case atStart => exact ⟨(0), rf_, H', ⟨Nat.le_refl _⟩, ⟨bl_⟩⟩
  case round =>
   clear H'
   try clear p2
   try clear c3b0
   try clear c3b1
   try clear c3b2
   obtain ⟨x5_1, rfl, HA, HK1, HB⟩ := hrel
   cases gk with
   | zero => exact absurd HA.out (by simp [laws_eqFactS.l0])
   | succ k1 =>
    have H := HA.out
    clear HA
    simp only [laws_eqFactS.l0] at H
    by_cases c4 : x5_1 < (l0.length : Int)
    ·rw [if_pos c4] at H
     have c4b0 : decide (x5_1 < (l0.length : Int)) = true := decide_eq_true c4
     clear c4
     obtain ⟨c5b0, H⟩ := ifd_ H
     obtain ⟨c6b0, H⟩ := ifd_ H
     obtain ⟨t629, A7, H⟩ := bindE_ H
     have HC8 := aa_ H
     clear H
     try go_wp2
     replace HB := aa_ (below_drew1 HB.out)
     have p627 : 0 ≤ (x5_1 : Int) := od_
     have q627 : x5_1 < (l0.length : Int) := od_
     obtain ⟨ad627, e627, hx627_0, hx627_1, hx627_2⟩ := at_T79 HR0.out x5_1 p627 q627
     have hw627_2 := hx627_2
     have hw627_1 := hx627_1
     have hw627_0 := hx627_0
     cases e627
     replace hx627_0 := cb_ HB hx627_0
     replace hx627_1 := cb_ HB hx627_1
     replace hx627_2 := cb_ HB hx627_2
     replace p627 := eq_true p627
     replace q627 := eq_true q627
     have p628 : 0 ≤ (x5_1 : Int) := od_
     have q628 : x5_1 < (l1.length : Int) := od_
     obtain ⟨ad628, e628, hx628_0, hx628_1, hx628_2⟩ := at_T79 HR1.out x5_1 p628 q628
     have hw628_2 := hx628_2
     have hw628_1 := hx628_1
     have hw628_0 := hx628_0
     cases e628
     replace hx628_0 := cb_ HB hx628_0
     replace hx628_1 := cb_ HB hx628_1
     replace hx628_2 := cb_ HB hx628_2
     replace p628 := eq_true p628
     replace q628 := eq_true q628
     refine start_ (n := 10) (S := fun w' => w'.cell? (ad627.add ((x5_1).toNat * 3)) = some (.int .i64 ((rd_T79 l0 x5_1).f0.f0)) ∧ w'.cell? ⟨(ad627.add ((x5_1).toNat * 3)).block, (ad627.add ((x5_1).toNat * 3)).off + 1, none⟩ = some (.int .i64 ((rd_T79 l0 x5_1).f0.f1)) ∧ w'.cell? ⟨(ad627.add ((x5_1).toNat * 3)).block, (ad627.add ((x5_1).toNat * 3)).off + 2, none⟩ = some (.int .i64 ((rd_T79 l0 x5_1).f1)) ∧ w'.cell? (ad628.add ((x5_1).toNat * 3)) = some (.int .i64 ((rd_T79 l1 x5_1).f0.f0)) ∧ w'.cell? ⟨(ad628.add ((x5_1).toNat * 3)).block, (ad628.add ((x5_1).toNat * 3)).off + 1, none⟩ = some (.int .i64 ((rd_T79 l1 x5_1).f0.f1)) ∧ w'.cell? ⟨(ad628.add ((x5_1).toNat * 3)).block, (ad628.add ((x5_1).toNat * 3)).off + 2, none⟩ = some (.int .i64 ((rd_T79 l1 x5_1).f1))) (ds := []) (ba_ 10 0) (by kernel_rfl) rfl rfl ⟨(cb_ HB hw627_0 :), (cb_ HB hw627_1 :), (cb_ HB hw627_2 :), (cb_ HB hw628_0 :), (cb_ HB hw628_1 :), (cb_ HB hw628_2 :)⟩ (fun hHeld => ?_); refine with_tabW laws_eqFactS.tab6 laws_eqFactS.bits6 (fun HT_ HW_ => ?_)
     generalize wr.drew = w9 at HB hx627_0 hx627_1 hx627_2 hx628_0 hx628_1 hx628_2 hHeld ⊢
     refine pz_ 0 17 (ba_ 10 1) (ao_ HT_) ?_
     refine pz_ 1 18 (ba_ 10 3) (ao_ HT_) ?_
     refine pz_ 2 19 (ba_ 10 7) (ao_ HT_) ?_
     refine pz_ 4 21 (ba_ 10 23) (ao_ HT_) ?_
     refine pz_ 5 22 (ba_ 10 55) (ao_ HT_) ?_
     refine pz_ 6 23 (ba_ 10 119) (ao_ HT_) ?_
     refine tz_ 3 20 (ba_ 10 127) (take_ofW HT_.out HW_.out (by kernel_rfl)) hHeld ?_
     refine tz_ 7 24 (ba_ 10 255) (take_ofW HT_.out HW_.out (by kernel_rfl)) hHeld ?_
     refine one_ (i := 8) (N := some 25) (ba_ 10 511) rfl rfl (one_of HT_.out (by kernel_rfl)) (by decide) (fun K hK => ?_)
     refine goes_ Tryz.func55 (by kernel_rfl) rfl #[.agg #[.int .i64 ((rd_T79 l0 x5_1).f0.f0), .int .i64 ((rd_T79 l0 x5_1).f0.f1), .int .i64 ((rd_T79 l0 x5_1).f1)], .agg #[.int .i64 ((rd_T79 l1 x5_1).f0.f0), .int .i64 ((rd_T79 l1 x5_1).f0.f1), .int .i64 ((rd_T79 l1 x5_1).f1)]] (by rfl) rfl rfl (by (try simp only [List.map_toArray, List.map_cons, List.map_nil]); first | done | rfl | (simp only [List.length_drop, List.length_take]; rfl)) ?_
     with_reducible refine (laws_eqFact.calls ((rd_T79 l0 x5_1).f0.f0) ((rd_T79 l0 x5_1).f0.f1) ((rd_T79 l0 x5_1).f1) ((rd_T79 l1 x5_1).f0.f0) ((rd_T79 l1 x5_1).f0.f1) ((rd_T79 l1 x5_1).f1) t629 _ A7.out).mono ?_
     rintro e w10 ⟨rfl, hb⟩
     refine ⟨_, rfl, ?_⟩
     replace HB := hbs_ hb
     (try clear hb)
     (try clear hb2)
     (try clear hk)
     (try clear hi)
     refine hK.out _ _ ⟨(cb_ HB hw627_0 :), (cb_ HB hw627_1 :), (cb_ HB hw627_2 :), (cb_ HB hw628_0 :), (cb_ HB hw628_1 :), (cb_ HB hw628_2 :)⟩ (fun hHeld => ?_)
     clear hK K
     refine norm_ (a' := ?_) ?_ ?_
     rotate_left
     ·show Act.put _ (some 25) _ = _
      simp only [Act.put, sb_, sz_, ss_, i64_w, i32_w]
      rfl
     refine pz_ 9 26 (ba_ 10 1023) (ao_ HT_) ?_
     refine done_ (done_of HT_.out (by kernel_rfl)) ?_
     go_upto_if 26 with (fail)
     have H := HC8.out
     clear HC8
     by_cases c11 : t629 = true
     ·subst c11
      replace H := ite_t_ H
      have H' := aa_ H
      clear H
      go_wp2
      go_roundg k1
      case measure => have := HK1.out; omega
      case rel => exact ⟨(wrap64 (x5_1 + 1)), rf_, H', ⟨by have := HK1.out; omega⟩, ⟨bl_⟩⟩
     ·replace c11 := Bool.eq_false_iff.mpr c11
      subst c11
      replace H := ite_f_ H
      obtain rfl := Option.some.inj H
      go_wp2
      go_ret
      exact ⟨eq_, bl_⟩
    ·rw [if_neg c4] at H
     have c4b0 : decide (x5_1 < (l0.length : Int)) = false := decide_eq_false c4
     clear c4
     obtain rfl := Option.some.inj H
     go_wp2
     go_ret
     exact ⟨eq_, bl_⟩
 ·rw [if_neg c3] at H
  have c3b0 : ((l0.length : Int) == (l1.length : Int)) = false := beq_eq_false_iff_ne.mpr c3
  have c3b1 : ((l0.length : Int) != (l1.length : Int)) = true := bne_iff_ne.mpr c3
  have c3b2 : (l0.length == l1.length) = false := by first | simpa using c3 | (simp at c3 ⊢; omega)
  obtain rfl := Option.some.inj H
  go_enter Tryz.func27, Tryz.ntmps27
  go_wp2
  go_ret
  exact ⟨eq_, bl_⟩
def laws_eqWorld.f (k : Nat) (l0_0 : List (S68)) (a0_1 : Int) (l0_2 : List Int) (l0_3 : List (S83)) (l0_4 : List (S83)) (l0_5 : List (S73)) (l0_6 : List (S79)) (l0_7 : List Int) (l1_0 : List (S68)) (a1_1 : Int) (l1_2 : List Int) (l1_3 : List (S83)) (l1_4 : List (S83)) (l1_5 : List (S73)) (l1_6 : List (S79)) (l1_7 : List Int) : Option (Bool) := (laws_eqRing.f k l0_0 l1_0).bind fun t632 => (if t632 = true then (if a0_1 = a1_1 then ((laws_eqIntS.f k l0_2 l1_2).bind fun t633 => (if t633 = true then ((laws_eqCredS.f k l0_3 l1_3).bind fun t634 => (if t634 = true then ((laws_eqCredS.f k l0_4 l1_4).bind fun t635 => (if t635 = true then ((laws_eqAnswerS.f k l0_5 l1_5).bind fun t636 => (if t636 = true then ((laws_eqFactS.f k l0_6 l1_6).bind fun t637 => (if t637 = true then ((laws_eqIntS.f k l0_7 l1_7).bind fun t638 => (if t638 = true then (some true) else (some false))) else (some false))) else (some false))) else (some false))) else (some false))) else (some false))) else (some false)) else (some false))
set_option maxHeartbeats 8000000 in
set_option maxRecDepth 100000 in
theorem laws_eqWorld.calls (k : Nat) (A0_0 : Option Addr) (c0_0 : Nat) (l0_0 : List (S68)) (a0_1 : Int) (A0_2 : Option Addr) (c0_2 : Nat) (l0_2 : List Int) (A0_3 : Option Addr) (c0_3 : Nat) (l0_3 : List (S83)) (A0_4 : Option Addr) (c0_4 : Nat) (l0_4 : List (S83)) (A0_5 : Option Addr) (c0_5 : Nat) (l0_5 : List (S73)) (A0_6 : Option Addr) (c0_6 : Nat) (l0_6 : List (S79)) (A0_7 : Option Addr) (c0_7 : Nat) (l0_7 : List Int) (A1_0 : Option Addr) (c1_0 : Nat) (l1_0 : List (S68)) (a1_1 : Int) (A1_2 : Option Addr) (c1_2 : Nat) (l1_2 : List Int) (A1_3 : Option Addr) (c1_3 : Nat) (l1_3 : List (S83)) (A1_4 : Option Addr) (c1_4 : Nat) (l1_4 : List (S83)) (A1_5 : Option Addr) (c1_5 : Nat) (l1_5 : List (S73)) (A1_6 : Option Addr) (c1_6 : Nat) (l1_6 : List (S79)) (A1_7 : Option Addr) (c1_7 : Nat) (l1_7 : List Int) (r : Bool) (w : World) (hr0_0 : Kd.C k68 w A0_0 l0_0.length l0_0) (hc0_0 : l0_0.length ≤ c0_0) (hr0_2 : Kd.C (Kd.int .i64) w A0_2 l0_2.length l0_2) (hc0_2 : l0_2.length ≤ c0_2) (hr0_3 : Kd.C k83 w A0_3 l0_3.length l0_3) (hc0_3 : l0_3.length ≤ c0_3) (hr0_4 : Kd.C k83 w A0_4 l0_4.length l0_4) (hc0_4 : l0_4.length ≤ c0_4) (hr0_5 : Kd.C k73 w A0_5 l0_5.length l0_5) (hc0_5 : l0_5.length ≤ c0_5) (hr0_6 : Kd.C k79 w A0_6 l0_6.length l0_6) (hc0_6 : l0_6.length ≤ c0_6) (hr0_7 : Kd.C (Kd.int .i64) w A0_7 l0_7.length l0_7) (hc0_7 : l0_7.length ≤ c0_7) (hr1_0 : Kd.C k68 w A1_0 l1_0.length l1_0) (hc1_0 : l1_0.length ≤ c1_0) (hr1_2 : Kd.C (Kd.int .i64) w A1_2 l1_2.length l1_2) (hc1_2 : l1_2.length ≤ c1_2) (hr1_3 : Kd.C k83 w A1_3 l1_3.length l1_3) (hc1_3 : l1_3.length ≤ c1_3) (hr1_4 : Kd.C k83 w A1_4 l1_4.length l1_4) (hc1_4 : l1_4.length ≤ c1_4) (hr1_5 : Kd.C k73 w A1_5 l1_5.length l1_5) (hc1_5 : l1_5.length ≤ c1_5) (hr1_6 : Kd.C k79 w A1_6 l1_6.length l1_6) (hc1_6 : l1_6.length ≤ c1_6) (hr1_7 : Kd.C (Kd.int .i64) w A1_7 l1_7.length l1_7) (hc1_7 : l1_7.length ≤ c1_7) (h : laws_eqWorld.f k l0_0 a0_1 l0_2 l0_3 l0_4 l0_5 l0_6 l0_7 l1_0 a1_1 l1_2 l1_3 l1_4 l1_5 l1_6 l1_7 = some r) :
  Calls Tryz.prog 8 #[.agg #[.slice A0_0 l0_0.length c0_0, .int .i64 a0_1, .slice A0_2 l0_2.length c0_2, .slice A0_3 l0_3.length c0_3, .slice A0_4 l0_4.length c0_4, .slice A0_5 l0_5.length c0_5, .slice A0_6 l0_6.length c0_6, .slice A0_7 l0_7.length c0_7], .agg #[.slice A1_0 l1_0.length c1_0, .int .i64 a1_1, .slice A1_2 l1_2.length c1_2, .slice A1_3 l1_3.length c1_3, .slice A1_4 l1_4.length c1_4, .slice A1_5 l1_5.length c1_5, .slice A1_6 l1_6.length c1_6, .slice A1_7 l1_7.length c1_7]] w fun e w' => e = .returned (.bool r) ∧ Below w.heap.size w w' := by
 have hu40 := Tryz.underlying40
 have hu35 := Tryz.underlying35
 have HR0_0 := aa_ hr0_0
 have HC0_0 := aa_ hc0_0
 clear hr0_0 hc0_0
 have HR0_2 := aa_ hr0_2
 have HC0_2 := aa_ hc0_2
 clear hr0_2 hc0_2
 have HR0_3 := aa_ hr0_3
 have HC0_3 := aa_ hc0_3
 clear hr0_3 hc0_3
 have HR0_4 := aa_ hr0_4
 have HC0_4 := aa_ hc0_4
 clear hr0_4 hc0_4
 have HR0_5 := aa_ hr0_5
 have HC0_5 := aa_ hc0_5
 clear hr0_5 hc0_5
 have HR0_6 := aa_ hr0_6
 have HC0_6 := aa_ hc0_6
 clear hr0_6 hc0_6
 have HR0_7 := aa_ hr0_7
 have HC0_7 := aa_ hc0_7
 clear hr0_7 hc0_7
 have HR1_0 := aa_ hr1_0
 have HC1_0 := aa_ hc1_0
 clear hr1_0 hc1_0
 have HR1_2 := aa_ hr1_2
 have HC1_2 := aa_ hc1_2
 clear hr1_2 hc1_2
 have HR1_3 := aa_ hr1_3
 have HC1_3 := aa_ hc1_3
 clear hr1_3 hc1_3
 have HR1_4 := aa_ hr1_4
 have HC1_4 := aa_ hc1_4
 clear hr1_4 hc1_4
 have HR1_5 := aa_ hr1_5
 have HC1_5 := aa_ hc1_5
 clear hr1_5 hc1_5
 have HR1_6 := aa_ hr1_6
 have HC1_6 := aa_ hc1_6
 clear hr1_6 hc1_6
 have HR1_7 := aa_ hr1_7
 have HC1_7 := aa_ hc1_7
 clear hr1_7 hc1_7
 have HB := aa_ (Below.refl w.heap.size w)
 have H : ((laws_eqRing.f k l0_0 l1_0).bind fun t632 => (if t632 = true then (if a0_1 = a1_1 then ((laws_eqIntS.f k l0_2 l1_2).bind fun t633 => (if t633 = true then ((laws_eqCredS.f k l0_3 l1_3).bind fun t634 => (if t634 = true then ((laws_eqCredS.f k l0_4 l1_4).bind fun t635 => (if t635 = true then ((laws_eqAnswerS.f k l0_5 l1_5).bind fun t636 => (if t636 = true then ((laws_eqFactS.f k l0_6 l1_6).bind fun t637 => (if t637 = true then ((laws_eqIntS.f k l0_7 l1_7).bind fun t638 => (if t638 = true then (some true) else (some false))) else (some false))) else (some false))) else (some false))) else (some false))) else (some false))) else (some false)) else (some false))) = some r := h
 clear h
 obtain ⟨t632, A3, H⟩ := bindE_ H
 have HC4 := aa_ H
 clear H
 go_enter Tryz.func8, Tryz.ntmps8
 go_upto_if 10 with (first | ((with_reducible refine gD_ 2 rfl ?_); refine bx_ (N := 2) (cs := #[.slice A0_0 l0_0.length c0_0, .int .i64 a0_1, .slice A0_2 l0_2.length c0_2, .slice A0_3 l0_3.length c0_3, .slice A0_4 l0_4.length c0_4, .slice A0_5 l0_5.length c0_5, .slice A0_6 l0_6.length c0_6, .slice A0_7 l0_7.length c0_7]) (t := 40) ?_; intro gb630 hg w5 hbox hb; have BK630 := aa_ (hbox); have GW630 := gs_ hg; have GE630 := gs_ hg; replace HB := hbs_ hb; clear hb hbox hg) | ((with_reducible refine gD_ 3 rfl ?_); refine bx_ (N := 3) (cs := #[.slice A1_0 l1_0.length c1_0, .int .i64 a1_1, .slice A1_2 l1_2.length c1_2, .slice A1_3 l1_3.length c1_3, .slice A1_4 l1_4.length c1_4, .slice A1_5 l1_5.length c1_5, .slice A1_6 l1_6.length c1_6, .slice A1_7 l1_7.length c1_7]) (t := 40) ?_; intro gb631 hg w6 hbox hb; have BK631 := aa_ (hbox); have GW631 := gs_ hg; have GE631 := gs_ hg; replace HB := hbs_ hb; have NB630_631 := nl_ hg BK630; have NB631_630 := nr_ hg BK630; replace BK630 := bkb_ BK630 hb; clear hb hbox hg; have hnb7 := NB630_631.out; have hnc7 := NB631_630.out; obtain ⟨hcz8, hfz8⟩ := bcf_ BK630; obtain ⟨hcz9, hfz9⟩ := bcf_ BK631) | ((with_reducible refine gC_ 23 rfl ?_); refine goesC_ (some 9) Tryz.func23 #[.agg #[.slice A0_0 l0_0.length c0_0], .agg #[.slice A1_0 l1_0.length c1_0]] ?_; (with_reducible refine (laws_eqRing.calls k _ _ l0_0 _ _ l1_0 t632 _ ?side1 ?side2 ?side3 ?side4 A3.out).mono ?_); (case side1 => repeat (first | exact (Kd.C_below HR0_0.out HB.out) | (with_reducible refine Kd.C_alloc ?_ _) | (with_reducible refine Kd.C_drewN ?_ _) | (with_reducible refine Kd.C_drew ?_))); (case side2 => exact HC0_0.out); (case side3 => repeat (first | exact (Kd.C_below HR1_0.out HB.out) | (with_reducible refine Kd.C_alloc ?_ _) | (with_reducible refine Kd.C_drewN ?_ _) | (with_reducible refine Kd.C_drew ?_))); (case side4 => exact HC1_0.out); rintro e w10 ⟨rfl, hb⟩; refine ⟨_, rfl, ?_⟩; replace BK630 := bkb_ BK630 hb; replace BK631 := bkb_ BK631 hb; replace HB := hbs_ hb; clear hb))
 (try simp only [Act.put, sb_, sz_, ss_])
 have H := HC4.out
 clear HC4
 by_cases c11 : t632 = true
 ·subst c11
  replace H := ite_t_ H
  by_cases c12 : a0_1 = a1_1
  ·rw [if_pos c12] at H
   have c12b0 : (a0_1 == a1_1) = true := beq_iff_eq.mpr c12
   have c12b1 : (a0_1 != a1_1) = false := bne_eq_false_iff_eq.mpr c12
   clear c12
   (first | rw [c12b0] | (simp only [i64_w, i32_w]; rw [c12b0]) | skip)
   obtain ⟨t633, A13, H⟩ := bindE_ H
   have HC14 := aa_ H
   clear H
   have hnb15 := NB630_631.out
   have hnc15 := NB631_630.out
   have hcz16 := blk_cell BK630.out
   have hfz16 := blk_frozen BK630.out
   have hcz17 := blk_cell BK631.out
   have hfz17 := blk_frozen BK631.out
   go_upto_if 21 with (first | ((with_reducible refine gC_ 24 rfl ?_); refine goesC_ (some 20) Tryz.func24 #[.slice A0_2 l0_2.length c0_2, .slice A1_2 l1_2.length c1_2] ?_; (with_reducible refine (laws_eqIntS.calls k _ _ l0_2 _ _ l1_2 t633 _ ?side1 ?side2 ?side3 ?side4 A13.out).mono ?_); (case side1 => repeat (first | exact (Kd.C_below HR0_2.out HB.out) | (with_reducible refine Kd.C_alloc ?_ _) | (with_reducible refine Kd.C_drewN ?_ _) | (with_reducible refine Kd.C_drew ?_))); (case side2 => exact HC0_2.out); (case side3 => repeat (first | exact (Kd.C_below HR1_2.out HB.out) | (with_reducible refine Kd.C_alloc ?_ _) | (with_reducible refine Kd.C_drewN ?_ _) | (with_reducible refine Kd.C_drew ?_))); (case side4 => exact HC1_2.out); rintro e w' ⟨rfl, ⟨nd, rfl⟩⟩; refine ⟨_, rfl, ?_⟩))
   (try simp only [Act.put, sb_, sz_, ss_])
   have H := HC14.out
   clear HC14
   by_cases c18 : t633 = true
   ·subst c18
    replace H := ite_t_ H
    obtain ⟨t634, A19, H⟩ := bindE_ H
    have HC20 := aa_ H
    clear H
    have hnb21 := NB630_631.out
    have hnc21 := NB631_630.out
    have hcz22 := blk_cell BK630.out
    have hfz22 := blk_frozen BK630.out
    have hcz23 := blk_cell BK631.out
    have hfz23 := blk_frozen BK631.out
    go_upto_if 27 with (first | ((with_reducible refine gC_ 25 rfl ?_); refine goesC_ (some 26) Tryz.func25 #[.slice A0_3 l0_3.length c0_3, .slice A1_3 l1_3.length c1_3] ?_; (with_reducible refine (laws_eqCredS.calls k _ _ l0_3 _ _ l1_3 t634 _ ?side1 ?side2 ?side3 ?side4 A19.out).mono ?_); (case side1 => repeat (first | exact (Kd.C_below HR0_3.out HB.out) | (with_reducible refine Kd.C_alloc ?_ _) | (with_reducible refine Kd.C_drewN ?_ _) | (with_reducible refine Kd.C_drew ?_))); (case side2 => exact HC0_3.out); (case side3 => repeat (first | exact (Kd.C_below HR1_3.out HB.out) | (with_reducible refine Kd.C_alloc ?_ _) | (with_reducible refine Kd.C_drewN ?_ _) | (with_reducible refine Kd.C_drew ?_))); (case side4 => exact HC1_3.out); rintro e w24 ⟨rfl, hb⟩; refine ⟨_, rfl, ?_⟩; replace BK630 := bkb_ BK630 hb; replace BK631 := bkb_ BK631 hb; replace HB := hbs_ hb; clear hb))
    (try simp only [Act.put, sb_, sz_, ss_])
    have H := HC20.out
    clear HC20
    by_cases c25 : t634 = true
    ·subst c25
     replace H := ite_t_ H
     obtain ⟨t635, A26, H⟩ := bindE_ H
     have HC27 := aa_ H
     clear H
     have hnb28 := NB630_631.out
     have hnc28 := NB631_630.out
     have hcz29 := blk_cell BK630.out
     have hfz29 := blk_frozen BK630.out
     have hcz30 := blk_cell BK631.out
     have hfz30 := blk_frozen BK631.out
     go_upto_if 33 with (first | ((with_reducible refine gC_ 25 rfl ?_); refine goesC_ (some 32) Tryz.func25 #[.slice A0_4 l0_4.length c0_4, .slice A1_4 l1_4.length c1_4] ?_; (with_reducible refine (laws_eqCredS.calls k _ _ l0_4 _ _ l1_4 t635 _ ?side1 ?side2 ?side3 ?side4 A26.out).mono ?_); (case side1 => repeat (first | exact (Kd.C_below HR0_4.out HB.out) | (with_reducible refine Kd.C_alloc ?_ _) | (with_reducible refine Kd.C_drewN ?_ _) | (with_reducible refine Kd.C_drew ?_))); (case side2 => exact HC0_4.out); (case side3 => repeat (first | exact (Kd.C_below HR1_4.out HB.out) | (with_reducible refine Kd.C_alloc ?_ _) | (with_reducible refine Kd.C_drewN ?_ _) | (with_reducible refine Kd.C_drew ?_))); (case side4 => exact HC1_4.out); rintro e w31 ⟨rfl, hb⟩; refine ⟨_, rfl, ?_⟩; replace BK630 := bkb_ BK630 hb; replace BK631 := bkb_ BK631 hb; replace HB := hbs_ hb; clear hb))
     (try simp only [Act.put, sb_, sz_, ss_])
     have H := HC27.out
     clear HC27
     by_cases c32 : t635 = true
     ·subst c32
      replace H := ite_t_ H
      obtain ⟨t636, A33, H⟩ := bindE_ H
      have HC34 := aa_ H
      clear H
      have hnb35 := NB630_631.out
      have hnc35 := NB631_630.out
      have hcz36 := blk_cell BK630.out
      have hfz36 := blk_frozen BK630.out
      have hcz37 := blk_cell BK631.out
      have hfz37 := blk_frozen BK631.out
      go_upto_if 39 with (first | ((with_reducible refine gC_ 26 rfl ?_); refine goesC_ (some 38) Tryz.func26 #[.slice A0_5 l0_5.length c0_5, .slice A1_5 l1_5.length c1_5] ?_; (with_reducible refine (laws_eqAnswerS.calls k _ _ l0_5 _ _ l1_5 t636 _ ?side1 ?side2 ?side3 ?side4 A33.out).mono ?_); (case side1 => repeat (first | exact (Kd.C_below HR0_5.out HB.out) | (with_reducible refine Kd.C_alloc ?_ _) | (with_reducible refine Kd.C_drewN ?_ _) | (with_reducible refine Kd.C_drew ?_))); (case side2 => exact HC0_5.out); (case side3 => repeat (first | exact (Kd.C_below HR1_5.out HB.out) | (with_reducible refine Kd.C_alloc ?_ _) | (with_reducible refine Kd.C_drewN ?_ _) | (with_reducible refine Kd.C_drew ?_))); (case side4 => exact HC1_5.out); rintro e w38 ⟨rfl, hb⟩; refine ⟨_, rfl, ?_⟩; replace BK630 := bkb_ BK630 hb; replace BK631 := bkb_ BK631 hb; replace HB := hbs_ hb; clear hb))
      (try simp only [Act.put, sb_, sz_, ss_])
      have H := HC34.out
      clear HC34
      by_cases c39 : t636 = true
      ·subst c39
       replace H := ite_t_ H
       obtain ⟨t637, A40, H⟩ := bindE_ H
       have HC41 := aa_ H
       clear H
       have hnb42 := NB630_631.out
       have hnc42 := NB631_630.out
       have hcz43 := blk_cell BK630.out
       have hfz43 := blk_frozen BK630.out
       have hcz44 := blk_cell BK631.out
       have hfz44 := blk_frozen BK631.out
       go_upto_if 45 with (first | ((with_reducible refine gC_ 27 rfl ?_); refine goesC_ (some 44) Tryz.func27 #[.slice A0_6 l0_6.length c0_6, .slice A1_6 l1_6.length c1_6] ?_; (with_reducible refine (laws_eqFactS.calls k _ _ l0_6 _ _ l1_6 t637 _ ?side1 ?side2 ?side3 ?side4 A40.out).mono ?_); (case side1 => repeat (first | exact (Kd.C_below HR0_6.out HB.out) | (with_reducible refine Kd.C_alloc ?_ _) | (with_reducible refine Kd.C_drewN ?_ _) | (with_reducible refine Kd.C_drew ?_))); (case side2 => exact HC0_6.out); (case side3 => repeat (first | exact (Kd.C_below HR1_6.out HB.out) | (with_reducible refine Kd.C_alloc ?_ _) | (with_reducible refine Kd.C_drewN ?_ _) | (with_reducible refine Kd.C_drew ?_))); (case side4 => exact HC1_6.out); rintro e w45 ⟨rfl, hb⟩; refine ⟨_, rfl, ?_⟩; replace BK630 := bkb_ BK630 hb; replace BK631 := bkb_ BK631 hb; replace HB := hbs_ hb; clear hb))
       (try simp only [Act.put, sb_, sz_, ss_])
       have H := HC41.out
       clear HC41
       by_cases c46 : t637 = true
       ·subst c46
        replace H := ite_t_ H
        obtain ⟨t638, A47, H⟩ := bindE_ H
        have HC48 := aa_ H
        clear H
        have hnb49 := NB630_631.out
        have hnc49 := NB631_630.out
        have hcz50 := blk_cell BK630.out
        have hfz50 := blk_frozen BK630.out
        have hcz51 := blk_cell BK631.out
        have hfz51 := blk_frozen BK631.out
        go_upto_if 51 with (first | ((with_reducible refine gC_ 24 rfl ?_); refine goesC_ (some 50) Tryz.func24 #[.slice A0_7 l0_7.length c0_7, .slice A1_7 l1_7.length c1_7] ?_; (with_reducible refine (laws_eqIntS.calls k _ _ l0_7 _ _ l1_7 t638 _ ?side1 ?side2 ?side3 ?side4 A47.out).mono ?_); (case side1 => repeat (first | exact (Kd.C_below HR0_7.out HB.out) | (with_reducible refine Kd.C_alloc ?_ _) | (with_reducible refine Kd.C_drewN ?_ _) | (with_reducible refine Kd.C_drew ?_))); (case side2 => exact HC0_7.out); (case side3 => repeat (first | exact (Kd.C_below HR1_7.out HB.out) | (with_reducible refine Kd.C_alloc ?_ _) | (with_reducible refine Kd.C_drewN ?_ _) | (with_reducible refine Kd.C_drew ?_))); (case side4 => exact HC1_7.out); rintro e w' ⟨rfl, ⟨nd, rfl⟩⟩; refine ⟨_, rfl, ?_⟩))
        (try simp only [Act.put, sb_, sz_, ss_])
        have H := HC48.out
        clear HC48
        by_cases c52 : t638 = true
        ·subst c52
         replace H := ite_t_ H
         obtain rfl := Option.some.inj H
         go_wp2
         go_ret
         exact ⟨eq_, bl_⟩
        ·replace c52 := Bool.eq_false_iff.mpr c52
         subst c52
         replace H := ite_f_ H
         obtain rfl := Option.some.inj H
         go_wp2
         go_ret
         exact ⟨eq_, bl_⟩
       ·replace c46 := Bool.eq_false_iff.mpr c46
        subst c46
        replace H := ite_f_ H
        obtain rfl := Option.some.inj H
        go_wp2
        go_ret
        exact ⟨eq_, bl_⟩
      ·replace c39 := Bool.eq_false_iff.mpr c39
       subst c39
       replace H := ite_f_ H
       obtain rfl := Option.some.inj H
       go_wp2
       go_ret
       exact ⟨eq_, bl_⟩
     ·replace c32 := Bool.eq_false_iff.mpr c32
      subst c32
      replace H := ite_f_ H
      obtain rfl := Option.some.inj H
      go_wp2
      go_ret
      exact ⟨eq_, bl_⟩
    ·replace c25 := Bool.eq_false_iff.mpr c25
     subst c25
     replace H := ite_f_ H
     obtain rfl := Option.some.inj H
     go_wp2
     go_ret
     exact ⟨eq_, bl_⟩
   ·replace c18 := Bool.eq_false_iff.mpr c18
    subst c18
    replace H := ite_f_ H
    obtain rfl := Option.some.inj H
    go_wp2
    go_ret
    exact ⟨eq_, bl_⟩
  ·rw [if_neg c12] at H
   have c12b0 : (a0_1 == a1_1) = false := beq_eq_false_iff_ne.mpr c12
   have c12b1 : (a0_1 != a1_1) = true := bne_iff_ne.mpr c12
   (first | rw [c12b0] | (simp only [i64_w, i32_w]; rw [c12b0]) | skip)
   obtain rfl := Option.some.inj H
   have hnb53 := NB630_631.out
   have hnc53 := NB631_630.out
   have hcz54 := blk_cell BK630.out
   have hfz54 := blk_frozen BK630.out
   have hcz55 := blk_cell BK631.out
   have hfz55 := blk_frozen BK631.out
   go_wp2
   go_ret
   exact ⟨eq_, bl_⟩
 ·replace c11 := Bool.eq_false_iff.mpr c11
  subst c11
  replace H := ite_f_ H
  obtain rfl := Option.some.inj H
  go_wp2
  go_ret
  exact ⟨eq_, bl_⟩
end Go.Proofs.YteofimccoadmeaaGreat.PA
