import Derived.Test.YteofimccoadmeaaGreatKWPAx0
-- printed by wip/tools
namespace Go.Proofs.YteofimccoadmeaaGreat.PA
open Go.RowKit Go.Proofs.YteofimccoadmeaaGreatW.PrintWords Go.Proofs.YteofimccoadmeaaGreatW.PrintLast Go.Proofs.YteofimccoadmeaaGreatW.PrintMore
attribute [local go_sem] max2_int min2_int max_two min_two max_three min_three max_four min_four
set_option linter.unusedVariables false
set_option linter.unusedSimpArgs false
def laws_eqIntS.l0 : Nat → List Int → List Int → Int → Option (Bool)
 | 0, _, _, _ => none
 | k + 1, x0, x1, x5 => if x5 < (x0.length : Int) then (if 0 ≤ x5 then (if x5 < (x1.length : Int) then (if (rd x0 x5) = (rd x1 x5) then (laws_eqIntS.l0 k x0 x1 (wrap64 (x5 + 1))) else (some false)) else (none)) else (none)) else (some true)
def laws_eqIntS.f (k : Nat) (l0 : List Int) (l1 : List Int) : Option (Bool) := if (l0.length : Int) = (l1.length : Int) then (laws_eqIntS.l0 k l0 l1 0) else (some false)
set_option maxHeartbeats 8000000 in
set_option maxRecDepth 100000 in
theorem laws_eqIntS.calls (k : Nat) (A0 : Option Addr) (c0 : Nat) (l0 : List Int) (A1 : Option Addr) (c1 : Nat) (l1 : List Int) (r : Bool) (w : World) (hr0 : Kd.C (Kd.int .i64) w A0 l0.length l0) (hc0 : l0.length ≤ c0) (hr1 : Kd.C (Kd.int .i64) w A1 l1.length l1) (hc1 : l1.length ≤ c1) (h : laws_eqIntS.f k l0 l1 = some r) :
  Calls Tryz.prog 24 #[.slice A0 l0.length c0, .slice A1 l1.length c1] w fun e w' => e = .returned (.bool r) ∧ Drawn0 w w' := by
 have HR0 := aa_ hr0
 have HC0 := aa_ hc0
 clear hr0 hc0
 have HR1 := aa_ hr1
 have HC1 := aa_ hc1
 clear hr1 hc1
 have H : (if (l0.length : Int) = (l1.length : Int) then (laws_eqIntS.l0 k l0 l1 0) else (some false)) = some r := h
 clear h
 by_cases c3 : (l0.length : Int) = (l1.length : Int)
 ·rw [if_pos c3] at H
  have c3b0 : ((l0.length : Int) == (l1.length : Int)) = true := beq_iff_eq.mpr c3
  have c3b1 : ((l0.length : Int) != (l1.length : Int)) = false := bne_eq_false_iff_eq.mpr c3
  have c3b2 : (l0.length == l1.length) = true := by first | simpa using c3 | (simp at c3 ⊢; omega)
  clear c3
  have H' := aa_ H
  clear H
  go_enter Tryz.func24, Tryz.ntmps24
  go_wp2
  repeat (go_quiet (fail); try go_wp2)
  go_loopg [5] k (fun kq v5 w' => ∃ (x5_1 : Int), v5 = .int .i64 x5_1 ∧ Aside0 (laws_eqIntS.l0 kq l0 l1 x5_1 = some r) ∧ Aside0 (kq ≤ k) ∧ Drawn0 w w')
  case atStart => exact ⟨(0), rf_, H', ⟨Nat.le_refl _⟩, by repeat (first | exact Drawn0.refl _ | apply Drawn0.step)⟩
  case round =>
   clear H'
   try clear p2
   try clear c3b0
   try clear c3b1
   try clear c3b2
   obtain ⟨x5_1, rfl, HA, HK1, ⟨m1, rfl⟩⟩ := hrel
   cases gk with
   | zero => exact absurd HA.out (by simp [laws_eqIntS.l0])
   | succ k1 =>
    have H := HA.out
    clear HA
    simp only [laws_eqIntS.l0] at H
    by_cases c4 : x5_1 < (l0.length : Int)
    ·rw [if_pos c4] at H
     have c4b0 : decide (x5_1 < (l0.length : Int)) = true := decide_eq_true c4
     clear c4
     obtain ⟨c5b0, H⟩ := ifd_ H
     obtain ⟨c6b0, H⟩ := ifd_ H
     have HC7 := aa_ H
     clear H
     have p576 : 0 ≤ (x5_1 : Int) := od_
     have q576 : x5_1 < (l0.length : Int) := od_
     obtain ⟨ad576, e576, hx576_0⟩ := Kd.at_int HR0.out x5_1 p576 q576
     cases e576
     replace p576 := eq_true p576
     replace q576 := eq_true q576
     have p577 : 0 ≤ (x5_1 : Int) := od_
     have q577 : x5_1 < (l1.length : Int) := od_
     obtain ⟨ad577, e577, hx577_0⟩ := Kd.at_int HR1.out x5_1 p577 q577
     cases e577
     replace p577 := eq_true p577
     replace q577 := eq_true q577
     go_upto_if 25 with (fail)
     repeat (go_quiet (fail); go_upto_if 25 with (fail))
     have H := HC7.out
     clear HC7
     by_cases c8 : (rd l0 x5_1) = (rd l1 x5_1)
     ·rw [if_pos c8] at H
      have c8b0 : ((rd l0 x5_1) == (rd l1 x5_1)) = true := beq_iff_eq.mpr c8
      have c8b1 : ((rd l0 x5_1) != (rd l1 x5_1)) = false := bne_eq_false_iff_eq.mpr c8
      clear c8
      (first | rw [c8b0] | (simp only [i64_w, i32_w]; rw [c8b0]) | skip)
      have H' := aa_ H
      clear H
      go_wp2
      repeat (go_quiet (fail); try go_wp2)
      go_roundg k1
      case measure => have := HK1.out; omega
      case rel => exact ⟨(wrap64 (x5_1 + 1)), rf_, H', ⟨by have := HK1.out; omega⟩, by repeat (first | exact Drawn0.refl _ | apply Drawn0.step)⟩
     ·rw [if_neg c8] at H
      have c8b0 : ((rd l0 x5_1) == (rd l1 x5_1)) = false := beq_eq_false_iff_ne.mpr c8
      have c8b1 : ((rd l0 x5_1) != (rd l1 x5_1)) = true := bne_iff_ne.mpr c8
      (first | rw [c8b0] | (simp only [i64_w, i32_w]; rw [c8b0]) | skip)
      obtain rfl := Option.some.inj H
      go_wp2
      repeat (go_quiet (fail); try go_wp2)
      go_ret
      exact ⟨by first | rfl | (simp; done) | (simp [*]; done), by repeat (first | exact Drawn0.refl _ | apply Drawn0.step)⟩
    ·rw [if_neg c4] at H
     have c4b0 : decide (x5_1 < (l0.length : Int)) = false := decide_eq_false c4
     clear c4
     obtain rfl := Option.some.inj H
     go_wp2
     repeat (go_quiet (fail); try go_wp2)
     go_ret
     exact ⟨by first | rfl | (simp; done) | (simp [*]; done), by repeat (first | exact Drawn0.refl _ | apply Drawn0.step)⟩
 ·rw [if_neg c3] at H
  have c3b0 : ((l0.length : Int) == (l1.length : Int)) = false := beq_eq_false_iff_ne.mpr c3
  have c3b1 : ((l0.length : Int) != (l1.length : Int)) = true := bne_iff_ne.mpr c3
  have c3b2 : (l0.length == l1.length) = false := by first | simpa using c3 | (simp at c3 ⊢; omega)
  obtain rfl := Option.some.inj H
  go_enter Tryz.func24, Tryz.ntmps24
  go_wp2
  repeat (go_quiet (fail); try go_wp2)
  go_ret
  exact ⟨by first | rfl | (simp; done) | (simp [*]; done), by repeat (first | exact Drawn0.refl _ | apply Drawn0.step)⟩
def laws_eqItem.f (a0_0 : ByteArray) (a0_1 : Bool) (a1_0 : ByteArray) (a1_1 : Bool) : Option (Bool) := if a0_0.toList = a1_0.toList then (if (a0_1 != a1_1) = true then (some false) else (some true)) else (some false)
set_option maxHeartbeats 8000000 in
set_option maxRecDepth 100000 in
theorem laws_eqItem.calls (a0_0 : ByteArray) (a0_1 : Bool) (a1_0 : ByteArray) (a1_1 : Bool) (r : Bool) (w : World) (h : laws_eqItem.f a0_0 a0_1 a1_0 a1_1 = some r) :
  Calls Tryz.prog 105 #[.agg #[.string a0_0, .bool a0_1], .agg #[.string a1_0, .bool a1_1]] w fun e w' => e = .returned (.bool r) ∧ Below w.heap.size w w' := by
 have hu131 := Tryz.underlying131
 have HB := aa_ (Below.refl w.heap.size w)
 have H : (if a0_0.toList = a1_0.toList then (if (a0_1 != a1_1) = true then (some false) else (some true)) else (some false)) = some r := h
 clear h
 by_cases c3 : a0_0.toList = a1_0.toList
 ·rw [if_pos c3] at H
  have c3b0 : (a0_0.toList == a1_0.toList) = true := beq_iff_eq.mpr c3
  have c3b1 : (a0_0.toList != a1_0.toList) = false := bne_eq_false_iff_eq.mpr c3
  clear c3
  have HC4 := aa_ H
  clear H
  go_enter Tryz.func105, Tryz.ntmps105
  go_upto_if 14 with (first | ((with_reducible refine gD_ 2 rfl ?_); refine bx_ (N := 2) (cs := #[.string a0_0, .bool a0_1]) (t := 131) ?_; intro gb578 hg w5 hbox hb; have BK578 := aa_ (hbox); have GW578 := gs_ hg; have GE578 := gs_ hg; replace HB := hbs_ hb; clear hb hbox hg) | ((with_reducible refine gD_ 3 rfl ?_); refine bx_ (N := 3) (cs := #[.string a1_0, .bool a1_1]) (t := 131) ?_; intro gb579 hg w6 hbox hb; have BK579 := aa_ (hbox); have GW579 := gs_ hg; have GE579 := gs_ hg; replace HB := hbs_ hb; have NB578_579 := nl_ hg BK578; have NB579_578 := nr_ hg BK578; replace BK578 := bkb_ BK578 hb; clear hb hbox hg; have hnb7 := NB578_579.out; have hnc7 := NB579_578.out; obtain ⟨hcz8, hfz8⟩ := bcf_ BK578; obtain ⟨hcz9, hfz9⟩ := bcf_ BK579))
  (try simp only [Act.put, sb_, sz_, ss_])
  have H := HC4.out
  clear HC4
  by_cases c10 : (a0_1 != a1_1) = true
  ·rw [if_pos c10] at H
   have c10b0 : (a0_1 != a1_1) = true := c10
   (try (have c10b1 : decide (a0_1 = a1_1) = false := by simpa using c10))
   (try (have c10b2 : (a0_1 == a1_1) = false := by simpa using c10))
   (try (have c10b5 : (!(a0_1 == a1_1)) = true := by rw [c10b2]; rfl))
   (try (have c10b3 : ¬ (a0_1 = a1_1) := by simpa using c10))
   clear c10
   (first | rw [c10b5] | rw [c10b0] | (simp only [i64_w, i32_w]; rw [c10b0]) | skip)
   obtain rfl := Option.some.inj H
   go_wp2
   go_ret
   exact ⟨eq_, bl_⟩
  ·rw [if_neg c10] at H
   have c10b0 : (a0_1 != a1_1) = false := by simpa using c10
   (try (have c10b1 : decide (a0_1 = a1_1) = true := by simpa using c10))
   (try (have c10b2 : (a0_1 == a1_1) = true := by simpa using c10))
   (try (have c10b5 : (!(a0_1 == a1_1)) = false := by rw [c10b2]; rfl))
   clear c10
   (first | rw [c10b5] | rw [c10b0] | (simp only [i64_w, i32_w]; rw [c10b0]) | skip)
   obtain rfl := Option.some.inj H
   go_wp2
   go_ret
   exact ⟨eq_, bl_⟩
 ·rw [if_neg c3] at H
  have c3b0 : (a0_0.toList == a1_0.toList) = false := beq_eq_false_iff_ne.mpr c3
  have c3b1 : (a0_0.toList != a1_0.toList) = true := bne_iff_ne.mpr c3
  obtain rfl := Option.some.inj H
  go_enter Tryz.func105, Tryz.ntmps105
  go_wp2_with (first | ((with_reducible refine gD_ 2 rfl ?_); refine bx_ (N := 2) (cs := #[.string a0_0, .bool a0_1]) (t := 131) ?_; intro gb578 hg w11 hbox hb; have BK578 := aa_ (hbox); have GW578 := gs_ hg; have GE578 := gs_ hg; replace HB := hbs_ hb; clear hb hbox hg) | ((with_reducible refine gD_ 3 rfl ?_); refine bx_ (N := 3) (cs := #[.string a1_0, .bool a1_1]) (t := 131) ?_; intro gb579 hg w12 hbox hb; have BK579 := aa_ (hbox); have GW579 := gs_ hg; have GE579 := gs_ hg; replace HB := hbs_ hb; have NB578_579 := nl_ hg BK578; have NB579_578 := nr_ hg BK578; replace BK578 := bkb_ BK578 hb; clear hb hbox hg; have hnb13 := NB578_579.out; have hnc13 := NB579_578.out; obtain ⟨hcz14, hfz14⟩ := bcf_ BK578; obtain ⟨hcz15, hfz15⟩ := bcf_ BK579))
  go_ret
  exact ⟨eq_, bl_⟩
def laws_eqItemS.l0 : Nat → List (S131) → List (S131) → Int → Option (Bool)
 | 0, _, _, _ => none
 | k + 1, x0, x1, x5 => if x5 < (x0.length : Int) then (if 0 ≤ x5 then (if x5 < (x1.length : Int) then ((laws_eqItem.f ((rd_T131 x0 x5).f0) ((rd_T131 x0 x5).f1) ((rd_T131 x1 x5).f0) ((rd_T131 x1 x5).f1)).bind fun t582 => (if t582 = true then (laws_eqItemS.l0 k x0 x1 (wrap64 (x5 + 1))) else (some false))) else (none)) else (none)) else (some true)
def laws_eqItemS.f (k : Nat) (l0 : List (S131)) (l1 : List (S131)) : Option (Bool) := if (l0.length : Int) = (l1.length : Int) then (laws_eqItemS.l0 k l0 l1 0) else (some false)
def laws_eqItemS.T6 : Bool × List (List Nat × List Nat) := (true, [([], []), ([], []), ([0, 1], [0, 1]), ([2], [2]), ([], []), ([], []), ([4, 5], [4, 5]), ([6], [6]), ([3, 7], [3, 7]), ([8], [8])])
def laws_eqItemS.B6 : List Nat := [0, 0, 3, 7, 0, 0, 48, 112, 255, 511]
theorem laws_eqItemS.tab6 : rtab .any (opsOf Tryz.f102 6) = laws_eqItemS.T6 := by kernel_rfl
theorem laws_eqItemS.bits6 : waitsOk laws_eqItemS.T6.2 laws_eqItemS.B6 = true := by kernel_rfl
set_option maxHeartbeats 8000000 in
set_option maxRecDepth 100000 in
theorem laws_eqItemS.calls (k : Nat) (A0 : Option Addr) (c0 : Nat) (l0 : List (S131)) (A1 : Option Addr) (c1 : Nat) (l1 : List (S131)) (r : Bool) (w : World) (hr0 : Kd.C k131 w A0 l0.length l0) (hc0 : l0.length ≤ c0) (hr1 : Kd.C k131 w A1 l1.length l1) (hc1 : l1.length ≤ c1) (h : laws_eqItemS.f k l0 l1 = some r) :
  Calls Tryz.prog 102 #[.slice A0 l0.length c0, .slice A1 l1.length c1] w fun e w' => e = .returned (.bool r) ∧ Below w.heap.size w w' := by
 have hu131 := Tryz.underlying131
 have HR0 := aa_ hr0
 have HC0 := aa_ hc0
 clear hr0 hc0
 have HR1 := aa_ hr1
 have HC1 := aa_ hc1
 clear hr1 hc1
 have HB := aa_ (Below.refl w.heap.size w)
 have H : (if (l0.length : Int) = (l1.length : Int) then (laws_eqItemS.l0 k l0 l1 0) else (some false)) = some r := h
 clear h
 by_cases c3 : (l0.length : Int) = (l1.length : Int)
 ·rw [if_pos c3] at H
  have c3b0 : ((l0.length : Int) == (l1.length : Int)) = true := beq_iff_eq.mpr c3
  have c3b1 : ((l0.length : Int) != (l1.length : Int)) = false := bne_eq_false_iff_eq.mpr c3
  have c3b2 : (l0.length == l1.length) = true := by first | simpa using c3 | (simp at c3 ⊢; omega)
  clear c3
  have H' := aa_ H
  clear H
  go_enter Tryz.func102, Tryz.ntmps102
  go_wp2
  go_loopg [5] k (fun kq v5 w' => ∃ (x5_1 : Int), v5 = .int .i64 x5_1 ∧ Aside0 (laws_eqItemS.l0 kq l0 l1 x5_1 = some r) ∧ Aside0 (kq ≤ k) ∧ Aside0 (Below w.heap.size w w'))
  case atStart => exact ⟨(0), rf_, H', ⟨Nat.le_refl _⟩, ⟨bl_⟩⟩
  case round =>
   clear H'
   try clear p2
   try clear c3b0
   try clear c3b1
   try clear c3b2
   obtain ⟨x5_1, rfl, HA, HK1, HB⟩ := hrel
   cases gk with
   | zero => exact absurd HA.out (by simp [laws_eqItemS.l0])
   | succ k1 =>
    have H := HA.out
    clear HA
    simp only [laws_eqItemS.l0] at H
    by_cases c4 : x5_1 < (l0.length : Int)
    ·rw [if_pos c4] at H
     have c4b0 : decide (x5_1 < (l0.length : Int)) = true := decide_eq_true c4
     clear c4
     obtain ⟨c5b0, H⟩ := ifd_ H
     obtain ⟨c6b0, H⟩ := ifd_ H
     obtain ⟨t582, A7, H⟩ := bindE_ H
     have HC8 := aa_ H
     clear H
     try go_wp2
     replace HB := aa_ (below_drew1 HB.out)
     have p580 : 0 ≤ (x5_1 : Int) := od_
     have q580 : x5_1 < (l0.length : Int) := od_
     obtain ⟨ad580, e580, hx580_0, hx580_1⟩ := at_T131 HR0.out x5_1 p580 q580
     have hw580_1 := hx580_1
     have hw580_0 := hx580_0
     cases e580
     replace hx580_0 := cb_ HB hx580_0
     replace hx580_1 := cb_ HB hx580_1
     replace p580 := eq_true p580
     replace q580 := eq_true q580
     have p581 : 0 ≤ (x5_1 : Int) := od_
     have q581 : x5_1 < (l1.length : Int) := od_
     obtain ⟨ad581, e581, hx581_0, hx581_1⟩ := at_T131 HR1.out x5_1 p581 q581
     have hw581_1 := hx581_1
     have hw581_0 := hx581_0
     cases e581
     replace hx581_0 := cb_ HB hx581_0
     replace hx581_1 := cb_ HB hx581_1
     replace p581 := eq_true p581
     replace q581 := eq_true q581
     refine start_ (n := 10) (S := fun w' => w'.cell? (ad580.add ((x5_1).toNat * 2)) = some (.string ((rd_T131 l0 x5_1).f0)) ∧ w'.cell? ⟨(ad580.add ((x5_1).toNat * 2)).block, (ad580.add ((x5_1).toNat * 2)).off + 1, none⟩ = some (.bool ((rd_T131 l0 x5_1).f1)) ∧ w'.cell? (ad581.add ((x5_1).toNat * 2)) = some (.string ((rd_T131 l1 x5_1).f0)) ∧ w'.cell? ⟨(ad581.add ((x5_1).toNat * 2)).block, (ad581.add ((x5_1).toNat * 2)).off + 1, none⟩ = some (.bool ((rd_T131 l1 x5_1).f1))) (ds := []) (ba_ 10 0) (by kernel_rfl) rfl rfl ⟨(cb_ HB hw580_0 :), (cb_ HB hw580_1 :), (cb_ HB hw581_0 :), (cb_ HB hw581_1 :)⟩ (fun hHeld => ?_); refine with_tabW laws_eqItemS.tab6 laws_eqItemS.bits6 (fun HT_ HW_ => ?_)
     generalize wr.drew = w9 at HB hx580_0 hx580_1 hx581_0 hx581_1 hHeld ⊢
     refine pz_ 0 17 (ba_ 10 1) (ao_ HT_) ?_
     refine pz_ 1 18 (ba_ 10 3) (ao_ HT_) ?_
     refine pz_ 2 19 (ba_ 10 7) (ao_ HT_) ?_
     refine pz_ 4 21 (ba_ 10 23) (ao_ HT_) ?_
     refine pz_ 5 22 (ba_ 10 55) (ao_ HT_) ?_
     refine pz_ 6 23 (ba_ 10 119) (ao_ HT_) ?_
     refine tz_ 3 20 (ba_ 10 127) (take_ofW HT_.out HW_.out (by kernel_rfl)) hHeld ?_
     refine tz_ 7 24 (ba_ 10 255) (take_ofW HT_.out HW_.out (by kernel_rfl)) hHeld ?_
     refine one_ (i := 8) (N := some 25) (ba_ 10 511) rfl rfl (one_of HT_.out (by kernel_rfl)) (by decide) (fun K hK => ?_)
     refine goes_ Tryz.func105 (by kernel_rfl) rfl #[.agg #[.string ((rd_T131 l0 x5_1).f0), .bool ((rd_T131 l0 x5_1).f1)], .agg #[.string ((rd_T131 l1 x5_1).f0), .bool ((rd_T131 l1 x5_1).f1)]] (by rfl) rfl rfl (by (try simp only [List.map_toArray, List.map_cons, List.map_nil]); first | done | rfl | (simp only [List.length_drop, List.length_take]; rfl)) ?_
     with_reducible refine (laws_eqItem.calls ((rd_T131 l0 x5_1).f0) ((rd_T131 l0 x5_1).f1) ((rd_T131 l1 x5_1).f0) ((rd_T131 l1 x5_1).f1) t582 _ A7.out).mono ?_
     rintro e w10 ⟨rfl, hb⟩
     refine ⟨_, rfl, ?_⟩
     replace HB := hbs_ hb
     (try clear hb)
     (try clear hb2)
     (try clear hk)
     (try clear hi)
     refine hK.out _ _ ⟨(cb_ HB hw580_0 :), (cb_ HB hw580_1 :), (cb_ HB hw581_0 :), (cb_ HB hw581_1 :)⟩ (fun hHeld => ?_)
     clear hK K
     refine norm_ (a' := ?_) ?_ ?_
     rotate_left
     ·show Act.put _ (some 25) _ = _
      simp only [Act.put, sb_, sz_, ss_, i64_w, i32_w]
      rfl
     refine pz_ 9 26 (ba_ 10 1023) (ao_ HT_) ?_
     refine done_ (done_of HT_.out (by kernel_rfl)) ?_
     go_upto_if 26 with (fail)
     have H := HC8.out
     clear HC8
     by_cases c11 : t582 = true
     ·subst c11
      replace H := ite_t_ H
      have H' := aa_ H
      clear H
      go_wp2
      go_roundg k1
      case measure => have := HK1.out; omega
      case rel => exact ⟨(wrap64 (x5_1 + 1)), rf_, H', ⟨by have := HK1.out; omega⟩, ⟨bl_⟩⟩
     ·replace c11 := Bool.eq_false_iff.mpr c11
      subst c11
      replace H := ite_f_ H
      obtain rfl := Option.some.inj H
      go_wp2
      go_ret
      exact ⟨eq_, bl_⟩
    ·rw [if_neg c4] at H
     have c4b0 : decide (x5_1 < (l0.length : Int)) = false := decide_eq_false c4
     clear c4
     obtain rfl := Option.some.inj H
     go_wp2
     go_ret
     exact ⟨eq_, bl_⟩
 ·rw [if_neg c3] at H
  have c3b0 : ((l0.length : Int) == (l1.length : Int)) = false := beq_eq_false_iff_ne.mpr c3
  have c3b1 : ((l0.length : Int) != (l1.length : Int)) = true := bne_iff_ne.mpr c3
  have c3b2 : (l0.length == l1.length) = false := by first | simpa using c3 | (simp at c3 ⊢; omega)
  obtain rfl := Option.some.inj H
  go_enter Tryz.func102, Tryz.ntmps102
  go_wp2
  go_ret
  exact ⟨eq_, bl_⟩
def laws_eqShelf.f (k : Nat) (a0_0 : Int) (l0_1 : List (S131)) (a1_0 : Int) (l1_1 : List (S131)) : Option (Bool) := if a0_0 = a1_0 then ((laws_eqItemS.f k l0_1 l1_1).bind fun t585 => (if t585 = true then (some true) else (some false))) else (some false)
set_option maxHeartbeats 8000000 in
set_option maxRecDepth 100000 in
theorem laws_eqShelf.calls (k : Nat) (a0_0 : Int) (A0_1 : Option Addr) (c0_1 : Nat) (l0_1 : List (S131)) (a1_0 : Int) (A1_1 : Option Addr) (c1_1 : Nat) (l1_1 : List (S131)) (r : Bool) (w : World) (hr0_1 : Kd.C k131 w A0_1 l0_1.length l0_1) (hc0_1 : l0_1.length ≤ c0_1) (hr1_1 : Kd.C k131 w A1_1 l1_1.length l1_1) (hc1_1 : l1_1.length ≤ c1_1) (h : laws_eqShelf.f k a0_0 l0_1 a1_0 l1_1 = some r) :
  Calls Tryz.prog 99 #[.agg #[.int .i64 a0_0, .slice A0_1 l0_1.length c0_1], .agg #[.int .i64 a1_0, .slice A1_1 l1_1.length c1_1]] w fun e w' => e = .returned (.bool r) ∧ Below w.heap.size w w' := by
 have hu108 := Tryz.underlying108
 have HR0_1 := aa_ hr0_1
 have HC0_1 := aa_ hc0_1
 clear hr0_1 hc0_1
 have HR1_1 := aa_ hr1_1
 have HC1_1 := aa_ hc1_1
 clear hr1_1 hc1_1
 have HB := aa_ (Below.refl w.heap.size w)
 have H : (if a0_0 = a1_0 then ((laws_eqItemS.f k l0_1 l1_1).bind fun t585 => (if t585 = true then (some true) else (some false))) else (some false)) = some r := h
 clear h
 have HC3 := aa_ H
 clear H
 go_enter Tryz.func99, Tryz.ntmps99
 go_upto_if 9 with (first | ((with_reducible refine gD_ 2 rfl ?_); refine bx_ (N := 2) (cs := #[.int .i64 a0_0, .slice A0_1 l0_1.length c0_1]) (t := 108) ?_; intro gb583 hg w4 hbox hb; have BK583 := aa_ (hbox); have GW583 := gs_ hg; have GE583 := gs_ hg; replace HB := hbs_ hb; clear hb hbox hg) | ((with_reducible refine gD_ 3 rfl ?_); refine bx_ (N := 3) (cs := #[.int .i64 a1_0, .slice A1_1 l1_1.length c1_1]) (t := 108) ?_; intro gb584 hg w5 hbox hb; have BK584 := aa_ (hbox); have GW584 := gs_ hg; have GE584 := gs_ hg; replace HB := hbs_ hb; have NB583_584 := nl_ hg BK583; have NB584_583 := nr_ hg BK583; replace BK583 := bkb_ BK583 hb; clear hb hbox hg; have hnb6 := NB583_584.out; have hnc6 := NB584_583.out; obtain ⟨hcz7, hfz7⟩ := bcf_ BK583; obtain ⟨hcz8, hfz8⟩ := bcf_ BK584))
 (try simp only [Act.put, sb_, sz_, ss_])
 have H := HC3.out
 clear HC3
 by_cases c9 : a0_0 = a1_0
 ·rw [if_pos c9] at H
  have c9b0 : (a0_0 == a1_0) = true := beq_iff_eq.mpr c9
  have c9b1 : (a0_0 != a1_0) = false := bne_eq_false_iff_eq.mpr c9
  clear c9
  (first | rw [c9b0] | (simp only [i64_w, i32_w]; rw [c9b0]) | skip)
  obtain ⟨t585, A10, H⟩ := bindE_ H
  have HC11 := aa_ H
  clear H
  have hnb12 := NB583_584.out
  have hnc12 := NB584_583.out
  have hcz13 := blk_cell BK583.out
  have hfz13 := blk_frozen BK583.out
  have hcz14 := blk_cell BK584.out
  have hfz14 := blk_frozen BK584.out
  go_upto_if 15 with (first | ((with_reducible refine gC_ 102 rfl ?_); refine goesC_ (some 14) Tryz.func102 #[.slice A0_1 l0_1.length c0_1, .slice A1_1 l1_1.length c1_1] ?_; (with_reducible refine (laws_eqItemS.calls k _ _ l0_1 _ _ l1_1 t585 _ ?side1 ?side2 ?side3 ?side4 A10.out).mono ?_); (case side1 => repeat (first | exact (Kd.C_below HR0_1.out HB.out) | (with_reducible refine Kd.C_alloc ?_ _) | (with_reducible refine Kd.C_drewN ?_ _) | (with_reducible refine Kd.C_drew ?_))); (case side2 => exact HC0_1.out); (case side3 => repeat (first | exact (Kd.C_below HR1_1.out HB.out) | (with_reducible refine Kd.C_alloc ?_ _) | (with_reducible refine Kd.C_drewN ?_ _) | (with_reducible refine Kd.C_drew ?_))); (case side4 => exact HC1_1.out); rintro e w15 ⟨rfl, hb⟩; refine ⟨_, rfl, ?_⟩; replace BK583 := bkb_ BK583 hb; replace BK584 := bkb_ BK584 hb; replace HB := hbs_ hb; clear hb))
  (try simp only [Act.put, sb_, sz_, ss_])
  have H := HC11.out
  clear HC11
  by_cases c16 : t585 = true
  ·subst c16
   replace H := ite_t_ H
   obtain rfl := Option.some.inj H
   go_wp2
   go_ret
   exact ⟨eq_, bl_⟩
  ·replace c16 := Bool.eq_false_iff.mpr c16
   subst c16
   replace H := ite_f_ H
   obtain rfl := Option.some.inj H
   go_wp2
   go_ret
   exact ⟨eq_, bl_⟩
 ·rw [if_neg c9] at H
  have c9b0 : (a0_0 == a1_0) = false := beq_eq_false_iff_ne.mpr c9
  have c9b1 : (a0_0 != a1_0) = true := bne_iff_ne.mpr c9
  (first | rw [c9b0] | (simp only [i64_w, i32_w]; rw [c9b0]) | skip)
  obtain rfl := Option.some.inj H
  go_wp2
  go_ret
  exact ⟨eq_, bl_⟩
def laws_eqShelfS.l0 : Nat → List (S108) → List (S108) → Int → Option (Bool)
 | 0, _, _, _ => none
 | k + 1, x0, x1, x5 => if x5 < (x0.length : Int) then (if 0 ≤ x5 then (if x5 < (x1.length : Int) then ((laws_eqShelf.f k ((rd_T108 x0 x5).f0) ((rd_T108 x0 x5).f1) ((rd_T108 x1 x5).f0) ((rd_T108 x1 x5).f1)).bind fun t588 => (if t588 = true then (laws_eqShelfS.l0 k x0 x1 (wrap64 (x5 + 1))) else (some false))) else (none)) else (none)) else (some true)
def laws_eqShelfS.f (k : Nat) (l0 : List (S108)) (l1 : List (S108)) : Option (Bool) := if (l0.length : Int) = (l1.length : Int) then (laws_eqShelfS.l0 k l0 l1 0) else (some false)
def laws_eqShelfS.T6 : Bool × List (List Nat × List Nat) := (true, [([], []), ([], []), ([0, 1], [0, 1]), ([2], [2]), ([], []), ([], []), ([4, 5], [4, 5]), ([6], [6]), ([3, 7], [3, 7]), ([8], [8])])
def laws_eqShelfS.B6 : List Nat := [0, 0, 3, 7, 0, 0, 48, 112, 255, 511]
theorem laws_eqShelfS.tab6 : rtab .any (opsOf Tryz.f90 6) = laws_eqShelfS.T6 := by kernel_rfl
theorem laws_eqShelfS.bits6 : waitsOk laws_eqShelfS.T6.2 laws_eqShelfS.B6 = true := by kernel_rfl
set_option maxHeartbeats 8000000 in
set_option maxRecDepth 100000 in
theorem laws_eqShelfS.calls (k : Nat) (A0 : Option Addr) (c0 : Nat) (l0 : List (S108)) (A1 : Option Addr) (c1 : Nat) (l1 : List (S108)) (r : Bool) (w : World) (hr0 : Kd.C k108 w A0 l0.length l0) (hc0 : l0.length ≤ c0) (hr1 : Kd.C k108 w A1 l1.length l1) (hc1 : l1.length ≤ c1) (h : laws_eqShelfS.f k l0 l1 = some r) :
  Calls Tryz.prog 90 #[.slice A0 l0.length c0, .slice A1 l1.length c1] w fun e w' => e = .returned (.bool r) ∧ Below w.heap.size w w' := by
 have hu108 := Tryz.underlying108
 have HR0 := aa_ hr0
 have HC0 := aa_ hc0
 clear hr0 hc0
 have HR1 := aa_ hr1
 have HC1 := aa_ hc1
 clear hr1 hc1
 have HB := aa_ (Below.refl w.heap.size w)
 have H : (if (l0.length : Int) = (l1.length : Int) then (laws_eqShelfS.l0 k l0 l1 0) else (some false)) = some r := h
 clear h
 by_cases c3 : (l0.length : Int) = (l1.length : Int)
 ·rw [if_pos c3] at H
  have c3b0 : ((l0.length : Int) == (l1.length : Int)) = true := beq_iff_eq.mpr c3
  have c3b1 : ((l0.length : Int) != (l1.length : Int)) = false := bne_eq_false_iff_eq.mpr c3
  have c3b2 : (l0.length == l1.length) = true := by first | simpa using c3 | (simp at c3 ⊢; omega)
  clear c3
  have H' := aa_ H
  clear H
  go_enter Tryz.func90, Tryz.ntmps90
  go_wp2
  go_loopg [5] k (fun kq v5 w' => ∃ (x5_1 : Int), v5 = .int .i64 x5_1 ∧ Aside0 (laws_eqShelfS.l0 kq l0 l1 x5_1 = some r) ∧ Aside0 (kq ≤ k) ∧ Aside0 (Below w.heap.size w w'))
  case atStart => exact ⟨(0), rf_, H', ⟨Nat.le_refl _⟩, ⟨bl_⟩⟩
  case round =>
   clear H'
   try clear p2
   try clear c3b0
   try clear c3b1
   try clear c3b2
   obtain ⟨x5_1, rfl, HA, HK1, HB⟩ := hrel
   cases gk with
   | zero => exact absurd HA.out (by simp [laws_eqShelfS.l0])
   | succ k1 =>
    have H := HA.out
    clear HA
    simp only [laws_eqShelfS.l0] at H
    by_cases c4 : x5_1 < (l0.length : Int)
    ·rw [if_pos c4] at H
     have c4b0 : decide (x5_1 < (l0.length : Int)) = true := decide_eq_true c4
     clear c4
     obtain ⟨c5b0, H⟩ := ifd_ H
     obtain ⟨c6b0, H⟩ := ifd_ H
     obtain ⟨t588, A7, H⟩ := bindE_ H
     have HC8 := aa_ H
     clear H
     try go_wp2
     replace HB := aa_ (below_drew1 HB.out)
     have p586 : 0 ≤ (x5_1 : Int) := od_
     have q586 : x5_1 < (l0.length : Int) := od_
     obtain ⟨ad586, A586_1, c586_1, e586, hx586_0, hx586_1, hl586_1, hi586_1⟩ := at_T108 HR0.out x5_1 p586 q586
     have hw586_1 := hx586_1
     have hw586_0 := hx586_0
     cases e586
     replace hx586_0 := cb_ HB hx586_0
     replace hx586_1 := cb_ HB hx586_1
     have HR586_1 := aa_ hi586_1
     have HC586_1 := aa_ hl586_1
     clear hi586_1 hl586_1
     replace p586 := eq_true p586
     replace q586 := eq_true q586
     have p587 : 0 ≤ (x5_1 : Int) := od_
     have q587 : x5_1 < (l1.length : Int) := od_
     obtain ⟨ad587, A587_1, c587_1, e587, hx587_0, hx587_1, hl587_1, hi587_1⟩ := at_T108 HR1.out x5_1 p587 q587
     have hw587_1 := hx587_1
     have hw587_0 := hx587_0
     cases e587
     replace hx587_0 := cb_ HB hx587_0
     replace hx587_1 := cb_ HB hx587_1
     have HR587_1 := aa_ hi587_1
     have HC587_1 := aa_ hl587_1
     clear hi587_1 hl587_1
     replace p587 := eq_true p587
     replace q587 := eq_true q587
     refine start_ (n := 10) (S := fun w' => w'.cell? (ad586.add ((x5_1).toNat * 2)) = some (.int .i64 ((rd_T108 l0 x5_1).f0)) ∧ w'.cell? ⟨(ad586.add ((x5_1).toNat * 2)).block, (ad586.add ((x5_1).toNat * 2)).off + 1, none⟩ = some (.slice A586_1 ((rd_T108 l0 x5_1).f1).length c586_1) ∧ w'.cell? (ad587.add ((x5_1).toNat * 2)) = some (.int .i64 ((rd_T108 l1 x5_1).f0)) ∧ w'.cell? ⟨(ad587.add ((x5_1).toNat * 2)).block, (ad587.add ((x5_1).toNat * 2)).off + 1, none⟩ = some (.slice A587_1 ((rd_T108 l1 x5_1).f1).length c587_1)) (ds := []) (ba_ 10 0) (by kernel_rfl) rfl rfl ⟨(cb_ HB hw586_0 :), (cb_ HB hw586_1 :), (cb_ HB hw587_0 :), (cb_ HB hw587_1 :)⟩ (fun hHeld => ?_); refine with_tabW laws_eqShelfS.tab6 laws_eqShelfS.bits6 (fun HT_ HW_ => ?_)
     generalize wr.drew = w9 at HB HR586_1 HR587_1 hx586_0 hx586_1 hx587_0 hx587_1 hHeld ⊢
     refine pz_ 0 17 (ba_ 10 1) (ao_ HT_) ?_
     refine pz_ 1 18 (ba_ 10 3) (ao_ HT_) ?_
     refine pz_ 2 19 (ba_ 10 7) (ao_ HT_) ?_
     refine pz_ 4 21 (ba_ 10 23) (ao_ HT_) ?_
     refine pz_ 5 22 (ba_ 10 55) (ao_ HT_) ?_
     refine pz_ 6 23 (ba_ 10 119) (ao_ HT_) ?_
     refine tz_ 3 20 (ba_ 10 127) (take_ofW HT_.out HW_.out (by kernel_rfl)) hHeld ?_
     refine tz_ 7 24 (ba_ 10 255) (take_ofW HT_.out HW_.out (by kernel_rfl)) hHeld ?_
     refine one_ (i := 8) (N := some 25) (ba_ 10 511) rfl rfl (one_of HT_.out (by kernel_rfl)) (by decide) (fun K hK => ?_)
     refine goes_ Tryz.func99 (by kernel_rfl) rfl #[.agg #[.int .i64 ((rd_T108 l0 x5_1).f0), .slice A586_1 ((rd_T108 l0 x5_1).f1).length c586_1], .agg #[.int .i64 ((rd_T108 l1 x5_1).f0), .slice A587_1 ((rd_T108 l1 x5_1).f1).length c587_1]] (by rfl) rfl rfl (by (try simp only [List.map_toArray, List.map_cons, List.map_nil]); first | done | rfl | (simp only [List.length_drop, List.length_take]; rfl)) ?_
     with_reducible refine (laws_eqShelf.calls k1 ((rd_T108 l0 x5_1).f0) _ _ ((rd_T108 l0 x5_1).f1) ((rd_T108 l1 x5_1).f0) _ _ ((rd_T108 l1 x5_1).f1) t588 _ ?side1 ?side2 ?side3 ?side4 A7.out).mono ?_
     (case side1 => repeat (first | exact (Kd.C_below HR586_1.out HB.out) | (with_reducible refine Kd.C_alloc ?_ _) | (with_reducible refine Kd.C_drewN ?_ _) | (with_reducible refine Kd.C_drew ?_)))
     (case side2 => exact HC586_1.out)
     (case side3 => repeat (first | exact (Kd.C_below HR587_1.out HB.out) | (with_reducible refine Kd.C_alloc ?_ _) | (with_reducible refine Kd.C_drewN ?_ _) | (with_reducible refine Kd.C_drew ?_)))
     (case side4 => exact HC587_1.out)
     rintro e w10 ⟨rfl, hb⟩
     refine ⟨_, rfl, ?_⟩
     replace HB := hbs_ hb
     (try clear hb)
     (try clear hb2)
     (try clear hk)
     (try clear hi)
     refine hK.out _ _ ⟨(cb_ HB hw586_0 :), (cb_ HB hw586_1 :), (cb_ HB hw587_0 :), (cb_ HB hw587_1 :)⟩ (fun hHeld => ?_)
     clear hK K
     refine norm_ (a' := ?_) ?_ ?_
     rotate_left
     ·show Act.put _ (some 25) _ = _
      simp only [Act.put, sb_, sz_, ss_, i64_w, i32_w]
      rfl
     refine pz_ 9 26 (ba_ 10 1023) (ao_ HT_) ?_
     refine done_ (done_of HT_.out (by kernel_rfl)) ?_
     go_upto_if 26 with (fail)
     have H := HC8.out
     clear HC8
     by_cases c11 : t588 = true
     ·subst c11
      replace H := ite_t_ H
      have H' := aa_ H
      clear H
      go_wp2
      go_roundg k1
      case measure => have := HK1.out; omega
      case rel => exact ⟨(wrap64 (x5_1 + 1)), rf_, H', ⟨by have := HK1.out; omega⟩, ⟨bl_⟩⟩
     ·replace c11 := Bool.eq_false_iff.mpr c11
      subst c11
      replace H := ite_f_ H
      obtain rfl := Option.some.inj H
      go_wp2
      go_ret
      exact ⟨eq_, bl_⟩
    ·rw [if_neg c4] at H
     have c4b0 : decide (x5_1 < (l0.length : Int)) = false := decide_eq_false c4
     clear c4
     obtain rfl := Option.some.inj H
     go_wp2
     go_ret
     exact ⟨eq_, bl_⟩
 ·rw [if_neg c3] at H
  have c3b0 : ((l0.length : Int) == (l1.length : Int)) = false := beq_eq_false_iff_ne.mpr c3
  have c3b1 : ((l0.length : Int) != (l1.length : Int)) = true := bne_iff_ne.mpr c3
  have c3b2 : (l0.length == l1.length) = false := by first | simpa using c3 | (simp at c3 ⊢; omega)
  obtain rfl := Option.some.inj H
  go_enter Tryz.func90, Tryz.ntmps90
  go_wp2
  go_ret
  exact ⟨eq_, bl_⟩
def laws_eqPeer.f (k : Nat) (a0_0 : Int) (a0_1 : Bool) (a0_2 : Int) (l0_3 : List Int) (l0_4 : List Int) (l0_5 : List (S108)) (a1_0 : Int) (a1_1 : Bool) (a1_2 : Int) (l1_3 : List Int) (l1_4 : List Int) (l1_5 : List (S108)) : Option (Bool) := if a0_0 = a1_0 then (if (a0_1 != a1_1) = true then (some false) else (if a0_2 = a1_2 then ((laws_eqIntS.f k l0_3 l1_3).bind fun t591 => (if t591 = true then ((laws_eqIntS.f k l0_4 l1_4).bind fun t592 => (if t592 = true then ((laws_eqShelfS.f k l0_5 l1_5).bind fun t593 => (if t593 = true then (some true) else (some false))) else (some false))) else (some false))) else (some false))) else (some false)
set_option maxHeartbeats 8000000 in
set_option maxRecDepth 100000 in
theorem laws_eqPeer.calls (k : Nat) (a0_0 : Int) (a0_1 : Bool) (a0_2 : Int) (A0_3 : Option Addr) (c0_3 : Nat) (l0_3 : List Int) (A0_4 : Option Addr) (c0_4 : Nat) (l0_4 : List Int) (A0_5 : Option Addr) (c0_5 : Nat) (l0_5 : List (S108)) (a1_0 : Int) (a1_1 : Bool) (a1_2 : Int) (A1_3 : Option Addr) (c1_3 : Nat) (l1_3 : List Int) (A1_4 : Option Addr) (c1_4 : Nat) (l1_4 : List Int) (A1_5 : Option Addr) (c1_5 : Nat) (l1_5 : List (S108)) (r : Bool) (w : World) (hr0_3 : Kd.C (Kd.int .i64) w A0_3 l0_3.length l0_3) (hc0_3 : l0_3.length ≤ c0_3) (hr0_4 : Kd.C (Kd.int .i64) w A0_4 l0_4.length l0_4) (hc0_4 : l0_4.length ≤ c0_4) (hr0_5 : Kd.C k108 w A0_5 l0_5.length l0_5) (hc0_5 : l0_5.length ≤ c0_5) (hr1_3 : Kd.C (Kd.int .i64) w A1_3 l1_3.length l1_3) (hc1_3 : l1_3.length ≤ c1_3) (hr1_4 : Kd.C (Kd.int .i64) w A1_4 l1_4.length l1_4) (hc1_4 : l1_4.length ≤ c1_4) (hr1_5 : Kd.C k108 w A1_5 l1_5.length l1_5) (hc1_5 : l1_5.length ≤ c1_5) (h : laws_eqPeer.f k a0_0 a0_1 a0_2 l0_3 l0_4 l0_5 a1_0 a1_1 a1_2 l1_3 l1_4 l1_5 = some r) :
  Calls Tryz.prog 77 #[.agg #[.int .i64 a0_0, .bool a0_1, .int .i64 a0_2, .slice A0_3 l0_3.length c0_3, .slice A0_4 l0_4.length c0_4, .slice A0_5 l0_5.length c0_5], .agg #[.int .i64 a1_0, .bool a1_1, .int .i64 a1_2, .slice A1_3 l1_3.length c1_3, .slice A1_4 l1_4.length c1_4, .slice A1_5 l1_5.length c1_5]] w fun e w' => e = .returned (.bool r) ∧ Below w.heap.size w w' := by
 have hu68 := Tryz.underlying68
 have HR0_3 := aa_ hr0_3
 have HC0_3 := aa_ hc0_3
 clear hr0_3 hc0_3
 have HR0_4 := aa_ hr0_4
 have HC0_4 := aa_ hc0_4
 clear hr0_4 hc0_4
 have HR0_5 := aa_ hr0_5
 have HC0_5 := aa_ hc0_5
 clear hr0_5 hc0_5
 have HR1_3 := aa_ hr1_3
 have HC1_3 := aa_ hc1_3
 clear hr1_3 hc1_3
 have HR1_4 := aa_ hr1_4
 have HC1_4 := aa_ hc1_4
 clear hr1_4 hc1_4
 have HR1_5 := aa_ hr1_5
 have HC1_5 := aa_ hc1_5
 clear hr1_5 hc1_5
 have HB := aa_ (Below.refl w.heap.size w)
 have H : (if a0_0 = a1_0 then (if (a0_1 != a1_1) = true then (some false) else (if a0_2 = a1_2 then ((laws_eqIntS.f k l0_3 l1_3).bind fun t591 => (if t591 = true then ((laws_eqIntS.f k l0_4 l1_4).bind fun t592 => (if t592 = true then ((laws_eqShelfS.f k l0_5 l1_5).bind fun t593 => (if t593 = true then (some true) else (some false))) else (some false))) else (some false))) else (some false))) else (some false)) = some r := h
 clear h
 have HC3 := aa_ H
 clear H
 go_enter Tryz.func77, Tryz.ntmps77
 go_upto_if 9 with (first | ((with_reducible refine gD_ 2 rfl ?_); refine bx_ (N := 2) (cs := #[.int .i64 a0_0, .bool a0_1, .int .i64 a0_2, .slice A0_3 l0_3.length c0_3, .slice A0_4 l0_4.length c0_4, .slice A0_5 l0_5.length c0_5]) (t := 68) ?_; intro gb589 hg w4 hbox hb; have BK589 := aa_ (hbox); have GW589 := gs_ hg; have GE589 := gs_ hg; replace HB := hbs_ hb; clear hb hbox hg) | ((with_reducible refine gD_ 3 rfl ?_); refine bx_ (N := 3) (cs := #[.int .i64 a1_0, .bool a1_1, .int .i64 a1_2, .slice A1_3 l1_3.length c1_3, .slice A1_4 l1_4.length c1_4, .slice A1_5 l1_5.length c1_5]) (t := 68) ?_; intro gb590 hg w5 hbox hb; have BK590 := aa_ (hbox); have GW590 := gs_ hg; have GE590 := gs_ hg; replace HB := hbs_ hb; have NB589_590 := nl_ hg BK589; have NB590_589 := nr_ hg BK589; replace BK589 := bkb_ BK589 hb; clear hb hbox hg; have hnb6 := NB589_590.out; have hnc6 := NB590_589.out; obtain ⟨hcz7, hfz7⟩ := bcf_ BK589; obtain ⟨hcz8, hfz8⟩ := bcf_ BK590))
 (try simp only [Act.put, sb_, sz_, ss_])
 have H := HC3.out
 clear HC3
 by_cases c9 : a0_0 = a1_0
 ·rw [if_pos c9] at H
  have c9b0 : (a0_0 == a1_0) = true := beq_iff_eq.mpr c9
  have c9b1 : (a0_0 != a1_0) = false := bne_eq_false_iff_eq.mpr c9
  clear c9
  (first | rw [c9b0] | (simp only [i64_w, i32_w]; rw [c9b0]) | skip)
  by_cases c10 : (a0_1 != a1_1) = true
  ·rw [if_pos c10] at H
   have c10b0 : (a0_1 != a1_1) = true := c10
   (try (have c10b1 : decide (a0_1 = a1_1) = false := by simpa using c10))
   (try (have c10b2 : (a0_1 == a1_1) = false := by simpa using c10))
   (try (have c10b5 : (!(a0_1 == a1_1)) = true := by rw [c10b2]; rfl))
   (try (have c10b3 : ¬ (a0_1 = a1_1) := by simpa using c10))
   clear c10
   obtain rfl := Option.some.inj H
   have hnb11 := NB589_590.out
   have hnc11 := NB590_589.out
   have hcz12 := blk_cell BK589.out
   have hfz12 := blk_frozen BK589.out
   have hcz13 := blk_cell BK590.out
   have hfz13 := blk_frozen BK590.out
   go_wp2
   go_ret
   exact ⟨eq_, bl_⟩
  ·rw [if_neg c10] at H
   have c10b0 : (a0_1 != a1_1) = false := by simpa using c10
   (try (have c10b1 : decide (a0_1 = a1_1) = true := by simpa using c10))
   (try (have c10b2 : (a0_1 == a1_1) = true := by simpa using c10))
   (try (have c10b5 : (!(a0_1 == a1_1)) = false := by rw [c10b2]; rfl))
   clear c10
   by_cases c14 : a0_2 = a1_2
   ·rw [if_pos c14] at H
    have c14b0 : (a0_2 == a1_2) = true := beq_iff_eq.mpr c14
    have c14b1 : (a0_2 != a1_2) = false := bne_eq_false_iff_eq.mpr c14
    clear c14
    obtain ⟨t591, A15, H⟩ := bindE_ H
    have HC16 := aa_ H
    clear H
    have hnb17 := NB589_590.out
    have hnc17 := NB590_589.out
    have hcz18 := blk_cell BK589.out
    have hfz18 := blk_frozen BK589.out
    have hcz19 := blk_cell BK590.out
    have hfz19 := blk_frozen BK590.out
    go_upto_if 25 with (first | ((with_reducible refine gC_ 24 rfl ?_); refine goesC_ (some 24) Tryz.func24 #[.slice A0_3 l0_3.length c0_3, .slice A1_3 l1_3.length c1_3] ?_; (with_reducible refine (laws_eqIntS.calls k _ _ l0_3 _ _ l1_3 t591 _ ?side1 ?side2 ?side3 ?side4 A15.out).mono ?_); (case side1 => repeat (first | exact (Kd.C_below HR0_3.out HB.out) | (with_reducible refine Kd.C_alloc ?_ _) | (with_reducible refine Kd.C_drewN ?_ _) | (with_reducible refine Kd.C_drew ?_))); (case side2 => exact HC0_3.out); (case side3 => repeat (first | exact (Kd.C_below HR1_3.out HB.out) | (with_reducible refine Kd.C_alloc ?_ _) | (with_reducible refine Kd.C_drewN ?_ _) | (with_reducible refine Kd.C_drew ?_))); (case side4 => exact HC1_3.out); rintro e w' ⟨rfl, ⟨nd, rfl⟩⟩; refine ⟨_, rfl, ?_⟩))
    (try simp only [Act.put, sb_, sz_, ss_])
    have H := HC16.out
    clear HC16
    by_cases c20 : t591 = true
    ·subst c20
     replace H := ite_t_ H
     obtain ⟨t592, A21, H⟩ := bindE_ H
     have HC22 := aa_ H
     clear H
     have hnb23 := NB589_590.out
     have hnc23 := NB590_589.out
     have hcz24 := blk_cell BK589.out
     have hfz24 := blk_frozen BK589.out
     have hcz25 := blk_cell BK590.out
     have hfz25 := blk_frozen BK590.out
     go_upto_if 31 with (first | ((with_reducible refine gC_ 24 rfl ?_); refine goesC_ (some 30) Tryz.func24 #[.slice A0_4 l0_4.length c0_4, .slice A1_4 l1_4.length c1_4] ?_; (with_reducible refine (laws_eqIntS.calls k _ _ l0_4 _ _ l1_4 t592 _ ?side1 ?side2 ?side3 ?side4 A21.out).mono ?_); (case side1 => repeat (first | exact (Kd.C_below HR0_4.out HB.out) | (with_reducible refine Kd.C_alloc ?_ _) | (with_reducible refine Kd.C_drewN ?_ _) | (with_reducible refine Kd.C_drew ?_))); (case side2 => exact HC0_4.out); (case side3 => repeat (first | exact (Kd.C_below HR1_4.out HB.out) | (with_reducible refine Kd.C_alloc ?_ _) | (with_reducible refine Kd.C_drewN ?_ _) | (with_reducible refine Kd.C_drew ?_))); (case side4 => exact HC1_4.out); rintro e w' ⟨rfl, ⟨nd, rfl⟩⟩; refine ⟨_, rfl, ?_⟩))
     (try simp only [Act.put, sb_, sz_, ss_])
     have H := HC22.out
     clear HC22
     by_cases c26 : t592 = true
     ·subst c26
      replace H := ite_t_ H
      obtain ⟨t593, A27, H⟩ := bindE_ H
      have HC28 := aa_ H
      clear H
      have hnb29 := NB589_590.out
      have hnc29 := NB590_589.out
      have hcz30 := blk_cell BK589.out
      have hfz30 := blk_frozen BK589.out
      have hcz31 := blk_cell BK590.out
      have hfz31 := blk_frozen BK590.out
      go_upto_if 37 with (first | ((with_reducible refine gC_ 90 rfl ?_); refine goesC_ (some 36) Tryz.func90 #[.slice A0_5 l0_5.length c0_5, .slice A1_5 l1_5.length c1_5] ?_; (with_reducible refine (laws_eqShelfS.calls k _ _ l0_5 _ _ l1_5 t593 _ ?side1 ?side2 ?side3 ?side4 A27.out).mono ?_); (case side1 => repeat (first | exact (Kd.C_below HR0_5.out HB.out) | (with_reducible refine Kd.C_alloc ?_ _) | (with_reducible refine Kd.C_drewN ?_ _) | (with_reducible refine Kd.C_drew ?_))); (case side2 => exact HC0_5.out); (case side3 => repeat (first | exact (Kd.C_below HR1_5.out HB.out) | (with_reducible refine Kd.C_alloc ?_ _) | (with_reducible refine Kd.C_drewN ?_ _) | (with_reducible refine Kd.C_drew ?_))); (case side4 => exact HC1_5.out); rintro e w32 ⟨rfl, hb⟩; refine ⟨_, rfl, ?_⟩; replace BK589 := bkb_ BK589 hb; replace BK590 := bkb_ BK590 hb; replace HB := hbs_ hb; clear hb))
      (try simp only [Act.put, sb_, sz_, ss_])
      have H := HC28.out
      clear HC28
      by_cases c33 : t593 = true
      ·subst c33
       replace H := ite_t_ H
       obtain rfl := Option.some.inj H
       go_wp2
       go_ret
       exact ⟨eq_, bl_⟩
      ·replace c33 := Bool.eq_false_iff.mpr c33
       subst c33
       replace H := ite_f_ H
       obtain rfl := Option.some.inj H
       go_wp2
       go_ret
       exact ⟨eq_, bl_⟩
     ·replace c26 := Bool.eq_false_iff.mpr c26
      subst c26
      replace H := ite_f_ H
      obtain rfl := Option.some.inj H
      go_wp2
      go_ret
      exact ⟨eq_, bl_⟩
    ·replace c20 := Bool.eq_false_iff.mpr c20
     subst c20
     replace H := ite_f_ H
     obtain rfl := Option.some.inj H
     go_wp2
     go_ret
     exact ⟨eq_, bl_⟩
   ·rw [if_neg c14] at H
    have c14b0 : (a0_2 == a1_2) = false := beq_eq_false_iff_ne.mpr c14
    have c14b1 : (a0_2 != a1_2) = true := bne_iff_ne.mpr c14
    obtain rfl := Option.some.inj H
    have hnb34 := NB589_590.out
    have hnc34 := NB590_589.out
    have hcz35 := blk_cell BK589.out
    have hfz35 := blk_frozen BK589.out
    have hcz36 := blk_cell BK590.out
    have hfz36 := blk_frozen BK590.out
    go_wp2
    go_ret
    exact ⟨eq_, bl_⟩
 ·rw [if_neg c9] at H
  have c9b0 : (a0_0 == a1_0) = false := beq_eq_false_iff_ne.mpr c9
  have c9b1 : (a0_0 != a1_0) = true := bne_iff_ne.mpr c9
  (first | rw [c9b0] | (simp only [i64_w, i32_w]; rw [c9b0]) | skip)
  obtain rfl := Option.some.inj H
  go_wp2
  go_ret
  exact ⟨eq_, bl_⟩
def laws_eqPeerS.l0 : Nat → List (S68) → List (S68) → Int → Option (Bool)
 | 0, _, _, _ => none
 | k + 1, x0, x1, x5 => if x5 < (x0.length : Int) then (if 0 ≤ x5 then (if x5 < (x1.length : Int) then ((laws_eqPeer.f k ((rd_T68 x0 x5).f0) ((rd_T68 x0 x5).f1) ((rd_T68 x0 x5).f2) ((rd_T68 x0 x5).f3) ((rd_T68 x0 x5).f4) ((rd_T68 x0 x5).f5) ((rd_T68 x1 x5).f0) ((rd_T68 x1 x5).f1) ((rd_T68 x1 x5).f2) ((rd_T68 x1 x5).f3) ((rd_T68 x1 x5).f4) ((rd_T68 x1 x5).f5)).bind fun t596 => (if t596 = true then (laws_eqPeerS.l0 k x0 x1 (wrap64 (x5 + 1))) else (some false))) else (none)) else (none)) else (some true)
def laws_eqPeerS.f (k : Nat) (l0 : List (S68)) (l1 : List (S68)) : Option (Bool) := if (l0.length : Int) = (l1.length : Int) then (laws_eqPeerS.l0 k l0 l1 0) else (some false)
def laws_eqPeerS.T6 : Bool × List (List Nat × List Nat) := (true, [([], []), ([], []), ([0, 1], [0, 1]), ([2], [2]), ([], []), ([], []), ([4, 5], [4, 5]), ([6], [6]), ([3, 7], [3, 7]), ([8], [8])])
def laws_eqPeerS.B6 : List Nat := [0, 0, 3, 7, 0, 0, 48, 112, 255, 511]
theorem laws_eqPeerS.tab6 : rtab .any (opsOf Tryz.f52 6) = laws_eqPeerS.T6 := by kernel_rfl
theorem laws_eqPeerS.bits6 : waitsOk laws_eqPeerS.T6.2 laws_eqPeerS.B6 = true := by kernel_rfl
set_option maxHeartbeats 8000000 in
set_option maxRecDepth 100000 in
theorem laws_eqPeerS.calls (k : Nat) (A0 : Option Addr) (c0 : Nat) (l0 : List (S68)) (A1 : Option Addr) (c1 : Nat) (l1 : List (S68)) (r : Bool) (w : World) (hr0 : Kd.C k68 w A0 l0.length l0) (hc0 : l0.length ≤ c0) (hr1 : Kd.C k68 w A1 l1.length l1) (hc1 : l1.length ≤ c1) (h : laws_eqPeerS.f k l0 l1 = some r) :
  Calls Tryz.prog 52 #[.slice A0 l0.length c0, .slice A1 l1.length c1] w fun e w' => e = .returned (.bool r) ∧ Below w.heap.size w w' := by
 have hu68 := Tryz.underlying68
 have HR0 := aa_ hr0
 have HC0 := aa_ hc0
 clear hr0 hc0
 have HR1 := aa_ hr1
 have HC1 := aa_ hc1
 clear hr1 hc1
 have HB := aa_ (Below.refl w.heap.size w)
 have H : (if (l0.length : Int) = (l1.length : Int) then (laws_eqPeerS.l0 k l0 l1 0) else (some false)) = some r := h
 clear h
 by_cases c3 : (l0.length : Int) = (l1.length : Int)
 ·rw [if_pos c3] at H
  have c3b0 : ((l0.length : Int) == (l1.length : Int)) = true := beq_iff_eq.mpr c3
  have c3b1 : ((l0.length : Int) != (l1.length : Int)) = false := bne_eq_false_iff_eq.mpr c3
  have c3b2 : (l0.length == l1.length) = true := by first | simpa using c3 | (simp at c3 ⊢; omega)
  clear c3
  have H' := aa_ H
  clear H
  go_enter Tryz.func52, Tryz.ntmps52
  go_wp2
  go_loopg [5] k (fun kq v5 w' => ∃ (x5_1 : Int), v5 = .int .i64 x5_1 ∧ Aside0 (laws_eqPeerS.l0 kq l0 l1 x5_1 = some r) ∧ Aside0 (kq ≤ k) ∧ Aside0 (Below w.heap.size w w'))
  case atStart => exact ⟨(0), rf_, H', ⟨Nat.le_refl _⟩, ⟨bl_⟩⟩
  case round =>
   clear H'
   try clear p2
   try clear c3b0
   try clear c3b1
   try clear c3b2
   obtain ⟨x5_1, rfl, HA, HK1, HB⟩ := hrel
   cases gk with
   | zero => exact absurd HA.out (by simp [laws_eqPeerS.l0])
   | succ k1 =>
    have H := HA.out
    clear HA
    simp only [laws_eqPeerS.l0] at H
    by_cases c4 : x5_1 < (l0.length : Int)
    ·rw [if_pos c4] at H
     have c4b0 : decide (x5_1 < (l0.length : Int)) = true := decide_eq_true c4
     clear c4
     obtain ⟨c5b0, H⟩ := ifd_ H
     obtain ⟨c6b0, H⟩ := ifd_ H
     obtain ⟨t596, A7, H⟩ := bindE_ H
     have HC8 := aa_ H
     clear H
     try go_wp2
     replace HB := aa_ (below_drew1 HB.out)
     have p594 : 0 ≤ (x5_1 : Int) := od_
     have q594 : x5_1 < (l0.length : Int) := od_
     obtain ⟨ad594, A594_3, c594_3, A594_4, c594_4, A594_5, c594_5, e594, hx594_0, hx594_1, hx594_2, hx594_3, hx594_4, hx594_5, hl594_3, hi594_3, hl594_4, hi594_4, hl594_5, hi594_5⟩ := at_T68 HR0.out x5_1 p594 q594
     have hw594_5 := hx594_5
     have hw594_4 := hx594_4
     have hw594_3 := hx594_3
     have hw594_2 := hx594_2
     have hw594_1 := hx594_1
     have hw594_0 := hx594_0
     cases e594
     replace hx594_0 := cb_ HB hx594_0
     replace hx594_1 := cb_ HB hx594_1
     replace hx594_2 := cb_ HB hx594_2
     replace hx594_3 := cb_ HB hx594_3
     replace hx594_4 := cb_ HB hx594_4
     replace hx594_5 := cb_ HB hx594_5
     have HR594_3 := aa_ hi594_3
     have HC594_3 := aa_ hl594_3
     clear hi594_3 hl594_3
     have HR594_4 := aa_ hi594_4
     have HC594_4 := aa_ hl594_4
     clear hi594_4 hl594_4
     have HR594_5 := aa_ hi594_5
     have HC594_5 := aa_ hl594_5
     clear hi594_5 hl594_5
     replace p594 := eq_true p594
     replace q594 := eq_true q594
     have p595 : 0 ≤ (x5_1 : Int) := od_
     have q595 : x5_1 < (l1.length : Int) := od_
     obtain ⟨ad595, A595_3, c595_3, A595_4, c595_4, A595_5, c595_5, e595, hx595_0, hx595_1, hx595_2, hx595_3, hx595_4, hx595_5, hl595_3, hi595_3, hl595_4, hi595_4, hl595_5, hi595_5⟩ := at_T68 HR1.out x5_1 p595 q595
     have hw595_5 := hx595_5
     have hw595_4 := hx595_4
     have hw595_3 := hx595_3
     have hw595_2 := hx595_2
     have hw595_1 := hx595_1
     have hw595_0 := hx595_0
     cases e595
     replace hx595_0 := cb_ HB hx595_0
     replace hx595_1 := cb_ HB hx595_1
     replace hx595_2 := cb_ HB hx595_2
     replace hx595_3 := cb_ HB hx595_3
     replace hx595_4 := cb_ HB hx595_4
     replace hx595_5 := cb_ HB hx595_5
     have HR595_3 := aa_ hi595_3
     have HC595_3 := aa_ hl595_3
     clear hi595_3 hl595_3
     have HR595_4 := aa_ hi595_4
     have HC595_4 := aa_ hl595_4
     clear hi595_4 hl595_4
     have HR595_5 := aa_ hi595_5
     have HC595_5 := aa_ hl595_5
     clear hi595_5 hl595_5
     replace p595 := eq_true p595
     replace q595 := eq_true q595
     refine start_ (n := 10) (S := fun w' => w'.cell? (ad594.add ((x5_1).toNat * 6)) = some (.int .i64 ((rd_T68 l0 x5_1).f0)) ∧ w'.cell? ⟨(ad594.add ((x5_1).toNat * 6)).block, (ad594.add ((x5_1).toNat * 6)).off + 1, none⟩ = some (.bool ((rd_T68 l0 x5_1).f1)) ∧ w'.cell? ⟨(ad594.add ((x5_1).toNat * 6)).block, (ad594.add ((x5_1).toNat * 6)).off + 2, none⟩ = some (.int .i64 ((rd_T68 l0 x5_1).f2)) ∧ w'.cell? ⟨(ad594.add ((x5_1).toNat * 6)).block, (ad594.add ((x5_1).toNat * 6)).off + 3, none⟩ = some (.slice A594_3 ((rd_T68 l0 x5_1).f3).length c594_3) ∧ w'.cell? ⟨(ad594.add ((x5_1).toNat * 6)).block, (ad594.add ((x5_1).toNat * 6)).off + 4, none⟩ = some (.slice A594_4 ((rd_T68 l0 x5_1).f4).length c594_4) ∧ w'.cell? ⟨(ad594.add ((x5_1).toNat * 6)).block, (ad594.add ((x5_1).toNat * 6)).off + 5, none⟩ = some (.slice A594_5 ((rd_T68 l0 x5_1).f5).length c594_5) ∧ w'.cell? (ad595.add ((x5_1).toNat * 6)) = some (.int .i64 ((rd_T68 l1 x5_1).f0)) ∧ w'.cell? ⟨(ad595.add ((x5_1).toNat * 6)).block, (ad595.add ((x5_1).toNat * 6)).off + 1, none⟩ = some (.bool ((rd_T68 l1 x5_1).f1)) ∧ w'.cell? ⟨(ad595.add ((x5_1).toNat * 6)).block, (ad595.add ((x5_1).toNat * 6)).off + 2, none⟩ = some (.int .i64 ((rd_T68 l1 x5_1).f2)) ∧ w'.cell? ⟨(ad595.add ((x5_1).toNat * 6)).block, (ad595.add ((x5_1).toNat * 6)).off + 3, none⟩ = some (.slice A595_3 ((rd_T68 l1 x5_1).f3).length c595_3) ∧ w'.cell? ⟨(ad595.add ((x5_1).toNat * 6)).block, (ad595.add ((x5_1).toNat * 6)).off + 4, none⟩ = some (.slice A595_4 ((rd_T68 l1 x5_1).f4).length c595_4) ∧ w'.cell? ⟨(ad595.add ((x5_1).toNat * 6)).block, (ad595.add ((x5_1).toNat * 6)).off + 5, none⟩ = some (.slice A595_5 ((rd_T68 l1 x5_1).f5).length c595_5)) (ds := []) (ba_ 10 0) (by kernel_rfl) rfl rfl ⟨(cb_ HB hw594_0 :), (cb_ HB hw594_1 :), (cb_ HB hw594_2 :), (cb_ HB hw594_3 :), (cb_ HB hw594_4 :), (cb_ HB hw594_5 :), (cb_ HB hw595_0 :), (cb_ HB hw595_1 :), (cb_ HB hw595_2 :), (cb_ HB hw595_3 :), (cb_ HB hw595_4 :), (cb_ HB hw595_5 :)⟩ (fun hHeld => ?_); refine with_tabW laws_eqPeerS.tab6 laws_eqPeerS.bits6 (fun HT_ HW_ => ?_)
     generalize wr.drew = w9 at HB HR594_3 HR594_4 HR594_5 HR595_3 HR595_4 HR595_5 hx594_0 hx594_1 hx594_2 hx594_3 hx594_4 hx594_5 hx595_0 hx595_1 hx595_2 hx595_3 hx595_4 hx595_5 hHeld ⊢
     refine pz_ 0 17 (ba_ 10 1) (ao_ HT_) ?_
     refine pz_ 1 18 (ba_ 10 3) (ao_ HT_) ?_
     refine pz_ 2 19 (ba_ 10 7) (ao_ HT_) ?_
     refine pz_ 4 21 (ba_ 10 23) (ao_ HT_) ?_
     refine pz_ 5 22 (ba_ 10 55) (ao_ HT_) ?_
     refine pz_ 6 23 (ba_ 10 119) (ao_ HT_) ?_
     refine tz_ 3 20 (ba_ 10 127) (take_ofW HT_.out HW_.out (by kernel_rfl)) hHeld ?_
     refine tz_ 7 24 (ba_ 10 255) (take_ofW HT_.out HW_.out (by kernel_rfl)) hHeld ?_
     refine one_ (i := 8) (N := some 25) (ba_ 10 511) rfl rfl (one_of HT_.out (by kernel_rfl)) (by decide) (fun K hK => ?_)
     refine goes_ Tryz.func77 (by kernel_rfl) rfl #[.agg #[.int .i64 ((rd_T68 l0 x5_1).f0), .bool ((rd_T68 l0 x5_1).f1), .int .i64 ((rd_T68 l0 x5_1).f2), .slice A594_3 ((rd_T68 l0 x5_1).f3).length c594_3, .slice A594_4 ((rd_T68 l0 x5_1).f4).length c594_4, .slice A594_5 ((rd_T68 l0 x5_1).f5).length c594_5], .agg #[.int .i64 ((rd_T68 l1 x5_1).f0), .bool ((rd_T68 l1 x5_1).f1), .int .i64 ((rd_T68 l1 x5_1).f2), .slice A595_3 ((rd_T68 l1 x5_1).f3).length c595_3, .slice A595_4 ((rd_T68 l1 x5_1).f4).length c595_4, .slice A595_5 ((rd_T68 l1 x5_1).f5).length c595_5]] (by rfl) rfl rfl (by (try simp only [List.map_toArray, List.map_cons, List.map_nil]); first | done | rfl | (simp only [List.length_drop, List.length_take]; rfl)) ?_
     with_reducible refine (laws_eqPeer.calls k1 ((rd_T68 l0 x5_1).f0) ((rd_T68 l0 x5_1).f1) ((rd_T68 l0 x5_1).f2) _ _ ((rd_T68 l0 x5_1).f3) _ _ ((rd_T68 l0 x5_1).f4) _ _ ((rd_T68 l0 x5_1).f5) ((rd_T68 l1 x5_1).f0) ((rd_T68 l1 x5_1).f1) ((rd_T68 l1 x5_1).f2) _ _ ((rd_T68 l1 x5_1).f3) _ _ ((rd_T68 l1 x5_1).f4) _ _ ((rd_T68 l1 x5_1).f5) t596 _ ?side1 ?side2 ?side3 ?side4 ?side5 ?side6 ?side7 ?side8 ?side9 ?side10 ?side11 ?side12 A7.out).mono ?_
     (case side1 => repeat (first | exact (Kd.C_below HR594_3.out HB.out) | (with_reducible refine Kd.C_alloc ?_ _) | (with_reducible refine Kd.C_drewN ?_ _) | (with_reducible refine Kd.C_drew ?_)))
     (case side2 => exact HC594_3.out)
     (case side3 => repeat (first | exact (Kd.C_below HR594_4.out HB.out) | (with_reducible refine Kd.C_alloc ?_ _) | (with_reducible refine Kd.C_drewN ?_ _) | (with_reducible refine Kd.C_drew ?_)))
     (case side4 => exact HC594_4.out)
     (case side5 => repeat (first | exact (Kd.C_below HR594_5.out HB.out) | (with_reducible refine Kd.C_alloc ?_ _) | (with_reducible refine Kd.C_drewN ?_ _) | (with_reducible refine Kd.C_drew ?_)))
     (case side6 => exact HC594_5.out)
     (case side7 => repeat (first | exact (Kd.C_below HR595_3.out HB.out) | (with_reducible refine Kd.C_alloc ?_ _) | (with_reducible refine Kd.C_drewN ?_ _) | (with_reducible refine Kd.C_drew ?_)))
     (case side8 => exact HC595_3.out)
     (case side9 => repeat (first | exact (Kd.C_below HR595_4.out HB.out) | (with_reducible refine Kd.C_alloc ?_ _) | (with_reducible refine Kd.C_drewN ?_ _) | (with_reducible refine Kd.C_drew ?_)))
     (case side10 => exact HC595_4.out)
     (case side11 => repeat (first | exact (Kd.C_below HR595_5.out HB.out) | (with_reducible refine Kd.C_alloc ?_ _) | (with_reducible refine Kd.C_drewN ?_ _) | (with_reducible refine Kd.C_drew ?_)))
     (case side12 => exact HC595_5.out)
     rintro e w10 ⟨rfl, hb⟩
     refine ⟨_, rfl, ?_⟩
     replace HB := hbs_ hb
     (try clear hb)
     (try clear hb2)
     (try clear hk)
     (try clear hi)
     refine hK.out _ _ ⟨(cb_ HB hw594_0 :), (cb_ HB hw594_1 :), (cb_ HB hw594_2 :), (cb_ HB hw594_3 :), (cb_ HB hw594_4 :), (cb_ HB hw594_5 :), (cb_ HB hw595_0 :), (cb_ HB hw595_1 :), (cb_ HB hw595_2 :), (cb_ HB hw595_3 :), (cb_ HB hw595_4 :), (cb_ HB hw595_5 :)⟩ (fun hHeld => ?_)
     clear hK K
     refine norm_ (a' := ?_) ?_ ?_
     rotate_left
     ·show Act.put _ (some 25) _ = _
      simp only [Act.put, sb_, sz_, ss_, i64_w, i32_w]
      rfl
     refine pz_ 9 26 (ba_ 10 1023) (ao_ HT_) ?_
     refine done_ (done_of HT_.out (by kernel_rfl)) ?_
     go_upto_if 26 with (fail)
     have H := HC8.out
     clear HC8
     by_cases c11 : t596 = true
     ·subst c11
      replace H := ite_t_ H
      have H' := aa_ H
      clear H
      go_wp2
      go_roundg k1
      case measure => have := HK1.out; omega
      case rel => exact ⟨(wrap64 (x5_1 + 1)), rf_, H', ⟨by have := HK1.out; omega⟩, ⟨bl_⟩⟩
     ·replace c11 := Bool.eq_false_iff.mpr c11
      subst c11
      replace H := ite_f_ H
      obtain rfl := Option.some.inj H
      go_wp2
      go_ret
      exact ⟨eq_, bl_⟩
    ·rw [if_neg c4] at H
     have c4b0 : decide (x5_1 < (l0.length : Int)) = false := decide_eq_false c4
     clear c4
     obtain rfl := Option.some.inj H
     go_wp2
     go_ret
     exact ⟨eq_, bl_⟩
 ·rw [if_neg c3] at H
  have c3b0 : ((l0.length : Int) == (l1.length : Int)) = false := beq_eq_false_iff_ne.mpr c3
  have c3b1 : ((l0.length : Int) != (l1.length : Int)) = true := bne_iff_ne.mpr c3
  have c3b2 : (l0.length == l1.length) = false := by first | simpa using c3 | (simp at c3 ⊢; omega)
  obtain rfl := Option.some.inj H
  go_enter Tryz.func52, Tryz.ntmps52
  go_wp2
  go_ret
  exact ⟨eq_, bl_⟩
def laws_eqRing.f (k : Nat) (l0_0 : List (S68)) (l1_0 : List (S68)) : Option (Bool) := (laws_eqPeerS.f k l0_0 l1_0).bind fun t599 => (if t599 = true then (some true) else (some false))
set_option maxHeartbeats 8000000 in
set_option maxRecDepth 100000 in
theorem laws_eqRing.calls (k : Nat) (A0_0 : Option Addr) (c0_0 : Nat) (l0_0 : List (S68)) (A1_0 : Option Addr) (c1_0 : Nat) (l1_0 : List (S68)) (r : Bool) (w : World) (hr0_0 : Kd.C k68 w A0_0 l0_0.length l0_0) (hc0_0 : l0_0.length ≤ c0_0) (hr1_0 : Kd.C k68 w A1_0 l1_0.length l1_0) (hc1_0 : l1_0.length ≤ c1_0) (h : laws_eqRing.f k l0_0 l1_0 = some r) :
  Calls Tryz.prog 23 #[.agg #[.slice A0_0 l0_0.length c0_0], .agg #[.slice A1_0 l1_0.length c1_0]] w fun e w' => e = .returned (.bool r) ∧ Below w.heap.size w w' := by
 have hu35 := Tryz.underlying35
 have HR0_0 := aa_ hr0_0
 have HC0_0 := aa_ hc0_0
 clear hr0_0 hc0_0
 have HR1_0 := aa_ hr1_0
 have HC1_0 := aa_ hc1_0
 clear hr1_0 hc1_0
 have HB := aa_ (Below.refl w.heap.size w)
 have H : ((laws_eqPeerS.f k l0_0 l1_0).bind fun t599 => (if t599 = true then (some true) else (some false))) = some r := h
 clear h
 obtain ⟨t599, A3, H⟩ := bindE_ H
 have HC4 := aa_ H
 clear H
 go_enter Tryz.func23, Tryz.ntmps23
 go_upto_if 10 with (first | ((with_reducible refine gD_ 2 rfl ?_); refine bx_ (N := 2) (cs := #[.slice A0_0 l0_0.length c0_0]) (t := 35) ?_; intro gb597 hg w5 hbox hb; have BK597 := aa_ (hbox); have GW597 := gs_ hg; have GE597 := gs_ hg; replace HB := hbs_ hb; clear hb hbox hg) | ((with_reducible refine gD_ 3 rfl ?_); refine bx_ (N := 3) (cs := #[.slice A1_0 l1_0.length c1_0]) (t := 35) ?_; intro gb598 hg w6 hbox hb; have BK598 := aa_ (hbox); have GW598 := gs_ hg; have GE598 := gs_ hg; replace HB := hbs_ hb; have NB597_598 := nl_ hg BK597; have NB598_597 := nr_ hg BK597; replace BK597 := bkb_ BK597 hb; clear hb hbox hg; have hnb7 := NB597_598.out; have hnc7 := NB598_597.out; obtain ⟨hcz8, hfz8⟩ := bcf_ BK597; obtain ⟨hcz9, hfz9⟩ := bcf_ BK598) | ((with_reducible refine gC_ 52 rfl ?_); refine goesC_ (some 9) Tryz.func52 #[.slice A0_0 l0_0.length c0_0, .slice A1_0 l1_0.length c1_0] ?_; (with_reducible refine (laws_eqPeerS.calls k _ _ l0_0 _ _ l1_0 t599 _ ?side1 ?side2 ?side3 ?side4 A3.out).mono ?_); (case side1 => repeat (first | exact (Kd.C_below HR0_0.out HB.out) | (with_reducible refine Kd.C_alloc ?_ _) | (with_reducible refine Kd.C_drewN ?_ _) | (with_reducible refine Kd.C_drew ?_))); (case side2 => exact HC0_0.out); (case side3 => repeat (first | exact (Kd.C_below HR1_0.out HB.out) | (with_reducible refine Kd.C_alloc ?_ _) | (with_reducible refine Kd.C_drewN ?_ _) | (with_reducible refine Kd.C_drew ?_))); (case side4 => exact HC1_0.out); rintro e w10 ⟨rfl, hb⟩; refine ⟨_, rfl, ?_⟩; replace BK597 := bkb_ BK597 hb; replace BK598 := bkb_ BK598 hb; replace HB := hbs_ hb; clear hb))
 (try simp only [Act.put, sb_, sz_, ss_])
 have H := HC4.out
 clear HC4
 by_cases c11 : t599 = true
 ·subst c11
  replace H := ite_t_ H
  obtain rfl := Option.some.inj H
  go_wp2
  go_ret
  exact ⟨eq_, bl_⟩
 ·replace c11 := Bool.eq_false_iff.mpr c11
  subst c11
  replace H := ite_f_ H
  obtain rfl := Option.some.inj H
  go_wp2
  go_ret
  exact ⟨eq_, bl_⟩
def laws_eqRole.f (a0_0 : Int) (a0_1 : Int) (a1_0 : Int) (a1_1 : Int) : Option (Bool) := if a0_0 = a1_0 then (if a0_1 = a1_1 then (some true) else (some false)) else (some false)
set_option maxHeartbeats 8000000 in
set_option maxRecDepth 100000 in
theorem laws_eqRole.calls (a0_0 : Int) (a0_1 : Int) (a1_0 : Int) (a1_1 : Int) (r : Bool) (w : World) (h : laws_eqRole.f a0_0 a0_1 a1_0 a1_1 = some r) :
  Calls Tryz.prog 78 #[.agg #[.int .i64 a0_0, .int .i64 a0_1], .agg #[.int .i64 a1_0, .int .i64 a1_1]] w fun e w' => e = .returned (.bool r) ∧ Below w.heap.size w w' := by
 have hu77 := Tryz.underlying77
 have HB := aa_ (Below.refl w.heap.size w)
 have H : (if a0_0 = a1_0 then (if a0_1 = a1_1 then (some true) else (some false)) else (some false)) = some r := h
 clear h
 have HC3 := aa_ H
 clear H
 go_enter Tryz.func78, Tryz.ntmps78
 go_upto_if 9 with (first | ((with_reducible refine gD_ 2 rfl ?_); refine bx_ (N := 2) (cs := #[.int .i64 a0_0, .int .i64 a0_1]) (t := 77) ?_; intro gb600 hg w4 hbox hb; have BK600 := aa_ (hbox); have GW600 := gs_ hg; have GE600 := gs_ hg; replace HB := hbs_ hb; clear hb hbox hg) | ((with_reducible refine gD_ 3 rfl ?_); refine bx_ (N := 3) (cs := #[.int .i64 a1_0, .int .i64 a1_1]) (t := 77) ?_; intro gb601 hg w5 hbox hb; have BK601 := aa_ (hbox); have GW601 := gs_ hg; have GE601 := gs_ hg; replace HB := hbs_ hb; have NB600_601 := nl_ hg BK600; have NB601_600 := nr_ hg BK600; replace BK600 := bkb_ BK600 hb; clear hb hbox hg; have hnb6 := NB600_601.out; have hnc6 := NB601_600.out; obtain ⟨hcz7, hfz7⟩ := bcf_ BK600; obtain ⟨hcz8, hfz8⟩ := bcf_ BK601))
 (try simp only [Act.put, sb_, sz_, ss_])
 have H := HC3.out
 clear HC3
 by_cases c9 : a0_0 = a1_0
 ·rw [if_pos c9] at H
  have c9b0 : (a0_0 == a1_0) = true := beq_iff_eq.mpr c9
  have c9b1 : (a0_0 != a1_0) = false := bne_eq_false_iff_eq.mpr c9
  clear c9
  (first | rw [c9b0] | (simp only [i64_w, i32_w]; rw [c9b0]) | skip)
  by_cases c10 : a0_1 = a1_1
  ·rw [if_pos c10] at H
   have c10b0 : (a0_1 == a1_1) = true := beq_iff_eq.mpr c10
   have c10b1 : (a0_1 != a1_1) = false := bne_eq_false_iff_eq.mpr c10
   clear c10
   obtain rfl := Option.some.inj H
   have hnb11 := NB600_601.out
   have hnc11 := NB601_600.out
   have hcz12 := blk_cell BK600.out
   have hfz12 := blk_frozen BK600.out
   have hcz13 := blk_cell BK601.out
   have hfz13 := blk_frozen BK601.out
   go_wp2
   go_ret
   exact ⟨eq_, bl_⟩
  ·rw [if_neg c10] at H
   have c10b0 : (a0_1 == a1_1) = false := beq_eq_false_iff_ne.mpr c10
   have c10b1 : (a0_1 != a1_1) = true := bne_iff_ne.mpr c10
   obtain rfl := Option.some.inj H
   have hnb14 := NB600_601.out
   have hnc14 := NB601_600.out
   have hcz15 := blk_cell BK600.out
   have hfz15 := blk_frozen BK600.out
   have hcz16 := blk_cell BK601.out
   have hfz16 := blk_frozen BK601.out
   go_wp2
   go_ret
   exact ⟨eq_, bl_⟩
 ·rw [if_neg c9] at H
  have c9b0 : (a0_0 == a1_0) = false := beq_eq_false_iff_ne.mpr c9
  have c9b1 : (a0_0 != a1_0) = true := bne_iff_ne.mpr c9
  (first | rw [c9b0] | (simp only [i64_w, i32_w]; rw [c9b0]) | skip)
  obtain rfl := Option.some.inj H
  go_wp2
  go_ret
  exact ⟨eq_, bl_⟩
def laws_eqCred.f (a0_0 : Int) (a0_1 : Int) (a0_2 : Int) (a0_3 : Int) (a0_4 : Int) (a0_5 : Int) (a0_6 : Int) (a0_7 : Int) (a0_8 : Int) (a0_9 : Int) (a1_0 : Int) (a1_1 : Int) (a1_2 : Int) (a1_3 : Int) (a1_4 : Int) (a1_5 : Int) (a1_6 : Int) (a1_7 : Int) (a1_8 : Int) (a1_9 : Int) : Option (Bool) := if a0_0 = a1_0 then ((laws_eqRole.f a0_1 a0_2 a1_1 a1_2).bind fun t604 => (if t604 = true then (if a0_3 = a1_3 then ((laws_eqRole.f a0_4 a0_5 a1_4 a1_5).bind fun t605 => (if t605 = true then ((laws_eqRole.f a0_6 a0_7 a1_6 a1_7).bind fun t606 => (if t606 = true then (if a0_8 = a1_8 then (if a0_9 = a1_9 then (some true) else (some false)) else (some false)) else (some false))) else (some false))) else (some false)) else (some false))) else (some false)
set_option maxHeartbeats 8000000 in
set_option maxRecDepth 100000 in
theorem laws_eqCred.calls (a0_0 : Int) (a0_1 : Int) (a0_2 : Int) (a0_3 : Int) (a0_4 : Int) (a0_5 : Int) (a0_6 : Int) (a0_7 : Int) (a0_8 : Int) (a0_9 : Int) (a1_0 : Int) (a1_1 : Int) (a1_2 : Int) (a1_3 : Int) (a1_4 : Int) (a1_5 : Int) (a1_6 : Int) (a1_7 : Int) (a1_8 : Int) (a1_9 : Int) (r : Bool) (w : World) (h : laws_eqCred.f a0_0 a0_1 a0_2 a0_3 a0_4 a0_5 a0_6 a0_7 a0_8 a0_9 a1_0 a1_1 a1_2 a1_3 a1_4 a1_5 a1_6 a1_7 a1_8 a1_9 = some r) :
  Calls Tryz.prog 53 #[.agg #[.int .i64 a0_0, .int .i64 a0_1, .int .i64 a0_2, .int .i64 a0_3, .int .i64 a0_4, .int .i64 a0_5, .int .i64 a0_6, .int .i64 a0_7, .int .i64 a0_8, .int .i64 a0_9], .agg #[.int .i64 a1_0, .int .i64 a1_1, .int .i64 a1_2, .int .i64 a1_3, .int .i64 a1_4, .int .i64 a1_5, .int .i64 a1_6, .int .i64 a1_7, .int .i64 a1_8, .int .i64 a1_9]] w fun e w' => e = .returned (.bool r) ∧ Below w.heap.size w w' := by
 have hu83 := Tryz.underlying83
 have hu77 := Tryz.underlying77
 have HB := aa_ (Below.refl w.heap.size w)
 have H : (if a0_0 = a1_0 then ((laws_eqRole.f a0_1 a0_2 a1_1 a1_2).bind fun t604 => (if t604 = true then (if a0_3 = a1_3 then ((laws_eqRole.f a0_4 a0_5 a1_4 a1_5).bind fun t605 => (if t605 = true then ((laws_eqRole.f a0_6 a0_7 a1_6 a1_7).bind fun t606 => (if t606 = true then (if a0_8 = a1_8 then (if a0_9 = a1_9 then (some true) else (some false)) else (some false)) else (some false))) else (some false))) else (some false)) else (some false))) else (some false)) = some r := h
 clear h
 have HC3 := aa_ H
 clear H
 go_enter Tryz.func53, Tryz.ntmps53
 go_upto_if 9 with (first | ((with_reducible refine gD_ 2 rfl ?_); refine bx_ (N := 2) (cs := #[.int .i64 a0_0, .int .i64 a0_1, .int .i64 a0_2, .int .i64 a0_3, .int .i64 a0_4, .int .i64 a0_5, .int .i64 a0_6, .int .i64 a0_7, .int .i64 a0_8, .int .i64 a0_9]) (t := 83) ?_; intro gb602 hg w4 hbox hb; have BK602 := aa_ (hbox); have GW602 := gs_ hg; have GE602 := gs_ hg; replace HB := hbs_ hb; clear hb hbox hg) | ((with_reducible refine gD_ 3 rfl ?_); refine bx_ (N := 3) (cs := #[.int .i64 a1_0, .int .i64 a1_1, .int .i64 a1_2, .int .i64 a1_3, .int .i64 a1_4, .int .i64 a1_5, .int .i64 a1_6, .int .i64 a1_7, .int .i64 a1_8, .int .i64 a1_9]) (t := 83) ?_; intro gb603 hg w5 hbox hb; have BK603 := aa_ (hbox); have GW603 := gs_ hg; have GE603 := gs_ hg; replace HB := hbs_ hb; have NB602_603 := nl_ hg BK602; have NB603_602 := nr_ hg BK602; replace BK602 := bkb_ BK602 hb; clear hb hbox hg; have hnb6 := NB602_603.out; have hnc6 := NB603_602.out; obtain ⟨hcz7, hfz7⟩ := bcf_ BK602; obtain ⟨hcz8, hfz8⟩ := bcf_ BK603))
 (try simp only [Act.put, sb_, sz_, ss_])
 have H := HC3.out
 clear HC3
 by_cases c9 : a0_0 = a1_0
 ·rw [if_pos c9] at H
  have c9b0 : (a0_0 == a1_0) = true := beq_iff_eq.mpr c9
  have c9b1 : (a0_0 != a1_0) = false := bne_eq_false_iff_eq.mpr c9
  clear c9
  (first | rw [c9b0] | (simp only [i64_w, i32_w]; rw [c9b0]) | skip)
  obtain ⟨t604, A10, H⟩ := bindE_ H
  have HC11 := aa_ H
  clear H
  have hnb12 := NB602_603.out
  have hnc12 := NB603_602.out
  have hcz13 := blk_cell BK602.out
  have hfz13 := blk_frozen BK602.out
  have hcz14 := blk_cell BK603.out
  have hfz14 := blk_frozen BK603.out
  go_upto_if 15 with (first | ((with_reducible refine gC_ 78 rfl ?_); refine goesC_ (some 14) Tryz.func78 #[.agg #[.int .i64 a0_1, .int .i64 a0_2], .agg #[.int .i64 a1_1, .int .i64 a1_2]] ?_; (with_reducible refine (laws_eqRole.calls a0_1 a0_2 a1_1 a1_2 t604 _ A10.out).mono ?_); rintro e w15 ⟨rfl, hb⟩; refine ⟨_, rfl, ?_⟩; replace BK602 := bkb_ BK602 hb; replace BK603 := bkb_ BK603 hb; replace HB := hbs_ hb; clear hb))
  (try simp only [Act.put, sb_, sz_, ss_])
  have H := HC11.out
  clear HC11
  by_cases c16 : t604 = true
  ·subst c16
   replace H := ite_t_ H
   by_cases c17 : a0_3 = a1_3
   ·rw [if_pos c17] at H
    have c17b0 : (a0_3 == a1_3) = true := beq_iff_eq.mpr c17
    have c17b1 : (a0_3 != a1_3) = false := bne_eq_false_iff_eq.mpr c17
    clear c17
    (first | rw [c17b0] | (simp only [i64_w, i32_w]; rw [c17b0]) | skip)
    obtain ⟨t605, A18, H⟩ := bindE_ H
    have HC19 := aa_ H
    clear H
    have hnb20 := NB602_603.out
    have hnc20 := NB603_602.out
    have hcz21 := blk_cell BK602.out
    have hfz21 := blk_frozen BK602.out
    have hcz22 := blk_cell BK603.out
    have hfz22 := blk_frozen BK603.out
    go_upto_if 26 with (first | ((with_reducible refine gC_ 78 rfl ?_); refine goesC_ (some 25) Tryz.func78 #[.agg #[.int .i64 a0_4, .int .i64 a0_5], .agg #[.int .i64 a1_4, .int .i64 a1_5]] ?_; (with_reducible refine (laws_eqRole.calls a0_4 a0_5 a1_4 a1_5 t605 _ A18.out).mono ?_); rintro e w23 ⟨rfl, hb⟩; refine ⟨_, rfl, ?_⟩; replace BK602 := bkb_ BK602 hb; replace BK603 := bkb_ BK603 hb; replace HB := hbs_ hb; clear hb))
    (try simp only [Act.put, sb_, sz_, ss_])
    have H := HC19.out
    clear HC19
    by_cases c24 : t605 = true
    ·subst c24
     replace H := ite_t_ H
     obtain ⟨t606, A25, H⟩ := bindE_ H
     have HC26 := aa_ H
     clear H
     have hnb27 := NB602_603.out
     have hnc27 := NB603_602.out
     have hcz28 := blk_cell BK602.out
     have hfz28 := blk_frozen BK602.out
     have hcz29 := blk_cell BK603.out
     have hfz29 := blk_frozen BK603.out
     go_upto_if 32 with (first | ((with_reducible refine gC_ 78 rfl ?_); refine goesC_ (some 31) Tryz.func78 #[.agg #[.int .i64 a0_6, .int .i64 a0_7], .agg #[.int .i64 a1_6, .int .i64 a1_7]] ?_; (with_reducible refine (laws_eqRole.calls a0_6 a0_7 a1_6 a1_7 t606 _ A25.out).mono ?_); rintro e w30 ⟨rfl, hb⟩; refine ⟨_, rfl, ?_⟩; replace BK602 := bkb_ BK602 hb; replace BK603 := bkb_ BK603 hb; replace HB := hbs_ hb; clear hb))
     (try simp only [Act.put, sb_, sz_, ss_])
     have H := HC26.out
     clear HC26
     by_cases c31 : t606 = true
     ·subst c31
      replace H := ite_t_ H
      by_cases c32 : a0_8 = a1_8
      ·rw [if_pos c32] at H
       have c32b0 : (a0_8 == a1_8) = true := beq_iff_eq.mpr c32
       have c32b1 : (a0_8 != a1_8) = false := bne_eq_false_iff_eq.mpr c32
       clear c32
       (first | rw [c32b0] | (simp only [i64_w, i32_w]; rw [c32b0]) | skip)
       by_cases c33 : a0_9 = a1_9
       ·rw [if_pos c33] at H
        have c33b0 : (a0_9 == a1_9) = true := beq_iff_eq.mpr c33
        have c33b1 : (a0_9 != a1_9) = false := bne_eq_false_iff_eq.mpr c33
        clear c33
        obtain rfl := Option.some.inj H
        have hnb34 := NB602_603.out
        have hnc34 := NB603_602.out
        have hcz35 := blk_cell BK602.out
        have hfz35 := blk_frozen BK602.out
        have hcz36 := blk_cell BK603.out
        have hfz36 := blk_frozen BK603.out
        go_wp2
        go_ret
        exact ⟨eq_, bl_⟩
       ·rw [if_neg c33] at H
        have c33b0 : (a0_9 == a1_9) = false := beq_eq_false_iff_ne.mpr c33
        have c33b1 : (a0_9 != a1_9) = true := bne_iff_ne.mpr c33
        obtain rfl := Option.some.inj H
        have hnb37 := NB602_603.out
        have hnc37 := NB603_602.out
        have hcz38 := blk_cell BK602.out
        have hfz38 := blk_frozen BK602.out
        have hcz39 := blk_cell BK603.out
        have hfz39 := blk_frozen BK603.out
        go_wp2
        go_ret
        exact ⟨eq_, bl_⟩
      ·rw [if_neg c32] at H
       have c32b0 : (a0_8 == a1_8) = false := beq_eq_false_iff_ne.mpr c32
       have c32b1 : (a0_8 != a1_8) = true := bne_iff_ne.mpr c32
       (first | rw [c32b0] | (simp only [i64_w, i32_w]; rw [c32b0]) | skip)
       obtain rfl := Option.some.inj H
       have hnb40 := NB602_603.out
       have hnc40 := NB603_602.out
       have hcz41 := blk_cell BK602.out
       have hfz41 := blk_frozen BK602.out
       have hcz42 := blk_cell BK603.out
       have hfz42 := blk_frozen BK603.out
       go_wp2
       go_ret
       exact ⟨eq_, bl_⟩
     ·replace c31 := Bool.eq_false_iff.mpr c31
      subst c31
      replace H := ite_f_ H
      obtain rfl := Option.some.inj H
      go_wp2
      go_ret
      exact ⟨eq_, bl_⟩
    ·replace c24 := Bool.eq_false_iff.mpr c24
     subst c24
     replace H := ite_f_ H
     obtain rfl := Option.some.inj H
     go_wp2
     go_ret
     exact ⟨eq_, bl_⟩
   ·rw [if_neg c17] at H
    have c17b0 : (a0_3 == a1_3) = false := beq_eq_false_iff_ne.mpr c17
    have c17b1 : (a0_3 != a1_3) = true := bne_iff_ne.mpr c17
    (first | rw [c17b0] | (simp only [i64_w, i32_w]; rw [c17b0]) | skip)
    obtain rfl := Option.some.inj H
    have hnb43 := NB602_603.out
    have hnc43 := NB603_602.out
    have hcz44 := blk_cell BK602.out
    have hfz44 := blk_frozen BK602.out
    have hcz45 := blk_cell BK603.out
    have hfz45 := blk_frozen BK603.out
    go_wp2
    go_ret
    exact ⟨eq_, bl_⟩
  ·replace c16 := Bool.eq_false_iff.mpr c16
   subst c16
   replace H := ite_f_ H
   obtain rfl := Option.some.inj H
   go_wp2
   go_ret
   exact ⟨eq_, bl_⟩
 ·rw [if_neg c9] at H
  have c9b0 : (a0_0 == a1_0) = false := beq_eq_false_iff_ne.mpr c9
  have c9b1 : (a0_0 != a1_0) = true := bne_iff_ne.mpr c9
  (first | rw [c9b0] | (simp only [i64_w, i32_w]; rw [c9b0]) | skip)
  obtain rfl := Option.some.inj H
  go_wp2
  go_ret
  exact ⟨eq_, bl_⟩
end Go.Proofs.YteofimccoadmeaaGreat.PA
