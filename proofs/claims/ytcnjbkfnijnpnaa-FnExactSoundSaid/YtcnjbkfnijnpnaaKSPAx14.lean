import Derived.Test.YtcnjbkfnijnpnaaKSPAx13
-- printed by wip/tools
namespace Go.Proofs.Ytcnjbkfnijnpnaa.PA
open Go.RowKit Go.Proofs.YtcnjbkfnijnpnaaW.PrintWords Go.Proofs.YtcnjbkfnijnpnaaW.PrintLast Go.Proofs.YtcnjbkfnijnpnaaW.PrintMore
attribute [local go_sem] max2_int min2_int max_two min_two max_three min_three max_four min_four
set_option linter.unusedVariables false
set_option linter.unusedSimpArgs false
def laws_eqItemS.l0 : Nat → List (S142) → List (S142) → Int → Option (Bool)
 | 0, _, _, _ => none
 | k + 1, x0, x1, x5 => if x5 < (x0.length : Int) then (if 0 ≤ x5 then (if x5 < (x1.length : Int) then ((laws_eqItem.f ((rd_T142 x0 x5).f0) ((rd_T142 x0 x5).f1) ((rd_T142 x1 x5).f0) ((rd_T142 x1 x5).f1)).bind fun t502 => (if t502 = true then (laws_eqItemS.l0 k x0 x1 (wrap64 (x5 + 1))) else (some false))) else (none)) else (none)) else (some true)
def laws_eqItemS.f (k : Nat) (l0 : List (S142)) (l1 : List (S142)) : Option (Bool) := if (l0.length : Int) = (l1.length : Int) then (laws_eqItemS.l0 k l0 l1 0) else (some false)
def laws_eqItemS.T6 : Bool × List (List Nat × List Nat) := (true, [([], []), ([], []), ([0, 1], [0, 1]), ([2], [2]), ([], []), ([], []), ([4, 5], [4, 5]), ([6], [6]), ([3, 7], [3, 7]), ([8], [8])])
def laws_eqItemS.B6 : List Nat := [0, 0, 3, 7, 0, 0, 48, 112, 255, 511]
theorem laws_eqItemS.tab6 : rtab .any (opsOf Try.f80 6) = laws_eqItemS.T6 := by kernel_rfl
theorem laws_eqItemS.bits6 : waitsOk laws_eqItemS.T6.2 laws_eqItemS.B6 = true := by kernel_rfl
set_option maxHeartbeats 8000000 in
set_option maxRecDepth 100000 in
theorem laws_eqItemS.calls (k : Nat) (A0 : Option Addr) (c0 : Nat) (l0 : List (S142)) (A1 : Option Addr) (c1 : Nat) (l1 : List (S142)) (r : Bool) (w : World) (hr0 : Kd.C k142 w A0 l0.length l0) (hc0 : l0.length ≤ c0) (hr1 : Kd.C k142 w A1 l1.length l1) (hc1 : l1.length ≤ c1) (h : laws_eqItemS.f k l0 l1 = some r) :
  Calls Try.prog 80 #[.slice A0 l0.length c0, .slice A1 l1.length c1] w fun e w' => e = .returned (.bool r) ∧ Below w.heap.size w w' := by
 have hu142 := Try.underlying142
 have HR0 := aa_ hr0
 have HC0 := aa_ hc0
 clear hr0 hc0
 have HR1 := aa_ hr1
 have HC1 := aa_ hc1
 clear hr1 hc1
 have HB := aa_ (Below.refl w.heap.size w)
 have H : (if (l0.length : Int) = (l1.length : Int) then (laws_eqItemS.l0 k l0 l1 0) else (some false)) = some r := h
 clear h
 by_cases c3 : (l0.length : Int) = (l1.length : Int)
 ·rw [if_pos c3] at H
  have c3b0 : ((l0.length : Int) == (l1.length : Int)) = true := beq_iff_eq.mpr c3
  have c3b1 : ((l0.length : Int) != (l1.length : Int)) = false := bne_eq_false_iff_eq.mpr c3
  have c3b2 : (l0.length == l1.length) = true := by first | simpa using c3 | (simp at c3 ⊢; omega)
  clear c3
  have H' := aa_ H
  clear H
  go_enter Try.func80, Try.ntmps80
  go_wp2
  go_loopg [5] k (fun kq v5 w' => ∃ (x5_1 : Int), v5 = .int .i64 x5_1 ∧ Aside0 (laws_eqItemS.l0 kq l0 l1 x5_1 = some r) ∧ Aside0 (kq ≤ k) ∧ Aside0 (Below w.heap.size w w'))
  case atStart => exact ⟨(0), rf_, H', ⟨Nat.le_refl _⟩, ⟨bl_⟩⟩
  case round =>
   clear H'
   try clear c1
   try clear p2
   try clear c3
   try clear c3b0
   try clear c3b1
   try clear c3b2
   obtain ⟨x5_1, rfl, HA, HK1, HB⟩ := hrel
   cases gk with
   | zero => exact absurd HA.out (by simp [laws_eqItemS.l0])
   | succ k1 =>
    have H := HA.out
    clear HA
    simp only [laws_eqItemS.l0] at H
    by_cases c4 : x5_1 < (l0.length : Int)
    ·rw [if_pos c4] at H
     have c4b0 : decide (x5_1 < (l0.length : Int)) = true := decide_eq_true c4
     clear c4
     obtain ⟨c5b0, H⟩ := ifd_ H
     obtain ⟨c6b0, H⟩ := ifd_ H
     obtain ⟨t502, A7, H⟩ := bindE_ H
     have HC8 := aa_ H
     clear H
     try go_wp2
     replace HB := aa_ (below_drew1 HB.out)
     have p500 : 0 ≤ (x5_1 : Int) := od_
     have q500 : x5_1 < (l0.length : Int) := od_
     obtain ⟨ad500, e500, hx500_0, hx500_1⟩ := at_T142 HR0.out x5_1 p500 q500
     have hw500_1 := hx500_1
     have hw500_0 := hx500_0
     cases e500
     replace hx500_0 := cb_ HB hx500_0
     replace hx500_1 := cb_ HB hx500_1
     replace p500 := eq_true p500
     replace q500 := eq_true q500
     have p501 : 0 ≤ (x5_1 : Int) := od_
     have q501 : x5_1 < (l1.length : Int) := od_
     obtain ⟨ad501, e501, hx501_0, hx501_1⟩ := at_T142 HR1.out x5_1 p501 q501
     have hw501_1 := hx501_1
     have hw501_0 := hx501_0
     cases e501
     replace hx501_0 := cb_ HB hx501_0
     replace hx501_1 := cb_ HB hx501_1
     replace p501 := eq_true p501
     replace q501 := eq_true q501
     refine start_ (n := 10) (S := fun w' => w'.cell? (ad500.add ((x5_1).toNat * 2)) = some (.string ((rd_T142 l0 x5_1).f0)) ∧ w'.cell? ⟨(ad500.add ((x5_1).toNat * 2)).block, (ad500.add ((x5_1).toNat * 2)).off + 1, none⟩ = some (.bool ((rd_T142 l0 x5_1).f1)) ∧ w'.cell? (ad501.add ((x5_1).toNat * 2)) = some (.string ((rd_T142 l1 x5_1).f0)) ∧ w'.cell? ⟨(ad501.add ((x5_1).toNat * 2)).block, (ad501.add ((x5_1).toNat * 2)).off + 1, none⟩ = some (.bool ((rd_T142 l1 x5_1).f1))) (ds := []) (ba_ 10 0) (by kernel_rfl) rfl rfl ⟨(cb_ HB hw500_0 :), (cb_ HB hw500_1 :), (cb_ HB hw501_0 :), (cb_ HB hw501_1 :)⟩ (fun hHeld => ?_); refine with_tabW laws_eqItemS.tab6 laws_eqItemS.bits6 (fun HT_ HW_ => ?_)
     generalize wr.drew = w9 at HB hx500_0 hx500_1 hx501_0 hx501_1 hHeld ⊢
     refine pureZ_ (i := 0) (some 17) (ba_ 10 1) (ao_ HT_) ?_
     refine pureZ_ (i := 1) (some 18) (ba_ 10 3) (ao_ HT_) ?_
     refine pureZ_ (i := 2) (some 19) (ba_ 10 7) (ao_ HT_) ?_
     refine pureZ_ (i := 4) (some 21) (ba_ 10 23) (ao_ HT_) ?_
     refine pureZ_ (i := 5) (some 22) (ba_ 10 55) (ao_ HT_) ?_
     refine pureZ_ (i := 6) (some 23) (ba_ 10 119) (ao_ HT_) ?_
     refine takeZ_ (i := 3) (some 20) (ba_ 10 127) (take_ofW HT_.out HW_.out (by kernel_rfl)) hHeld ?_
     refine takeZ_ (i := 7) (some 24) (ba_ 10 255) (take_ofW HT_.out HW_.out (by kernel_rfl)) hHeld ?_
     refine one_ (i := 8) (N := some 25) (ba_ 10 511) rfl rfl (one_of HT_.out (by kernel_rfl)) (by decide) (fun K hK => ?_)
     refine goes_ Try.func83 (by kernel_rfl) rfl #[.agg #[.string ((rd_T142 l0 x5_1).f0), .bool ((rd_T142 l0 x5_1).f1)], .agg #[.string ((rd_T142 l1 x5_1).f0), .bool ((rd_T142 l1 x5_1).f1)]] (by rfl) rfl rfl (by (try simp only [List.map_toArray, List.map_cons, List.map_nil]); first | done | rfl | (simp only [List.length_drop, List.length_take]; rfl)) ?_
     with_reducible refine (laws_eqItem.calls ((rd_T142 l0 x5_1).f0) ((rd_T142 l0 x5_1).f1) ((rd_T142 l1 x5_1).f0) ((rd_T142 l1 x5_1).f1) t502 _ A7.out).mono ?_
     rintro e w10 ⟨rfl, hb⟩
     refine ⟨_, rfl, ?_⟩
     replace HB := hbs_ hb
     (try clear hb)
     (try clear hb2)
     (try clear hk)
     (try clear hi)
     refine hK.out _ _ ⟨(cb_ HB hw500_0 :), (cb_ HB hw500_1 :), (cb_ HB hw501_0 :), (cb_ HB hw501_1 :)⟩ (fun hHeld => ?_)
     clear hK K
     refine norm_ (a' := ?_) ?_ ?_
     rotate_left
     ·show Act.put _ (some 25) _ = _
      simp only [Act.put, List.setIfInBounds_toArray, List.set_cons_zero, List.set_cons_succ, i64_w, i32_w]
      rfl
     refine pureZ_ (i := 9) (some 26) (ba_ 10 1023) (ao_ HT_) ?_
     refine done_ (done_of HT_.out (by kernel_rfl)) ?_
     go_upto_if 26 with (fail)
     have H := HC8.out
     clear HC8
     by_cases c11 : t502 = true
     ·subst c11
      replace H := ite_t_ H
      have H' := aa_ H
      clear H
      go_wp2
      go_roundg k1
      case measure => have := HK1.out; omega
      case rel => exact ⟨(wrap64 (x5_1 + 1)), rf_, H', ⟨by have := HK1.out; omega⟩, ⟨bl_⟩⟩
     ·replace c11 := Bool.eq_false_iff.mpr c11
      subst c11
      replace H := ite_f_ H
      obtain rfl := Option.some.inj H
      go_wp2
      go_ret
      exact ⟨eq_, bl_⟩
    ·rw [if_neg c4] at H
     have c4b0 : decide (x5_1 < (l0.length : Int)) = false := decide_eq_false c4
     clear c4
     obtain rfl := Option.some.inj H
     go_wp2
     go_ret
     exact ⟨eq_, bl_⟩
 ·rw [if_neg c3] at H
  have c3b0 : ((l0.length : Int) == (l1.length : Int)) = false := beq_eq_false_iff_ne.mpr c3
  have c3b1 : ((l0.length : Int) != (l1.length : Int)) = true := bne_iff_ne.mpr c3
  have c3b2 : (l0.length == l1.length) = false := by first | simpa using c3 | (simp at c3 ⊢; omega)
  obtain rfl := Option.some.inj H
  go_enter Try.func80, Try.ntmps80
  go_wp2
  go_ret
  exact ⟨eq_, bl_⟩
def laws_eqShelf.f (k : Nat) (a0_0 : Int) (l0_1 : List (S142)) (a1_0 : Int) (l1_1 : List (S142)) : Option (Bool) := if a0_0 = a1_0 then ((laws_eqItemS.f k l0_1 l1_1).bind fun t505 => (if t505 = true then (some true) else (some false))) else (some false)
set_option maxHeartbeats 8000000 in
set_option maxRecDepth 100000 in
theorem laws_eqShelf.calls (k : Nat) (a0_0 : Int) (A0_1 : Option Addr) (c0_1 : Nat) (l0_1 : List (S142)) (a1_0 : Int) (A1_1 : Option Addr) (c1_1 : Nat) (l1_1 : List (S142)) (r : Bool) (w : World) (hr0_1 : Kd.C k142 w A0_1 l0_1.length l0_1) (hc0_1 : l0_1.length ≤ c0_1) (hr1_1 : Kd.C k142 w A1_1 l1_1.length l1_1) (hc1_1 : l1_1.length ≤ c1_1) (h : laws_eqShelf.f k a0_0 l0_1 a1_0 l1_1 = some r) :
  Calls Try.prog 77 #[.agg #[.int .i64 a0_0, .slice A0_1 l0_1.length c0_1], .agg #[.int .i64 a1_0, .slice A1_1 l1_1.length c1_1]] w fun e w' => e = .returned (.bool r) ∧ Below w.heap.size w w' := by
 have hu133 := Try.underlying133
 have HR0_1 := aa_ hr0_1
 have HC0_1 := aa_ hc0_1
 clear hr0_1 hc0_1
 have HR1_1 := aa_ hr1_1
 have HC1_1 := aa_ hc1_1
 clear hr1_1 hc1_1
 have HB := aa_ (Below.refl w.heap.size w)
 have H : (if a0_0 = a1_0 then ((laws_eqItemS.f k l0_1 l1_1).bind fun t505 => (if t505 = true then (some true) else (some false))) else (some false)) = some r := h
 clear h
 have HC3 := aa_ H
 clear H
 go_enter Try.func77, Try.ntmps77
 go_upto_if 9 with (first | ((with_reducible refine gD_ 2 rfl ?_); refine bx_ (N := 2) (cs := #[.int .i64 a0_0, .slice A0_1 l0_1.length c0_1]) (t := 133) ?_; intro gb503 hg w4 hbox hb; have BK503 := aa_ (hbox); have GW503 := gs_ hg; have GE503 := gs_ hg; replace HB := hbs_ hb; clear hb hbox hg) | ((with_reducible refine gD_ 3 rfl ?_); refine bx_ (N := 3) (cs := #[.int .i64 a1_0, .slice A1_1 l1_1.length c1_1]) (t := 133) ?_; intro gb504 hg w5 hbox hb; have BK504 := aa_ (hbox); have GW504 := gs_ hg; have GE504 := gs_ hg; replace HB := hbs_ hb; have NB503_504 := nl_ hg BK503; have NB504_503 := nr_ hg BK503; replace BK503 := bkb_ BK503 hb; clear hb hbox hg; have hnb6 := NB503_504.out; have hnc6 := NB504_503.out; obtain ⟨hcz7, hfz7⟩ := bcf_ BK503; obtain ⟨hcz8, hfz8⟩ := bcf_ BK504))
 (try simp only [Act.put, List.setIfInBounds_toArray, List.set_cons_zero, List.set_cons_succ])
 have H := HC3.out
 clear HC3
 by_cases c9 : a0_0 = a1_0
 ·rw [if_pos c9] at H
  have c9b0 : (a0_0 == a1_0) = true := beq_iff_eq.mpr c9
  have c9b1 : (a0_0 != a1_0) = false := bne_eq_false_iff_eq.mpr c9
  clear c9
  (first | rw [c9b0] | (simp only [i64_w, i32_w]; rw [c9b0]) | skip)
  obtain ⟨t505, A10, H⟩ := bindE_ H
  have HC11 := aa_ H
  clear H
  have hnb12 := NB503_504.out
  have hnc12 := NB504_503.out
  have hcz13 := blk_cell BK503.out
  have hfz13 := blk_frozen BK503.out
  have hcz14 := blk_cell BK504.out
  have hfz14 := blk_frozen BK504.out
  go_upto_if 15 with (first | ((with_reducible refine gC_ 80 rfl ?_); refine goesC_ (some 14) Try.func80 #[.slice A0_1 l0_1.length c0_1, .slice A1_1 l1_1.length c1_1] ?_; (with_reducible refine (laws_eqItemS.calls k _ _ l0_1 _ _ l1_1 t505 _ ?side1 ?side2 ?side3 ?side4 A10.out).mono ?_); (case side1 => repeat (first | exact (Kd.C_below HR0_1.out HB.out) | (with_reducible refine Kd.C_alloc ?_ _) | (with_reducible refine Kd.C_drewN ?_ _) | (with_reducible refine Kd.C_drew ?_))); (case side2 => exact HC0_1.out); (case side3 => repeat (first | exact (Kd.C_below HR1_1.out HB.out) | (with_reducible refine Kd.C_alloc ?_ _) | (with_reducible refine Kd.C_drewN ?_ _) | (with_reducible refine Kd.C_drew ?_))); (case side4 => exact HC1_1.out); rintro e w15 ⟨rfl, hb⟩; refine ⟨_, rfl, ?_⟩; replace BK503 := bkb_ BK503 hb; replace BK504 := bkb_ BK504 hb; replace HB := hbs_ hb; clear hb))
  (try simp only [Act.put, List.setIfInBounds_toArray, List.set_cons_zero, List.set_cons_succ])
  have H := HC11.out
  clear HC11
  by_cases c16 : t505 = true
  ·subst c16
   replace H := ite_t_ H
   obtain rfl := Option.some.inj H
   go_wp2
   go_ret
   exact ⟨eq_, bl_⟩
  ·replace c16 := Bool.eq_false_iff.mpr c16
   subst c16
   replace H := ite_f_ H
   obtain rfl := Option.some.inj H
   go_wp2
   go_ret
   exact ⟨eq_, bl_⟩
 ·rw [if_neg c9] at H
  have c9b0 : (a0_0 == a1_0) = false := beq_eq_false_iff_ne.mpr c9
  have c9b1 : (a0_0 != a1_0) = true := bne_iff_ne.mpr c9
  (first | rw [c9b0] | (simp only [i64_w, i32_w]; rw [c9b0]) | skip)
  obtain rfl := Option.some.inj H
  go_wp2
  go_ret
  exact ⟨eq_, bl_⟩
def laws_eqShelfS.l0 : Nat → List (S133) → List (S133) → Int → Option (Bool)
 | 0, _, _, _ => none
 | k + 1, x0, x1, x5 => if x5 < (x0.length : Int) then (if 0 ≤ x5 then (if x5 < (x1.length : Int) then ((laws_eqShelf.f k ((rd_T133 x0 x5).f0) ((rd_T133 x0 x5).f1) ((rd_T133 x1 x5).f0) ((rd_T133 x1 x5).f1)).bind fun t508 => (if t508 = true then (laws_eqShelfS.l0 k x0 x1 (wrap64 (x5 + 1))) else (some false))) else (none)) else (none)) else (some true)
def laws_eqShelfS.f (k : Nat) (l0 : List (S133)) (l1 : List (S133)) : Option (Bool) := if (l0.length : Int) = (l1.length : Int) then (laws_eqShelfS.l0 k l0 l1 0) else (some false)
def laws_eqShelfS.T6 : Bool × List (List Nat × List Nat) := (true, [([], []), ([], []), ([0, 1], [0, 1]), ([2], [2]), ([], []), ([], []), ([4, 5], [4, 5]), ([6], [6]), ([3, 7], [3, 7]), ([8], [8])])
def laws_eqShelfS.B6 : List Nat := [0, 0, 3, 7, 0, 0, 48, 112, 255, 511]
theorem laws_eqShelfS.tab6 : rtab .any (opsOf Try.f73 6) = laws_eqShelfS.T6 := by kernel_rfl
theorem laws_eqShelfS.bits6 : waitsOk laws_eqShelfS.T6.2 laws_eqShelfS.B6 = true := by kernel_rfl
set_option maxHeartbeats 8000000 in
set_option maxRecDepth 100000 in
theorem laws_eqShelfS.calls (k : Nat) (A0 : Option Addr) (c0 : Nat) (l0 : List (S133)) (A1 : Option Addr) (c1 : Nat) (l1 : List (S133)) (r : Bool) (w : World) (hr0 : Kd.C k133 w A0 l0.length l0) (hc0 : l0.length ≤ c0) (hr1 : Kd.C k133 w A1 l1.length l1) (hc1 : l1.length ≤ c1) (h : laws_eqShelfS.f k l0 l1 = some r) :
  Calls Try.prog 73 #[.slice A0 l0.length c0, .slice A1 l1.length c1] w fun e w' => e = .returned (.bool r) ∧ Below w.heap.size w w' := by
 have hu133 := Try.underlying133
 have HR0 := aa_ hr0
 have HC0 := aa_ hc0
 clear hr0 hc0
 have HR1 := aa_ hr1
 have HC1 := aa_ hc1
 clear hr1 hc1
 have HB := aa_ (Below.refl w.heap.size w)
 have H : (if (l0.length : Int) = (l1.length : Int) then (laws_eqShelfS.l0 k l0 l1 0) else (some false)) = some r := h
 clear h
 by_cases c3 : (l0.length : Int) = (l1.length : Int)
 ·rw [if_pos c3] at H
  have c3b0 : ((l0.length : Int) == (l1.length : Int)) = true := beq_iff_eq.mpr c3
  have c3b1 : ((l0.length : Int) != (l1.length : Int)) = false := bne_eq_false_iff_eq.mpr c3
  have c3b2 : (l0.length == l1.length) = true := by first | simpa using c3 | (simp at c3 ⊢; omega)
  clear c3
  have H' := aa_ H
  clear H
  go_enter Try.func73, Try.ntmps73
  go_wp2
  go_loopg [5] k (fun kq v5 w' => ∃ (x5_1 : Int), v5 = .int .i64 x5_1 ∧ Aside0 (laws_eqShelfS.l0 kq l0 l1 x5_1 = some r) ∧ Aside0 (kq ≤ k) ∧ Aside0 (Below w.heap.size w w'))
  case atStart => exact ⟨(0), rf_, H', ⟨Nat.le_refl _⟩, ⟨bl_⟩⟩
  case round =>
   clear H'
   try clear c1
   try clear p2
   try clear c3
   try clear c3b0
   try clear c3b1
   try clear c3b2
   obtain ⟨x5_1, rfl, HA, HK1, HB⟩ := hrel
   cases gk with
   | zero => exact absurd HA.out (by simp [laws_eqShelfS.l0])
   | succ k1 =>
    have H := HA.out
    clear HA
    simp only [laws_eqShelfS.l0] at H
    by_cases c4 : x5_1 < (l0.length : Int)
    ·rw [if_pos c4] at H
     have c4b0 : decide (x5_1 < (l0.length : Int)) = true := decide_eq_true c4
     clear c4
     obtain ⟨c5b0, H⟩ := ifd_ H
     obtain ⟨c6b0, H⟩ := ifd_ H
     obtain ⟨t508, A7, H⟩ := bindE_ H
     have HC8 := aa_ H
     clear H
     try go_wp2
     replace HB := aa_ (below_drew1 HB.out)
     have p506 : 0 ≤ (x5_1 : Int) := od_
     have q506 : x5_1 < (l0.length : Int) := od_
     obtain ⟨ad506, A506_1, c506_1, e506, hx506_0, hx506_1, hl506_1, hi506_1⟩ := at_T133 HR0.out x5_1 p506 q506
     have hw506_1 := hx506_1
     have hw506_0 := hx506_0
     cases e506
     replace hx506_0 := cb_ HB hx506_0
     replace hx506_1 := cb_ HB hx506_1
     have HR506_1 := aa_ hi506_1
     have HC506_1 := aa_ hl506_1
     clear hi506_1 hl506_1
     replace p506 := eq_true p506
     replace q506 := eq_true q506
     have p507 : 0 ≤ (x5_1 : Int) := od_
     have q507 : x5_1 < (l1.length : Int) := od_
     obtain ⟨ad507, A507_1, c507_1, e507, hx507_0, hx507_1, hl507_1, hi507_1⟩ := at_T133 HR1.out x5_1 p507 q507
     have hw507_1 := hx507_1
     have hw507_0 := hx507_0
     cases e507
     replace hx507_0 := cb_ HB hx507_0
     replace hx507_1 := cb_ HB hx507_1
     have HR507_1 := aa_ hi507_1
     have HC507_1 := aa_ hl507_1
     clear hi507_1 hl507_1
     replace p507 := eq_true p507
     replace q507 := eq_true q507
     refine start_ (n := 10) (S := fun w' => w'.cell? (ad506.add ((x5_1).toNat * 2)) = some (.int .i64 ((rd_T133 l0 x5_1).f0)) ∧ w'.cell? ⟨(ad506.add ((x5_1).toNat * 2)).block, (ad506.add ((x5_1).toNat * 2)).off + 1, none⟩ = some (.slice A506_1 ((rd_T133 l0 x5_1).f1).length c506_1) ∧ w'.cell? (ad507.add ((x5_1).toNat * 2)) = some (.int .i64 ((rd_T133 l1 x5_1).f0)) ∧ w'.cell? ⟨(ad507.add ((x5_1).toNat * 2)).block, (ad507.add ((x5_1).toNat * 2)).off + 1, none⟩ = some (.slice A507_1 ((rd_T133 l1 x5_1).f1).length c507_1)) (ds := []) (ba_ 10 0) (by kernel_rfl) rfl rfl ⟨(cb_ HB hw506_0 :), (cb_ HB hw506_1 :), (cb_ HB hw507_0 :), (cb_ HB hw507_1 :)⟩ (fun hHeld => ?_); refine with_tabW laws_eqShelfS.tab6 laws_eqShelfS.bits6 (fun HT_ HW_ => ?_)
     generalize wr.drew = w9 at HB HR506_1 HR507_1 hx506_0 hx506_1 hx507_0 hx507_1 hHeld ⊢
     refine pureZ_ (i := 0) (some 17) (ba_ 10 1) (ao_ HT_) ?_
     refine pureZ_ (i := 1) (some 18) (ba_ 10 3) (ao_ HT_) ?_
     refine pureZ_ (i := 2) (some 19) (ba_ 10 7) (ao_ HT_) ?_
     refine pureZ_ (i := 4) (some 21) (ba_ 10 23) (ao_ HT_) ?_
     refine pureZ_ (i := 5) (some 22) (ba_ 10 55) (ao_ HT_) ?_
     refine pureZ_ (i := 6) (some 23) (ba_ 10 119) (ao_ HT_) ?_
     refine takeZ_ (i := 3) (some 20) (ba_ 10 127) (take_ofW HT_.out HW_.out (by kernel_rfl)) hHeld ?_
     refine takeZ_ (i := 7) (some 24) (ba_ 10 255) (take_ofW HT_.out HW_.out (by kernel_rfl)) hHeld ?_
     refine one_ (i := 8) (N := some 25) (ba_ 10 511) rfl rfl (one_of HT_.out (by kernel_rfl)) (by decide) (fun K hK => ?_)
     refine goes_ Try.func77 (by kernel_rfl) rfl #[.agg #[.int .i64 ((rd_T133 l0 x5_1).f0), .slice A506_1 ((rd_T133 l0 x5_1).f1).length c506_1], .agg #[.int .i64 ((rd_T133 l1 x5_1).f0), .slice A507_1 ((rd_T133 l1 x5_1).f1).length c507_1]] (by rfl) rfl rfl (by (try simp only [List.map_toArray, List.map_cons, List.map_nil]); first | done | rfl | (simp only [List.length_drop, List.length_take]; rfl)) ?_
     with_reducible refine (laws_eqShelf.calls k1 ((rd_T133 l0 x5_1).f0) _ _ ((rd_T133 l0 x5_1).f1) ((rd_T133 l1 x5_1).f0) _ _ ((rd_T133 l1 x5_1).f1) t508 _ ?side1 ?side2 ?side3 ?side4 A7.out).mono ?_
     (case side1 => repeat (first | exact (Kd.C_below HR506_1.out HB.out) | (with_reducible refine Kd.C_alloc ?_ _) | (with_reducible refine Kd.C_drewN ?_ _) | (with_reducible refine Kd.C_drew ?_)))
     (case side2 => exact HC506_1.out)
     (case side3 => repeat (first | exact (Kd.C_below HR507_1.out HB.out) | (with_reducible refine Kd.C_alloc ?_ _) | (with_reducible refine Kd.C_drewN ?_ _) | (with_reducible refine Kd.C_drew ?_)))
     (case side4 => exact HC507_1.out)
     rintro e w10 ⟨rfl, hb⟩
     refine ⟨_, rfl, ?_⟩
     replace HB := hbs_ hb
     (try clear hb)
     (try clear hb2)
     (try clear hk)
     (try clear hi)
     refine hK.out _ _ ⟨(cb_ HB hw506_0 :), (cb_ HB hw506_1 :), (cb_ HB hw507_0 :), (cb_ HB hw507_1 :)⟩ (fun hHeld => ?_)
     clear hK K
     refine norm_ (a' := ?_) ?_ ?_
     rotate_left
     ·show Act.put _ (some 25) _ = _
      simp only [Act.put, List.setIfInBounds_toArray, List.set_cons_zero, List.set_cons_succ, i64_w, i32_w]
      rfl
     refine pureZ_ (i := 9) (some 26) (ba_ 10 1023) (ao_ HT_) ?_
     refine done_ (done_of HT_.out (by kernel_rfl)) ?_
     go_upto_if 26 with (fail)
     have H := HC8.out
     clear HC8
     by_cases c11 : t508 = true
     ·subst c11
      replace H := ite_t_ H
      have H' := aa_ H
      clear H
      go_wp2
      go_roundg k1
      case measure => have := HK1.out; omega
      case rel => exact ⟨(wrap64 (x5_1 + 1)), rf_, H', ⟨by have := HK1.out; omega⟩, ⟨bl_⟩⟩
     ·replace c11 := Bool.eq_false_iff.mpr c11
      subst c11
      replace H := ite_f_ H
      obtain rfl := Option.some.inj H
      go_wp2
      go_ret
      exact ⟨eq_, bl_⟩
    ·rw [if_neg c4] at H
     have c4b0 : decide (x5_1 < (l0.length : Int)) = false := decide_eq_false c4
     clear c4
     obtain rfl := Option.some.inj H
     go_wp2
     go_ret
     exact ⟨eq_, bl_⟩
 ·rw [if_neg c3] at H
  have c3b0 : ((l0.length : Int) == (l1.length : Int)) = false := beq_eq_false_iff_ne.mpr c3
  have c3b1 : ((l0.length : Int) != (l1.length : Int)) = true := bne_iff_ne.mpr c3
  have c3b2 : (l0.length == l1.length) = false := by first | simpa using c3 | (simp at c3 ⊢; omega)
  obtain rfl := Option.some.inj H
  go_enter Try.func73, Try.ntmps73
  go_wp2
  go_ret
  exact ⟨eq_, bl_⟩
def laws_eqPeer.f (k : Nat) (a0_0 : Int) (a0_1 : Bool) (a0_2 : Int) (l0_3 : List Int) (l0_4 : List Int) (l0_5 : List (S133)) (a1_0 : Int) (a1_1 : Bool) (a1_2 : Int) (l1_3 : List Int) (l1_4 : List Int) (l1_5 : List (S133)) : Option (Bool) := if a0_0 = a1_0 then (if (a0_1 != a1_1) = true then (some false) else (if a0_2 = a1_2 then ((laws_eqIntS.f k l0_3 l1_3).bind fun t511 => (if t511 = true then ((laws_eqIntS.f k l0_4 l1_4).bind fun t512 => (if t512 = true then ((laws_eqShelfS.f k l0_5 l1_5).bind fun t513 => (if t513 = true then (some true) else (some false))) else (some false))) else (some false))) else (some false))) else (some false)
set_option maxHeartbeats 8000000 in
set_option maxRecDepth 100000 in
theorem laws_eqPeer.calls (k : Nat) (a0_0 : Int) (a0_1 : Bool) (a0_2 : Int) (A0_3 : Option Addr) (c0_3 : Nat) (l0_3 : List Int) (A0_4 : Option Addr) (c0_4 : Nat) (l0_4 : List Int) (A0_5 : Option Addr) (c0_5 : Nat) (l0_5 : List (S133)) (a1_0 : Int) (a1_1 : Bool) (a1_2 : Int) (A1_3 : Option Addr) (c1_3 : Nat) (l1_3 : List Int) (A1_4 : Option Addr) (c1_4 : Nat) (l1_4 : List Int) (A1_5 : Option Addr) (c1_5 : Nat) (l1_5 : List (S133)) (r : Bool) (w : World) (hr0_3 : Kd.C (Kd.int .i64) w A0_3 l0_3.length l0_3) (hc0_3 : l0_3.length ≤ c0_3) (hr0_4 : Kd.C (Kd.int .i64) w A0_4 l0_4.length l0_4) (hc0_4 : l0_4.length ≤ c0_4) (hr0_5 : Kd.C k133 w A0_5 l0_5.length l0_5) (hc0_5 : l0_5.length ≤ c0_5) (hr1_3 : Kd.C (Kd.int .i64) w A1_3 l1_3.length l1_3) (hc1_3 : l1_3.length ≤ c1_3) (hr1_4 : Kd.C (Kd.int .i64) w A1_4 l1_4.length l1_4) (hc1_4 : l1_4.length ≤ c1_4) (hr1_5 : Kd.C k133 w A1_5 l1_5.length l1_5) (hc1_5 : l1_5.length ≤ c1_5) (h : laws_eqPeer.f k a0_0 a0_1 a0_2 l0_3 l0_4 l0_5 a1_0 a1_1 a1_2 l1_3 l1_4 l1_5 = some r) :
  Calls Try.prog 61 #[.agg #[.int .i64 a0_0, .bool a0_1, .int .i64 a0_2, .slice A0_3 l0_3.length c0_3, .slice A0_4 l0_4.length c0_4, .slice A0_5 l0_5.length c0_5], .agg #[.int .i64 a1_0, .bool a1_1, .int .i64 a1_2, .slice A1_3 l1_3.length c1_3, .slice A1_4 l1_4.length c1_4, .slice A1_5 l1_5.length c1_5]] w fun e w' => e = .returned (.bool r) ∧ Below w.heap.size w w' := by
 have hu107 := Try.underlying107
 have HR0_3 := aa_ hr0_3
 have HC0_3 := aa_ hc0_3
 clear hr0_3 hc0_3
 have HR0_4 := aa_ hr0_4
 have HC0_4 := aa_ hc0_4
 clear hr0_4 hc0_4
 have HR0_5 := aa_ hr0_5
 have HC0_5 := aa_ hc0_5
 clear hr0_5 hc0_5
 have HR1_3 := aa_ hr1_3
 have HC1_3 := aa_ hc1_3
 clear hr1_3 hc1_3
 have HR1_4 := aa_ hr1_4
 have HC1_4 := aa_ hc1_4
 clear hr1_4 hc1_4
 have HR1_5 := aa_ hr1_5
 have HC1_5 := aa_ hc1_5
 clear hr1_5 hc1_5
 have HB := aa_ (Below.refl w.heap.size w)
 have H : (if a0_0 = a1_0 then (if (a0_1 != a1_1) = true then (some false) else (if a0_2 = a1_2 then ((laws_eqIntS.f k l0_3 l1_3).bind fun t511 => (if t511 = true then ((laws_eqIntS.f k l0_4 l1_4).bind fun t512 => (if t512 = true then ((laws_eqShelfS.f k l0_5 l1_5).bind fun t513 => (if t513 = true then (some true) else (some false))) else (some false))) else (some false))) else (some false))) else (some false)) = some r := h
 clear h
 have HC3 := aa_ H
 clear H
 go_enter Try.func61, Try.ntmps61
 go_upto_if 9 with (first | ((with_reducible refine gD_ 2 rfl ?_); refine bx_ (N := 2) (cs := #[.int .i64 a0_0, .bool a0_1, .int .i64 a0_2, .slice A0_3 l0_3.length c0_3, .slice A0_4 l0_4.length c0_4, .slice A0_5 l0_5.length c0_5]) (t := 107) ?_; intro gb509 hg w4 hbox hb; have BK509 := aa_ (hbox); have GW509 := gs_ hg; have GE509 := gs_ hg; replace HB := hbs_ hb; clear hb hbox hg) | ((with_reducible refine gD_ 3 rfl ?_); refine bx_ (N := 3) (cs := #[.int .i64 a1_0, .bool a1_1, .int .i64 a1_2, .slice A1_3 l1_3.length c1_3, .slice A1_4 l1_4.length c1_4, .slice A1_5 l1_5.length c1_5]) (t := 107) ?_; intro gb510 hg w5 hbox hb; have BK510 := aa_ (hbox); have GW510 := gs_ hg; have GE510 := gs_ hg; replace HB := hbs_ hb; have NB509_510 := nl_ hg BK509; have NB510_509 := nr_ hg BK509; replace BK509 := bkb_ BK509 hb; clear hb hbox hg; have hnb6 := NB509_510.out; have hnc6 := NB510_509.out; obtain ⟨hcz7, hfz7⟩ := bcf_ BK509; obtain ⟨hcz8, hfz8⟩ := bcf_ BK510))
 (try simp only [Act.put, List.setIfInBounds_toArray, List.set_cons_zero, List.set_cons_succ])
 have H := HC3.out
 clear HC3
 by_cases c9 : a0_0 = a1_0
 ·rw [if_pos c9] at H
  have c9b0 : (a0_0 == a1_0) = true := beq_iff_eq.mpr c9
  have c9b1 : (a0_0 != a1_0) = false := bne_eq_false_iff_eq.mpr c9
  clear c9
  (first | rw [c9b0] | (simp only [i64_w, i32_w]; rw [c9b0]) | skip)
  by_cases c10 : (a0_1 != a1_1) = true
  ·rw [if_pos c10] at H
   have c10b0 : (a0_1 != a1_1) = true := c10
   (try (have c10b1 : decide (a0_1 = a1_1) = false := by simpa using c10))
   (try (have c10b2 : (a0_1 == a1_1) = false := by simpa using c10))
   (try (have c10b5 : (!(a0_1 == a1_1)) = true := by rw [c10b2]; rfl))
   (try (have c10b3 : ¬ (a0_1 = a1_1) := by simpa using c10))
   clear c10
   obtain rfl := Option.some.inj H
   have hnb11 := NB509_510.out
   have hnc11 := NB510_509.out
   have hcz12 := blk_cell BK509.out
   have hfz12 := blk_frozen BK509.out
   have hcz13 := blk_cell BK510.out
   have hfz13 := blk_frozen BK510.out
   go_wp2
   go_ret
   exact ⟨eq_, bl_⟩
  ·rw [if_neg c10] at H
   have c10b0 : (a0_1 != a1_1) = false := by simpa using c10
   (try (have c10b1 : decide (a0_1 = a1_1) = true := by simpa using c10))
   (try (have c10b2 : (a0_1 == a1_1) = true := by simpa using c10))
   (try (have c10b5 : (!(a0_1 == a1_1)) = false := by rw [c10b2]; rfl))
   clear c10
   by_cases c14 : a0_2 = a1_2
   ·rw [if_pos c14] at H
    have c14b0 : (a0_2 == a1_2) = true := beq_iff_eq.mpr c14
    have c14b1 : (a0_2 != a1_2) = false := bne_eq_false_iff_eq.mpr c14
    clear c14
    obtain ⟨t511, A15, H⟩ := bindE_ H
    have HC16 := aa_ H
    clear H
    have hnb17 := NB509_510.out
    have hnc17 := NB510_509.out
    have hcz18 := blk_cell BK509.out
    have hfz18 := blk_frozen BK509.out
    have hcz19 := blk_cell BK510.out
    have hfz19 := blk_frozen BK510.out
    go_upto_if 25 with (first | ((with_reducible refine gC_ 30 rfl ?_); refine goesC_ (some 24) Try.func30 #[.slice A0_3 l0_3.length c0_3, .slice A1_3 l1_3.length c1_3] ?_; (with_reducible refine (laws_eqIntS.calls k _ _ l0_3 _ _ l1_3 t511 _ ?side1 ?side2 ?side3 ?side4 A15.out).mono ?_); (case side1 => repeat (first | exact (Kd.C_below HR0_3.out HB.out) | (with_reducible refine Kd.C_alloc ?_ _) | (with_reducible refine Kd.C_drewN ?_ _) | (with_reducible refine Kd.C_drew ?_))); (case side2 => exact HC0_3.out); (case side3 => repeat (first | exact (Kd.C_below HR1_3.out HB.out) | (with_reducible refine Kd.C_alloc ?_ _) | (with_reducible refine Kd.C_drewN ?_ _) | (with_reducible refine Kd.C_drew ?_))); (case side4 => exact HC1_3.out); rintro e w' ⟨rfl, ⟨nd, rfl⟩⟩; refine ⟨_, rfl, ?_⟩))
    (try simp only [Act.put, List.setIfInBounds_toArray, List.set_cons_zero, List.set_cons_succ])
    have H := HC16.out
    clear HC16
    by_cases c20 : t511 = true
    ·subst c20
     replace H := ite_t_ H
     obtain ⟨t512, A21, H⟩ := bindE_ H
     have HC22 := aa_ H
     clear H
     have hnb23 := NB509_510.out
     have hnc23 := NB510_509.out
     have hcz24 := blk_cell BK509.out
     have hfz24 := blk_frozen BK509.out
     have hcz25 := blk_cell BK510.out
     have hfz25 := blk_frozen BK510.out
     go_upto_if 31 with (first | ((with_reducible refine gC_ 30 rfl ?_); refine goesC_ (some 30) Try.func30 #[.slice A0_4 l0_4.length c0_4, .slice A1_4 l1_4.length c1_4] ?_; (with_reducible refine (laws_eqIntS.calls k _ _ l0_4 _ _ l1_4 t512 _ ?side1 ?side2 ?side3 ?side4 A21.out).mono ?_); (case side1 => repeat (first | exact (Kd.C_below HR0_4.out HB.out) | (with_reducible refine Kd.C_alloc ?_ _) | (with_reducible refine Kd.C_drewN ?_ _) | (with_reducible refine Kd.C_drew ?_))); (case side2 => exact HC0_4.out); (case side3 => repeat (first | exact (Kd.C_below HR1_4.out HB.out) | (with_reducible refine Kd.C_alloc ?_ _) | (with_reducible refine Kd.C_drewN ?_ _) | (with_reducible refine Kd.C_drew ?_))); (case side4 => exact HC1_4.out); rintro e w' ⟨rfl, ⟨nd, rfl⟩⟩; refine ⟨_, rfl, ?_⟩))
     (try simp only [Act.put, List.setIfInBounds_toArray, List.set_cons_zero, List.set_cons_succ])
     have H := HC22.out
     clear HC22
     by_cases c26 : t512 = true
     ·subst c26
      replace H := ite_t_ H
      obtain ⟨t513, A27, H⟩ := bindE_ H
      have HC28 := aa_ H
      clear H
      have hnb29 := NB509_510.out
      have hnc29 := NB510_509.out
      have hcz30 := blk_cell BK509.out
      have hfz30 := blk_frozen BK509.out
      have hcz31 := blk_cell BK510.out
      have hfz31 := blk_frozen BK510.out
      go_upto_if 37 with (first | ((with_reducible refine gC_ 73 rfl ?_); refine goesC_ (some 36) Try.func73 #[.slice A0_5 l0_5.length c0_5, .slice A1_5 l1_5.length c1_5] ?_; (with_reducible refine (laws_eqShelfS.calls k _ _ l0_5 _ _ l1_5 t513 _ ?side1 ?side2 ?side3 ?side4 A27.out).mono ?_); (case side1 => repeat (first | exact (Kd.C_below HR0_5.out HB.out) | (with_reducible refine Kd.C_alloc ?_ _) | (with_reducible refine Kd.C_drewN ?_ _) | (with_reducible refine Kd.C_drew ?_))); (case side2 => exact HC0_5.out); (case side3 => repeat (first | exact (Kd.C_below HR1_5.out HB.out) | (with_reducible refine Kd.C_alloc ?_ _) | (with_reducible refine Kd.C_drewN ?_ _) | (with_reducible refine Kd.C_drew ?_))); (case side4 => exact HC1_5.out); rintro e w32 ⟨rfl, hb⟩; refine ⟨_, rfl, ?_⟩; replace BK509 := bkb_ BK509 hb; replace BK510 := bkb_ BK510 hb; replace HB := hbs_ hb; clear hb))
      (try simp only [Act.put, List.setIfInBounds_toArray, List.set_cons_zero, List.set_cons_succ])
      have H := HC28.out
      clear HC28
      by_cases c33 : t513 = true
      ·subst c33
       replace H := ite_t_ H
       obtain rfl := Option.some.inj H
       go_wp2
       go_ret
       exact ⟨eq_, bl_⟩
      ·replace c33 := Bool.eq_false_iff.mpr c33
       subst c33
       replace H := ite_f_ H
       obtain rfl := Option.some.inj H
       go_wp2
       go_ret
       exact ⟨eq_, bl_⟩
     ·replace c26 := Bool.eq_false_iff.mpr c26
      subst c26
      replace H := ite_f_ H
      obtain rfl := Option.some.inj H
      go_wp2
      go_ret
      exact ⟨eq_, bl_⟩
    ·replace c20 := Bool.eq_false_iff.mpr c20
     subst c20
     replace H := ite_f_ H
     obtain rfl := Option.some.inj H
     go_wp2
     go_ret
     exact ⟨eq_, bl_⟩
   ·rw [if_neg c14] at H
    have c14b0 : (a0_2 == a1_2) = false := beq_eq_false_iff_ne.mpr c14
    have c14b1 : (a0_2 != a1_2) = true := bne_iff_ne.mpr c14
    obtain rfl := Option.some.inj H
    have hnb34 := NB509_510.out
    have hnc34 := NB510_509.out
    have hcz35 := blk_cell BK509.out
    have hfz35 := blk_frozen BK509.out
    have hcz36 := blk_cell BK510.out
    have hfz36 := blk_frozen BK510.out
    go_wp2
    go_ret
    exact ⟨eq_, bl_⟩
 ·rw [if_neg c9] at H
  have c9b0 : (a0_0 == a1_0) = false := beq_eq_false_iff_ne.mpr c9
  have c9b1 : (a0_0 != a1_0) = true := bne_iff_ne.mpr c9
  (first | rw [c9b0] | (simp only [i64_w, i32_w]; rw [c9b0]) | skip)
  obtain rfl := Option.some.inj H
  go_wp2
  go_ret
  exact ⟨eq_, bl_⟩
def laws_eqPeerS.l0 : Nat → List (S107) → List (S107) → Int → Option (Bool)
 | 0, _, _, _ => none
 | k + 1, x0, x1, x5 => if x5 < (x0.length : Int) then (if 0 ≤ x5 then (if x5 < (x1.length : Int) then ((laws_eqPeer.f k ((rd_T107 x0 x5).f0) ((rd_T107 x0 x5).f1) ((rd_T107 x0 x5).f2) ((rd_T107 x0 x5).f3) ((rd_T107 x0 x5).f4) ((rd_T107 x0 x5).f5) ((rd_T107 x1 x5).f0) ((rd_T107 x1 x5).f1) ((rd_T107 x1 x5).f2) ((rd_T107 x1 x5).f3) ((rd_T107 x1 x5).f4) ((rd_T107 x1 x5).f5)).bind fun t516 => (if t516 = true then (laws_eqPeerS.l0 k x0 x1 (wrap64 (x5 + 1))) else (some false))) else (none)) else (none)) else (some true)
def laws_eqPeerS.f (k : Nat) (l0 : List (S107)) (l1 : List (S107)) : Option (Bool) := if (l0.length : Int) = (l1.length : Int) then (laws_eqPeerS.l0 k l0 l1 0) else (some false)
def laws_eqPeerS.T6 : Bool × List (List Nat × List Nat) := (true, [([], []), ([], []), ([0, 1], [0, 1]), ([2], [2]), ([], []), ([], []), ([4, 5], [4, 5]), ([6], [6]), ([3, 7], [3, 7]), ([8], [8])])
def laws_eqPeerS.B6 : List Nat := [0, 0, 3, 7, 0, 0, 48, 112, 255, 511]
theorem laws_eqPeerS.tab6 : rtab .any (opsOf Try.f46 6) = laws_eqPeerS.T6 := by kernel_rfl
theorem laws_eqPeerS.bits6 : waitsOk laws_eqPeerS.T6.2 laws_eqPeerS.B6 = true := by kernel_rfl
set_option maxHeartbeats 8000000 in
set_option maxRecDepth 100000 in
theorem laws_eqPeerS.calls (k : Nat) (A0 : Option Addr) (c0 : Nat) (l0 : List (S107)) (A1 : Option Addr) (c1 : Nat) (l1 : List (S107)) (r : Bool) (w : World) (hr0 : Kd.C k107 w A0 l0.length l0) (hc0 : l0.length ≤ c0) (hr1 : Kd.C k107 w A1 l1.length l1) (hc1 : l1.length ≤ c1) (h : laws_eqPeerS.f k l0 l1 = some r) :
  Calls Try.prog 46 #[.slice A0 l0.length c0, .slice A1 l1.length c1] w fun e w' => e = .returned (.bool r) ∧ Below w.heap.size w w' := by
 have hu107 := Try.underlying107
 have HR0 := aa_ hr0
 have HC0 := aa_ hc0
 clear hr0 hc0
 have HR1 := aa_ hr1
 have HC1 := aa_ hc1
 clear hr1 hc1
 have HB := aa_ (Below.refl w.heap.size w)
 have H : (if (l0.length : Int) = (l1.length : Int) then (laws_eqPeerS.l0 k l0 l1 0) else (some false)) = some r := h
 clear h
 by_cases c3 : (l0.length : Int) = (l1.length : Int)
 ·rw [if_pos c3] at H
  have c3b0 : ((l0.length : Int) == (l1.length : Int)) = true := beq_iff_eq.mpr c3
  have c3b1 : ((l0.length : Int) != (l1.length : Int)) = false := bne_eq_false_iff_eq.mpr c3
  have c3b2 : (l0.length == l1.length) = true := by first | simpa using c3 | (simp at c3 ⊢; omega)
  clear c3
  have H' := aa_ H
  clear H
  go_enter Try.func46, Try.ntmps46
  go_wp2
  go_loopg [5] k (fun kq v5 w' => ∃ (x5_1 : Int), v5 = .int .i64 x5_1 ∧ Aside0 (laws_eqPeerS.l0 kq l0 l1 x5_1 = some r) ∧ Aside0 (kq ≤ k) ∧ Aside0 (Below w.heap.size w w'))
  case atStart => exact ⟨(0), rf_, H', ⟨Nat.le_refl _⟩, ⟨bl_⟩⟩
  case round =>
   clear H'
   try clear c1
   try clear p2
   try clear c3
   try clear c3b0
   try clear c3b1
   try clear c3b2
   obtain ⟨x5_1, rfl, HA, HK1, HB⟩ := hrel
   cases gk with
   | zero => exact absurd HA.out (by simp [laws_eqPeerS.l0])
   | succ k1 =>
    have H := HA.out
    clear HA
    simp only [laws_eqPeerS.l0] at H
    by_cases c4 : x5_1 < (l0.length : Int)
    ·rw [if_pos c4] at H
     have c4b0 : decide (x5_1 < (l0.length : Int)) = true := decide_eq_true c4
     clear c4
     obtain ⟨c5b0, H⟩ := ifd_ H
     obtain ⟨c6b0, H⟩ := ifd_ H
     obtain ⟨t516, A7, H⟩ := bindE_ H
     have HC8 := aa_ H
     clear H
     try go_wp2
     replace HB := aa_ (below_drew1 HB.out)
     have p514 : 0 ≤ (x5_1 : Int) := od_
     have q514 : x5_1 < (l0.length : Int) := od_
     obtain ⟨ad514, A514_3, c514_3, A514_4, c514_4, A514_5, c514_5, e514, hx514_0, hx514_1, hx514_2, hx514_3, hx514_4, hx514_5, hl514_3, hi514_3, hl514_4, hi514_4, hl514_5, hi514_5⟩ := at_T107 HR0.out x5_1 p514 q514
     have hw514_5 := hx514_5
     have hw514_4 := hx514_4
     have hw514_3 := hx514_3
     have hw514_2 := hx514_2
     have hw514_1 := hx514_1
     have hw514_0 := hx514_0
     cases e514
     replace hx514_0 := cb_ HB hx514_0
     replace hx514_1 := cb_ HB hx514_1
     replace hx514_2 := cb_ HB hx514_2
     replace hx514_3 := cb_ HB hx514_3
     replace hx514_4 := cb_ HB hx514_4
     replace hx514_5 := cb_ HB hx514_5
     have HR514_3 := aa_ hi514_3
     have HC514_3 := aa_ hl514_3
     clear hi514_3 hl514_3
     have HR514_4 := aa_ hi514_4
     have HC514_4 := aa_ hl514_4
     clear hi514_4 hl514_4
     have HR514_5 := aa_ hi514_5
     have HC514_5 := aa_ hl514_5
     clear hi514_5 hl514_5
     replace p514 := eq_true p514
     replace q514 := eq_true q514
     have p515 : 0 ≤ (x5_1 : Int) := od_
     have q515 : x5_1 < (l1.length : Int) := od_
     obtain ⟨ad515, A515_3, c515_3, A515_4, c515_4, A515_5, c515_5, e515, hx515_0, hx515_1, hx515_2, hx515_3, hx515_4, hx515_5, hl515_3, hi515_3, hl515_4, hi515_4, hl515_5, hi515_5⟩ := at_T107 HR1.out x5_1 p515 q515
     have hw515_5 := hx515_5
     have hw515_4 := hx515_4
     have hw515_3 := hx515_3
     have hw515_2 := hx515_2
     have hw515_1 := hx515_1
     have hw515_0 := hx515_0
     cases e515
     replace hx515_0 := cb_ HB hx515_0
     replace hx515_1 := cb_ HB hx515_1
     replace hx515_2 := cb_ HB hx515_2
     replace hx515_3 := cb_ HB hx515_3
     replace hx515_4 := cb_ HB hx515_4
     replace hx515_5 := cb_ HB hx515_5
     have HR515_3 := aa_ hi515_3
     have HC515_3 := aa_ hl515_3
     clear hi515_3 hl515_3
     have HR515_4 := aa_ hi515_4
     have HC515_4 := aa_ hl515_4
     clear hi515_4 hl515_4
     have HR515_5 := aa_ hi515_5
     have HC515_5 := aa_ hl515_5
     clear hi515_5 hl515_5
     replace p515 := eq_true p515
     replace q515 := eq_true q515
     refine start_ (n := 10) (S := fun w' => w'.cell? (ad514.add ((x5_1).toNat * 6)) = some (.int .i64 ((rd_T107 l0 x5_1).f0)) ∧ w'.cell? ⟨(ad514.add ((x5_1).toNat * 6)).block, (ad514.add ((x5_1).toNat * 6)).off + 1, none⟩ = some (.bool ((rd_T107 l0 x5_1).f1)) ∧ w'.cell? ⟨(ad514.add ((x5_1).toNat * 6)).block, (ad514.add ((x5_1).toNat * 6)).off + 2, none⟩ = some (.int .i64 ((rd_T107 l0 x5_1).f2)) ∧ w'.cell? ⟨(ad514.add ((x5_1).toNat * 6)).block, (ad514.add ((x5_1).toNat * 6)).off + 3, none⟩ = some (.slice A514_3 ((rd_T107 l0 x5_1).f3).length c514_3) ∧ w'.cell? ⟨(ad514.add ((x5_1).toNat * 6)).block, (ad514.add ((x5_1).toNat * 6)).off + 4, none⟩ = some (.slice A514_4 ((rd_T107 l0 x5_1).f4).length c514_4) ∧ w'.cell? ⟨(ad514.add ((x5_1).toNat * 6)).block, (ad514.add ((x5_1).toNat * 6)).off + 5, none⟩ = some (.slice A514_5 ((rd_T107 l0 x5_1).f5).length c514_5) ∧ w'.cell? (ad515.add ((x5_1).toNat * 6)) = some (.int .i64 ((rd_T107 l1 x5_1).f0)) ∧ w'.cell? ⟨(ad515.add ((x5_1).toNat * 6)).block, (ad515.add ((x5_1).toNat * 6)).off + 1, none⟩ = some (.bool ((rd_T107 l1 x5_1).f1)) ∧ w'.cell? ⟨(ad515.add ((x5_1).toNat * 6)).block, (ad515.add ((x5_1).toNat * 6)).off + 2, none⟩ = some (.int .i64 ((rd_T107 l1 x5_1).f2)) ∧ w'.cell? ⟨(ad515.add ((x5_1).toNat * 6)).block, (ad515.add ((x5_1).toNat * 6)).off + 3, none⟩ = some (.slice A515_3 ((rd_T107 l1 x5_1).f3).length c515_3) ∧ w'.cell? ⟨(ad515.add ((x5_1).toNat * 6)).block, (ad515.add ((x5_1).toNat * 6)).off + 4, none⟩ = some (.slice A515_4 ((rd_T107 l1 x5_1).f4).length c515_4) ∧ w'.cell? ⟨(ad515.add ((x5_1).toNat * 6)).block, (ad515.add ((x5_1).toNat * 6)).off + 5, none⟩ = some (.slice A515_5 ((rd_T107 l1 x5_1).f5).length c515_5)) (ds := []) (ba_ 10 0) (by kernel_rfl) rfl rfl ⟨(cb_ HB hw514_0 :), (cb_ HB hw514_1 :), (cb_ HB hw514_2 :), (cb_ HB hw514_3 :), (cb_ HB hw514_4 :), (cb_ HB hw514_5 :), (cb_ HB hw515_0 :), (cb_ HB hw515_1 :), (cb_ HB hw515_2 :), (cb_ HB hw515_3 :), (cb_ HB hw515_4 :), (cb_ HB hw515_5 :)⟩ (fun hHeld => ?_); refine with_tabW laws_eqPeerS.tab6 laws_eqPeerS.bits6 (fun HT_ HW_ => ?_)
     generalize wr.drew = w9 at HB HR514_3 HR514_4 HR514_5 HR515_3 HR515_4 HR515_5 hx514_0 hx514_1 hx514_2 hx514_3 hx514_4 hx514_5 hx515_0 hx515_1 hx515_2 hx515_3 hx515_4 hx515_5 hHeld ⊢
     refine pureZ_ (i := 0) (some 17) (ba_ 10 1) (ao_ HT_) ?_
     refine pureZ_ (i := 1) (some 18) (ba_ 10 3) (ao_ HT_) ?_
     refine pureZ_ (i := 2) (some 19) (ba_ 10 7) (ao_ HT_) ?_
     refine pureZ_ (i := 4) (some 21) (ba_ 10 23) (ao_ HT_) ?_
     refine pureZ_ (i := 5) (some 22) (ba_ 10 55) (ao_ HT_) ?_
     refine pureZ_ (i := 6) (some 23) (ba_ 10 119) (ao_ HT_) ?_
     refine takeZ_ (i := 3) (some 20) (ba_ 10 127) (take_ofW HT_.out HW_.out (by kernel_rfl)) hHeld ?_
     refine takeZ_ (i := 7) (some 24) (ba_ 10 255) (take_ofW HT_.out HW_.out (by kernel_rfl)) hHeld ?_
     refine one_ (i := 8) (N := some 25) (ba_ 10 511) rfl rfl (one_of HT_.out (by kernel_rfl)) (by decide) (fun K hK => ?_)
     refine goes_ Try.func61 (by kernel_rfl) rfl #[.agg #[.int .i64 ((rd_T107 l0 x5_1).f0), .bool ((rd_T107 l0 x5_1).f1), .int .i64 ((rd_T107 l0 x5_1).f2), .slice A514_3 ((rd_T107 l0 x5_1).f3).length c514_3, .slice A514_4 ((rd_T107 l0 x5_1).f4).length c514_4, .slice A514_5 ((rd_T107 l0 x5_1).f5).length c514_5], .agg #[.int .i64 ((rd_T107 l1 x5_1).f0), .bool ((rd_T107 l1 x5_1).f1), .int .i64 ((rd_T107 l1 x5_1).f2), .slice A515_3 ((rd_T107 l1 x5_1).f3).length c515_3, .slice A515_4 ((rd_T107 l1 x5_1).f4).length c515_4, .slice A515_5 ((rd_T107 l1 x5_1).f5).length c515_5]] (by rfl) rfl rfl (by (try simp only [List.map_toArray, List.map_cons, List.map_nil]); first | done | rfl | (simp only [List.length_drop, List.length_take]; rfl)) ?_
     with_reducible refine (laws_eqPeer.calls k1 ((rd_T107 l0 x5_1).f0) ((rd_T107 l0 x5_1).f1) ((rd_T107 l0 x5_1).f2) _ _ ((rd_T107 l0 x5_1).f3) _ _ ((rd_T107 l0 x5_1).f4) _ _ ((rd_T107 l0 x5_1).f5) ((rd_T107 l1 x5_1).f0) ((rd_T107 l1 x5_1).f1) ((rd_T107 l1 x5_1).f2) _ _ ((rd_T107 l1 x5_1).f3) _ _ ((rd_T107 l1 x5_1).f4) _ _ ((rd_T107 l1 x5_1).f5) t516 _ ?side1 ?side2 ?side3 ?side4 ?side5 ?side6 ?side7 ?side8 ?side9 ?side10 ?side11 ?side12 A7.out).mono ?_
     (case side1 => repeat (first | exact (Kd.C_below HR514_3.out HB.out) | (with_reducible refine Kd.C_alloc ?_ _) | (with_reducible refine Kd.C_drewN ?_ _) | (with_reducible refine Kd.C_drew ?_)))
     (case side2 => exact HC514_3.out)
     (case side3 => repeat (first | exact (Kd.C_below HR514_4.out HB.out) | (with_reducible refine Kd.C_alloc ?_ _) | (with_reducible refine Kd.C_drewN ?_ _) | (with_reducible refine Kd.C_drew ?_)))
     (case side4 => exact HC514_4.out)
     (case side5 => repeat (first | exact (Kd.C_below HR514_5.out HB.out) | (with_reducible refine Kd.C_alloc ?_ _) | (with_reducible refine Kd.C_drewN ?_ _) | (with_reducible refine Kd.C_drew ?_)))
     (case side6 => exact HC514_5.out)
     (case side7 => repeat (first | exact (Kd.C_below HR515_3.out HB.out) | (with_reducible refine Kd.C_alloc ?_ _) | (with_reducible refine Kd.C_drewN ?_ _) | (with_reducible refine Kd.C_drew ?_)))
     (case side8 => exact HC515_3.out)
     (case side9 => repeat (first | exact (Kd.C_below HR515_4.out HB.out) | (with_reducible refine Kd.C_alloc ?_ _) | (with_reducible refine Kd.C_drewN ?_ _) | (with_reducible refine Kd.C_drew ?_)))
     (case side10 => exact HC515_4.out)
     (case side11 => repeat (first | exact (Kd.C_below HR515_5.out HB.out) | (with_reducible refine Kd.C_alloc ?_ _) | (with_reducible refine Kd.C_drewN ?_ _) | (with_reducible refine Kd.C_drew ?_)))
     (case side12 => exact HC515_5.out)
     rintro e w10 ⟨rfl, hb⟩
     refine ⟨_, rfl, ?_⟩
     replace HB := hbs_ hb
     (try clear hb)
     (try clear hb2)
     (try clear hk)
     (try clear hi)
     refine hK.out _ _ ⟨(cb_ HB hw514_0 :), (cb_ HB hw514_1 :), (cb_ HB hw514_2 :), (cb_ HB hw514_3 :), (cb_ HB hw514_4 :), (cb_ HB hw514_5 :), (cb_ HB hw515_0 :), (cb_ HB hw515_1 :), (cb_ HB hw515_2 :), (cb_ HB hw515_3 :), (cb_ HB hw515_4 :), (cb_ HB hw515_5 :)⟩ (fun hHeld => ?_)
     clear hK K
     refine norm_ (a' := ?_) ?_ ?_
     rotate_left
     ·show Act.put _ (some 25) _ = _
      simp only [Act.put, List.setIfInBounds_toArray, List.set_cons_zero, List.set_cons_succ, i64_w, i32_w]
      rfl
     refine pureZ_ (i := 9) (some 26) (ba_ 10 1023) (ao_ HT_) ?_
     refine done_ (done_of HT_.out (by kernel_rfl)) ?_
     go_upto_if 26 with (fail)
     have H := HC8.out
     clear HC8
     by_cases c11 : t516 = true
     ·subst c11
      replace H := ite_t_ H
      have H' := aa_ H
      clear H
      go_wp2
      go_roundg k1
      case measure => have := HK1.out; omega
      case rel => exact ⟨(wrap64 (x5_1 + 1)), rf_, H', ⟨by have := HK1.out; omega⟩, ⟨bl_⟩⟩
     ·replace c11 := Bool.eq_false_iff.mpr c11
      subst c11
      replace H := ite_f_ H
      obtain rfl := Option.some.inj H
      go_wp2
      go_ret
      exact ⟨eq_, bl_⟩
    ·rw [if_neg c4] at H
     have c4b0 : decide (x5_1 < (l0.length : Int)) = false := decide_eq_false c4
     clear c4
     obtain rfl := Option.some.inj H
     go_wp2
     go_ret
     exact ⟨eq_, bl_⟩
 ·rw [if_neg c3] at H
  have c3b0 : ((l0.length : Int) == (l1.length : Int)) = false := beq_eq_false_iff_ne.mpr c3
  have c3b1 : ((l0.length : Int) != (l1.length : Int)) = true := bne_iff_ne.mpr c3
  have c3b2 : (l0.length == l1.length) = false := by first | simpa using c3 | (simp at c3 ⊢; omega)
  obtain rfl := Option.some.inj H
  go_enter Try.func46, Try.ntmps46
  go_wp2
  go_ret
  exact ⟨eq_, bl_⟩
def laws_eqRing.f (k : Nat) (l0_0 : List (S107)) (l1_0 : List (S107)) : Option (Bool) := (laws_eqPeerS.f k l0_0 l1_0).bind fun t519 => (if t519 = true then (some true) else (some false))
set_option maxHeartbeats 8000000 in
set_option maxRecDepth 100000 in
theorem laws_eqRing.calls (k : Nat) (A0_0 : Option Addr) (c0_0 : Nat) (l0_0 : List (S107)) (A1_0 : Option Addr) (c1_0 : Nat) (l1_0 : List (S107)) (r : Bool) (w : World) (hr0_0 : Kd.C k107 w A0_0 l0_0.length l0_0) (hc0_0 : l0_0.length ≤ c0_0) (hr1_0 : Kd.C k107 w A1_0 l1_0.length l1_0) (hc1_0 : l1_0.length ≤ c1_0) (h : laws_eqRing.f k l0_0 l1_0 = some r) :
  Calls Try.prog 29 #[.agg #[.slice A0_0 l0_0.length c0_0], .agg #[.slice A1_0 l1_0.length c1_0]] w fun e w' => e = .returned (.bool r) ∧ Below w.heap.size w w' := by
 have hu35 := Try.underlying35
 have HR0_0 := aa_ hr0_0
 have HC0_0 := aa_ hc0_0
 clear hr0_0 hc0_0
 have HR1_0 := aa_ hr1_0
 have HC1_0 := aa_ hc1_0
 clear hr1_0 hc1_0
 have HB := aa_ (Below.refl w.heap.size w)
 have H : ((laws_eqPeerS.f k l0_0 l1_0).bind fun t519 => (if t519 = true then (some true) else (some false))) = some r := h
 clear h
 obtain ⟨t519, A3, H⟩ := bindE_ H
 have HC4 := aa_ H
 clear H
 go_enter Try.func29, Try.ntmps29
 go_upto_if 10 with (first | ((with_reducible refine gD_ 2 rfl ?_); refine bx_ (N := 2) (cs := #[.slice A0_0 l0_0.length c0_0]) (t := 35) ?_; intro gb517 hg w5 hbox hb; have BK517 := aa_ (hbox); have GW517 := gs_ hg; have GE517 := gs_ hg; replace HB := hbs_ hb; clear hb hbox hg) | ((with_reducible refine gD_ 3 rfl ?_); refine bx_ (N := 3) (cs := #[.slice A1_0 l1_0.length c1_0]) (t := 35) ?_; intro gb518 hg w6 hbox hb; have BK518 := aa_ (hbox); have GW518 := gs_ hg; have GE518 := gs_ hg; replace HB := hbs_ hb; have NB517_518 := nl_ hg BK517; have NB518_517 := nr_ hg BK517; replace BK517 := bkb_ BK517 hb; clear hb hbox hg; have hnb7 := NB517_518.out; have hnc7 := NB518_517.out; obtain ⟨hcz8, hfz8⟩ := bcf_ BK517; obtain ⟨hcz9, hfz9⟩ := bcf_ BK518) | ((with_reducible refine gC_ 46 rfl ?_); refine goesC_ (some 9) Try.func46 #[.slice A0_0 l0_0.length c0_0, .slice A1_0 l1_0.length c1_0] ?_; (with_reducible refine (laws_eqPeerS.calls k _ _ l0_0 _ _ l1_0 t519 _ ?side1 ?side2 ?side3 ?side4 A3.out).mono ?_); (case side1 => repeat (first | exact (Kd.C_below HR0_0.out HB.out) | (with_reducible refine Kd.C_alloc ?_ _) | (with_reducible refine Kd.C_drewN ?_ _) | (with_reducible refine Kd.C_drew ?_))); (case side2 => exact HC0_0.out); (case side3 => repeat (first | exact (Kd.C_below HR1_0.out HB.out) | (with_reducible refine Kd.C_alloc ?_ _) | (with_reducible refine Kd.C_drewN ?_ _) | (with_reducible refine Kd.C_drew ?_))); (case side4 => exact HC1_0.out); rintro e w10 ⟨rfl, hb⟩; refine ⟨_, rfl, ?_⟩; replace BK517 := bkb_ BK517 hb; replace BK518 := bkb_ BK518 hb; replace HB := hbs_ hb; clear hb))
 (try simp only [Act.put, List.setIfInBounds_toArray, List.set_cons_zero, List.set_cons_succ])
 have H := HC4.out
 clear HC4
 by_cases c11 : t519 = true
 ·subst c11
  replace H := ite_t_ H
  obtain rfl := Option.some.inj H
  go_wp2
  go_ret
  exact ⟨eq_, bl_⟩
 ·replace c11 := Bool.eq_false_iff.mpr c11
  subst c11
  replace H := ite_f_ H
  obtain rfl := Option.some.inj H
  go_wp2
  go_ret
  exact ⟨eq_, bl_⟩
def laws_eqRole.f (a0_0 : Int) (a0_1 : Int) (a1_0 : Int) (a1_1 : Int) : Option (Bool) := if a0_0 = a1_0 then (if a0_1 = a1_1 then (some true) else (some false)) else (some false)
set_option maxHeartbeats 8000000 in
set_option maxRecDepth 100000 in
theorem laws_eqRole.calls (a0_0 : Int) (a0_1 : Int) (a1_0 : Int) (a1_1 : Int) (r : Bool) (w : World) (h : laws_eqRole.f a0_0 a0_1 a1_0 a1_1 = some r) :
  Calls Try.prog 62 #[.agg #[.int .i64 a0_0, .int .i64 a0_1], .agg #[.int .i64 a1_0, .int .i64 a1_1]] w fun e w' => e = .returned (.bool r) ∧ Below w.heap.size w w' := by
 have hu55 := Try.underlying55
 have HB := aa_ (Below.refl w.heap.size w)
 have H : (if a0_0 = a1_0 then (if a0_1 = a1_1 then (some true) else (some false)) else (some false)) = some r := h
 clear h
 have HC3 := aa_ H
 clear H
 go_enter Try.func62, Try.ntmps62
 go_upto_if 9 with (first | ((with_reducible refine gD_ 2 rfl ?_); refine bx_ (N := 2) (cs := #[.int .i64 a0_0, .int .i64 a0_1]) (t := 55) ?_; intro gb520 hg w4 hbox hb; have BK520 := aa_ (hbox); have GW520 := gs_ hg; have GE520 := gs_ hg; replace HB := hbs_ hb; clear hb hbox hg) | ((with_reducible refine gD_ 3 rfl ?_); refine bx_ (N := 3) (cs := #[.int .i64 a1_0, .int .i64 a1_1]) (t := 55) ?_; intro gb521 hg w5 hbox hb; have BK521 := aa_ (hbox); have GW521 := gs_ hg; have GE521 := gs_ hg; replace HB := hbs_ hb; have NB520_521 := nl_ hg BK520; have NB521_520 := nr_ hg BK520; replace BK520 := bkb_ BK520 hb; clear hb hbox hg; have hnb6 := NB520_521.out; have hnc6 := NB521_520.out; obtain ⟨hcz7, hfz7⟩ := bcf_ BK520; obtain ⟨hcz8, hfz8⟩ := bcf_ BK521))
 (try simp only [Act.put, List.setIfInBounds_toArray, List.set_cons_zero, List.set_cons_succ])
 have H := HC3.out
 clear HC3
 by_cases c9 : a0_0 = a1_0
 ·rw [if_pos c9] at H
  have c9b0 : (a0_0 == a1_0) = true := beq_iff_eq.mpr c9
  have c9b1 : (a0_0 != a1_0) = false := bne_eq_false_iff_eq.mpr c9
  clear c9
  (first | rw [c9b0] | (simp only [i64_w, i32_w]; rw [c9b0]) | skip)
  by_cases c10 : a0_1 = a1_1
  ·rw [if_pos c10] at H
   have c10b0 : (a0_1 == a1_1) = true := beq_iff_eq.mpr c10
   have c10b1 : (a0_1 != a1_1) = false := bne_eq_false_iff_eq.mpr c10
   clear c10
   obtain rfl := Option.some.inj H
   have hnb11 := NB520_521.out
   have hnc11 := NB521_520.out
   have hcz12 := blk_cell BK520.out
   have hfz12 := blk_frozen BK520.out
   have hcz13 := blk_cell BK521.out
   have hfz13 := blk_frozen BK521.out
   go_wp2
   go_ret
   exact ⟨eq_, bl_⟩
  ·rw [if_neg c10] at H
   have c10b0 : (a0_1 == a1_1) = false := beq_eq_false_iff_ne.mpr c10
   have c10b1 : (a0_1 != a1_1) = true := bne_iff_ne.mpr c10
   obtain rfl := Option.some.inj H
   have hnb14 := NB520_521.out
   have hnc14 := NB521_520.out
   have hcz15 := blk_cell BK520.out
   have hfz15 := blk_frozen BK520.out
   have hcz16 := blk_cell BK521.out
   have hfz16 := blk_frozen BK521.out
   go_wp2
   go_ret
   exact ⟨eq_, bl_⟩
 ·rw [if_neg c9] at H
  have c9b0 : (a0_0 == a1_0) = false := beq_eq_false_iff_ne.mpr c9
  have c9b1 : (a0_0 != a1_0) = true := bne_iff_ne.mpr c9
  (first | rw [c9b0] | (simp only [i64_w, i32_w]; rw [c9b0]) | skip)
  obtain rfl := Option.some.inj H
  go_wp2
  go_ret
  exact ⟨eq_, bl_⟩
def laws_eqCred.f (a0_0 : Int) (a0_1 : Int) (a0_2 : Int) (a0_3 : Int) (a0_4 : Int) (a0_5 : Int) (a0_6 : Int) (a0_7 : Int) (a0_8 : Int) (a0_9 : Int) (a1_0 : Int) (a1_1 : Int) (a1_2 : Int) (a1_3 : Int) (a1_4 : Int) (a1_5 : Int) (a1_6 : Int) (a1_7 : Int) (a1_8 : Int) (a1_9 : Int) : Option (Bool) := if a0_0 = a1_0 then ((laws_eqRole.f a0_1 a0_2 a1_1 a1_2).bind fun t524 => (if t524 = true then (if a0_3 = a1_3 then ((laws_eqRole.f a0_4 a0_5 a1_4 a1_5).bind fun t525 => (if t525 = true then ((laws_eqRole.f a0_6 a0_7 a1_6 a1_7).bind fun t526 => (if t526 = true then (if a0_8 = a1_8 then (if a0_9 = a1_9 then (some true) else (some false)) else (some false)) else (some false))) else (some false))) else (some false)) else (some false))) else (some false)
set_option maxHeartbeats 8000000 in
set_option maxRecDepth 100000 in
theorem laws_eqCred.calls (a0_0 : Int) (a0_1 : Int) (a0_2 : Int) (a0_3 : Int) (a0_4 : Int) (a0_5 : Int) (a0_6 : Int) (a0_7 : Int) (a0_8 : Int) (a0_9 : Int) (a1_0 : Int) (a1_1 : Int) (a1_2 : Int) (a1_3 : Int) (a1_4 : Int) (a1_5 : Int) (a1_6 : Int) (a1_7 : Int) (a1_8 : Int) (a1_9 : Int) (r : Bool) (w : World) (h : laws_eqCred.f a0_0 a0_1 a0_2 a0_3 a0_4 a0_5 a0_6 a0_7 a0_8 a0_9 a1_0 a1_1 a1_2 a1_3 a1_4 a1_5 a1_6 a1_7 a1_8 a1_9 = some r) :
  Calls Try.prog 47 #[.agg #[.int .i64 a0_0, .int .i64 a0_1, .int .i64 a0_2, .int .i64 a0_3, .int .i64 a0_4, .int .i64 a0_5, .int .i64 a0_6, .int .i64 a0_7, .int .i64 a0_8, .int .i64 a0_9], .agg #[.int .i64 a1_0, .int .i64 a1_1, .int .i64 a1_2, .int .i64 a1_3, .int .i64 a1_4, .int .i64 a1_5, .int .i64 a1_6, .int .i64 a1_7, .int .i64 a1_8, .int .i64 a1_9]] w fun e w' => e = .returned (.bool r) ∧ Below w.heap.size w w' := by
 have hu61 := Try.underlying61
 have hu55 := Try.underlying55
 have HB := aa_ (Below.refl w.heap.size w)
 have H : (if a0_0 = a1_0 then ((laws_eqRole.f a0_1 a0_2 a1_1 a1_2).bind fun t524 => (if t524 = true then (if a0_3 = a1_3 then ((laws_eqRole.f a0_4 a0_5 a1_4 a1_5).bind fun t525 => (if t525 = true then ((laws_eqRole.f a0_6 a0_7 a1_6 a1_7).bind fun t526 => (if t526 = true then (if a0_8 = a1_8 then (if a0_9 = a1_9 then (some true) else (some false)) else (some false)) else (some false))) else (some false))) else (some false)) else (some false))) else (some false)) = some r := h
 clear h
 have HC3 := aa_ H
 clear H
 go_enter Try.func47, Try.ntmps47
 go_upto_if 9 with (first | ((with_reducible refine gD_ 2 rfl ?_); refine bx_ (N := 2) (cs := #[.int .i64 a0_0, .int .i64 a0_1, .int .i64 a0_2, .int .i64 a0_3, .int .i64 a0_4, .int .i64 a0_5, .int .i64 a0_6, .int .i64 a0_7, .int .i64 a0_8, .int .i64 a0_9]) (t := 61) ?_; intro gb522 hg w4 hbox hb; have BK522 := aa_ (hbox); have GW522 := gs_ hg; have GE522 := gs_ hg; replace HB := hbs_ hb; clear hb hbox hg) | ((with_reducible refine gD_ 3 rfl ?_); refine bx_ (N := 3) (cs := #[.int .i64 a1_0, .int .i64 a1_1, .int .i64 a1_2, .int .i64 a1_3, .int .i64 a1_4, .int .i64 a1_5, .int .i64 a1_6, .int .i64 a1_7, .int .i64 a1_8, .int .i64 a1_9]) (t := 61) ?_; intro gb523 hg w5 hbox hb; have BK523 := aa_ (hbox); have GW523 := gs_ hg; have GE523 := gs_ hg; replace HB := hbs_ hb; have NB522_523 := nl_ hg BK522; have NB523_522 := nr_ hg BK522; replace BK522 := bkb_ BK522 hb; clear hb hbox hg; have hnb6 := NB522_523.out; have hnc6 := NB523_522.out; obtain ⟨hcz7, hfz7⟩ := bcf_ BK522; obtain ⟨hcz8, hfz8⟩ := bcf_ BK523))
 (try simp only [Act.put, List.setIfInBounds_toArray, List.set_cons_zero, List.set_cons_succ])
 have H := HC3.out
 clear HC3
 by_cases c9 : a0_0 = a1_0
 ·rw [if_pos c9] at H
  have c9b0 : (a0_0 == a1_0) = true := beq_iff_eq.mpr c9
  have c9b1 : (a0_0 != a1_0) = false := bne_eq_false_iff_eq.mpr c9
  clear c9
  (first | rw [c9b0] | (simp only [i64_w, i32_w]; rw [c9b0]) | skip)
  obtain ⟨t524, A10, H⟩ := bindE_ H
  have HC11 := aa_ H
  clear H
  have hnb12 := NB522_523.out
  have hnc12 := NB523_522.out
  have hcz13 := blk_cell BK522.out
  have hfz13 := blk_frozen BK522.out
  have hcz14 := blk_cell BK523.out
  have hfz14 := blk_frozen BK523.out
  go_upto_if 15 with (first | ((with_reducible refine gC_ 62 rfl ?_); refine goesC_ (some 14) Try.func62 #[.agg #[.int .i64 a0_1, .int .i64 a0_2], .agg #[.int .i64 a1_1, .int .i64 a1_2]] ?_; (with_reducible refine (laws_eqRole.calls a0_1 a0_2 a1_1 a1_2 t524 _ A10.out).mono ?_); rintro e w15 ⟨rfl, hb⟩; refine ⟨_, rfl, ?_⟩; replace BK522 := bkb_ BK522 hb; replace BK523 := bkb_ BK523 hb; replace HB := hbs_ hb; clear hb))
  (try simp only [Act.put, List.setIfInBounds_toArray, List.set_cons_zero, List.set_cons_succ])
  have H := HC11.out
  clear HC11
  by_cases c16 : t524 = true
  ·subst c16
   replace H := ite_t_ H
   by_cases c17 : a0_3 = a1_3
   ·rw [if_pos c17] at H
    have c17b0 : (a0_3 == a1_3) = true := beq_iff_eq.mpr c17
    have c17b1 : (a0_3 != a1_3) = false := bne_eq_false_iff_eq.mpr c17
    clear c17
    (first | rw [c17b0] | (simp only [i64_w, i32_w]; rw [c17b0]) | skip)
    obtain ⟨t525, A18, H⟩ := bindE_ H
    have HC19 := aa_ H
    clear H
    have hnb20 := NB522_523.out
    have hnc20 := NB523_522.out
    have hcz21 := blk_cell BK522.out
    have hfz21 := blk_frozen BK522.out
    have hcz22 := blk_cell BK523.out
    have hfz22 := blk_frozen BK523.out
    go_upto_if 26 with (first | ((with_reducible refine gC_ 62 rfl ?_); refine goesC_ (some 25) Try.func62 #[.agg #[.int .i64 a0_4, .int .i64 a0_5], .agg #[.int .i64 a1_4, .int .i64 a1_5]] ?_; (with_reducible refine (laws_eqRole.calls a0_4 a0_5 a1_4 a1_5 t525 _ A18.out).mono ?_); rintro e w23 ⟨rfl, hb⟩; refine ⟨_, rfl, ?_⟩; replace BK522 := bkb_ BK522 hb; replace BK523 := bkb_ BK523 hb; replace HB := hbs_ hb; clear hb))
    (try simp only [Act.put, List.setIfInBounds_toArray, List.set_cons_zero, List.set_cons_succ])
    have H := HC19.out
    clear HC19
    by_cases c24 : t525 = true
    ·subst c24
     replace H := ite_t_ H
     obtain ⟨t526, A25, H⟩ := bindE_ H
     have HC26 := aa_ H
     clear H
     have hnb27 := NB522_523.out
     have hnc27 := NB523_522.out
     have hcz28 := blk_cell BK522.out
     have hfz28 := blk_frozen BK522.out
     have hcz29 := blk_cell BK523.out
     have hfz29 := blk_frozen BK523.out
     go_upto_if 32 with (first | ((with_reducible refine gC_ 62 rfl ?_); refine goesC_ (some 31) Try.func62 #[.agg #[.int .i64 a0_6, .int .i64 a0_7], .agg #[.int .i64 a1_6, .int .i64 a1_7]] ?_; (with_reducible refine (laws_eqRole.calls a0_6 a0_7 a1_6 a1_7 t526 _ A25.out).mono ?_); rintro e w30 ⟨rfl, hb⟩; refine ⟨_, rfl, ?_⟩; replace BK522 := bkb_ BK522 hb; replace BK523 := bkb_ BK523 hb; replace HB := hbs_ hb; clear hb))
     (try simp only [Act.put, List.setIfInBounds_toArray, List.set_cons_zero, List.set_cons_succ])
     have H := HC26.out
     clear HC26
     by_cases c31 : t526 = true
     ·subst c31
      replace H := ite_t_ H
      by_cases c32 : a0_8 = a1_8
      ·rw [if_pos c32] at H
       have c32b0 : (a0_8 == a1_8) = true := beq_iff_eq.mpr c32
       have c32b1 : (a0_8 != a1_8) = false := bne_eq_false_iff_eq.mpr c32
       clear c32
       (first | rw [c32b0] | (simp only [i64_w, i32_w]; rw [c32b0]) | skip)
       by_cases c33 : a0_9 = a1_9
       ·rw [if_pos c33] at H
        have c33b0 : (a0_9 == a1_9) = true := beq_iff_eq.mpr c33
        have c33b1 : (a0_9 != a1_9) = false := bne_eq_false_iff_eq.mpr c33
        clear c33
        obtain rfl := Option.some.inj H
        have hnb34 := NB522_523.out
        have hnc34 := NB523_522.out
        have hcz35 := blk_cell BK522.out
        have hfz35 := blk_frozen BK522.out
        have hcz36 := blk_cell BK523.out
        have hfz36 := blk_frozen BK523.out
        go_wp2
        go_ret
        exact ⟨eq_, bl_⟩
       ·rw [if_neg c33] at H
        have c33b0 : (a0_9 == a1_9) = false := beq_eq_false_iff_ne.mpr c33
        have c33b1 : (a0_9 != a1_9) = true := bne_iff_ne.mpr c33
        obtain rfl := Option.some.inj H
        have hnb37 := NB522_523.out
        have hnc37 := NB523_522.out
        have hcz38 := blk_cell BK522.out
        have hfz38 := blk_frozen BK522.out
        have hcz39 := blk_cell BK523.out
        have hfz39 := blk_frozen BK523.out
        go_wp2
        go_ret
        exact ⟨eq_, bl_⟩
      ·rw [if_neg c32] at H
       have c32b0 : (a0_8 == a1_8) = false := beq_eq_false_iff_ne.mpr c32
       have c32b1 : (a0_8 != a1_8) = true := bne_iff_ne.mpr c32
       (first | rw [c32b0] | (simp only [i64_w, i32_w]; rw [c32b0]) | skip)
       obtain rfl := Option.some.inj H
       have hnb40 := NB522_523.out
       have hnc40 := NB523_522.out
       have hcz41 := blk_cell BK522.out
       have hfz41 := blk_frozen BK522.out
       have hcz42 := blk_cell BK523.out
       have hfz42 := blk_frozen BK523.out
       go_wp2
       go_ret
       exact ⟨eq_, bl_⟩
     ·replace c31 := Bool.eq_false_iff.mpr c31
      subst c31
      replace H := ite_f_ H
      obtain rfl := Option.some.inj H
      go_wp2
      go_ret
      exact ⟨eq_, bl_⟩
    ·replace c24 := Bool.eq_false_iff.mpr c24
     subst c24
     replace H := ite_f_ H
     obtain rfl := Option.some.inj H
     go_wp2
     go_ret
     exact ⟨eq_, bl_⟩
   ·rw [if_neg c17] at H
    have c17b0 : (a0_3 == a1_3) = false := beq_eq_false_iff_ne.mpr c17
    have c17b1 : (a0_3 != a1_3) = true := bne_iff_ne.mpr c17
    (first | rw [c17b0] | (simp only [i64_w, i32_w]; rw [c17b0]) | skip)
    obtain rfl := Option.some.inj H
    have hnb43 := NB522_523.out
    have hnc43 := NB523_522.out
    have hcz44 := blk_cell BK522.out
    have hfz44 := blk_frozen BK522.out
    have hcz45 := blk_cell BK523.out
    have hfz45 := blk_frozen BK523.out
    go_wp2
    go_ret
    exact ⟨eq_, bl_⟩
  ·replace c16 := Bool.eq_false_iff.mpr c16
   subst c16
   replace H := ite_f_ H
   obtain rfl := Option.some.inj H
   go_wp2
   go_ret
   exact ⟨eq_, bl_⟩
 ·rw [if_neg c9] at H
  have c9b0 : (a0_0 == a1_0) = false := beq_eq_false_iff_ne.mpr c9
  have c9b1 : (a0_0 != a1_0) = true := bne_iff_ne.mpr c9
  (first | rw [c9b0] | (simp only [i64_w, i32_w]; rw [c9b0]) | skip)
  obtain rfl := Option.some.inj H
  go_wp2
  go_ret
  exact ⟨eq_, bl_⟩
end Go.Proofs.Ytcnjbkfnijnpnaa.PA
