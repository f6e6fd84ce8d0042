import Derived.Test.YtkimdmdkldlhpaaKCPAx6
import Derived.Test.YtkimdmdkldlhpaaKCPAx14
-- printed by wip/tools
namespace Go.Proofs.Ytkimdmdkldlhpaa.PA
open Go.RowKit Go.Proofs.YtkimdmdkldlhpaaW.PrintWords Go.Proofs.YtkimdmdkldlhpaaW.PrintLast Go.Proofs.YtkimdmdkldlhpaaW.PrintMore
attribute [local go_sem] max2_int min2_int max_two min_two max_three min_three max_four min_four
set_option linter.unusedVariables false
set_option linter.unusedSimpArgs false
def laws_eqShelfS.l0 : Nat → List (S61) → List (S61) → Int → Option (Bool)
 | 0, _, _, _ => none
 | k + 1, x0, x1, x5 => if x5 < (x0.length : Int) then (if 0 ≤ x5 then (if x5 < (x1.length : Int) then ((laws_eqShelf.f k ((rd_T61 x0 x5).f0) ((rd_T61 x0 x5).f1) ((rd_T61 x1 x5).f0) ((rd_T61 x1 x5).f1)).bind fun t505 => (if t505 = true then (laws_eqShelfS.l0 k x0 x1 (wrap64 (x5 + 1))) else (some false))) else (none)) else (none)) else (some true)
def laws_eqShelfS.f (k : Nat) (l0 : List (S61)) (l1 : List (S61)) : Option (Bool) := if (l0.length : Int) = (l1.length : Int) then (laws_eqShelfS.l0 k l0 l1 0) else (some false)
def laws_eqShelfS.T6 : Bool × List (List Nat × List Nat) := (true, [([], []), ([], []), ([0, 1], [0, 1]), ([2], [2]), ([], []), ([], []), ([4, 5], [4, 5]), ([6], [6]), ([3, 7], [3, 7]), ([8], [8])])
def laws_eqShelfS.B6 : List Nat := [0, 0, 3, 7, 0, 0, 48, 112, 255, 511]
theorem laws_eqShelfS.tab6 : rtab .any (opsOf Try.f59 6) = laws_eqShelfS.T6 := by kernel_rfl
theorem laws_eqShelfS.bits6 : waitsOk laws_eqShelfS.T6.2 laws_eqShelfS.B6 = true := by kernel_rfl
set_option maxHeartbeats 8000000 in
set_option maxRecDepth 100000 in
theorem laws_eqShelfS.calls (k : Nat) (A0 : Option Addr) (c0 : Nat) (l0 : List (S61)) (A1 : Option Addr) (c1 : Nat) (l1 : List (S61)) (r : Bool) (w : World) (hr0 : Kd.C k61 w A0 l0.length l0) (hc0 : l0.length ≤ c0) (hr1 : Kd.C k61 w A1 l1.length l1) (hc1 : l1.length ≤ c1) (h : laws_eqShelfS.f k l0 l1 = some r) :
  Calls Try.prog 59 #[.slice A0 l0.length c0, .slice A1 l1.length c1] w fun e w' => e = .returned (.bool r) ∧ Below w.heap.size w w' := by
 have hu61 := Try.underlying61
 have HR0 := aa_ hr0
 have HC0 := aa_ hc0
 clear hr0 hc0
 have HR1 := aa_ hr1
 have HC1 := aa_ hc1
 clear hr1 hc1
 have HB := aa_ (Below.refl w.heap.size w)
 have H : (if (l0.length : Int) = (l1.length : Int) then (laws_eqShelfS.l0 k l0 l1 0) else (some false)) = some r := h
 clear h
 by_cases c3 : (l0.length : Int) = (l1.length : Int)
 ·rw [if_pos c3] at H
  have c3b0 : ((l0.length : Int) == (l1.length : Int)) = true := beq_iff_eq.mpr c3
  have c3b1 : ((l0.length : Int) != (l1.length : Int)) = false := bne_eq_false_iff_eq.mpr c3
  have c3b2 : (l0.length == l1.length) = true := by first | simpa using c3 | (simp at c3 ⊢; omega)
  clear c3
  have H' := aa_ H
  clear H
  go_enter Try.func59, Try.ntmps59
  go_wp2
  go_loopg [5] k (fun kq v5 w' => ∃ (x5_1 : Int), v5 = .int .i64 x5_1 ∧ Aside0 (laws_eqShelfS.l0 kq l0 l1 x5_1 = some r) ∧ Aside0 (kq ≤ k) ∧ Aside0 (Below w.heap.size w w'))
  case atStart => exact ⟨(0), rf_, H', ⟨Nat.le_refl _⟩, ⟨bl_⟩⟩
  case round =>
   clear H'
   try clear c1
   try clear p2
   try clear c3
   try clear c3b0
   try clear c3b1
   try clear c3b2
   obtain ⟨x5_1, rfl, HA, HK1, HB⟩ := hrel
   cases gk with
   | zero => exact absurd HA.out (by simp [laws_eqShelfS.l0])
   | succ k1 =>
    have H := HA.out
    clear HA
    simp only [laws_eqShelfS.l0] at H
    by_cases c4 : x5_1 < (l0.length : Int)
    ·rw [if_pos c4] at H
     have c4b0 : decide (x5_1 < (l0.length : Int)) = true := decide_eq_true c4
     clear c4
     obtain ⟨c5b0, H⟩ := ifd_ H
     obtain ⟨c6b0, H⟩ := ifd_ H
     obtain ⟨t505, A7, H⟩ := bindE_ H
     have HC8 := aa_ H
     clear H
     try go_wp2
     replace HB := aa_ (below_drew1 HB.out)
     have p503 : 0 ≤ (x5_1 : Int) := od_
     have q503 : x5_1 < (l0.length : Int) := od_
     obtain ⟨ad503, A503_1, c503_1, e503, hx503_0, hx503_1, hl503_1, hi503_1⟩ := at_T61 HR0.out x5_1 p503 q503
     have hw503_1 := hx503_1
     have hw503_0 := hx503_0
     cases e503
     replace hx503_0 := cb_ HB hx503_0
     replace hx503_1 := cb_ HB hx503_1
     have HR503_1 := aa_ hi503_1
     have HC503_1 := aa_ hl503_1
     clear hi503_1 hl503_1
     replace p503 := eq_true p503
     replace q503 := eq_true q503
     have p504 : 0 ≤ (x5_1 : Int) := od_
     have q504 : x5_1 < (l1.length : Int) := od_
     obtain ⟨ad504, A504_1, c504_1, e504, hx504_0, hx504_1, hl504_1, hi504_1⟩ := at_T61 HR1.out x5_1 p504 q504
     have hw504_1 := hx504_1
     have hw504_0 := hx504_0
     cases e504
     replace hx504_0 := cb_ HB hx504_0
     replace hx504_1 := cb_ HB hx504_1
     have HR504_1 := aa_ hi504_1
     have HC504_1 := aa_ hl504_1
     clear hi504_1 hl504_1
     replace p504 := eq_true p504
     replace q504 := eq_true q504
     refine start_ (n := 10) (S := fun w' => w'.cell? (ad503.add ((x5_1).toNat * 2)) = some (.int .i64 ((rd_T61 l0 x5_1).f0)) ∧ w'.cell? ⟨(ad503.add ((x5_1).toNat * 2)).block, (ad503.add ((x5_1).toNat * 2)).off + 1, none⟩ = some (.slice A503_1 ((rd_T61 l0 x5_1).f1).length c503_1) ∧ w'.cell? (ad504.add ((x5_1).toNat * 2)) = some (.int .i64 ((rd_T61 l1 x5_1).f0)) ∧ w'.cell? ⟨(ad504.add ((x5_1).toNat * 2)).block, (ad504.add ((x5_1).toNat * 2)).off + 1, none⟩ = some (.slice A504_1 ((rd_T61 l1 x5_1).f1).length c504_1)) (ds := []) (ba_ 10 0) (by kernel_rfl) rfl rfl ⟨(cb_ HB hw503_0 :), (cb_ HB hw503_1 :), (cb_ HB hw504_0 :), (cb_ HB hw504_1 :)⟩ (fun hHeld => ?_); refine with_tabW laws_eqShelfS.tab6 laws_eqShelfS.bits6 (fun HT_ HW_ => ?_)
     generalize wr.drew = w9 at HB HR503_1 HR504_1 hx503_0 hx503_1 hx504_0 hx504_1 hHeld ⊢
     refine pureZ_ (i := 0) (some 17) (ba_ 10 1) (ao_ HT_) ?_
     refine pureZ_ (i := 1) (some 18) (ba_ 10 3) (ao_ HT_) ?_
     refine pureZ_ (i := 2) (some 19) (ba_ 10 7) (ao_ HT_) ?_
     refine pureZ_ (i := 4) (some 21) (ba_ 10 23) (ao_ HT_) ?_
     refine pureZ_ (i := 5) (some 22) (ba_ 10 55) (ao_ HT_) ?_
     refine pureZ_ (i := 6) (some 23) (ba_ 10 119) (ao_ HT_) ?_
     refine takeZ_ (i := 3) (some 20) (ba_ 10 127) (take_ofW HT_.out HW_.out (by kernel_rfl)) hHeld ?_
     refine takeZ_ (i := 7) (some 24) (ba_ 10 255) (take_ofW HT_.out HW_.out (by kernel_rfl)) hHeld ?_
     refine one_ (i := 8) (N := some 25) (ba_ 10 511) rfl rfl (one_of HT_.out (by kernel_rfl)) (by decide) (fun K hK => ?_)
     refine goes_ Try.func75 (by kernel_rfl) rfl #[.agg #[.int .i64 ((rd_T61 l0 x5_1).f0), .slice A503_1 ((rd_T61 l0 x5_1).f1).length c503_1], .agg #[.int .i64 ((rd_T61 l1 x5_1).f0), .slice A504_1 ((rd_T61 l1 x5_1).f1).length c504_1]] (by rfl) rfl rfl (by (try simp only [List.map_toArray, List.map_cons, List.map_nil]); first | done | rfl | (simp only [List.length_drop, List.length_take]; rfl)) ?_
     with_reducible refine (laws_eqShelf.calls k1 ((rd_T61 l0 x5_1).f0) _ _ ((rd_T61 l0 x5_1).f1) ((rd_T61 l1 x5_1).f0) _ _ ((rd_T61 l1 x5_1).f1) t505 _ ?side1 ?side2 ?side3 ?side4 A7.out).mono ?_
     (case side1 => repeat (first | exact (Kd.C_below HR503_1.out HB.out) | (with_reducible refine Kd.C_alloc ?_ _) | (with_reducible refine Kd.C_drewN ?_ _) | (with_reducible refine Kd.C_drew ?_)))
     (case side2 => exact HC503_1.out)
     (case side3 => repeat (first | exact (Kd.C_below HR504_1.out HB.out) | (with_reducible refine Kd.C_alloc ?_ _) | (with_reducible refine Kd.C_drewN ?_ _) | (with_reducible refine Kd.C_drew ?_)))
     (case side4 => exact HC504_1.out)
     rintro e w10 ⟨rfl, hb⟩
     refine ⟨_, rfl, ?_⟩
     replace HB := hbs_ hb
     (try clear hb)
     (try clear hb2)
     (try clear hk)
     (try clear hi)
     refine hK.out _ _ ⟨(cb_ HB hw503_0 :), (cb_ HB hw503_1 :), (cb_ HB hw504_0 :), (cb_ HB hw504_1 :)⟩ (fun hHeld => ?_)
     clear hK K
     refine norm_ (a' := ?_) ?_ ?_
     rotate_left
     ·show Act.put _ (some 25) _ = _
      simp only [Act.put, List.setIfInBounds_toArray, List.set_cons_zero, List.set_cons_succ, i64_w, i32_w]
      rfl
     refine pureZ_ (i := 9) (some 26) (ba_ 10 1023) (ao_ HT_) ?_
     refine done_ (done_of HT_.out (by kernel_rfl)) ?_
     go_upto_if 26 with (fail)
     have H := HC8.out
     clear HC8
     by_cases c11 : t505 = true
     ·subst c11
      replace H := ite_t_ H
      have H' := aa_ H
      clear H
      go_wp2
      go_roundg k1
      case measure => have := HK1.out; omega
      case rel => exact ⟨(wrap64 (x5_1 + 1)), rf_, H', ⟨by have := HK1.out; omega⟩, ⟨bl_⟩⟩
     ·replace c11 := Bool.eq_false_iff.mpr c11
      subst c11
      replace H := ite_f_ H
      obtain rfl := Option.some.inj H
      go_wp2
      go_ret
      exact ⟨eq_, bl_⟩
    ·rw [if_neg c4] at H
     have c4b0 : decide (x5_1 < (l0.length : Int)) = false := decide_eq_false c4
     clear c4
     obtain rfl := Option.some.inj H
     go_wp2
     go_ret
     exact ⟨eq_, bl_⟩
 ·rw [if_neg c3] at H
  have c3b0 : ((l0.length : Int) == (l1.length : Int)) = false := beq_eq_false_iff_ne.mpr c3
  have c3b1 : ((l0.length : Int) != (l1.length : Int)) = true := bne_iff_ne.mpr c3
  have c3b2 : (l0.length == l1.length) = false := by first | simpa using c3 | (simp at c3 ⊢; omega)
  obtain rfl := Option.some.inj H
  go_enter Try.func59, Try.ntmps59
  go_wp2
  go_ret
  exact ⟨eq_, bl_⟩
def laws_eqPeer.f (k : Nat) (a0_0 : Int) (a0_1 : Bool) (a0_2 : Int) (l0_3 : List Int) (l0_4 : List Int) (l0_5 : List (S61)) (a1_0 : Int) (a1_1 : Bool) (a1_2 : Int) (l1_3 : List Int) (l1_4 : List Int) (l1_5 : List (S61)) : Option (Bool) := if a0_0 = a1_0 then (if (a0_1 != a1_1) = true then (some false) else (if a0_2 = a1_2 then ((laws_eqIntS.f k l0_3 l1_3).bind fun t508 => (if t508 = true then ((laws_eqIntS.f k l0_4 l1_4).bind fun t509 => (if t509 = true then ((laws_eqShelfS.f k l0_5 l1_5).bind fun t510 => (if t510 = true then (some true) else (some false))) else (some false))) else (some false))) else (some false))) else (some false)
set_option maxHeartbeats 8000000 in
set_option maxRecDepth 100000 in
theorem laws_eqPeer.calls (k : Nat) (a0_0 : Int) (a0_1 : Bool) (a0_2 : Int) (A0_3 : Option Addr) (c0_3 : Nat) (l0_3 : List Int) (A0_4 : Option Addr) (c0_4 : Nat) (l0_4 : List Int) (A0_5 : Option Addr) (c0_5 : Nat) (l0_5 : List (S61)) (a1_0 : Int) (a1_1 : Bool) (a1_2 : Int) (A1_3 : Option Addr) (c1_3 : Nat) (l1_3 : List Int) (A1_4 : Option Addr) (c1_4 : Nat) (l1_4 : List Int) (A1_5 : Option Addr) (c1_5 : Nat) (l1_5 : List (S61)) (r : Bool) (w : World) (hr0_3 : Kd.C (Kd.int .i64) w A0_3 l0_3.length l0_3) (hc0_3 : l0_3.length ≤ c0_3) (hr0_4 : Kd.C (Kd.int .i64) w A0_4 l0_4.length l0_4) (hc0_4 : l0_4.length ≤ c0_4) (hr0_5 : Kd.C k61 w A0_5 l0_5.length l0_5) (hc0_5 : l0_5.length ≤ c0_5) (hr1_3 : Kd.C (Kd.int .i64) w A1_3 l1_3.length l1_3) (hc1_3 : l1_3.length ≤ c1_3) (hr1_4 : Kd.C (Kd.int .i64) w A1_4 l1_4.length l1_4) (hc1_4 : l1_4.length ≤ c1_4) (hr1_5 : Kd.C k61 w A1_5 l1_5.length l1_5) (hc1_5 : l1_5.length ≤ c1_5) (h : laws_eqPeer.f k a0_0 a0_1 a0_2 l0_3 l0_4 l0_5 a1_0 a1_1 a1_2 l1_3 l1_4 l1_5 = some r) :
  Calls Try.prog 43 #[.agg #[.int .i64 a0_0, .bool a0_1, .int .i64 a0_2, .slice A0_3 l0_3.length c0_3, .slice A0_4 l0_4.length c0_4, .slice A0_5 l0_5.length c0_5], .agg #[.int .i64 a1_0, .bool a1_1, .int .i64 a1_2, .slice A1_3 l1_3.length c1_3, .slice A1_4 l1_4.length c1_4, .slice A1_5 l1_5.length c1_5]] w fun e w' => e = .returned (.bool r) ∧ Below w.heap.size w w' := by
 have hu42 := Try.underlying42
 have HR0_3 := aa_ hr0_3
 have HC0_3 := aa_ hc0_3
 clear hr0_3 hc0_3
 have HR0_4 := aa_ hr0_4
 have HC0_4 := aa_ hc0_4
 clear hr0_4 hc0_4
 have HR0_5 := aa_ hr0_5
 have HC0_5 := aa_ hc0_5
 clear hr0_5 hc0_5
 have HR1_3 := aa_ hr1_3
 have HC1_3 := aa_ hc1_3
 clear hr1_3 hc1_3
 have HR1_4 := aa_ hr1_4
 have HC1_4 := aa_ hc1_4
 clear hr1_4 hc1_4
 have HR1_5 := aa_ hr1_5
 have HC1_5 := aa_ hc1_5
 clear hr1_5 hc1_5
 have HB := aa_ (Below.refl w.heap.size w)
 have H : (if a0_0 = a1_0 then (if (a0_1 != a1_1) = true then (some false) else (if a0_2 = a1_2 then ((laws_eqIntS.f k l0_3 l1_3).bind fun t508 => (if t508 = true then ((laws_eqIntS.f k l0_4 l1_4).bind fun t509 => (if t509 = true then ((laws_eqShelfS.f k l0_5 l1_5).bind fun t510 => (if t510 = true then (some true) else (some false))) else (some false))) else (some false))) else (some false))) else (some false)) = some r := h
 clear h
 have HC3 := aa_ H
 clear H
 go_enter Try.func43, Try.ntmps43
 go_upto_if 9 with (first | ((with_reducible refine gD_ 2 rfl ?_); refine bx_ (N := 2) (cs := #[.int .i64 a0_0, .bool a0_1, .int .i64 a0_2, .slice A0_3 l0_3.length c0_3, .slice A0_4 l0_4.length c0_4, .slice A0_5 l0_5.length c0_5]) (t := 42) ?_; intro gb506 hg w4 hbox hb; have BK506 := aa_ (hbox); have GW506 := gs_ hg; have GE506 := gs_ hg; replace HB := hbs_ hb; clear hb hbox hg) | ((with_reducible refine gD_ 3 rfl ?_); refine bx_ (N := 3) (cs := #[.int .i64 a1_0, .bool a1_1, .int .i64 a1_2, .slice A1_3 l1_3.length c1_3, .slice A1_4 l1_4.length c1_4, .slice A1_5 l1_5.length c1_5]) (t := 42) ?_; intro gb507 hg w5 hbox hb; have BK507 := aa_ (hbox); have GW507 := gs_ hg; have GE507 := gs_ hg; replace HB := hbs_ hb; have NB506_507 := nl_ hg BK506; have NB507_506 := nr_ hg BK506; replace BK506 := bkb_ BK506 hb; clear hb hbox hg; have hnb6 := NB506_507.out; have hnc6 := NB507_506.out; obtain ⟨hcz7, hfz7⟩ := bcf_ BK506; obtain ⟨hcz8, hfz8⟩ := bcf_ BK507))
 (try simp only [Act.put, List.setIfInBounds_toArray, List.set_cons_zero, List.set_cons_succ])
 have H := HC3.out
 clear HC3
 by_cases c9 : a0_0 = a1_0
 ·rw [if_pos c9] at H
  have c9b0 : (a0_0 == a1_0) = true := beq_iff_eq.mpr c9
  have c9b1 : (a0_0 != a1_0) = false := bne_eq_false_iff_eq.mpr c9
  clear c9
  (first | rw [c9b0] | (simp only [i64_w, i32_w]; rw [c9b0]) | skip)
  by_cases c10 : (a0_1 != a1_1) = true
  ·rw [if_pos c10] at H
   have c10b0 : (a0_1 != a1_1) = true := c10
   (try (have c10b1 : decide (a0_1 = a1_1) = false := by simpa using c10))
   (try (have c10b2 : (a0_1 == a1_1) = false := by simpa using c10))
   (try (have c10b5 : (!(a0_1 == a1_1)) = true := by rw [c10b2]; rfl))
   (try (have c10b3 : ¬ (a0_1 = a1_1) := by simpa using c10))
   clear c10
   obtain rfl := Option.some.inj H
   have hnb11 := NB506_507.out
   have hnc11 := NB507_506.out
   have hcz12 := blk_cell BK506.out
   have hfz12 := blk_frozen BK506.out
   have hcz13 := blk_cell BK507.out
   have hfz13 := blk_frozen BK507.out
   go_wp2
   go_ret
   exact ⟨eq_, bl_⟩
  ·rw [if_neg c10] at H
   have c10b0 : (a0_1 != a1_1) = false := by simpa using c10
   (try (have c10b1 : decide (a0_1 = a1_1) = true := by simpa using c10))
   (try (have c10b2 : (a0_1 == a1_1) = true := by simpa using c10))
   (try (have c10b5 : (!(a0_1 == a1_1)) = false := by rw [c10b2]; rfl))
   clear c10
   by_cases c14 : a0_2 = a1_2
   ·rw [if_pos c14] at H
    have c14b0 : (a0_2 == a1_2) = true := beq_iff_eq.mpr c14
    have c14b1 : (a0_2 != a1_2) = false := bne_eq_false_iff_eq.mpr c14
    clear c14
    obtain ⟨t508, A15, H⟩ := bindE_ H
    have HC16 := aa_ H
    clear H
    have hnb17 := NB506_507.out
    have hnc17 := NB507_506.out
    have hcz18 := blk_cell BK506.out
    have hfz18 := blk_frozen BK506.out
    have hcz19 := blk_cell BK507.out
    have hfz19 := blk_frozen BK507.out
    go_upto_if 25 with (first | ((with_reducible refine gC_ 58 rfl ?_); refine goesC_ (some 24) Try.func58 #[.slice A0_3 l0_3.length c0_3, .slice A1_3 l1_3.length c1_3] ?_; (with_reducible refine (laws_eqIntS.calls k _ _ l0_3 _ _ l1_3 t508 _ ?side1 ?side2 ?side3 ?side4 A15.out).mono ?_); (case side1 => repeat (first | exact (Kd.C_below HR0_3.out HB.out) | (with_reducible refine Kd.C_alloc ?_ _) | (with_reducible refine Kd.C_drewN ?_ _) | (with_reducible refine Kd.C_drew ?_))); (case side2 => exact HC0_3.out); (case side3 => repeat (first | exact (Kd.C_below HR1_3.out HB.out) | (with_reducible refine Kd.C_alloc ?_ _) | (with_reducible refine Kd.C_drewN ?_ _) | (with_reducible refine Kd.C_drew ?_))); (case side4 => exact HC1_3.out); rintro e w' ⟨rfl, ⟨nd, rfl⟩⟩; refine ⟨_, rfl, ?_⟩))
    (try simp only [Act.put, List.setIfInBounds_toArray, List.set_cons_zero, List.set_cons_succ])
    have H := HC16.out
    clear HC16
    by_cases c20 : t508 = true
    ·subst c20
     replace H := ite_t_ H
     obtain ⟨t509, A21, H⟩ := bindE_ H
     have HC22 := aa_ H
     clear H
     have hnb23 := NB506_507.out
     have hnc23 := NB507_506.out
     have hcz24 := blk_cell BK506.out
     have hfz24 := blk_frozen BK506.out
     have hcz25 := blk_cell BK507.out
     have hfz25 := blk_frozen BK507.out
     go_upto_if 31 with (first | ((with_reducible refine gC_ 58 rfl ?_); refine goesC_ (some 30) Try.func58 #[.slice A0_4 l0_4.length c0_4, .slice A1_4 l1_4.length c1_4] ?_; (with_reducible refine (laws_eqIntS.calls k _ _ l0_4 _ _ l1_4 t509 _ ?side1 ?side2 ?side3 ?side4 A21.out).mono ?_); (case side1 => repeat (first | exact (Kd.C_below HR0_4.out HB.out) | (with_reducible refine Kd.C_alloc ?_ _) | (with_reducible refine Kd.C_drewN ?_ _) | (with_reducible refine Kd.C_drew ?_))); (case side2 => exact HC0_4.out); (case side3 => repeat (first | exact (Kd.C_below HR1_4.out HB.out) | (with_reducible refine Kd.C_alloc ?_ _) | (with_reducible refine Kd.C_drewN ?_ _) | (with_reducible refine Kd.C_drew ?_))); (case side4 => exact HC1_4.out); rintro e w' ⟨rfl, ⟨nd, rfl⟩⟩; refine ⟨_, rfl, ?_⟩))
     (try simp only [Act.put, List.setIfInBounds_toArray, List.set_cons_zero, List.set_cons_succ])
     have H := HC22.out
     clear HC22
     by_cases c26 : t509 = true
     ·subst c26
      replace H := ite_t_ H
      obtain ⟨t510, A27, H⟩ := bindE_ H
      have HC28 := aa_ H
      clear H
      have hnb29 := NB506_507.out
      have hnc29 := NB507_506.out
      have hcz30 := blk_cell BK506.out
      have hfz30 := blk_frozen BK506.out
      have hcz31 := blk_cell BK507.out
      have hfz31 := blk_frozen BK507.out
      go_upto_if 37 with (first | ((with_reducible refine gC_ 59 rfl ?_); refine goesC_ (some 36) Try.func59 #[.slice A0_5 l0_5.length c0_5, .slice A1_5 l1_5.length c1_5] ?_; (with_reducible refine (laws_eqShelfS.calls k _ _ l0_5 _ _ l1_5 t510 _ ?side1 ?side2 ?side3 ?side4 A27.out).mono ?_); (case side1 => repeat (first | exact (Kd.C_below HR0_5.out HB.out) | (with_reducible refine Kd.C_alloc ?_ _) | (with_reducible refine Kd.C_drewN ?_ _) | (with_reducible refine Kd.C_drew ?_))); (case side2 => exact HC0_5.out); (case side3 => repeat (first | exact (Kd.C_below HR1_5.out HB.out) | (with_reducible refine Kd.C_alloc ?_ _) | (with_reducible refine Kd.C_drewN ?_ _) | (with_reducible refine Kd.C_drew ?_))); (case side4 => exact HC1_5.out); rintro e w32 ⟨rfl, hb⟩; refine ⟨_, rfl, ?_⟩; replace BK506 := bkb_ BK506 hb; replace BK507 := bkb_ BK507 hb; replace HB := hbs_ hb; clear hb))
      (try simp only [Act.put, List.setIfInBounds_toArray, List.set_cons_zero, List.set_cons_succ])
      have H := HC28.out
      clear HC28
      by_cases c33 : t510 = true
      ·subst c33
       replace H := ite_t_ H
       obtain rfl := Option.some.inj H
       go_wp2
       go_ret
       exact ⟨eq_, bl_⟩
      ·replace c33 := Bool.eq_false_iff.mpr c33
       subst c33
       replace H := ite_f_ H
       obtain rfl := Option.some.inj H
       go_wp2
       go_ret
       exact ⟨eq_, bl_⟩
     ·replace c26 := Bool.eq_false_iff.mpr c26
      subst c26
      replace H := ite_f_ H
      obtain rfl := Option.some.inj H
      go_wp2
      go_ret
      exact ⟨eq_, bl_⟩
    ·replace c20 := Bool.eq_false_iff.mpr c20
     subst c20
     replace H := ite_f_ H
     obtain rfl := Option.some.inj H
     go_wp2
     go_ret
     exact ⟨eq_, bl_⟩
   ·rw [if_neg c14] at H
    have c14b0 : (a0_2 == a1_2) = false := beq_eq_false_iff_ne.mpr c14
    have c14b1 : (a0_2 != a1_2) = true := bne_iff_ne.mpr c14
    obtain rfl := Option.some.inj H
    have hnb34 := NB506_507.out
    have hnc34 := NB507_506.out
    have hcz35 := blk_cell BK506.out
    have hfz35 := blk_frozen BK506.out
    have hcz36 := blk_cell BK507.out
    have hfz36 := blk_frozen BK507.out
    go_wp2
    go_ret
    exact ⟨eq_, bl_⟩
 ·rw [if_neg c9] at H
  have c9b0 : (a0_0 == a1_0) = false := beq_eq_false_iff_ne.mpr c9
  have c9b1 : (a0_0 != a1_0) = true := bne_iff_ne.mpr c9
  (first | rw [c9b0] | (simp only [i64_w, i32_w]; rw [c9b0]) | skip)
  obtain rfl := Option.some.inj H
  go_wp2
  go_ret
  exact ⟨eq_, bl_⟩
def laws_eqPeerS.l0 : Nat → List (S42) → List (S42) → Int → Option (Bool)
 | 0, _, _, _ => none
 | k + 1, x0, x1, x5 => if x5 < (x0.length : Int) then (if 0 ≤ x5 then (if x5 < (x1.length : Int) then ((laws_eqPeer.f k ((rd_T42 x0 x5).f0) ((rd_T42 x0 x5).f1) ((rd_T42 x0 x5).f2) ((rd_T42 x0 x5).f3) ((rd_T42 x0 x5).f4) ((rd_T42 x0 x5).f5) ((rd_T42 x1 x5).f0) ((rd_T42 x1 x5).f1) ((rd_T42 x1 x5).f2) ((rd_T42 x1 x5).f3) ((rd_T42 x1 x5).f4) ((rd_T42 x1 x5).f5)).bind fun t513 => (if t513 = true then (laws_eqPeerS.l0 k x0 x1 (wrap64 (x5 + 1))) else (some false))) else (none)) else (none)) else (some true)
def laws_eqPeerS.f (k : Nat) (l0 : List (S42)) (l1 : List (S42)) : Option (Bool) := if (l0.length : Int) = (l1.length : Int) then (laws_eqPeerS.l0 k l0 l1 0) else (some false)
def laws_eqPeerS.T6 : Bool × List (List Nat × List Nat) := (true, [([], []), ([], []), ([0, 1], [0, 1]), ([2], [2]), ([], []), ([], []), ([4, 5], [4, 5]), ([6], [6]), ([3, 7], [3, 7]), ([8], [8])])
def laws_eqPeerS.B6 : List Nat := [0, 0, 3, 7, 0, 0, 48, 112, 255, 511]
theorem laws_eqPeerS.tab6 : rtab .any (opsOf Try.f28 6) = laws_eqPeerS.T6 := by kernel_rfl
theorem laws_eqPeerS.bits6 : waitsOk laws_eqPeerS.T6.2 laws_eqPeerS.B6 = true := by kernel_rfl
set_option maxHeartbeats 8000000 in
set_option maxRecDepth 100000 in
theorem laws_eqPeerS.calls (k : Nat) (A0 : Option Addr) (c0 : Nat) (l0 : List (S42)) (A1 : Option Addr) (c1 : Nat) (l1 : List (S42)) (r : Bool) (w : World) (hr0 : Kd.C k42 w A0 l0.length l0) (hc0 : l0.length ≤ c0) (hr1 : Kd.C k42 w A1 l1.length l1) (hc1 : l1.length ≤ c1) (h : laws_eqPeerS.f k l0 l1 = some r) :
  Calls Try.prog 28 #[.slice A0 l0.length c0, .slice A1 l1.length c1] w fun e w' => e = .returned (.bool r) ∧ Below w.heap.size w w' := by
 have hu42 := Try.underlying42
 have HR0 := aa_ hr0
 have HC0 := aa_ hc0
 clear hr0 hc0
 have HR1 := aa_ hr1
 have HC1 := aa_ hc1
 clear hr1 hc1
 have HB := aa_ (Below.refl w.heap.size w)
 have H : (if (l0.length : Int) = (l1.length : Int) then (laws_eqPeerS.l0 k l0 l1 0) else (some false)) = some r := h
 clear h
 by_cases c3 : (l0.length : Int) = (l1.length : Int)
 ·rw [if_pos c3] at H
  have c3b0 : ((l0.length : Int) == (l1.length : Int)) = true := beq_iff_eq.mpr c3
  have c3b1 : ((l0.length : Int) != (l1.length : Int)) = false := bne_eq_false_iff_eq.mpr c3
  have c3b2 : (l0.length == l1.length) = true := by first | simpa using c3 | (simp at c3 ⊢; omega)
  clear c3
  have H' := aa_ H
  clear H
  go_enter Try.func28, Try.ntmps28
  go_wp2
  go_loopg [5] k (fun kq v5 w' => ∃ (x5_1 : Int), v5 = .int .i64 x5_1 ∧ Aside0 (laws_eqPeerS.l0 kq l0 l1 x5_1 = some r) ∧ Aside0 (kq ≤ k) ∧ Aside0 (Below w.heap.size w w'))
  case atStart => exact ⟨(0), rf_, H', ⟨Nat.le_refl _⟩, ⟨bl_⟩⟩
  case round =>
   clear H'
   try clear c1
   try clear c2
   try clear p2
   try clear c3
   try clear c3b0
   try clear c3b1
   try clear c3b2
   obtain ⟨x5_1, rfl, HA, HK1, HB⟩ := hrel
   cases gk with
   | zero => exact absurd HA.out (by simp [laws_eqPeerS.l0])
   | succ k1 =>
    have H := HA.out
    clear HA
    simp only [laws_eqPeerS.l0] at H
    by_cases c4 : x5_1 < (l0.length : Int)
    ·rw [if_pos c4] at H
     have c4b0 : decide (x5_1 < (l0.length : Int)) = true := decide_eq_true c4
     clear c4
     obtain ⟨c5b0, H⟩ := ifd_ H
     obtain ⟨c6b0, H⟩ := ifd_ H
     obtain ⟨t513, A7, H⟩ := bindE_ H
     have HC8 := aa_ H
     clear H
     try go_wp2
     replace HB := aa_ (below_drew1 HB.out)
     have p511 : 0 ≤ (x5_1 : Int) := od_
     have q511 : x5_1 < (l0.length : Int) := od_
     obtain ⟨ad511, A511_3, c511_3, A511_4, c511_4, A511_5, c511_5, e511, hx511_0, hx511_1, hx511_2, hx511_3, hx511_4, hx511_5, hl511_3, hi511_3, hl511_4, hi511_4, hl511_5, hi511_5⟩ := at_T42 HR0.out x5_1 p511 q511
     have hw511_5 := hx511_5
     have hw511_4 := hx511_4
     have hw511_3 := hx511_3
     have hw511_2 := hx511_2
     have hw511_1 := hx511_1
     have hw511_0 := hx511_0
     cases e511
     replace hx511_0 := cb_ HB hx511_0
     replace hx511_1 := cb_ HB hx511_1
     replace hx511_2 := cb_ HB hx511_2
     replace hx511_3 := cb_ HB hx511_3
     replace hx511_4 := cb_ HB hx511_4
     replace hx511_5 := cb_ HB hx511_5
     have HR511_3 := aa_ hi511_3
     have HC511_3 := aa_ hl511_3
     clear hi511_3 hl511_3
     have HR511_4 := aa_ hi511_4
     have HC511_4 := aa_ hl511_4
     clear hi511_4 hl511_4
     have HR511_5 := aa_ hi511_5
     have HC511_5 := aa_ hl511_5
     clear hi511_5 hl511_5
     replace p511 := eq_true p511
     replace q511 := eq_true q511
     have p512 : 0 ≤ (x5_1 : Int) := od_
     have q512 : x5_1 < (l1.length : Int) := od_
     obtain ⟨ad512, A512_3, c512_3, A512_4, c512_4, A512_5, c512_5, e512, hx512_0, hx512_1, hx512_2, hx512_3, hx512_4, hx512_5, hl512_3, hi512_3, hl512_4, hi512_4, hl512_5, hi512_5⟩ := at_T42 HR1.out x5_1 p512 q512
     have hw512_5 := hx512_5
     have hw512_4 := hx512_4
     have hw512_3 := hx512_3
     have hw512_2 := hx512_2
     have hw512_1 := hx512_1
     have hw512_0 := hx512_0
     cases e512
     replace hx512_0 := cb_ HB hx512_0
     replace hx512_1 := cb_ HB hx512_1
     replace hx512_2 := cb_ HB hx512_2
     replace hx512_3 := cb_ HB hx512_3
     replace hx512_4 := cb_ HB hx512_4
     replace hx512_5 := cb_ HB hx512_5
     have HR512_3 := aa_ hi512_3
     have HC512_3 := aa_ hl512_3
     clear hi512_3 hl512_3
     have HR512_4 := aa_ hi512_4
     have HC512_4 := aa_ hl512_4
     clear hi512_4 hl512_4
     have HR512_5 := aa_ hi512_5
     have HC512_5 := aa_ hl512_5
     clear hi512_5 hl512_5
     replace p512 := eq_true p512
     replace q512 := eq_true q512
     refine start_ (n := 10) (S := fun w' => w'.cell? (ad511.add ((x5_1).toNat * 6)) = some (.int .i64 ((rd_T42 l0 x5_1).f0)) ∧ w'.cell? ⟨(ad511.add ((x5_1).toNat * 6)).block, (ad511.add ((x5_1).toNat * 6)).off + 1, none⟩ = some (.bool ((rd_T42 l0 x5_1).f1)) ∧ w'.cell? ⟨(ad511.add ((x5_1).toNat * 6)).block, (ad511.add ((x5_1).toNat * 6)).off + 2, none⟩ = some (.int .i64 ((rd_T42 l0 x5_1).f2)) ∧ w'.cell? ⟨(ad511.add ((x5_1).toNat * 6)).block, (ad511.add ((x5_1).toNat * 6)).off + 3, none⟩ = some (.slice A511_3 ((rd_T42 l0 x5_1).f3).length c511_3) ∧ w'.cell? ⟨(ad511.add ((x5_1).toNat * 6)).block, (ad511.add ((x5_1).toNat * 6)).off + 4, none⟩ = some (.slice A511_4 ((rd_T42 l0 x5_1).f4).length c511_4) ∧ w'.cell? ⟨(ad511.add ((x5_1).toNat * 6)).block, (ad511.add ((x5_1).toNat * 6)).off + 5, none⟩ = some (.slice A511_5 ((rd_T42 l0 x5_1).f5).length c511_5) ∧ w'.cell? (ad512.add ((x5_1).toNat * 6)) = some (.int .i64 ((rd_T42 l1 x5_1).f0)) ∧ w'.cell? ⟨(ad512.add ((x5_1).toNat * 6)).block, (ad512.add ((x5_1).toNat * 6)).off + 1, none⟩ = some (.bool ((rd_T42 l1 x5_1).f1)) ∧ w'.cell? ⟨(ad512.add ((x5_1).toNat * 6)).block, (ad512.add ((x5_1).toNat * 6)).off + 2, none⟩ = some (.int .i64 ((rd_T42 l1 x5_1).f2)) ∧ w'.cell? ⟨(ad512.add ((x5_1).toNat * 6)).block, (ad512.add ((x5_1).toNat * 6)).off + 3, none⟩ = some (.slice A512_3 ((rd_T42 l1 x5_1).f3).length c512_3) ∧ w'.cell? ⟨(ad512.add ((x5_1).toNat * 6)).block, (ad512.add ((x5_1).toNat * 6)).off + 4, none⟩ = some (.slice A512_4 ((rd_T42 l1 x5_1).f4).length c512_4) ∧ w'.cell? ⟨(ad512.add ((x5_1).toNat * 6)).block, (ad512.add ((x5_1).toNat * 6)).off + 5, none⟩ = some (.slice A512_5 ((rd_T42 l1 x5_1).f5).length c512_5)) (ds := []) (ba_ 10 0) (by kernel_rfl) rfl rfl ⟨(cb_ HB hw511_0 :), (cb_ HB hw511_1 :), (cb_ HB hw511_2 :), (cb_ HB hw511_3 :), (cb_ HB hw511_4 :), (cb_ HB hw511_5 :), (cb_ HB hw512_0 :), (cb_ HB hw512_1 :), (cb_ HB hw512_2 :), (cb_ HB hw512_3 :), (cb_ HB hw512_4 :), (cb_ HB hw512_5 :)⟩ (fun hHeld => ?_); refine with_tabW laws_eqPeerS.tab6 laws_eqPeerS.bits6 (fun HT_ HW_ => ?_)
     generalize wr.drew = w9 at HB HR511_3 HR511_4 HR511_5 HR512_3 HR512_4 HR512_5 hx511_0 hx511_1 hx511_2 hx511_3 hx511_4 hx511_5 hx512_0 hx512_1 hx512_2 hx512_3 hx512_4 hx512_5 hHeld ⊢
     refine pureZ_ (i := 0) (some 17) (ba_ 10 1) (ao_ HT_) ?_
     refine pureZ_ (i := 1) (some 18) (ba_ 10 3) (ao_ HT_) ?_
     refine pureZ_ (i := 2) (some 19) (ba_ 10 7) (ao_ HT_) ?_
     refine pureZ_ (i := 4) (some 21) (ba_ 10 23) (ao_ HT_) ?_
     refine pureZ_ (i := 5) (some 22) (ba_ 10 55) (ao_ HT_) ?_
     refine pureZ_ (i := 6) (some 23) (ba_ 10 119) (ao_ HT_) ?_
     refine takeZ_ (i := 3) (some 20) (ba_ 10 127) (take_ofW HT_.out HW_.out (by kernel_rfl)) hHeld ?_
     refine takeZ_ (i := 7) (some 24) (ba_ 10 255) (take_ofW HT_.out HW_.out (by kernel_rfl)) hHeld ?_
     refine one_ (i := 8) (N := some 25) (ba_ 10 511) rfl rfl (one_of HT_.out (by kernel_rfl)) (by decide) (fun K hK => ?_)
     refine goes_ Try.func43 (by kernel_rfl) rfl #[.agg #[.int .i64 ((rd_T42 l0 x5_1).f0), .bool ((rd_T42 l0 x5_1).f1), .int .i64 ((rd_T42 l0 x5_1).f2), .slice A511_3 ((rd_T42 l0 x5_1).f3).length c511_3, .slice A511_4 ((rd_T42 l0 x5_1).f4).length c511_4, .slice A511_5 ((rd_T42 l0 x5_1).f5).length c511_5], .agg #[.int .i64 ((rd_T42 l1 x5_1).f0), .bool ((rd_T42 l1 x5_1).f1), .int .i64 ((rd_T42 l1 x5_1).f2), .slice A512_3 ((rd_T42 l1 x5_1).f3).length c512_3, .slice A512_4 ((rd_T42 l1 x5_1).f4).length c512_4, .slice A512_5 ((rd_T42 l1 x5_1).f5).length c512_5]] (by rfl) rfl rfl (by (try simp only [List.map_toArray, List.map_cons, List.map_nil]); first | done | rfl | (simp only [List.length_drop, List.length_take]; rfl)) ?_
     with_reducible refine (laws_eqPeer.calls k1 ((rd_T42 l0 x5_1).f0) ((rd_T42 l0 x5_1).f1) ((rd_T42 l0 x5_1).f2) _ _ ((rd_T42 l0 x5_1).f3) _ _ ((rd_T42 l0 x5_1).f4) _ _ ((rd_T42 l0 x5_1).f5) ((rd_T42 l1 x5_1).f0) ((rd_T42 l1 x5_1).f1) ((rd_T42 l1 x5_1).f2) _ _ ((rd_T42 l1 x5_1).f3) _ _ ((rd_T42 l1 x5_1).f4) _ _ ((rd_T42 l1 x5_1).f5) t513 _ ?side1 ?side2 ?side3 ?side4 ?side5 ?side6 ?side7 ?side8 ?side9 ?side10 ?side11 ?side12 A7.out).mono ?_
     (case side1 => repeat (first | exact (Kd.C_below HR511_3.out HB.out) | (with_reducible refine Kd.C_alloc ?_ _) | (with_reducible refine Kd.C_drewN ?_ _) | (with_reducible refine Kd.C_drew ?_)))
     (case side2 => exact HC511_3.out)
     (case side3 => repeat (first | exact (Kd.C_below HR511_4.out HB.out) | (with_reducible refine Kd.C_alloc ?_ _) | (with_reducible refine Kd.C_drewN ?_ _) | (with_reducible refine Kd.C_drew ?_)))
     (case side4 => exact HC511_4.out)
     (case side5 => repeat (first | exact (Kd.C_below HR511_5.out HB.out) | (with_reducible refine Kd.C_alloc ?_ _) | (with_reducible refine Kd.C_drewN ?_ _) | (with_reducible refine Kd.C_drew ?_)))
     (case side6 => exact HC511_5.out)
     (case side7 => repeat (first | exact (Kd.C_below HR512_3.out HB.out) | (with_reducible refine Kd.C_alloc ?_ _) | (with_reducible refine Kd.C_drewN ?_ _) | (with_reducible refine Kd.C_drew ?_)))
     (case side8 => exact HC512_3.out)
     (case side9 => repeat (first | exact (Kd.C_below HR512_4.out HB.out) | (with_reducible refine Kd.C_alloc ?_ _) | (with_reducible refine Kd.C_drewN ?_ _) | (with_reducible refine Kd.C_drew ?_)))
     (case side10 => exact HC512_4.out)
     (case side11 => repeat (first | exact (Kd.C_below HR512_5.out HB.out) | (with_reducible refine Kd.C_alloc ?_ _) | (with_reducible refine Kd.C_drewN ?_ _) | (with_reducible refine Kd.C_drew ?_)))
     (case side12 => exact HC512_5.out)
     rintro e w10 ⟨rfl, hb⟩
     refine ⟨_, rfl, ?_⟩
     replace HB := hbs_ hb
     (try clear hb)
     (try clear hb2)
     (try clear hk)
     (try clear hi)
     refine hK.out _ _ ⟨(cb_ HB hw511_0 :), (cb_ HB hw511_1 :), (cb_ HB hw511_2 :), (cb_ HB hw511_3 :), (cb_ HB hw511_4 :), (cb_ HB hw511_5 :), (cb_ HB hw512_0 :), (cb_ HB hw512_1 :), (cb_ HB hw512_2 :), (cb_ HB hw512_3 :), (cb_ HB hw512_4 :), (cb_ HB hw512_5 :)⟩ (fun hHeld => ?_)
     clear hK K
     refine norm_ (a' := ?_) ?_ ?_
     rotate_left
     ·show Act.put _ (some 25) _ = _
      simp only [Act.put, List.setIfInBounds_toArray, List.set_cons_zero, List.set_cons_succ, i64_w, i32_w]
      rfl
     refine pureZ_ (i := 9) (some 26) (ba_ 10 1023) (ao_ HT_) ?_
     refine done_ (done_of HT_.out (by kernel_rfl)) ?_
     go_upto_if 26 with (fail)
     have H := HC8.out
     clear HC8
     by_cases c11 : t513 = true
     ·subst c11
      replace H := ite_t_ H
      have H' := aa_ H
      clear H
      go_wp2
      go_roundg k1
      case measure => have := HK1.out; omega
      case rel => exact ⟨(wrap64 (x5_1 + 1)), rf_, H', ⟨by have := HK1.out; omega⟩, ⟨bl_⟩⟩
     ·replace c11 := Bool.eq_false_iff.mpr c11
      subst c11
      replace H := ite_f_ H
      obtain rfl := Option.some.inj H
      go_wp2
      go_ret
      exact ⟨eq_, bl_⟩
    ·rw [if_neg c4] at H
     have c4b0 : decide (x5_1 < (l0.length : Int)) = false := decide_eq_false c4
     clear c4
     obtain rfl := Option.some.inj H
     go_wp2
     go_ret
     exact ⟨eq_, bl_⟩
 ·rw [if_neg c3] at H
  have c3b0 : ((l0.length : Int) == (l1.length : Int)) = false := beq_eq_false_iff_ne.mpr c3
  have c3b1 : ((l0.length : Int) != (l1.length : Int)) = true := bne_iff_ne.mpr c3
  have c3b2 : (l0.length == l1.length) = false := by first | simpa using c3 | (simp at c3 ⊢; omega)
  obtain rfl := Option.some.inj H
  go_enter Try.func28, Try.ntmps28
  go_wp2
  go_ret
  exact ⟨eq_, bl_⟩
def laws_eqRing.f (k : Nat) (l0_0 : List (S42)) (l1_0 : List (S42)) : Option (Bool) := (laws_eqPeerS.f k l0_0 l1_0).bind fun t516 => (if t516 = true then (some true) else (some false))
set_option maxHeartbeats 8000000 in
set_option maxRecDepth 100000 in
theorem laws_eqRing.calls (k : Nat) (A0_0 : Option Addr) (c0_0 : Nat) (l0_0 : List (S42)) (A1_0 : Option Addr) (c1_0 : Nat) (l1_0 : List (S42)) (r : Bool) (w : World) (hr0_0 : Kd.C k42 w A0_0 l0_0.length l0_0) (hc0_0 : l0_0.length ≤ c0_0) (hr1_0 : Kd.C k42 w A1_0 l1_0.length l1_0) (hc1_0 : l1_0.length ≤ c1_0) (h : laws_eqRing.f k l0_0 l1_0 = some r) :
  Calls Try.prog 8 #[.agg #[.slice A0_0 l0_0.length c0_0], .agg #[.slice A1_0 l1_0.length c1_0]] w fun e w' => e = .returned (.bool r) ∧ Below w.heap.size w w' := by
 have hu29 := Try.underlying29
 have HR0_0 := aa_ hr0_0
 have HC0_0 := aa_ hc0_0
 clear hr0_0 hc0_0
 have HR1_0 := aa_ hr1_0
 have HC1_0 := aa_ hc1_0
 clear hr1_0 hc1_0
 have HB := aa_ (Below.refl w.heap.size w)
 have H : ((laws_eqPeerS.f k l0_0 l1_0).bind fun t516 => (if t516 = true then (some true) else (some false))) = some r := h
 clear h
 obtain ⟨t516, A3, H⟩ := bindE_ H
 have HC4 := aa_ H
 clear H
 go_enter Try.func8, Try.ntmps8
 go_upto_if 10 with (first | ((with_reducible refine gD_ 2 rfl ?_); refine bx_ (N := 2) (cs := #[.slice A0_0 l0_0.length c0_0]) (t := 29) ?_; intro gb514 hg w5 hbox hb; have BK514 := aa_ (hbox); have GW514 := gs_ hg; have GE514 := gs_ hg; replace HB := hbs_ hb; clear hb hbox hg) | ((with_reducible refine gD_ 3 rfl ?_); refine bx_ (N := 3) (cs := #[.slice A1_0 l1_0.length c1_0]) (t := 29) ?_; intro gb515 hg w6 hbox hb; have BK515 := aa_ (hbox); have GW515 := gs_ hg; have GE515 := gs_ hg; replace HB := hbs_ hb; have NB514_515 := nl_ hg BK514; have NB515_514 := nr_ hg BK514; replace BK514 := bkb_ BK514 hb; clear hb hbox hg; have hnb7 := NB514_515.out; have hnc7 := NB515_514.out; obtain ⟨hcz8, hfz8⟩ := bcf_ BK514; obtain ⟨hcz9, hfz9⟩ := bcf_ BK515) | ((with_reducible refine gC_ 28 rfl ?_); refine goesC_ (some 9) Try.func28 #[.slice A0_0 l0_0.length c0_0, .slice A1_0 l1_0.length c1_0] ?_; (with_reducible refine (laws_eqPeerS.calls k _ _ l0_0 _ _ l1_0 t516 _ ?side1 ?side2 ?side3 ?side4 A3.out).mono ?_); (case side1 => repeat (first | exact (Kd.C_below HR0_0.out HB.out) | (with_reducible refine Kd.C_alloc ?_ _) | (with_reducible refine Kd.C_drewN ?_ _) | (with_reducible refine Kd.C_drew ?_))); (case side2 => exact HC0_0.out); (case side3 => repeat (first | exact (Kd.C_below HR1_0.out HB.out) | (with_reducible refine Kd.C_alloc ?_ _) | (with_reducible refine Kd.C_drewN ?_ _) | (with_reducible refine Kd.C_drew ?_))); (case side4 => exact HC1_0.out); rintro e w10 ⟨rfl, hb⟩; refine ⟨_, rfl, ?_⟩; replace BK514 := bkb_ BK514 hb; replace BK515 := bkb_ BK515 hb; replace HB := hbs_ hb; clear hb))
 (try simp only [Act.put, List.setIfInBounds_toArray, List.set_cons_zero, List.set_cons_succ])
 have H := HC4.out
 clear HC4
 by_cases c11 : t516 = true
 ·subst c11
  replace H := ite_t_ H
  obtain rfl := Option.some.inj H
  go_wp2
  go_ret
  exact ⟨eq_, bl_⟩
 ·replace c11 := Bool.eq_false_iff.mpr c11
  subst c11
  replace H := ite_f_ H
  obtain rfl := Option.some.inj H
  go_wp2
  go_ret
  exact ⟨eq_, bl_⟩
def laws_FnExactCopiesRight.f (k : Nat) (l0_0 : List (S57)) : Option (Bool) := (laws_szRing.f k l0_0 1048576).bind fun t518 => (if t518 < 0 then (some true) else ((laws_toRing.f k l0_0).bind fun t519 => ((spec_CopiesRight.f k t519).bind fun t522 => ((laws_toRing.f k l0_0).bind fun t523 => ((impl_CopiesRight.f k t523).bind fun t527 => (if (t527 != t522) = true then (some false) else ((laws_toRing.f k l0_0).bind fun t528 => ((laws_eqRing.f k t523 t528).bind fun t531 => (if t531 = true then (some true) else (some false))))))))))
set_option maxHeartbeats 8000000 in
set_option maxRecDepth 100000 in
theorem laws_FnExactCopiesRight.calls (k : Nat) (A0_0 : Option Addr) (c0_0 : Nat) (l0_0 : List (S57)) (r : Bool) (w : World) (hr0_0 : Kd.C k57 w A0_0 l0_0.length l0_0) (hc0_0 : l0_0.length ≤ c0_0) (hr_ : r = true) (h : laws_FnExactCopiesRight.f k l0_0 = some r) :
  Calls Try.prog 3 #[.agg #[.slice A0_0 l0_0.length c0_0]] w fun e w' => e = .returned (.bool r) ∧ Below w.heap.size w w' := by
 have hu24 := Try.underlying24
 have hu29 := Try.underlying29
 have HR0_0 := aa_ hr0_0
 have HC0_0 := aa_ hc0_0
 clear hr0_0 hc0_0
 have HB := aa_ (Below.refl w.heap.size w)
 have H : ((laws_szRing.f k l0_0 1048576).bind fun t518 => (if t518 < 0 then (some true) else ((laws_toRing.f k l0_0).bind fun t519 => ((spec_CopiesRight.f k t519).bind fun t522 => ((laws_toRing.f k l0_0).bind fun t523 => ((impl_CopiesRight.f k t523).bind fun t527 => (if (t527 != t522) = true then (some false) else ((laws_toRing.f k l0_0).bind fun t528 => ((laws_eqRing.f k t523 t528).bind fun t531 => (if t531 = true then (some true) else (some false))))))))))) = some r := h
 clear h
 obtain ⟨t518, A2, H⟩ := bindE_ H
 have HC3 := aa_ H
 clear H
 go_enter Try.func3, Try.ntmps3
 go_upto_if 11 with (first | ((with_reducible refine gD_ 1 rfl ?_); refine bx_ (N := 1) (cs := #[.slice A0_0 l0_0.length c0_0]) (t := 24) ?_; intro gb517 hg w4 hbox hb; have BK517 := aa_ (hbox); have GW517 := gs_ hg; have GE517 := gs_ hg; replace HB := hbs_ hb; clear hb hbox hg; obtain ⟨hcz5, hfz5⟩ := bcf_ BK517) | ((with_reducible refine gC_ 4 rfl ?_); refine goesC_ (some 9) Try.func4 #[.agg #[.slice A0_0 l0_0.length c0_0], .int .i64 1048576] ?_; (with_reducible refine (laws_szRing.calls k _ _ l0_0 1048576 t518 _ ?side1 ?side2 A2.out).mono ?_); (case side1 => repeat (first | exact (Kd.C_below HR0_0.out HB.out) | (with_reducible refine Kd.C_alloc ?_ _) | (with_reducible refine Kd.C_drewN ?_ _) | (with_reducible refine Kd.C_drew ?_))); (case side2 => exact HC0_0.out); rintro e w6 ⟨rfl, hb⟩; refine ⟨_, rfl, ?_⟩; replace BK517 := bkb_ BK517 hb; replace HB := hbs_ hb; clear hb))
 (try simp only [Act.put, List.setIfInBounds_toArray, List.set_cons_zero, List.set_cons_succ])
 have H := HC3.out
 clear HC3
 by_cases c7 : t518 < 0
 ·rw [if_pos c7] at H
  have c7b0 : decide (t518 < 0) = true := decide_eq_true c7
  clear c7
  (first | rw [c7b0] | (simp only [i64_w, i32_w]; rw [c7b0]) | skip)
  obtain rfl := Option.some.inj H
  go_wp2
  go_ret
  exact ⟨eq_, bl_⟩
 ·rw [if_neg c7] at H
  have c7b0 : decide (t518 < 0) = false := decide_eq_false c7
  clear c7
  (first | rw [c7b0] | (simp only [i64_w, i32_w]; rw [c7b0]) | skip)
  obtain ⟨t519, A8, H⟩ := bindE_ H
  obtain ⟨t522, A9, H⟩ := bindE_ H
  obtain ⟨t523, A10, H⟩ := bindE_ H
  obtain ⟨t527, A11, H⟩ := bindE_ H
  have HC12 := aa_ H
  clear H
  have hcz13 := blk_cell BK517.out
  have hfz13 := blk_frozen BK517.out
  go_upto_if 21 with (first | ((with_reducible refine gC_ 6 rfl ?_); refine goesC_ (some 13) Try.func6 #[.agg #[.slice A0_0 l0_0.length c0_0]] ?_; (with_reducible refine (laws_toRing.calls k _ _ l0_0 t519 _ ?side1 ?side2 A8.out).mono ?_); (case side1 => repeat (first | exact (Kd.C_below HR0_0.out HB.out) | (with_reducible refine Kd.C_alloc ?_ _) | (with_reducible refine Kd.C_drewN ?_ _) | (with_reducible refine Kd.C_drew ?_))); (case side2 => exact HC0_0.out); rintro e w14 ⟨v520, rfl, ho0, hb⟩; refine ⟨_, rfl, ?_⟩; have HO521 := aa_ (Kd.R_lower ho0 bls_); replace BK517 := bkb_ BK517 hb; replace HB := hbs_ hb; (try clear hb ho0); obtain ⟨Ao15, co15, eo15⟩ := Kd.R_slice HO521.out; subst eo15) | ((with_reducible refine gC_ 5 rfl ?_); refine goesC_ (some 14) Try.func5 #[.agg #[.slice Ao15 t519.length co15]] ?_; (with_reducible refine (spec_CopiesRight.calls k _ _ t519 t522 _ ?side1 ?side2 A9.out).mono ?_); (case side1 => repeat (first | exact (Kd.R_reads' HO521.out).2.2 | (with_reducible refine Kd.C_alloc ?_ _) | (with_reducible refine Kd.C_drewN ?_ _) | (with_reducible refine Kd.C_drew ?_))); (case side2 => exact (Kd.R_reads' HO521.out).2.1); rintro e w16 ⟨rfl, hb⟩; refine ⟨_, rfl, ?_⟩; replace HO521 := hob_ HO521 hb; replace BK517 := bkb_ BK517 hb; replace HB := hbs_ hb; clear hb; obtain ⟨hcz17, hfz17⟩ := bcf_ BK517) | ((with_reducible refine gC_ 6 rfl ?_); refine goesC_ (some 16) Try.func6 #[.agg #[.slice A0_0 l0_0.length c0_0]] ?_; (with_reducible refine (laws_toRing.calls k _ _ l0_0 t523 _ ?side1 ?side2 A10.out).mono ?_); (case side1 => repeat (first | exact (Kd.C_below HR0_0.out HB.out) | (with_reducible refine Kd.C_alloc ?_ _) | (with_reducible refine Kd.C_drewN ?_ _) | (with_reducible refine Kd.C_drew ?_))); (case side2 => exact HC0_0.out); rintro e w18 ⟨v524, rfl, ho0, hb⟩; refine ⟨_, rfl, ?_⟩; have HO525 := aa_ (Kd.R_lower (Kd.R_new' ho0 (Kd.R_lt (rr_ HO521))) bls_); replace HO521 := aa_ (Kd.R_elder' (rr_ HO521) (Kd.R_base ho0) hb); replace BK517 := bkb_ BK517 hb; replace HB := hbs_ hb; (try clear hb ho0)) | ((with_reducible refine gD_ 5 rfl ?_); refine bx_ (N := 5) (cs := #[.slice none 0 0]) (t := 29) ?_; intro gb526 hg w19 hbox hb; replace HO521 := hob_ HO521 hb; replace HO525 := hob_ HO525 hb; have BK526 := aa_ (hbox); have GW526 := gs_ hg; have GE526 := gs_ hg; replace HB := hbs_ hb; have NB517_526 := nl_ hg BK517; have NB526_517 := nr_ hg BK517; replace BK517 := bkb_ BK517 hb; clear hb hbox hg; obtain ⟨Ao20, co20, eo20⟩ := Kd.R_slice HO525.out; subst eo20; have hnb21 := NB526_517.out; have hnc21 := NB517_526.out; obtain ⟨hcz22, hfz22⟩ := bcf_ BK526) | ((with_reducible refine gC_ 7 rfl ?_); refine goesC_ (some 18) Try.func7 #[.agg #[.slice Ao20 t523.length co20]] ?_; (with_reducible refine (impl_CopiesRight.calls k _ _ t523 t527 _ ?side1 ?side2 A11.out).mono ?_); (case side1 => refine (Kd.R_reads' (e := 42) (base := w.heap.size) (ok := fun k_ => (True ∧ some k_ ≠ (.slice Ao15 t519.length co15 : Value).ownBlock)) (n := t523.length) (c := co20) ?_).2.2; exact (by (with_reducible repeat (first | apply Kd.R_alloc | apply Kd.R_drewN | apply Kd.R_drew)); exact (Kd.R_mono (Kd.R_far (p := ⟨gb526, 0, none⟩) (Kd.R_types HO525.out BK526.out (by decide)) (fun _ hk => hk.2) (.slice Ao20 t523.length co20)) (fun _ h_ => h_.1)))); (case side2 => exact (Kd.R_reads' HO525.out).2.1); rintro e w23 ⟨rfl, hb⟩; refine ⟨_, rfl, ?_⟩; replace HO521 := aa_ (Kd.R_below (by (with_reducible repeat (first | apply Kd.R_alloc | apply Kd.R_drewN | apply Kd.R_drew)); exact (Kd.R_mono (Kd.R_far (p := ⟨gb526, 0, none⟩) (Kd.R_types HO521.out BK526.out (by decide)) (fun _ hk => hk.2) (.slice Ao20 t523.length co20)) (fun _ h_ => h_.1))) hb); replace HO525 := aa_ (Kd.R_below (by (with_reducible repeat (first | apply Kd.R_alloc | apply Kd.R_drewN | apply Kd.R_drew)); exact (Kd.R_mono (Kd.R_far (p := ⟨gb526, 0, none⟩) (Kd.R_types HO525.out BK526.out (by decide)) (fun _ hk => hk.2) (.slice Ao20 t523.length co20)) (fun _ h_ => h_.1))) hb); replace BK517 := aa_ (blk_below (g := gb517) (o := .cells #[.slice A0_0 l0_0.length c0_0] 24 (0, 0)) (bk_ BK517) hb); replace BK526 := aa_ (blk_below (g := gb526) (o := .cells #[.slice Ao20 t523.length co20] 29 (0, 0)) (bk_ BK526) hb); replace HB := hbs_ hb; clear hb))
  (try simp only [Act.put, List.setIfInBounds_toArray, List.set_cons_zero, List.set_cons_succ])
  have H := HC12.out
  clear HC12
  by_cases c24 : (t527 != t522) = true
  ·rw [if_pos c24] at H
   have c24b0 : (t527 != t522) = true := c24
   (try (have c24b1 : decide (t527 = t522) = false := by simpa using c24))
   (try (have c24b2 : (t527 == t522) = false := by simpa using c24))
   (try (have c24b5 : (!(t527 == t522)) = true := by rw [c24b2]; rfl))
   (try (have c24b3 : ¬ (t527 = t522) := by simpa using c24))
   clear c24
   (first | rw [c24b5] | rw [c24b0] | (simp only [i64_w, i32_w]; rw [c24b0]) | skip)
   exact absurd (Option.some.inj (H.trans (congrArg some hr_))) (by decide)
  ·rw [if_neg c24] at H
   have c24b0 : (t527 != t522) = false := by simpa using c24
   (try (have c24b1 : decide (t527 = t522) = true := by simpa using c24))
   (try (have c24b2 : (t527 == t522) = true := by simpa using c24))
   (try (have c24b5 : (!(t527 == t522)) = false := by rw [c24b2]; rfl))
   clear c24
   (first | rw [c24b5] | rw [c24b0] | (simp only [i64_w, i32_w]; rw [c24b0]) | skip)
   obtain ⟨t528, A25, H⟩ := bindE_ H
   obtain ⟨t531, A26, H⟩ := bindE_ H
   have HC27 := aa_ H
   clear H
   try go_wp2
   replace HO521 := aa_ (Kd.R_drew HO521.out)
   replace HO525 := aa_ (Kd.R_drew HO525.out)
   replace BK517 := aa_ (blk_drew BK517.out)
   replace BK526 := aa_ (blk_drew BK526.out)
   replace HB := aa_ (below_drew1 HB.out)
   refine start_ (n := 5) (S := fun w' => w'.cell? ⟨gb526, 0, none⟩ = some (.slice Ao20 t523.length co20) ∧ w'.cell? ⟨gb517, 0, none⟩ = some (.slice A0_0 l0_0.length c0_0)) (ds := []) (ba_ 5 0) (by kernel_rfl) rfl rfl ⟨(blk_cell BK526.out 0).trans rfl, (blk_cell BK517.out 0).trans rfl⟩ (fun hHeld => ?_)
   generalize w23.drew = w28 at HO521 HO525 BK517 BK526 HB hHeld ⊢
   refine take_ (i := 0) (N := some 22) (v := ?_) (a' := ?_) (ba_ 5 1) rfl rfl (by kernel_rfl) (fun _ _ _ h => h) (Or.inl ⟨by rfl, ?_⟩) hHeld ?_ ?_
   rotate_left
   ·rintro w' ⟨s0, s1⟩
    go_simp
    with_reducible rfl
   rotate_left
   ·simp only [Act.put, List.setIfInBounds_toArray, List.set_cons_zero, List.set_cons_succ, i64_w, i32_w]
    rfl
   refine take_ (i := 1) (N := some 23) (v := ?_) (a' := ?_) (ba_ 5 3) rfl rfl (by kernel_rfl) (fun _ _ _ h => h) (Or.inl ⟨by rfl, ?_⟩) hHeld ?_ ?_
   rotate_left
   ·rintro w' ⟨s0, s1⟩
    go_simp
    with_reducible rfl
   rotate_left
   ·simp only [Act.put, List.setIfInBounds_toArray, List.set_cons_zero, List.set_cons_succ, i64_w, i32_w]
    rfl
   refine one_ (i := 2) (N := some 24) (ba_ 5 7) rfl rfl (by kernel_rfl) (by decide) (fun K hK => ?_)
   refine goes_ Try.func6 (by kernel_rfl) rfl #[.agg #[.slice A0_0 l0_0.length c0_0]] (by rfl) rfl rfl (by (try simp only [List.map_toArray, List.map_cons, List.map_nil]); first | done | rfl | (simp only [List.length_drop, List.length_take]; rfl)) ?_
   with_reducible refine (laws_toRing.calls k _ _ l0_0 t528 _ ?side1 ?side2 A25.out).mono ?_
   (case side1 => repeat (first | exact (Kd.C_below HR0_0.out HB.out) | (with_reducible refine Kd.C_alloc ?_ _) | (with_reducible refine Kd.C_drewN ?_ _) | (with_reducible refine Kd.C_drew ?_)))
   (case side2 => exact HC0_0.out)
   rintro e w29 ⟨v529, rfl, ho0, hb⟩
   refine ⟨_, rfl, ?_⟩
   have HO530 := aa_ (Kd.R_lower (Kd.R_new' (Kd.R_new' ho0 (Kd.R_lt (rr_ HO521))) (Kd.R_lt (rr_ HO525))) bls_)
   replace HO521 := aa_ (Kd.R_elder' (rr_ HO521) (Kd.R_base ho0) hb)
   replace HO525 := aa_ (Kd.R_elder' (rr_ HO525) (Kd.R_base ho0) hb)
   replace BK517 := bkb_ BK517 hb
   replace BK526 := bkb_ BK526 hb
   replace HB := hbs_ hb
   (try clear hb)
   (try clear hb2)
   (try clear hk)
   (try clear hi)
   (try clear ho0)
   obtain ⟨Ao30, co30, eo30⟩ := Kd.R_slice HO530.out
   (first | subst eo30 | (injection eo30 with f1_ f2_ f3_; have f4_ := f1_.symm; have f5_ := f3_.symm; clear f1_ f2_ f3_; subst f4_; subst f5_))
   refine hK.out _ _ ⟨(blk_cell BK526.out 0).trans rfl, (blk_cell BK517.out 0).trans rfl⟩ (fun hHeld => ?_)
   clear hK K
   refine norm_ (a' := ?_) ?_ ?_
   rotate_left
   ·show Act.put _ (some 24) _ = _
    simp only [Act.put, List.setIfInBounds_toArray, List.set_cons_zero, List.set_cons_succ, i64_w, i32_w]
    rfl
   refine one_ (i := 3) (N := some 25) (ba_ 5 15) rfl rfl (by kernel_rfl) (by decide) (fun K hK => ?_)
   refine goes_ Try.func8 (by kernel_rfl) rfl #[.agg #[.slice Ao20 t523.length co20], .agg #[.slice Ao30 t528.length co30]] (by rfl) rfl rfl (by (try simp only [List.map_toArray, List.map_cons, List.map_nil]); first | done | rfl | (simp only [List.length_drop, List.length_take]; rfl)) ?_
   with_reducible refine (laws_eqRing.calls k _ _ t523 _ _ t528 t531 _ ?side1 ?side2 ?side3 ?side4 A26.out).mono ?_
   (case side1 => repeat (first | exact (Kd.R_reads' HO525.out).2.2 | (with_reducible refine Kd.C_alloc ?_ _) | (with_reducible refine Kd.C_drewN ?_ _) | (with_reducible refine Kd.C_drew ?_)))
   (case side2 => exact (Kd.R_reads' HO525.out).2.1)
   (case side3 => repeat (first | exact (Kd.R_reads' HO530.out).2.2 | (with_reducible refine Kd.C_alloc ?_ _) | (with_reducible refine Kd.C_drewN ?_ _) | (with_reducible refine Kd.C_drew ?_)))
   (case side4 => exact (Kd.R_reads' HO530.out).2.1)
   rintro e w31 ⟨rfl, hb⟩
   refine ⟨_, rfl, ?_⟩
   replace HO521 := hob_ HO521 hb
   replace HO525 := hob_ HO525 hb
   replace HO530 := hob_ HO530 hb
   replace BK517 := bkb_ BK517 hb
   replace BK526 := bkb_ BK526 hb
   replace HB := hbs_ hb
   (try clear hb)
   (try clear hb2)
   (try clear hk)
   (try clear hi)
   refine hK.out _ _ ⟨(blk_cell BK526.out 0).trans rfl, (blk_cell BK517.out 0).trans rfl⟩ (fun hHeld => ?_)
   clear hK K
   refine norm_ (a' := ?_) ?_ ?_
   rotate_left
   ·show Act.put _ (some 25) _ = _
    simp only [Act.put, List.setIfInBounds_toArray, List.set_cons_zero, List.set_cons_succ, i64_w, i32_w]
    rfl
   refine pure_ (i := 4) (N := some 26) (v := ?_) (a' := ?_) (ba_ 5 31) rfl rfl (by kernel_rfl) (fun _ _ _ h => h) (Or.inl ⟨by rfl, ?_⟩) ?_ ?_
   rotate_left
   ·intro w'
    go_simp
    with_reducible rfl
   rotate_left
   ·simp only [Act.put, List.setIfInBounds_toArray, List.set_cons_zero, List.set_cons_succ, i64_w, i32_w]
    rfl
   refine done_ (by kernel_rfl) ?_
   go_upto_if 26 with (fail)
   have H := HC27.out
   clear HC27
   by_cases c32 : t531 = true
   ·subst c32
    replace H := ite_t_ H
    obtain rfl := Option.some.inj H
    go_wp2
    go_ret
    exact ⟨eq_, bl_⟩
   ·replace c32 := Bool.eq_false_iff.mpr c32
    subst c32
    replace H := ite_f_ H
    exact absurd (Option.some.inj (H.trans (congrArg some hr_))) (by decide)
end Go.Proofs.Ytkimdmdkldlhpaa.PA
