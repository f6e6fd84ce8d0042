import Derived.Test.YtkimdmdkldlhpaaKCPAx0
-- printed by wip/tools
namespace Go.Proofs.Ytkimdmdkldlhpaa.PA
open Go.RowKit Go.Proofs.YtkimdmdkldlhpaaW.PrintWords Go.Proofs.YtkimdmdkldlhpaaW.PrintLast Go.Proofs.YtkimdmdkldlhpaaW.PrintMore
attribute [local go_sem] max2_int min2_int max_two min_two max_three min_three max_four min_four
set_option linter.unusedVariables false
set_option linter.unusedSimpArgs false
def laws_szIntS.f (l0 : List Int) (a1 : Int) : Option (Int) := if (wrap64 (a1 - (l0.length : Int))) < 0 then (some (-1)) else (some (wrap64 (a1 - (l0.length : Int))))
set_option maxHeartbeats 8000000 in
set_option maxRecDepth 100000 in
theorem laws_szIntS.calls (A0 : Option Addr) (c0 : Nat) (l0 : List Int) (a1 : Int) (r : Int) (w : World) (hr0 : Kd.C (Kd.int .i64) w A0 l0.length l0) (hc0 : l0.length ≤ c0) (h : laws_szIntS.f l0 a1 = some r) :
  Calls Try.prog 44 #[.slice A0 l0.length c0, .int .i64 a1] w fun e w' => e = .returned (.int .i64 r) ∧ Drawn0 w w' := by
 have HR0 := aa_ hr0
 have HC0 := aa_ hc0
 clear hr0 hc0
 have H : (if (wrap64 (a1 - (l0.length : Int))) < 0 then (some (-1)) else (some (wrap64 (a1 - (l0.length : Int))))) = some r := h
 clear h
 by_cases c3 : (wrap64 (a1 - (l0.length : Int))) < 0
 ·rw [if_pos c3] at H
  have c3b0 : decide ((wrap64 (a1 - (l0.length : Int))) < 0) = true := decide_eq_true c3
  clear c3
  obtain rfl := Option.some.inj H
  go_enter Try.func44, Try.ntmps44
  go_wp2
  go_ret
  exact ⟨by first | rfl | (simp; done) | (simp [*]; done), by repeat (first | exact Drawn0.refl _ | apply Drawn0.step)⟩
 ·rw [if_neg c3] at H
  have c3b0 : decide ((wrap64 (a1 - (l0.length : Int))) < 0) = false := decide_eq_false c3
  clear c3
  obtain rfl := Option.some.inj H
  go_enter Try.func44, Try.ntmps44
  go_wp2
  go_ret
  exact ⟨by first | rfl | (simp; done) | (simp [*]; done), by repeat (first | exact Drawn0.refl _ | apply Drawn0.step)⟩
def laws_szItem.f (a0_0 : ByteArray) (a0_1 : Bool) (a1 : Int) : Option (Int) := if (wrap64 (a1 - (a0_0.size : Int))) < 0 then (some (-1)) else (some (wrap64 (a1 - (a0_0.size : Int))))
set_option maxHeartbeats 8000000 in
set_option maxRecDepth 100000 in
theorem laws_szItem.calls (a0_0 : ByteArray) (a0_1 : Bool) (a1 : Int) (r : Int) (w : World) (h : laws_szItem.f a0_0 a0_1 a1 = some r) :
  Calls Try.prog 88 #[.agg #[.string a0_0, .bool a0_1], .int .i64 a1] w fun e w' => e = .returned (.int .i64 r) ∧ Below w.heap.size w w' := by
 have hu118 := Try.underlying118
 have HB := aa_ (Below.refl w.heap.size w)
 have H : (if (wrap64 (a1 - (a0_0.size : Int))) < 0 then (some (-1)) else (some (wrap64 (a1 - (a0_0.size : Int))))) = some r := h
 clear h
 by_cases c3 : (wrap64 (a1 - (a0_0.size : Int))) < 0
 ·rw [if_pos c3] at H
  have c3b0 : decide ((wrap64 (a1 - (a0_0.size : Int))) < 0) = true := decide_eq_true c3
  clear c3
  obtain rfl := Option.some.inj H
  go_enter Try.func88, Try.ntmps88
  go_wp2_with (first | ((with_reducible refine gD_ 2 rfl ?_); refine bx_ (N := 2) (cs := #[.string a0_0, .bool a0_1]) (t := 118) ?_; intro gb101 hg w4 hbox hb; have BK101 := aa_ (hbox); have GW101 := gs_ hg; have GE101 := gs_ hg; replace HB := hbs_ hb; clear hb hbox hg; obtain ⟨hcz5, hfz5⟩ := bcf_ BK101))
  go_ret
  exact ⟨eq_, bl_⟩
 ·rw [if_neg c3] at H
  have c3b0 : decide ((wrap64 (a1 - (a0_0.size : Int))) < 0) = false := decide_eq_false c3
  clear c3
  obtain rfl := Option.some.inj H
  go_enter Try.func88, Try.ntmps88
  go_wp2_with (first | ((with_reducible refine gD_ 2 rfl ?_); refine bx_ (N := 2) (cs := #[.string a0_0, .bool a0_1]) (t := 118) ?_; intro gb101 hg w6 hbox hb; have BK101 := aa_ (hbox); have GW101 := gs_ hg; have GE101 := gs_ hg; replace HB := hbs_ hb; clear hb hbox hg; obtain ⟨hcz7, hfz7⟩ := bcf_ BK101))
  go_ret
  exact ⟨eq_, bl_⟩
def laws_szItemS.l0 : Nat → List (S118) → Int → Int → Option (Int)
 | 0, _, _, _ => none
 | k + 1, x0, x1, x5 => if x5 < (x0.length : Int) then (if 0 ≤ x5 then ((laws_szItem.f ((rd_T118 x0 x5).f0) ((rd_T118 x0 x5).f1) x1).bind fun t103 => (if t103 < 0 then (some (-1)) else (laws_szItemS.l0 k x0 t103 (wrap64 (x5 + 1))))) else (none)) else (some x1)
def laws_szItemS.f (k : Nat) (l0 : List (S118)) (a1 : Int) : Option (Int) := if (wrap64 (a1 - (l0.length : Int))) < 0 then (some (-1)) else (laws_szItemS.l0 k l0 (wrap64 (a1 - (l0.length : Int))) 0)
set_option maxHeartbeats 8000000 in
set_option maxRecDepth 100000 in
theorem laws_szItemS.calls (k : Nat) (A0 : Option Addr) (c0 : Nat) (l0 : List (S118)) (a1 : Int) (r : Int) (w : World) (hr0 : Kd.C k118 w A0 l0.length l0) (hc0 : l0.length ≤ c0) (h : laws_szItemS.f k l0 a1 = some r) :
  Calls Try.prog 76 #[.slice A0 l0.length c0, .int .i64 a1] w fun e w' => e = .returned (.int .i64 r) ∧ Below w.heap.size w w' := by
 have hu118 := Try.underlying118
 have HR0 := aa_ hr0
 have HC0 := aa_ hc0
 clear hr0 hc0
 have HB := aa_ (Below.refl w.heap.size w)
 have H : (if (wrap64 (a1 - (l0.length : Int))) < 0 then (some (-1)) else (laws_szItemS.l0 k l0 (wrap64 (a1 - (l0.length : Int))) 0)) = some r := h
 clear h
 by_cases c3 : (wrap64 (a1 - (l0.length : Int))) < 0
 ·rw [if_pos c3] at H
  have c3b0 : decide ((wrap64 (a1 - (l0.length : Int))) < 0) = true := decide_eq_true c3
  clear c3
  obtain rfl := Option.some.inj H
  go_enter Try.func76, Try.ntmps76
  go_wp2
  go_ret
  exact ⟨eq_, bl_⟩
 ·rw [if_neg c3] at H
  have c3b0 : decide ((wrap64 (a1 - (l0.length : Int))) < 0) = false := decide_eq_false c3
  clear c3
  have H' := aa_ H
  clear H
  go_enter Try.func76, Try.ntmps76
  go_wp2
  go_loopg [1, 5] k (fun kq v1 v5 w' => ∃ (x1_1 : Int) (x5_1 : Int), v1 = .int .i64 x1_1 ∧ v5 = .int .i64 x5_1 ∧ Aside0 (laws_szItemS.l0 kq l0 x1_1 x5_1 = some r) ∧ Aside0 (kq ≤ k) ∧ Aside0 (Below w.heap.size w w'))
  case atStart => exact ⟨(wrap64 (a1 - (l0.length : Int))), (0), rf_, rf_, H', ⟨Nat.le_refl _⟩, ⟨bl_⟩⟩
  case round =>
   clear H'
   try clear p2
   try clear c3
   try clear c3b0
   obtain ⟨x1_1, x5_1, rfl, rfl, HA, HK1, HB⟩ := hrel
   cases gk with
   | zero => exact absurd HA.out (by simp [laws_szItemS.l0])
   | succ k1 =>
    have H := HA.out
    clear HA
    simp only [laws_szItemS.l0] at H
    by_cases c4 : x5_1 < (l0.length : Int)
    ·rw [if_pos c4] at H
     have c4b0 : decide (x5_1 < (l0.length : Int)) = true := decide_eq_true c4
     clear c4
     obtain ⟨c5b0, H⟩ := ifd_ H
     obtain ⟨t103, A6, H⟩ := bindE_ H
     have HC7 := aa_ H
     clear H
     have p102 : 0 ≤ (x5_1 : Int) := od_
     have q102 : x5_1 < (l0.length : Int) := od_
     obtain ⟨ad102, e102, hx102_0, hx102_1⟩ := at_T118 (Kd.C_below HR0.out HB.out) x5_1 p102 q102
     cases e102
     replace p102 := eq_true p102
     replace q102 := eq_true q102
     go_upto_if 25 with (first | ((with_reducible refine gC_ 88 rfl ?_); refine goesC_ (some 23) Try.func88 #[.agg #[.string ((rd_T118 l0 x5_1).f0), .bool ((rd_T118 l0 x5_1).f1)], .int .i64 x1_1] ?_; (with_reducible refine (laws_szItem.calls ((rd_T118 l0 x5_1).f0) ((rd_T118 l0 x5_1).f1) x1_1 t103 _ A6.out).mono ?_); rintro e w8 ⟨rfl, hb⟩; refine ⟨_, rfl, ?_⟩; replace HB := hbs_ hb; clear hb))
     (try simp only [Act.put, List.setIfInBounds_toArray, List.set_cons_zero, List.set_cons_succ])
     have H := HC7.out
     clear HC7
     by_cases c9 : t103 < 0
     ·rw [if_pos c9] at H
      have c9b0 : decide (t103 < 0) = true := decide_eq_true c9
      clear c9
      (first | rw [c9b0] | (simp only [i64_w, i32_w]; rw [c9b0]) | skip)
      obtain rfl := Option.some.inj H
      go_wp2
      go_ret
      exact ⟨eq_, bl_⟩
     ·rw [if_neg c9] at H
      have c9b0 : decide (t103 < 0) = false := decide_eq_false c9
      clear c9
      (first | rw [c9b0] | (simp only [i64_w, i32_w]; rw [c9b0]) | skip)
      have H' := aa_ H
      clear H
      go_wp2
      go_roundg k1
      case measure => have := HK1.out; omega
      case rel => exact ⟨(t103), (wrap64 (x5_1 + 1)), rf_, rf_, H', ⟨by have := HK1.out; omega⟩, ⟨bl_⟩⟩
    ·rw [if_neg c4] at H
     have c4b0 : decide (x5_1 < (l0.length : Int)) = false := decide_eq_false c4
     clear c4
     obtain rfl := Option.some.inj H
     go_wp2
     go_ret
     exact ⟨eq_, bl_⟩
def laws_szShelf.f (k : Nat) (a0_0 : Int) (l0_1 : List (S118)) (a1 : Int) : Option (Int) := (laws_szItemS.f k l0_1 a1).bind fun t105 => (if t105 < 0 then (some (-1)) else (some t105))
set_option maxHeartbeats 8000000 in
set_option maxRecDepth 100000 in
theorem laws_szShelf.calls (k : Nat) (a0_0 : Int) (A0_1 : Option Addr) (c0_1 : Nat) (l0_1 : List (S118)) (a1 : Int) (r : Int) (w : World) (hr0_1 : Kd.C k118 w A0_1 l0_1.length l0_1) (hc0_1 : l0_1.length ≤ c0_1) (h : laws_szShelf.f k a0_0 l0_1 a1 = some r) :
  Calls Try.prog 60 #[.agg #[.int .i64 a0_0, .slice A0_1 l0_1.length c0_1], .int .i64 a1] w fun e w' => e = .returned (.int .i64 r) ∧ Below w.heap.size w w' := by
 have hu89 := Try.underlying89
 have HR0_1 := aa_ hr0_1
 have HC0_1 := aa_ hc0_1
 clear hr0_1 hc0_1
 have HB := aa_ (Below.refl w.heap.size w)
 have H : ((laws_szItemS.f k l0_1 a1).bind fun t105 => (if t105 < 0 then (some (-1)) else (some t105))) = some r := h
 clear h
 obtain ⟨t105, A3, H⟩ := bindE_ H
 have HC4 := aa_ H
 clear H
 go_enter Try.func60, Try.ntmps60
 go_upto_if 10 with (first | ((with_reducible refine gD_ 2 rfl ?_); refine bx_ (N := 2) (cs := #[.int .i64 a0_0, .slice A0_1 l0_1.length c0_1]) (t := 89) ?_; intro gb104 hg w5 hbox hb; have BK104 := aa_ (hbox); have GW104 := gs_ hg; have GE104 := gs_ hg; replace HB := hbs_ hb; clear hb hbox hg; obtain ⟨hcz6, hfz6⟩ := bcf_ BK104) | ((with_reducible refine gC_ 76 rfl ?_); refine goesC_ (some 8) Try.func76 #[.slice A0_1 l0_1.length c0_1, .int .i64 a1] ?_; (with_reducible refine (laws_szItemS.calls k _ _ l0_1 a1 t105 _ ?side1 ?side2 A3.out).mono ?_); (case side1 => repeat (first | exact (Kd.C_below HR0_1.out HB.out) | (with_reducible refine Kd.C_alloc ?_ _) | (with_reducible refine Kd.C_drewN ?_ _) | (with_reducible refine Kd.C_drew ?_))); (case side2 => exact HC0_1.out); rintro e w7 ⟨rfl, hb⟩; refine ⟨_, rfl, ?_⟩; replace BK104 := bkb_ BK104 hb; replace HB := hbs_ hb; clear hb))
 (try simp only [Act.put, List.setIfInBounds_toArray, List.set_cons_zero, List.set_cons_succ])
 have H := HC4.out
 clear HC4
 by_cases c8 : t105 < 0
 ·rw [if_pos c8] at H
  have c8b0 : decide (t105 < 0) = true := decide_eq_true c8
  clear c8
  (first | rw [c8b0] | (simp only [i64_w, i32_w]; rw [c8b0]) | skip)
  obtain rfl := Option.some.inj H
  go_wp2
  go_ret
  exact ⟨eq_, bl_⟩
 ·rw [if_neg c8] at H
  have c8b0 : decide (t105 < 0) = false := decide_eq_false c8
  clear c8
  (first | rw [c8b0] | (simp only [i64_w, i32_w]; rw [c8b0]) | skip)
  obtain rfl := Option.some.inj H
  go_wp2
  go_ret
  exact ⟨eq_, bl_⟩
def laws_szShelfS.l0 : Nat → List (S89) → Int → Int → Option (Int)
 | 0, _, _, _ => none
 | k + 1, x0, x1, x5 => if x5 < (x0.length : Int) then (if 0 ≤ x5 then ((laws_szShelf.f k ((rd_T89 x0 x5).f0) ((rd_T89 x0 x5).f1) x1).bind fun t107 => (if t107 < 0 then (some (-1)) else (laws_szShelfS.l0 k x0 t107 (wrap64 (x5 + 1))))) else (none)) else (some x1)
def laws_szShelfS.f (k : Nat) (l0 : List (S89)) (a1 : Int) : Option (Int) := if (wrap64 (a1 - (l0.length : Int))) < 0 then (some (-1)) else (laws_szShelfS.l0 k l0 (wrap64 (a1 - (l0.length : Int))) 0)
set_option maxHeartbeats 8000000 in
set_option maxRecDepth 100000 in
theorem laws_szShelfS.calls (k : Nat) (A0 : Option Addr) (c0 : Nat) (l0 : List (S89)) (a1 : Int) (r : Int) (w : World) (hr0 : Kd.C k89 w A0 l0.length l0) (hc0 : l0.length ≤ c0) (h : laws_szShelfS.f k l0 a1 = some r) :
  Calls Try.prog 45 #[.slice A0 l0.length c0, .int .i64 a1] w fun e w' => e = .returned (.int .i64 r) ∧ Below w.heap.size w w' := by
 have hu89 := Try.underlying89
 have HR0 := aa_ hr0
 have HC0 := aa_ hc0
 clear hr0 hc0
 have HB := aa_ (Below.refl w.heap.size w)
 have H : (if (wrap64 (a1 - (l0.length : Int))) < 0 then (some (-1)) else (laws_szShelfS.l0 k l0 (wrap64 (a1 - (l0.length : Int))) 0)) = some r := h
 clear h
 by_cases c3 : (wrap64 (a1 - (l0.length : Int))) < 0
 ·rw [if_pos c3] at H
  have c3b0 : decide ((wrap64 (a1 - (l0.length : Int))) < 0) = true := decide_eq_true c3
  clear c3
  obtain rfl := Option.some.inj H
  go_enter Try.func45, Try.ntmps45
  go_wp2
  go_ret
  exact ⟨eq_, bl_⟩
 ·rw [if_neg c3] at H
  have c3b0 : decide ((wrap64 (a1 - (l0.length : Int))) < 0) = false := decide_eq_false c3
  clear c3
  have H' := aa_ H
  clear H
  go_enter Try.func45, Try.ntmps45
  go_wp2
  go_loopg [1, 5] k (fun kq v1 v5 w' => ∃ (x1_1 : Int) (x5_1 : Int), v1 = .int .i64 x1_1 ∧ v5 = .int .i64 x5_1 ∧ Aside0 (laws_szShelfS.l0 kq l0 x1_1 x5_1 = some r) ∧ Aside0 (kq ≤ k) ∧ Aside0 (Below w.heap.size w w'))
  case atStart => exact ⟨(wrap64 (a1 - (l0.length : Int))), (0), rf_, rf_, H', ⟨Nat.le_refl _⟩, ⟨bl_⟩⟩
  case round =>
   clear H'
   try clear p2
   try clear c3
   try clear c3b0
   obtain ⟨x1_1, x5_1, rfl, rfl, HA, HK1, HB⟩ := hrel
   cases gk with
   | zero => exact absurd HA.out (by simp [laws_szShelfS.l0])
   | succ k1 =>
    have H := HA.out
    clear HA
    simp only [laws_szShelfS.l0] at H
    by_cases c4 : x5_1 < (l0.length : Int)
    ·rw [if_pos c4] at H
     have c4b0 : decide (x5_1 < (l0.length : Int)) = true := decide_eq_true c4
     clear c4
     obtain ⟨c5b0, H⟩ := ifd_ H
     obtain ⟨t107, A6, H⟩ := bindE_ H
     have HC7 := aa_ H
     clear H
     have p106 : 0 ≤ (x5_1 : Int) := od_
     have q106 : x5_1 < (l0.length : Int) := od_
     obtain ⟨ad106, A106_1, c106_1, e106, hx106_0, hx106_1, hl106_1, hi106_1⟩ := at_T89 HR0.out x5_1 p106 q106
     cases e106
     replace hx106_0 := cb_ HB hx106_0
     replace hx106_1 := cb_ HB hx106_1
     have HR106_1 := aa_ hi106_1
     have HC106_1 := aa_ hl106_1
     clear hi106_1 hl106_1
     replace p106 := eq_true p106
     replace q106 := eq_true q106
     go_upto_if 25 with (first | ((with_reducible refine gC_ 60 rfl ?_); refine goesC_ (some 23) Try.func60 #[.agg #[.int .i64 ((rd_T89 l0 x5_1).f0), .slice A106_1 ((rd_T89 l0 x5_1).f1).length c106_1], .int .i64 x1_1] ?_; (with_reducible refine (laws_szShelf.calls k1 ((rd_T89 l0 x5_1).f0) _ _ ((rd_T89 l0 x5_1).f1) x1_1 t107 _ ?side1 ?side2 A6.out).mono ?_); (case side1 => repeat (first | exact (Kd.C_below HR106_1.out HB.out) | (with_reducible refine Kd.C_alloc ?_ _) | (with_reducible refine Kd.C_drewN ?_ _) | (with_reducible refine Kd.C_drew ?_))); (case side2 => exact HC106_1.out); rintro e w8 ⟨rfl, hb⟩; refine ⟨_, rfl, ?_⟩; replace HB := hbs_ hb; clear hb))
     (try simp only [Act.put, List.setIfInBounds_toArray, List.set_cons_zero, List.set_cons_succ])
     have H := HC7.out
     clear HC7
     by_cases c9 : t107 < 0
     ·rw [if_pos c9] at H
      have c9b0 : decide (t107 < 0) = true := decide_eq_true c9
      clear c9
      (first | rw [c9b0] | (simp only [i64_w, i32_w]; rw [c9b0]) | skip)
      obtain rfl := Option.some.inj H
      go_wp2
      go_ret
      exact ⟨eq_, bl_⟩
     ·rw [if_neg c9] at H
      have c9b0 : decide (t107 < 0) = false := decide_eq_false c9
      clear c9
      (first | rw [c9b0] | (simp only [i64_w, i32_w]; rw [c9b0]) | skip)
      have H' := aa_ H
      clear H
      go_wp2
      go_roundg k1
      case measure => have := HK1.out; omega
      case rel => exact ⟨(t107), (wrap64 (x5_1 + 1)), rf_, rf_, H', ⟨by have := HK1.out; omega⟩, ⟨bl_⟩⟩
    ·rw [if_neg c4] at H
     have c4b0 : decide (x5_1 < (l0.length : Int)) = false := decide_eq_false c4
     clear c4
     obtain rfl := Option.some.inj H
     go_wp2
     go_ret
     exact ⟨eq_, bl_⟩
def laws_szPeer.f (k : Nat) (a0_0 : Int) (a0_1 : Bool) (a0_2 : Int) (l0_3 : List Int) (l0_4 : List Int) (l0_5 : List (S89)) (a1 : Int) : Option (Int) := (laws_szIntS.f l0_3 a1).bind fun t109 => (if t109 < 0 then (some (-1)) else ((laws_szIntS.f l0_4 t109).bind fun t110 => (if t110 < 0 then (some (-1)) else ((laws_szShelfS.f k l0_5 t110).bind fun t111 => (if t111 < 0 then (some (-1)) else (some t111))))))
set_option maxHeartbeats 8000000 in
set_option maxRecDepth 100000 in
theorem laws_szPeer.calls (k : Nat) (a0_0 : Int) (a0_1 : Bool) (a0_2 : Int) (A0_3 : Option Addr) (c0_3 : Nat) (l0_3 : List Int) (A0_4 : Option Addr) (c0_4 : Nat) (l0_4 : List Int) (A0_5 : Option Addr) (c0_5 : Nat) (l0_5 : List (S89)) (a1 : Int) (r : Int) (w : World) (hr0_3 : Kd.C (Kd.int .i64) w A0_3 l0_3.length l0_3) (hc0_3 : l0_3.length ≤ c0_3) (hr0_4 : Kd.C (Kd.int .i64) w A0_4 l0_4.length l0_4) (hc0_4 : l0_4.length ≤ c0_4) (hr0_5 : Kd.C k89 w A0_5 l0_5.length l0_5) (hc0_5 : l0_5.length ≤ c0_5) (h : laws_szPeer.f k a0_0 a0_1 a0_2 l0_3 l0_4 l0_5 a1 = some r) :
  Calls Try.prog 29 #[.agg #[.int .i64 a0_0, .bool a0_1, .int .i64 a0_2, .slice A0_3 l0_3.length c0_3, .slice A0_4 l0_4.length c0_4, .slice A0_5 l0_5.length c0_5], .int .i64 a1] w fun e w' => e = .returned (.int .i64 r) ∧ Below w.heap.size w w' := by
 have hu57 := Try.underlying57
 have HR0_3 := aa_ hr0_3
 have HC0_3 := aa_ hc0_3
 clear hr0_3 hc0_3
 have HR0_4 := aa_ hr0_4
 have HC0_4 := aa_ hc0_4
 clear hr0_4 hc0_4
 have HR0_5 := aa_ hr0_5
 have HC0_5 := aa_ hc0_5
 clear hr0_5 hc0_5
 have HB := aa_ (Below.refl w.heap.size w)
 have H : ((laws_szIntS.f l0_3 a1).bind fun t109 => (if t109 < 0 then (some (-1)) else ((laws_szIntS.f l0_4 t109).bind fun t110 => (if t110 < 0 then (some (-1)) else ((laws_szShelfS.f k l0_5 t110).bind fun t111 => (if t111 < 0 then (some (-1)) else (some t111))))))) = some r := h
 clear h
 obtain ⟨t109, A3, H⟩ := bindE_ H
 have HC4 := aa_ H
 clear H
 go_enter Try.func29, Try.ntmps29
 go_upto_if 10 with (first | ((with_reducible refine gD_ 2 rfl ?_); refine bx_ (N := 2) (cs := #[.int .i64 a0_0, .bool a0_1, .int .i64 a0_2, .slice A0_3 l0_3.length c0_3, .slice A0_4 l0_4.length c0_4, .slice A0_5 l0_5.length c0_5]) (t := 57) ?_; intro gb108 hg w5 hbox hb; have BK108 := aa_ (hbox); have GW108 := gs_ hg; have GE108 := gs_ hg; replace HB := hbs_ hb; clear hb hbox hg; obtain ⟨hcz6, hfz6⟩ := bcf_ BK108) | ((with_reducible refine gC_ 44 rfl ?_); refine goesC_ (some 8) Try.func44 #[.slice A0_3 l0_3.length c0_3, .int .i64 a1] ?_; (with_reducible refine (laws_szIntS.calls _ _ l0_3 a1 t109 _ ?side1 ?side2 A3.out).mono ?_); (case side1 => repeat (first | exact (Kd.C_below HR0_3.out HB.out) | (with_reducible refine Kd.C_alloc ?_ _) | (with_reducible refine Kd.C_drewN ?_ _) | (with_reducible refine Kd.C_drew ?_))); (case side2 => exact HC0_3.out); rintro e w' ⟨rfl, ⟨nd, rfl⟩⟩; refine ⟨_, rfl, ?_⟩))
 (try simp only [Act.put, List.setIfInBounds_toArray, List.set_cons_zero, List.set_cons_succ])
 have H := HC4.out
 clear HC4
 by_cases c7 : t109 < 0
 ·rw [if_pos c7] at H
  have c7b0 : decide (t109 < 0) = true := decide_eq_true c7
  clear c7
  (first | rw [c7b0] | (simp only [i64_w, i32_w]; rw [c7b0]) | skip)
  obtain rfl := Option.some.inj H
  go_wp2
  go_ret
  exact ⟨eq_, bl_⟩
 ·rw [if_neg c7] at H
  have c7b0 : decide (t109 < 0) = false := decide_eq_false c7
  clear c7
  (first | rw [c7b0] | (simp only [i64_w, i32_w]; rw [c7b0]) | skip)
  obtain ⟨t110, A8, H⟩ := bindE_ H
  have HC9 := aa_ H
  clear H
  have hcz10 := blk_cell BK108.out
  have hfz10 := blk_frozen BK108.out
  go_upto_if 16 with (first | ((with_reducible refine gC_ 44 rfl ?_); refine goesC_ (some 14) Try.func44 #[.slice A0_4 l0_4.length c0_4, .int .i64 t109] ?_; (with_reducible refine (laws_szIntS.calls _ _ l0_4 t109 t110 _ ?side1 ?side2 A8.out).mono ?_); (case side1 => repeat (first | exact (Kd.C_below HR0_4.out HB.out) | (with_reducible refine Kd.C_alloc ?_ _) | (with_reducible refine Kd.C_drewN ?_ _) | (with_reducible refine Kd.C_drew ?_))); (case side2 => exact HC0_4.out); rintro e w' ⟨rfl, ⟨nd, rfl⟩⟩; refine ⟨_, rfl, ?_⟩))
  (try simp only [Act.put, List.setIfInBounds_toArray, List.set_cons_zero, List.set_cons_succ])
  have H := HC9.out
  clear HC9
  by_cases c11 : t110 < 0
  ·rw [if_pos c11] at H
   have c11b0 : decide (t110 < 0) = true := decide_eq_true c11
   clear c11
   (first | rw [c11b0] | (simp only [i64_w, i32_w]; rw [c11b0]) | skip)
   obtain rfl := Option.some.inj H
   go_wp2
   go_ret
   exact ⟨eq_, bl_⟩
  ·rw [if_neg c11] at H
   have c11b0 : decide (t110 < 0) = false := decide_eq_false c11
   clear c11
   (first | rw [c11b0] | (simp only [i64_w, i32_w]; rw [c11b0]) | skip)
   obtain ⟨t111, A12, H⟩ := bindE_ H
   have HC13 := aa_ H
   clear H
   have hcz14 := blk_cell BK108.out
   have hfz14 := blk_frozen BK108.out
   go_upto_if 22 with (first | ((with_reducible refine gC_ 45 rfl ?_); refine goesC_ (some 20) Try.func45 #[.slice A0_5 l0_5.length c0_5, .int .i64 t110] ?_; (with_reducible refine (laws_szShelfS.calls k _ _ l0_5 t110 t111 _ ?side1 ?side2 A12.out).mono ?_); (case side1 => repeat (first | exact (Kd.C_below HR0_5.out HB.out) | (with_reducible refine Kd.C_alloc ?_ _) | (with_reducible refine Kd.C_drewN ?_ _) | (with_reducible refine Kd.C_drew ?_))); (case side2 => exact HC0_5.out); rintro e w15 ⟨rfl, hb⟩; refine ⟨_, rfl, ?_⟩; replace BK108 := bkb_ BK108 hb; replace HB := hbs_ hb; clear hb))
   (try simp only [Act.put, List.setIfInBounds_toArray, List.set_cons_zero, List.set_cons_succ])
   have H := HC13.out
   clear HC13
   by_cases c16 : t111 < 0
   ·rw [if_pos c16] at H
    have c16b0 : decide (t111 < 0) = true := decide_eq_true c16
    clear c16
    (first | rw [c16b0] | (simp only [i64_w, i32_w]; rw [c16b0]) | skip)
    obtain rfl := Option.some.inj H
    go_wp2
    go_ret
    exact ⟨eq_, bl_⟩
   ·rw [if_neg c16] at H
    have c16b0 : decide (t111 < 0) = false := decide_eq_false c16
    clear c16
    (first | rw [c16b0] | (simp only [i64_w, i32_w]; rw [c16b0]) | skip)
    obtain rfl := Option.some.inj H
    go_wp2
    go_ret
    exact ⟨eq_, bl_⟩
def laws_szPeerS.l0 : Nat → List (S57) → Int → Int → Option (Int)
 | 0, _, _, _ => none
 | k + 1, x0, x1, x5 => if x5 < (x0.length : Int) then (if 0 ≤ x5 then ((laws_szPeer.f k ((rd_T57 x0 x5).f0) ((rd_T57 x0 x5).f1) ((rd_T57 x0 x5).f2) ((rd_T57 x0 x5).f3) ((rd_T57 x0 x5).f4) ((rd_T57 x0 x5).f5) x1).bind fun t113 => (if t113 < 0 then (some (-1)) else (laws_szPeerS.l0 k x0 t113 (wrap64 (x5 + 1))))) else (none)) else (some x1)
def laws_szPeerS.f (k : Nat) (l0 : List (S57)) (a1 : Int) : Option (Int) := if (wrap64 (a1 - (l0.length : Int))) < 0 then (some (-1)) else (laws_szPeerS.l0 k l0 (wrap64 (a1 - (l0.length : Int))) 0)
set_option maxHeartbeats 8000000 in
set_option maxRecDepth 100000 in
theorem laws_szPeerS.calls (k : Nat) (A0 : Option Addr) (c0 : Nat) (l0 : List (S57)) (a1 : Int) (r : Int) (w : World) (hr0 : Kd.C k57 w A0 l0.length l0) (hc0 : l0.length ≤ c0) (h : laws_szPeerS.f k l0 a1 = some r) :
  Calls Try.prog 9 #[.slice A0 l0.length c0, .int .i64 a1] w fun e w' => e = .returned (.int .i64 r) ∧ Below w.heap.size w w' := by
 have hu57 := Try.underlying57
 have HR0 := aa_ hr0
 have HC0 := aa_ hc0
 clear hr0 hc0
 have HB := aa_ (Below.refl w.heap.size w)
 have H : (if (wrap64 (a1 - (l0.length : Int))) < 0 then (some (-1)) else (laws_szPeerS.l0 k l0 (wrap64 (a1 - (l0.length : Int))) 0)) = some r := h
 clear h
 by_cases c3 : (wrap64 (a1 - (l0.length : Int))) < 0
 ·rw [if_pos c3] at H
  have c3b0 : decide ((wrap64 (a1 - (l0.length : Int))) < 0) = true := decide_eq_true c3
  clear c3
  obtain rfl := Option.some.inj H
  go_enter Try.func9, Try.ntmps9
  go_wp2
  go_ret
  exact ⟨eq_, bl_⟩
 ·rw [if_neg c3] at H
  have c3b0 : decide ((wrap64 (a1 - (l0.length : Int))) < 0) = false := decide_eq_false c3
  clear c3
  have H' := aa_ H
  clear H
  go_enter Try.func9, Try.ntmps9
  go_wp2
  go_loopg [1, 5] k (fun kq v1 v5 w' => ∃ (x1_1 : Int) (x5_1 : Int), v1 = .int .i64 x1_1 ∧ v5 = .int .i64 x5_1 ∧ Aside0 (laws_szPeerS.l0 kq l0 x1_1 x5_1 = some r) ∧ Aside0 (kq ≤ k) ∧ Aside0 (Below w.heap.size w w'))
  case atStart => exact ⟨(wrap64 (a1 - (l0.length : Int))), (0), rf_, rf_, H', ⟨Nat.le_refl _⟩, ⟨bl_⟩⟩
  case round =>
   clear H'
   try clear p2
   try clear c3
   try clear c3b0
   obtain ⟨x1_1, x5_1, rfl, rfl, HA, HK1, HB⟩ := hrel
   cases gk with
   | zero => exact absurd HA.out (by simp [laws_szPeerS.l0])
   | succ k1 =>
    have H := HA.out
    clear HA
    simp only [laws_szPeerS.l0] at H
    by_cases c4 : x5_1 < (l0.length : Int)
    ·rw [if_pos c4] at H
     have c4b0 : decide (x5_1 < (l0.length : Int)) = true := decide_eq_true c4
     clear c4
     obtain ⟨c5b0, H⟩ := ifd_ H
     obtain ⟨t113, A6, H⟩ := bindE_ H
     have HC7 := aa_ H
     clear H
     have p112 : 0 ≤ (x5_1 : Int) := od_
     have q112 : x5_1 < (l0.length : Int) := od_
     obtain ⟨ad112, A112_3, c112_3, A112_4, c112_4, A112_5, c112_5, e112, hx112_0, hx112_1, hx112_2, hx112_3, hx112_4, hx112_5, hl112_3, hi112_3, hl112_4, hi112_4, hl112_5, hi112_5⟩ := at_T57 HR0.out x5_1 p112 q112
     cases e112
     replace hx112_0 := cb_ HB hx112_0
     replace hx112_1 := cb_ HB hx112_1
     replace hx112_2 := cb_ HB hx112_2
     replace hx112_3 := cb_ HB hx112_3
     replace hx112_4 := cb_ HB hx112_4
     replace hx112_5 := cb_ HB hx112_5
     have HR112_3 := aa_ hi112_3
     have HC112_3 := aa_ hl112_3
     clear hi112_3 hl112_3
     have HR112_4 := aa_ hi112_4
     have HC112_4 := aa_ hl112_4
     clear hi112_4 hl112_4
     have HR112_5 := aa_ hi112_5
     have HC112_5 := aa_ hl112_5
     clear hi112_5 hl112_5
     replace p112 := eq_true p112
     replace q112 := eq_true q112
     go_upto_if 25 with (first | ((with_reducible refine gC_ 29 rfl ?_); refine goesC_ (some 23) Try.func29 #[.agg #[.int .i64 ((rd_T57 l0 x5_1).f0), .bool ((rd_T57 l0 x5_1).f1), .int .i64 ((rd_T57 l0 x5_1).f2), .slice A112_3 ((rd_T57 l0 x5_1).f3).length c112_3, .slice A112_4 ((rd_T57 l0 x5_1).f4).length c112_4, .slice A112_5 ((rd_T57 l0 x5_1).f5).length c112_5], .int .i64 x1_1] ?_; (with_reducible refine (laws_szPeer.calls k1 ((rd_T57 l0 x5_1).f0) ((rd_T57 l0 x5_1).f1) ((rd_T57 l0 x5_1).f2) _ _ ((rd_T57 l0 x5_1).f3) _ _ ((rd_T57 l0 x5_1).f4) _ _ ((rd_T57 l0 x5_1).f5) x1_1 t113 _ ?side1 ?side2 ?side3 ?side4 ?side5 ?side6 A6.out).mono ?_); (case side1 => repeat (first | exact (Kd.C_below HR112_3.out HB.out) | (with_reducible refine Kd.C_alloc ?_ _) | (with_reducible refine Kd.C_drewN ?_ _) | (with_reducible refine Kd.C_drew ?_))); (case side2 => exact HC112_3.out); (case side3 => repeat (first | exact (Kd.C_below HR112_4.out HB.out) | (with_reducible refine Kd.C_alloc ?_ _) | (with_reducible refine Kd.C_drewN ?_ _) | (with_reducible refine Kd.C_drew ?_))); (case side4 => exact HC112_4.out); (case side5 => repeat (first | exact (Kd.C_below HR112_5.out HB.out) | (with_reducible refine Kd.C_alloc ?_ _) | (with_reducible refine Kd.C_drewN ?_ _) | (with_reducible refine Kd.C_drew ?_))); (case side6 => exact HC112_5.out); rintro e w8 ⟨rfl, hb⟩; refine ⟨_, rfl, ?_⟩; replace HB := hbs_ hb; clear hb))
     (try simp only [Act.put, List.setIfInBounds_toArray, List.set_cons_zero, List.set_cons_succ])
     have H := HC7.out
     clear HC7
     by_cases c9 : t113 < 0
     ·rw [if_pos c9] at H
      have c9b0 : decide (t113 < 0) = true := decide_eq_true c9
      clear c9
      (first | rw [c9b0] | (simp only [i64_w, i32_w]; rw [c9b0]) | skip)
      obtain rfl := Option.some.inj H
      go_wp2
      go_ret
      exact ⟨eq_, bl_⟩
     ·rw [if_neg c9] at H
      have c9b0 : decide (t113 < 0) = false := decide_eq_false c9
      clear c9
      (first | rw [c9b0] | (simp only [i64_w, i32_w]; rw [c9b0]) | skip)
      have H' := aa_ H
      clear H
      go_wp2
      go_roundg k1
      case measure => have := HK1.out; omega
      case rel => exact ⟨(t113), (wrap64 (x5_1 + 1)), rf_, rf_, H', ⟨by have := HK1.out; omega⟩, ⟨bl_⟩⟩
    ·rw [if_neg c4] at H
     have c4b0 : decide (x5_1 < (l0.length : Int)) = false := decide_eq_false c4
     clear c4
     obtain rfl := Option.some.inj H
     go_wp2
     go_ret
     exact ⟨eq_, bl_⟩
def laws_szRing.f (k : Nat) (l0_0 : List (S57)) (a1 : Int) : Option (Int) := (laws_szPeerS.f k l0_0 a1).bind fun t115 => (if t115 < 0 then (some (-1)) else (some t115))
set_option maxHeartbeats 8000000 in
set_option maxRecDepth 100000 in
theorem laws_szRing.calls (k : Nat) (A0_0 : Option Addr) (c0_0 : Nat) (l0_0 : List (S57)) (a1 : Int) (r : Int) (w : World) (hr0_0 : Kd.C k57 w A0_0 l0_0.length l0_0) (hc0_0 : l0_0.length ≤ c0_0) (h : laws_szRing.f k l0_0 a1 = some r) :
  Calls Try.prog 4 #[.agg #[.slice A0_0 l0_0.length c0_0], .int .i64 a1] w fun e w' => e = .returned (.int .i64 r) ∧ Below w.heap.size w w' := by
 have hu24 := Try.underlying24
 have HR0_0 := aa_ hr0_0
 have HC0_0 := aa_ hc0_0
 clear hr0_0 hc0_0
 have HB := aa_ (Below.refl w.heap.size w)
 have H : ((laws_szPeerS.f k l0_0 a1).bind fun t115 => (if t115 < 0 then (some (-1)) else (some t115))) = some r := h
 clear h
 obtain ⟨t115, A3, H⟩ := bindE_ H
 have HC4 := aa_ H
 clear H
 go_enter Try.func4, Try.ntmps4
 go_upto_if 10 with (first | ((with_reducible refine gD_ 2 rfl ?_); refine bx_ (N := 2) (cs := #[.slice A0_0 l0_0.length c0_0]) (t := 24) ?_; intro gb114 hg w5 hbox hb; have BK114 := aa_ (hbox); have GW114 := gs_ hg; have GE114 := gs_ hg; replace HB := hbs_ hb; clear hb hbox hg; obtain ⟨hcz6, hfz6⟩ := bcf_ BK114) | ((with_reducible refine gC_ 9 rfl ?_); refine goesC_ (some 8) Try.func9 #[.slice A0_0 l0_0.length c0_0, .int .i64 a1] ?_; (with_reducible refine (laws_szPeerS.calls k _ _ l0_0 a1 t115 _ ?side1 ?side2 A3.out).mono ?_); (case side1 => repeat (first | exact (Kd.C_below HR0_0.out HB.out) | (with_reducible refine Kd.C_alloc ?_ _) | (with_reducible refine Kd.C_drewN ?_ _) | (with_reducible refine Kd.C_drew ?_))); (case side2 => exact HC0_0.out); rintro e w7 ⟨rfl, hb⟩; refine ⟨_, rfl, ?_⟩; replace BK114 := bkb_ BK114 hb; replace HB := hbs_ hb; clear hb))
 (try simp only [Act.put, List.setIfInBounds_toArray, List.set_cons_zero, List.set_cons_succ])
 have H := HC4.out
 clear HC4
 by_cases c8 : t115 < 0
 ·rw [if_pos c8] at H
  have c8b0 : decide (t115 < 0) = true := decide_eq_true c8
  clear c8
  (first | rw [c8b0] | (simp only [i64_w, i32_w]; rw [c8b0]) | skip)
  obtain rfl := Option.some.inj H
  go_wp2
  go_ret
  exact ⟨eq_, bl_⟩
 ·rw [if_neg c8] at H
  have c8b0 : decide (t115 < 0) = false := decide_eq_false c8
  clear c8
  (first | rw [c8b0] | (simp only [i64_w, i32_w]; rw [c8b0]) | skip)
  obtain rfl := Option.some.inj H
  go_wp2
  go_ret
  exact ⟨eq_, bl_⟩
def spec_l01In.f (a0 : Int) (a1 : Int) (a2 : Int) : Option (Bool) := if a0 ≥ a1 then (some (decide (a0 ≤ a2))) else (some false)
set_option maxHeartbeats 8000000 in
set_option maxRecDepth 100000 in
theorem spec_l01In.calls (a0 : Int) (a1 : Int) (a2 : Int) (r : Bool) (w : World) (h : spec_l01In.f a0 a1 a2 = some r) :
  Calls Try.prog 30 #[.int .i64 a0, .int .i64 a1, .int .i64 a2] w fun e w' => e = .returned (.bool r) ∧ Drawn0 w w' := by
 have H : (if a0 ≥ a1 then (some (decide (a0 ≤ a2))) else (some false)) = some r := h
 clear h
 by_cases c4 : a0 ≥ a1
 ·rw [if_pos c4] at H
  have c4b0 : decide (a1 ≤ a0) = true := decide_eq_true c4
  clear c4
  obtain rfl := Option.some.inj H
  go_enter Try.func30, Try.ntmps30
  go_wp2
  go_ret
  exact ⟨by first | rfl | (simp; done) | (simp [*]; done), by repeat (first | exact Drawn0.refl _ | apply Drawn0.step)⟩
 ·rw [if_neg c4] at H
  have c4b0 : decide (a1 ≤ a0) = false := decide_eq_false c4
  clear c4
  obtain rfl := Option.some.inj H
  go_enter Try.func30, Try.ntmps30
  go_wp2
  go_ret
  exact ⟨by first | rfl | (simp; done) | (simp [*]; done), by repeat (first | exact Drawn0.refl _ | apply Drawn0.step)⟩
mutual
def spec_l15Keys.l0 : Nat → List Bool → Int → List (S42) → Option (List Int)
 | 0, _, _, _ => none
 | k + 1, x3, x4, x117000 => if x4 < (x117000.length : Int) then (spec_l15Keys.l1 k x3 x4 0 x117000) else (spec_l15Keys.l2 k x3 (([] : List Int)) 0)
def spec_l15Keys.l1 : Nat → List Bool → Int → Int → List (S42) → Option (List Int)
 | 0, _, _, _, _ => none
 | k + 1, x3, x4, x5, x117000 => if 0 ≤ x4 then (if x4 < (x117000.length : Int) then (if x5 < (((rd_T42 x117000 x4).f5).length : Int) then (if 0 ≤ x5 then ((spec_l01In.f ((rd_T61 ((rd_T42 x117000 x4).f5) x5).f0) 0 255).bind fun t123 => (if t123 = true then (if 0 ≤ ((rd_T61 ((rd_T42 x117000 x4).f5) x5).f0) then (if ((rd_T61 ((rd_T42 x117000 x4).f5) x5).f0) < (x3.length : Int) then (spec_l15Keys.l1 k (x3.set (((rd_T61 ((rd_T42 x117000 x4).f5) x5).f0) : Int).toNat true) x4 (wrap64 (x5 + 1)) x117000) else (none)) else (none)) else (spec_l15Keys.l1 k x3 x4 (wrap64 (x5 + 1)) x117000))) else (none)) else (spec_l15Keys.l0 k x3 (wrap64 (x4 + 1)) x117000)) else (none)) else (none)
def spec_l15Keys.l2 : Nat → List Bool → List Int → Int → Option (List Int)
 | 0, _, _, _ => none
 | k + 1, x3, x6, x7 => if x7 < (x3.length : Int) then (if 0 ≤ x7 then (if rdOf false x3 x7 = true then (if x6.length < 17592186044416 then (spec_l15Keys.l2 k x3 (x6 ++ [x7]) (wrap64 (x7 + 1))) else (none)) else (spec_l15Keys.l2 k x3 x6 (wrap64 (x7 + 1)))) else (none)) else (some x6)
end
def spec_l15Keys.f (k : Nat) (l0_0 : List (S42)) : Option (List Int) := if 256 ≤ 281474976710656 then (spec_l15Keys.l0 k (List.replicate 256 false) 0 l0_0) else (none)
set_option maxHeartbeats 8000000 in
set_option maxRecDepth 100000 in
theorem spec_l15Keys.calls (k : Nat) (A0_0 : Option Addr) (c0_0 : Nat) (l0_0 : List (S42)) (r : List Int) (w : World) (hr0_0 : Kd.C k42 w A0_0 l0_0.length l0_0) (hc0_0 : l0_0.length ≤ c0_0) (h : spec_l15Keys.f k l0_0 = some r) :
  Calls Try.prog 10 #[.agg #[.slice A0_0 l0_0.length c0_0]] w fun e w' => ∃ v0_ : Value, e = .returned (v0_) ∧ Kd.R (Kd.int .i64) 3 w' w.heap.size (fun _ => True) v0_ r ∧ Below w.heap.size w w' := by
 have hu29 := Try.underlying29
 have HR0_0 := aa_ hr0_0
 have HC0_0 := aa_ hc0_0
 clear hr0_0 hc0_0
 have HB := aa_ (Below.refl w.heap.size w)
 have H : (if 256 ≤ 281474976710656 then (spec_l15Keys.l0 k (List.replicate 256 false) 0 l0_0) else (none)) = some r := h
 clear h
 obtain ⟨c2, H⟩ := ifn_ H
 have c2b0 := eq_true c2
 have c2b1 : decide (256 ≤ 281474976710656) = true := decide_eq_true c2
 clear c2
 obtain ⟨y117, hy117⟩ : ∃ y_ : List Bool, y_ = (List.replicate 256 false) := ⟨_, rfl⟩
 replace H : (spec_l15Keys.l0 k y117 0 l0_0) = some r := rh_ hy117 H
 have Ny117 := aa_ hy117
 clear hy117
 have H' := aa_ H
 clear H
 go_enter Try.func10, Try.ntmps10
 go_wp2_with (first | ((with_reducible refine gD_ 1 rfl ?_); refine bx_ (N := 1) (cs := #[.slice A0_0 l0_0.length c0_0]) (t := 29) ?_; intro gb116 hg w3 hbox hb; have BK116 := aa_ (hbox); have GW116 := gs_ hg; have GE116 := gs_ hg; replace HB := hbs_ hb; clear hb hbox hg) | ((with_reducible refine gD_ 8 rfl ?_); refine Kd.R_make Kd.bool _ 4 rfl (N := 8) rfl 58 _ _ rfl 256 rfl rfl Try.underlying58 (.bool false) 1 info4 rfl (by decide) (by omega) false (ok := fun _ => True) (okp := fun _ => True) rfl (fun _ hk => hk) trivial (by omega) (by omega) (Below.refl _ _) (Nat.le_refl _) ?_; intro v118 w4 ho5 hb hg_ hnew_; clear hg_ hnew_; (first | rw [← Ny117.out] at ho5 | (simp only [Int.reduceToNat] at ho5; rw [← Ny117.out] at ho5)); have HO119 := aa_ (Kd.R_lower ho5 bls_); replace BK116 := bkb_ BK116 hb; replace HB := hbs_ hb; clear hb ho5))
 go_loopg [4] k (fun kq v4 w' => ∃ (x3_1 : List Bool) (x4_1 : Int), v4 = .int .i64 x4_1 ∧ Aside0 (spec_l15Keys.l0 kq x3_1 x4_1 l0_0 = some r) ∧ Aside0 (kq ≤ k) ∧ Aside0 (Kd.R Kd.bool 4 w' w.heap.size (fun _ => True) v118 x3_1) ∧ Aside0 (w'.heap[gb116]? = some (.cells #[(.slice A0_0 l0_0.length c0_0)] 29 (0, 0))) ∧ Aside0 (Below w.heap.size w w'))
 case atStart => exact ⟨(y117), (0), rf_, H', ⟨Nat.le_refl _⟩, ⟨rr_ HO119⟩, ⟨bk_ BK116⟩, ⟨bl_⟩⟩
 case round =>
  clear H'
  try clear c1
  try clear c2
  try clear c2b0
  try clear c2b1
  try clear p2
  obtain ⟨x3_1, x4_1, rfl, HA, HK1, HO_3, BK116, HB⟩ := hrel
  cases gk with
  | zero => exact absurd HA.out (by simp [spec_l15Keys.l0])
  | succ k1 =>
   have H := HA.out
   clear HA
   simp only [spec_l15Keys.l0] at H
   by_cases c6 : x4_1 < (l0_0.length : Int)
   ·rw [if_pos c6] at H
    have c6b0 : decide (x4_1 < (l0_0.length : Int)) = true := decide_eq_true c6
    clear c6
    have H' := aa_ H
    clear H
    have hcz7 := blk_cell BK116.out
    have hfz7 := blk_frozen BK116.out
    go_wp2
    go_loopg [5] k1 (fun kq v5 w' => ∃ (x3_2 : List Bool) (x5_2 : Int), v5 = .int .i64 x5_2 ∧ Aside0 (spec_l15Keys.l1 kq x3_2 x4_1 x5_2 l0_0 = some r) ∧ Aside0 (kq ≤ k1) ∧ Aside0 (Kd.R Kd.bool 4 w' w.heap.size (fun _ => True) v118 x3_2) ∧ Aside0 (w'.heap[gb116]? = some (.cells #[(.slice A0_0 l0_0.length c0_0)] 29 (0, 0))) ∧ Aside0 (Below w.heap.size w w'))
    case atStart => exact ⟨(x3_1), (0), rf_, H', ⟨Nat.le_refl _⟩, ⟨rr_ HO_3⟩, ⟨bk_ BK116⟩, ⟨bl_⟩⟩
    case round =>
     clear H'
     try clear c1
     try clear c2
     try clear c2b0
     try clear c2b1
     try clear p2
     try clear c6
     try clear c6b0
     try clear hcz7
     try clear hfz7
     try clear p2
     obtain ⟨x3_2, x5_2, rfl, HA, HK2, HO_3, BK116, HB⟩ := hrel
     cases gk with
     | zero => exact absurd HA.out (by simp [spec_l15Keys.l1])
     | succ k2 =>
      have H := HA.out
      clear HA
      simp only [spec_l15Keys.l1] at H
      obtain ⟨c8b0, H⟩ := ifd_ H
      obtain ⟨c9b0, H⟩ := ifd_ H
      have HC10 := aa_ H
      clear H
      have hcz11 := blk_cell BK116.out
      have hfz11 := blk_frozen BK116.out
      have p120 : 0 ≤ (x4_1 : Int) := od_
      have q120 : x4_1 < (l0_0.length : Int) := od_
      obtain ⟨ad120, A120_3, c120_3, A120_4, c120_4, A120_5, c120_5, e120, hx120_0, hx120_1, hx120_2, hx120_3, hx120_4, hx120_5, hl120_3, hi120_3, hl120_4, hi120_4, hl120_5, hi120_5⟩ := at_T42 HR0_0.out x4_1 p120 q120
      cases e120
      replace hx120_0 := cb_ HB hx120_0
      replace hx120_1 := cb_ HB hx120_1
      replace hx120_2 := cb_ HB hx120_2
      replace hx120_3 := cb_ HB hx120_3
      replace hx120_4 := cb_ HB hx120_4
      replace hx120_5 := cb_ HB hx120_5
      have HR120_3 := aa_ hi120_3
      have HC120_3 := aa_ hl120_3
      clear hi120_3 hl120_3
      have HR120_4 := aa_ hi120_4
      have HC120_4 := aa_ hl120_4
      clear hi120_4 hl120_4
      have HR120_5 := aa_ hi120_5
      have HC120_5 := aa_ hl120_5
      clear hi120_5 hl120_5
      replace p120 := eq_true p120
      replace q120 := eq_true q120
      go_upto_if 24 with (fail)
      have H := HC10.out
      clear HC10
      by_cases c12 : x5_2 < (((rd_T42 l0_0 x4_1).f5).length : Int)
      ·rw [if_pos c12] at H
       have c12b0 : decide (x5_2 < (((rd_T42 l0_0 x4_1).f5).length : Int)) = true := decide_eq_true c12
       clear c12
       (first | rw [c12b0] | (simp only [i64_w, i32_w]; rw [c12b0]) | (have cz_ := c12b0; simp only [Int.ofNat_lt, Int.ofNat_le, gt_iff_lt, ge_iff_le] at cz_; rw [cz_]; clear cz_) | skip)
       obtain ⟨c13b0, H⟩ := ifd_ H
       obtain ⟨t123, A14, H⟩ := bindE_ H
       have HC15 := aa_ H
       clear H
       have hcz16 := blk_cell BK116.out
       have hfz16 := blk_frozen BK116.out
       have p121 : 0 ≤ (x4_1 : Int) := od_
       have q121 : x4_1 < (l0_0.length : Int) := od_
       obtain ⟨ad121, A121_3, c121_3, A121_4, c121_4, A121_5, c121_5, e121, hx121_0, hx121_1, hx121_2, hx121_3, hx121_4, hx121_5, hl121_3, hi121_3, hl121_4, hi121_4, hl121_5, hi121_5⟩ := at_T42 HR0_0.out x4_1 p121 q121
       obtain rfl : ad120 = ad121 := (by injection e121)
       replace hx121_0 := cb_ HB hx121_0
       replace hx121_1 := cb_ HB hx121_1
       replace hx121_2 := cb_ HB hx121_2
       replace hx121_3 := cb_ HB hx121_3
       replace hx121_4 := cb_ HB hx121_4
       replace hx121_5 := cb_ HB hx121_5
       (try (have h_ := hx120_5.symm.trans hx121_5; injection h_ with h_; injection h_ with h1_ _ h2_; subst h1_; subst h2_))
       have HR121_3 := aa_ hi121_3
       have HC121_3 := aa_ hl121_3
       clear hi121_3 hl121_3
       have HR121_4 := aa_ hi121_4
       have HC121_4 := aa_ hl121_4
       clear hi121_4 hl121_4
       have HR121_5 := aa_ hi121_5
       have HC121_5 := aa_ hl121_5
       clear hi121_5 hl121_5
       replace p121 := eq_true p121
       replace q121 := eq_true q121
       have p122 : 0 ≤ (x5_2 : Int) := od_
       have q122 : x5_2 < (((rd_T42 l0_0 x4_1).f5).length : Int) := od_
       obtain ⟨ad122, A122_1, c122_1, e122, hx122_0, hx122_1, hl122_1, hi122_1⟩ := at_T61 HR120_5.out x5_2 p122 q122
       cases e122
       replace hx122_0 := cb_ HB hx122_0
       replace hx122_1 := cb_ HB hx122_1
       have HR122_1 := aa_ hi122_1
       have HC122_1 := aa_ hl122_1
       clear hi122_1 hl122_1
       replace p122 := eq_true p122
       replace q122 := eq_true q122
       go_upto_if 37 with (first | ((with_reducible refine gC_ 30 rfl ?_); refine goesC_ (some 37) Try.func30 #[.int .i64 ((rd_T61 ((rd_T42 l0_0 x4_1).f5) x5_2).f0), .int .i64 0, .int .i64 255] ?_; (with_reducible refine (spec_l01In.calls ((rd_T61 ((rd_T42 l0_0 x4_1).f5) x5_2).f0) 0 255 t123 _ A14.out).mono ?_); rintro e w' ⟨rfl, ⟨nd, rfl⟩⟩; refine ⟨_, rfl, ?_⟩))
       (try simp only [Act.put, List.setIfInBounds_toArray, List.set_cons_zero, List.set_cons_succ])
       have H := HC15.out
       clear HC15
       by_cases c17 : t123 = true
       ·subst c17
        replace H := ite_t_ H
        obtain ⟨c18b0, H⟩ := ifd_ H
        (first | rw [c18b0] | (simp only [i64_w, i32_w]; rw [c18b0]) | skip)
        obtain ⟨c19b0, H⟩ := ifd_ H
        obtain ⟨y126, hy126⟩ : ∃ y_ : List Bool, y_ = (x3_2.set (((rd_T61 ((rd_T42 l0_0 x4_1).f5) x5_2).f0) : Int).toNat true) := ⟨_, rfl⟩
        replace H : (spec_l15Keys.l1 k2 y126 x4_1 (wrap64 (x5_2 + 1)) l0_0) = some r := rh_ hy126 H
        have Ny126 := aa_ hy126
        clear hy126
        have H' := aa_ H
        clear H
        have n0_ := aa_ (Kd.R_drewN (m := nd) HO_3.out)
        have n1_ := aa_ (blk_drewN BK116.out nd)
        have n2_ := aa_ (pw_below_drewN (n := nd) HB.out)
        clear HO_3 BK116 HB
        generalize wr.drewN nd = wq at n0_ n1_ n2_ ⊢
        have HO_3 := n0_
        have BK116 := n1_
        have HB := n2_
        clear n0_ n1_ n2_
        have hcz21 := blk_cell BK116.out
        have hfz21 := blk_frozen BK116.out
        have p124 : 0 ≤ (x4_1 : Int) := od_
        have q124 : x4_1 < (l0_0.length : Int) := od_
        obtain ⟨ad124, A124_3, c124_3, A124_4, c124_4, A124_5, c124_5, e124, hx124_0, hx124_1, hx124_2, hx124_3, hx124_4, hx124_5, hl124_3, hi124_3, hl124_4, hi124_4, hl124_5, hi124_5⟩ := at_T42 HR0_0.out x4_1 p124 q124
        obtain rfl : ad120 = ad124 := (by injection e124)
        replace hx124_0 := cb_ HB hx124_0
        replace hx124_1 := cb_ HB hx124_1
        replace hx124_2 := cb_ HB hx124_2
        replace hx124_3 := cb_ HB hx124_3
        replace hx124_4 := cb_ HB hx124_4
        replace hx124_5 := cb_ HB hx124_5
        (try (have h_ := hx120_5.symm.trans hx124_5; injection h_ with h_; injection h_ with h1_ _ h2_; subst h1_; subst h2_))
        have HR124_3 := aa_ hi124_3
        have HC124_3 := aa_ hl124_3
        clear hi124_3 hl124_3
        have HR124_4 := aa_ hi124_4
        have HC124_4 := aa_ hl124_4
        clear hi124_4 hl124_4
        have HR124_5 := aa_ hi124_5
        have HC124_5 := aa_ hl124_5
        clear hi124_5 hl124_5
        replace p124 := eq_true p124
        replace q124 := eq_true q124
        have p125 : 0 ≤ (x5_2 : Int) := od_
        have q125 : x5_2 < (((rd_T42 l0_0 x4_1).f5).length : Int) := od_
        obtain ⟨ad125, A125_1, c125_1, e125, hx125_0, hx125_1, hl125_1, hi125_1⟩ := at_T61 HR124_5.out x5_2 p125 q125
        cases e125
        replace hx125_0 := cb_ HB hx125_0
        replace hx125_1 := cb_ HB hx125_1
        have HR125_1 := aa_ hi125_1
        have HC125_1 := aa_ hl125_1
        clear hi125_1 hl125_1
        replace p125 := eq_true p125
        replace q125 := eq_true q125
        have p20 : 0 ≤ (((rd_T61 ((rd_T42 l0_0 x4_1).f5) x5_2).f0) : Int) := od_
        have q20 : (((rd_T61 ((rd_T42 l0_0 x4_1).f5) x5_2).f0) : Int) < ((x3_2.length : Int) : Int) := od_
        obtain ⟨go20, co20, eo20, gb20, gl20, cl20, HG20⟩ := Kd.R_form HO_3.out (by omega)
        (first | cases eo20 | (injection eo20 with ea_ en_ ec_; (first | subst ea_ | (injection ea_ with ea_; subst ea_)); subst ec_; clear en_))
        have GB20 := aa_ gb20
        have GG20 := aa_ HG20
        clear gb20 gl20 HG20
        obtain ⟨hx20_0, hf20_0⟩ := Kd.R_celln false HO_3.out (((rd_T61 ((rd_T42 l0_0 x4_1).f5) x5_2).f0) : Int) p20 q20
        replace p20 := eq_true p20
        replace q20 := eq_true q20
        have HP22 := Kd.R_putg HO_3.out (((rd_T61 ((rd_T42 l0_0 x4_1).f5) x5_2).f0) : Int) true
        go_wp2_with (first | ((with_reducible refine gate_store (t := 4) (p := 49) rfl ?_); refine store_event (t := 4) (p := 49) (v := ?vo_w23) (w1 := (wq.setCell ⟨go20, (((rd_T61 ((rd_T42 l0_0 x4_1).f5) x5_2).f0) : Int).toNat, none⟩ (.bool true))) ?hg ?ho ?hn ?hr ?_; (case ho => rfl); (case hg => rfl); (case hn => rfl); (case hr => first | (go_simp; done) | (go_simp; rfl)); intro w23 hw; have hg : wq.grownBy w23 (some go20) := (by rw [hw]; exact HP22.2); have hp_ : Kd.R Kd.bool 4 w23 w.heap.size (fun _ => True) (.slice (some ⟨go20, 0, none⟩) x3_2.length co20) y126 := (by rw [hw, Ny126.out]; exact HP22.1); clear HP22; replace BK116 := aa_ (blk_grown (g := gb116) (o := .cells #[.slice (some ad120) l0_0.length c0_0] 29 (0, 0)) (bk_ BK116) hg (Kd.R_ne HO_3.out BK116.out (by decide))); replace HO_3 := aa_ (hp_); replace HB := aa_ ((by rw [hw]; exact below_set (HB.out) GB20.out : Below w.heap.size w w23)); clear hg hw hp_))
        go_roundg k2
        case measure => have := HK1.out; have := HK2.out; omega
        case rel => exact ⟨(y126), (wrap64 (x5_2 + 1)), rf_, H', ⟨by have := HK1.out; have := HK2.out; omega⟩, ⟨rr_ HO_3⟩, ⟨bk_ BK116⟩, ⟨bl_⟩⟩
       ·replace c17 := Bool.eq_false_iff.mpr c17
        subst c17
        replace H := ite_f_ H
        have H' := aa_ H
        clear H
        go_wp2
        go_roundg k2
        case measure => have := HK1.out; have := HK2.out; omega
        case rel => exact ⟨(x3_2), (wrap64 (x5_2 + 1)), rf_, H', ⟨by have := HK1.out; have := HK2.out; omega⟩, ⟨rr_ HO_3⟩, ⟨bk_ BK116⟩, ⟨bl_⟩⟩
      ·rw [if_neg c12] at H
       have c12b0 : decide (x5_2 < (((rd_T42 l0_0 x4_1).f5).length : Int)) = false := decide_eq_false c12
       clear c12
       (first | rw [c12b0] | (simp only [i64_w, i32_w]; rw [c12b0]) | (have cz_ := c12b0; simp only [Int.ofNat_lt, Int.ofNat_le, gt_iff_lt, ge_iff_le] at cz_; rw [cz_]; clear cz_) | skip)
       have H' := aa_ H
       clear H
       go_wp2
       go_roundg k2
       case measure => have := HK1.out; have := HK2.out; omega
       case rel => exact ⟨(x3_2), (wrap64 (x4_1 + 1)), rf_, H', ⟨by have := HK1.out; have := HK2.out; omega⟩, ⟨rr_ HO_3⟩, ⟨bk_ BK116⟩, ⟨bl_⟩⟩
   ·rw [if_neg c6] at H
    have c6b0 : decide (x4_1 < (l0_0.length : Int)) = false := decide_eq_false c6
    clear c6
    obtain ⟨y127, hy127⟩ : ∃ y_ : List Int, y_ = (([] : List Int)) := ⟨_, rfl⟩
    replace H : (spec_l15Keys.l2 k1 x3_1 y127 0) = some r := rh_ hy127 H
    have Ny127 := aa_ hy127
    clear hy127
    have H' := aa_ H
    clear H
    have hcz24 := blk_cell BK116.out
    have hfz24 := blk_frozen BK116.out
    go_wp2_with (first | ((with_reducible refine gD_ 50 rfl ?_); refine Kd.R_lit (Kd.int .i64) _ 3 ?hg (N := 50) ?hd (xs := ([] : List Int)) (inner := []) (ok := fun _ => True) (okp := fun _ => True) ?hr ?hp (fun _ hk => hk) trivial (Below.refl _ _) (Nat.le_refl _) (by simp) ?_; (case hd => rfl); (case hg => rfl); (case hr => first | (go_simp; done) | (go_simp; rfl)); (case hp => exact (Reps.none _ _)); intro v128 w25 ho26 hb hg_ hnew_; clear hg_ hnew_; (first | rw [← Ny127.out] at ho26 | (simp only [Int.reduceToNat] at ho26; rw [← Ny127.out] at ho26)); replace HO_3 := hob_ HO_3 hb; have HO129 := aa_ (Kd.R_lower ho26 bls_); replace BK116 := bkb_ BK116 hb; replace HB := hbs_ hb; clear hb ho26))
    go_loopg [6, 7] k1 (fun kq v6 v7 w' => ∃ (x6_2 : List Int) (x7_2 : Int), v7 = .int .i64 x7_2 ∧ Aside0 (spec_l15Keys.l2 kq x3_1 x6_2 x7_2 = some r) ∧ Aside0 (kq ≤ k1) ∧ Aside0 (Kd.R Kd.bool 4 w' w.heap.size (fun _ => True) v118 x3_1) ∧ Aside0 (Kd.R (Kd.int .i64) 3 w' w.heap.size (fun _ => True) v6 x6_2) ∧ Aside0 (w'.heap[gb116]? = some (.cells #[(.slice A0_0 l0_0.length c0_0)] 29 (0, 0))) ∧ Aside0 (Below w.heap.size w w'))
    case atStart => exact ⟨(y127), (0), rf_, H', ⟨Nat.le_refl _⟩, ⟨rr_ HO_3⟩, ⟨rr_ HO129⟩, ⟨bk_ BK116⟩, ⟨bl_⟩⟩
    case round =>
     clear H'
     try clear c1
     try clear p1
     try clear q1
     try clear hx1
     try clear c2
     try clear c2b0
     try clear c2b1
     try clear p2
     try clear q2
     try clear hx2
     try clear hf2
     try clear c3
     try clear c6
     try clear c6b0
     try clear p6
     try clear c8
     try clear c8b0
     try clear c9
     try clear c9b0
     try clear c10
     try clear c12
     try clear c12b0
     try clear p12
     try clear q12
     try clear hx12
     try clear c13
     try clear c13b0
     try clear c17
     try clear c18
     try clear c18b0
     try clear c19
     try clear c19b0
     try clear p20
     try clear q20
     try clear hx20
     try clear hf20
     try clear hcz11
     try clear hcz16
     try clear hcz21
     try clear hcz24
     try clear hcz7
     try clear hfz11
     try clear hfz16
     try clear hfz21
     try clear hfz24
     try clear hfz7
     try clear hx120_0
     try clear hx120_1
     try clear hx120_2
     try clear hx120_3
     try clear hx120_4
     try clear hx120_5
     try clear hx121_0
     try clear hx121_1
     try clear hx121_2
     try clear hx121_3
     try clear hx121_4
     try clear hx121_5
     try clear hx122_0
     try clear hx122_1
     try clear hx124_0
     try clear hx124_1
     try clear hx124_2
     try clear hx124_3
     try clear hx124_4
     try clear hx124_5
     try clear hx125_0
     try clear hx125_1
     try clear hx20_0
     try clear p120
     try clear p121
     try clear p122
     try clear p124
     try clear p125
     try clear p2
     try clear p20
     try clear q120
     try clear q121
     try clear q122
     try clear q124
     try clear q125
     try clear q20
     obtain ⟨x6_2, x7_2, rfl, HA, HK2, HO_3, HO_6, BK116, HB⟩ := hrel
     cases gk with
     | zero => exact absurd HA.out (by simp [spec_l15Keys.l2])
     | succ k2 =>
      have H := HA.out
      clear HA
      simp only [spec_l15Keys.l2] at H
      by_cases c27 : x7_2 < (x3_1.length : Int)
      ·rw [if_pos c27] at H
       have c27b0 : decide (x7_2 < (x3_1.length : Int)) = true := decide_eq_true c27
       clear c27
       obtain ⟨c28b0, H⟩ := ifd_ H
       have HC29 := aa_ H
       clear H
       obtain ⟨Ao30, co30, eo30⟩ := Kd.R_slice HO_3.out
       subst eo30
       have p130 : 0 ≤ (x7_2 : Int) := od_
       have q130 : x7_2 < (x3_1.length : Int) := od_
       obtain ⟨ad130, e130, hx130_0⟩ := Kd.at_bool (Kd.R_reads' HO_3.out).2.2 x7_2 p130 q130
       cases e130
       replace p130 := eq_true p130
       replace q130 := eq_true q130
       go_upto_if 60 with (fail)
       have H := HC29.out
       clear HC29
       obtain ⟨bq31, hbq31⟩ : ∃ b_ : Bool, b_ = (rdOf false x3_1 x7_2) := ⟨_, rfl⟩
       replace H : (if bq31 = true then (if x6_2.length < 17592186044416 then (spec_l15Keys.l2 k2 x3_1 (x6_2 ++ [x7_2]) (wrap64 (x7_2 + 1))) else (none)) else (spec_l15Keys.l2 k2 x3_1 x6_2 (wrap64 (x7_2 + 1)))) = some r := by rw [← hbq31] at H; exact H
       have Nbq31 := aa_ hbq31
       clear hbq31
       (try rw [← Nbq31.out])
       by_cases c32 : bq31 = true
       ·subst c32
        replace H := ite_t_ H
        obtain ⟨c33, H⟩ := ifn_ H
        have LMc33 := aa_ c33
        clear c33
        obtain ⟨y131, hy131⟩ : ∃ y_ : List Int, y_ = (x6_2 ++ [x7_2]) := ⟨_, rfl⟩
        replace H : (spec_l15Keys.l2 k2 x3_1 y131 (wrap64 (x7_2 + 1))) = some r := rh_ hy131 H
        have Ny131 := aa_ hy131
        clear hy131
        have H' := aa_ H
        clear H
        go_wp2_with (first | ((with_reducible refine gate_builtin (b := .append) (xs := #[.tmp 61, .tmp 63]) rfl ?_); at_builtin; refine Kd.R_append (Kd.int .i64) (w0 := w) w.heap.size rfl (.tmp 61) (.tmp 63) 34 3 (.int .i64 0) 8 rfl Try.underlying34 info3 rfl (by decide) (by omega) u6 x6_2 x7_2 [.int .i64 x7_2] (fun _ => True) (fun _ => False) rfl rfl ?aP (fun _ hk => hk.elim) ?aF ?aO ?aB ?aS ?aL ?_; (case aP => exact rfl); (case aB => exact bl_); (case aF => exact (fun _ _ => trivial)); (case aO => exact (rr_ HO_6)); (case aS => exact bls_); (case aL => have := LMc33.out; omega); intro v132 w34 ho hb hg hat; rw [← Ny131.out] at ho; replace HO_3 := aa_ (Kd.R_over' (rr_ HO_3) (Kd.R_typed (rr_ HO_6)) (by decide) hg); replace BK116 := aa_ (blk_grown (g := gb116) (o := .cells #[.slice A0_0 l0_0.length c0_0] 29 (0, 0)) (bk_ BK116) hg (Kd.R_ne HO_6.out BK116.out (by decide))); replace HB := aa_ (hb); have HO133 := aa_ (ho); clear HO_6; clear ho hb hg hat))
        go_roundg k2
        case measure => have := HK1.out; have := HK2.out; omega
        case rel => exact ⟨(y131), (wrap64 (x7_2 + 1)), rf_, H', ⟨by have := HK1.out; have := HK2.out; omega⟩, ⟨rr_ HO_3⟩, ⟨rr_ HO133⟩, ⟨bk_ BK116⟩, ⟨bl_⟩⟩
       ·replace c32 := Bool.eq_false_iff.mpr c32
        subst c32
        replace H := ite_f_ H
        have H' := aa_ H
        clear H
        go_wp2
        go_roundg k2
        case measure => have := HK1.out; have := HK2.out; omega
        case rel => exact ⟨(x6_2), (wrap64 (x7_2 + 1)), rf_, H', ⟨by have := HK1.out; have := HK2.out; omega⟩, ⟨rr_ HO_3⟩, ⟨rr_ HO_6⟩, ⟨bk_ BK116⟩, ⟨bl_⟩⟩
      ·rw [if_neg c27] at H
       have c27b0 : decide (x7_2 < (x3_1.length : Int)) = false := decide_eq_false c27
       clear c27
       obtain rfl := Option.some.inj H
       obtain ⟨Ao35, co35, eo35⟩ := Kd.R_slice HO_3.out
       subst eo35
       go_wp2
       go_ret
       exact ⟨_, eq_, by (with_reducible repeat (first | apply Kd.R_alloc | apply Kd.R_drewN | apply Kd.R_drew)); exact HO_6.out, bl_⟩
end Go.Proofs.Ytkimdmdkldlhpaa.PA
