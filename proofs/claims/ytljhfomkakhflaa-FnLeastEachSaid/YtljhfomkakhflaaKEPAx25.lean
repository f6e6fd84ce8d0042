import Derived.Test.YtljhfomkakhflaaKEPAx16
import Derived.Test.YtljhfomkakhflaaKEPAx19
import Derived.Test.YtljhfomkakhflaaKEPAx21
-- printed by wip/tools
namespace Go.Proofs.Ytljhfomkakhflaa.PA
open Go.RowKit Go.Proofs.YtljhfomkakhflaaW.PrintWords Go.Proofs.YtljhfomkakhflaaW.PrintLast Go.Proofs.YtljhfomkakhflaaW.PrintMore
attribute [local go_sem] max2_int min2_int max_two min_two max_three min_three max_four min_four
set_option linter.unusedVariables false
set_option linter.unusedSimpArgs false
def spec_DrawWords.f (k : Nat) (l0 : List Int) : Option ((List (S35))) := (spec_l01New.f k l0).bind fun bt802 => ((spec_l06Creds.f k bt802.1 bt802.2.1 bt802.2.2).bind fun bt806 => (some bt806.1))
set_option maxHeartbeats 8000000 in
set_option maxRecDepth 100000 in
theorem spec_DrawWords.calls (k : Nat) (A0 : Option Addr) (c0 : Nat) (l0 : List Int) (r : List (S35)) (w : World) (hr0 : Kd.C (Kd.int .u8) w A0 l0.length l0) (hc0 : l0.length ≤ c0) (h : spec_DrawWords.f k l0 = some r) :
  Calls Try.prog 15 #[.slice A0 l0.length c0] w fun e w' => ∃ v0_ : Value, e = .returned (v0_) ∧ Kd.R k35 35 w' w.heap.size (fun _ => True) v0_ r ∧ Below w.heap.size w w' := by
 have HR0 := aa_ hr0
 have HC0 := aa_ hc0
 clear hr0 hc0
 have HB := aa_ (Below.refl w.heap.size w)
 have H : ((spec_l01New.f k l0).bind fun bt802 => ((spec_l06Creds.f k bt802.1 bt802.2.1 bt802.2.2).bind fun bt806 => (some bt806.1))) = some r := h
 clear h
 obtain ⟨⟨t802, t803, t804⟩, A2, H⟩ := bindE_ H
 (try dsimp only at H)
 obtain ⟨⟨t806, t809, t810⟩, A3, H⟩ := bindE_ H
 (try dsimp only at H)
 obtain rfl := Option.some.inj H
 go_enter Try.func15, Try.ntmps15
 go_wp2_with (first | ((with_reducible refine gC_ 18 rfl ?_); refine goesC_ (some 4) Try.func18 #[.slice A0 l0.length c0] ?_; (with_reducible refine (spec_l01New.calls k _ _ l0 t802 t803 t804 w _ ?side1 ?side2 ?side3 A2.out).mono ?_); (case side1 => repeat (first | (with_reducible first | exact HB.out | apply below_alloc | apply pw_below_drewN | apply below_drew1) | exact HB.out)); (case side2 => exact HR0.out); (case side3 => exact HC0.out); rintro e w4 ⟨g805, rfl, hi, hb, hb2⟩; refine ⟨_, rfl, ?_⟩; replace HB := aa_ (hb); have HI805 := aa_ (hi); (try clear hb hb2 hi)) | ((with_reducible refine gC_ 20 rfl ?_); refine goesC_ (some 5) Try.func20 #[.pointer (some ⟨g805, 0, none⟩)] ?_; (with_reducible refine (spec_l06Creds.calls k g805 t802 t803 t804 t806 t809 t810 w _ ?side1 ?side2 A3.out).mono ?_); (case side1 => exact IsS70.nw_); (case side2 => repeat (first | (with_reducible first | exact HB.out | apply below_alloc | apply pw_below_drewN | apply below_drew1 | refine below_set ?_ (IsS70.ge HI805.out)) | exact HB.out)); rintro e w5 ⟨v807, rfl, ho0, hi, hb, hk⟩; refine ⟨_, rfl, ?_⟩; have HO808 := aa_ (Kd.R_lower ho0 (below_size (by repeat (first | (with_reducible first | exact HB.out | apply below_alloc | apply pw_below_drewN | apply below_drew1 | refine below_set ?_ (IsS70.ge HI805.out)) | exact HB.out)))); replace HB := aa_ (hb); replace HI805 := aa_ (hi); (try clear hb hk hi ho0)))
 go_ret
 exact ⟨_, eq_, by (with_reducible repeat (first | apply Kd.R_alloc | apply Kd.R_drewN | apply Kd.R_drew)); exact HO808.out, by repeat (first | (with_reducible first | exact HB.out | apply below_alloc | apply pw_below_drewN | apply below_drew1 | refine below_set ?_ (IsS70.ge HI805.out)) | exact HB.out)⟩
def spec_l19Cap.f (a0 : Int) : Option (Int) := if a0 > 1000000 then (some 1000000) else (some a0)
set_option maxHeartbeats 8000000 in
set_option maxRecDepth 100000 in
theorem spec_l19Cap.calls (a0 : Int) (r : Int) (w : World) (h : spec_l19Cap.f a0 = some r) :
  Calls Try.prog 36 #[.int .i64 a0] w fun e w' => e = .returned (.int .i64 r) ∧ Drawn0 w w' := by
 have H : (if a0 > 1000000 then (some 1000000) else (some a0)) = some r := h
 clear h
 by_cases c2 : a0 > 1000000
 ·rw [if_pos c2] at H
  have c2b0 : decide (1000000 < a0) = true := decide_eq_true c2
  clear c2
  obtain rfl := Option.some.inj H
  go_enter Try.func36, Try.ntmps36
  go_wp2
  go_ret
  exact ⟨by first | rfl | (simp; done) | (simp [*]; done), by repeat (first | exact Drawn0.refl _ | apply Drawn0.step)⟩
 ·rw [if_neg c2] at H
  have c2b0 : decide (1000000 < a0) = false := decide_eq_false c2
  clear c2
  obtain rfl := Option.some.inj H
  go_enter Try.func36, Try.ntmps36
  go_wp2
  go_ret
  exact ⟨by first | rfl | (simp; done) | (simp [*]; done), by repeat (first | exact Drawn0.refl _ | apply Drawn0.step)⟩
mutual
def spec_TreeSize.l0 : Nat → List (S58) → Int → List Int → Int → Option (Int)
 | 0, _, _, _, _ => none
 | k + 1, x0, x1, x5, x6 => if x6 ≤ x1 then ((spec_StepOk.f k x0 x6).bind fun t816 => (if t816 = true then (spec_TreeSize.l1 k x0 x1 x5 x6 1 0) else (some 0))) else (if 0 ≤ x1 then (if x1 < (x5.length : Int) then (some (rd x5 x1)) else (none)) else (none))
def spec_TreeSize.l1 : Nat → List (S58) → Int → List Int → Int → Int → Int → Option (Int)
 | 0, _, _, _, _, _, _ => none
 | k + 1, x0, x1, x5, x6, x7, x8 => if 0 ≤ x6 then (if x6 < (x0.length : Int) then (if x8 < (((rd_T58 x0 x6).f2).length : Int) then (if 0 ≤ x8 then (if 0 ≤ (rd ((rd_T58 x0 x6).f2) x8) then (if (rd ((rd_T58 x0 x6).f2) x8) < (x5.length : Int) then ((spec_l19Cap.f (wrap64 (x7 + (rd x5 (rd ((rd_T58 x0 x6).f2) x8))))).bind fun t821 => (spec_TreeSize.l1 k x0 x1 x5 x6 t821 (wrap64 (x8 + 1)))) else (none)) else (none)) else (none)) else (if x5.length < 17592186044416 then (spec_TreeSize.l0 k x0 x1 (x5 ++ [x7]) (wrap64 (x6 + 1))) else (none))) else (none)) else (none)
end
def spec_TreeSize.f (k : Nat) (l0 : List (S58)) (a1 : Int) : Option (Int) := (spec_l01In.f a1 0 (wrap64 ((l0.length : Int) - 1))).bind fun t811 => (if t811 = true then (spec_TreeSize.l0 k l0 a1 (([] : List Int)) 0) else (some 0))
set_option maxHeartbeats 8000000 in
set_option maxRecDepth 100000 in
theorem spec_TreeSize.calls (k : Nat) (A0 : Option Addr) (c0 : Nat) (l0 : List (S58)) (a1 : Int) (r : Int) (w : World) (hr0 : Kd.C k58 w A0 l0.length l0) (hc0 : l0.length ≤ c0) (h : spec_TreeSize.f k l0 a1 = some r) :
  Calls Try.prog 17 #[.slice A0 l0.length c0, .int .i64 a1] w fun e w' => e = .returned (.int .i64 r) ∧ Below w.heap.size w w' := by
 have HR0 := aa_ hr0
 have HC0 := aa_ hc0
 clear hr0 hc0
 have HB := aa_ (Below.refl w.heap.size w)
 have H : ((spec_l01In.f a1 0 (wrap64 ((l0.length : Int) - 1))).bind fun t811 => (if t811 = true then (spec_TreeSize.l0 k l0 a1 (([] : List Int)) 0) else (some 0))) = some r := h
 clear h
 obtain ⟨t811, A3, H⟩ := bindE_ H
 by_cases c4 : t811 = true
 ·subst c4
  replace H := ite_t_ H
  obtain ⟨y812, hy812⟩ : ∃ y_ : List Int, y_ = (([] : List Int)) := ⟨_, rfl⟩
  replace H : (spec_TreeSize.l0 k l0 a1 y812 0) = some r := rh_ hy812 H
  have Ny812 := aa_ hy812
  clear hy812
  have H' := aa_ H
  clear H
  go_enter Try.func17, Try.ntmps17
  go_wp2_with (first | ((with_reducible refine gC_ 31 rfl ?_); refine goesC_ (some 13) Try.func31 #[.int .i64 a1, .int .i64 0, .int .i64 (wrap64 ((l0.length : Int) - 1))] ?_; (with_reducible refine (spec_l01In.calls a1 0 (wrap64 ((l0.length : Int) - 1)) true _ A3.out).mono ?_); rintro e w' ⟨rfl, ⟨nd, rfl⟩⟩; refine ⟨_, rfl, ?_⟩) | ((with_reducible refine gD_ 15 rfl ?_); refine Kd.R_lit (Kd.int .i64) _ 3 ?hg (N := 15) ?hd (xs := ([] : List Int)) (inner := []) (ok := fun _ => True) (okp := fun _ => True) ?hr ?hp (fun _ hk => hk) trivial (Below.refl _ _) (Nat.le_refl _) (by simp) ?_; (case hd => rfl); (case hg => rfl); (case hr => first | (go_simp; done) | (go_simp; rfl)); (case hp => exact (Reps.none _ _)); intro v813 w5 ho6 hb hg_ hnew_; clear hg_ hnew_; (first | rw [← Ny812.out] at ho6 | (simp only [Int.reduceToNat] at ho6; rw [← Ny812.out] at ho6)); have HO814 := aa_ (Kd.R_lower ho6 bls_); replace HB := hbs_ hb; clear hb ho6))
  go_loopg [5, 6] k (fun kq v5 v6 w' => ∃ (x5_1 : List Int) (x6_1 : Int), v6 = .int .i64 x6_1 ∧ Aside0 (spec_TreeSize.l0 kq l0 a1 x5_1 x6_1 = some r) ∧ Aside0 (kq ≤ k) ∧ Aside0 (Kd.R (Kd.int .i64) 3 w' w.heap.size (fun _ => True) v5 x5_1) ∧ Aside0 (Below w.heap.size w w'))
  case atStart => exact ⟨(y812), (0), rf_, H', ⟨Nat.le_refl _⟩, ⟨rr_ HO814⟩, ⟨bl_⟩⟩
  case round =>
   clear H'
   try clear p2
   try clear p6
   obtain ⟨x5_1, x6_1, rfl, HA, HK1, HO_5, HB⟩ := hrel
   cases gk with
   | zero => exact absurd HA.out (by simp [spec_TreeSize.l0])
   | succ k1 =>
    have H := HA.out
    clear HA
    simp only [spec_TreeSize.l0] at H
    by_cases c7 : x6_1 ≤ a1
    ·rw [if_pos c7] at H
     have c7b0 : decide (x6_1 ≤ a1) = true := decide_eq_true c7
     clear c7
     obtain ⟨t816, A8, H⟩ := bindE_ H
     by_cases c9 : t816 = true
     ·subst c9
      replace H := ite_t_ H
      have H' := aa_ H
      clear H
      go_wp2_with (first | ((with_reducible refine gC_ 32 rfl ?_); refine goesC_ (some 23) Try.func32 #[.slice A0 l0.length c0, .int .i64 x6_1] ?_; (with_reducible refine (spec_StepOk.calls k1 _ _ l0 x6_1 true _ ?side1 ?side2 A8.out).mono ?_); (case side1 => repeat (first | exact (Kd.C_below HR0.out HB.out) | (with_reducible refine Kd.C_alloc ?_ _) | (with_reducible refine Kd.C_drewN ?_ _) | (with_reducible refine Kd.C_drew ?_))); (case side2 => exact HC0.out); rintro e w10 ⟨rfl, hb⟩; refine ⟨_, rfl, ?_⟩; replace HO_5 := hob_ HO_5 hb; replace HB := hbs_ hb; clear hb))
      go_loopg [7, 8] k1 (fun kq v7 v8 w' => ∃ (x7_2 : Int) (x8_2 : Int), v7 = .int .i64 x7_2 ∧ v8 = .int .i64 x8_2 ∧ Aside0 (spec_TreeSize.l1 kq l0 a1 x5_1 x6_1 x7_2 x8_2 = some r) ∧ Aside0 (kq ≤ k1) ∧ Aside0 (Kd.R (Kd.int .i64) 3 w' w.heap.size (fun _ => True) u5 x5_1) ∧ Aside0 (Below w.heap.size w w'))
      case atStart => exact ⟨(1), (0), rf_, rf_, H', ⟨Nat.le_refl _⟩, ⟨rr_ HO_5⟩, ⟨bl_⟩⟩
      case round =>
       clear H'
       try clear p2
       try clear p6
       try clear c7b0
       try clear p2
       try clear p6
       obtain ⟨x7_2, x8_2, rfl, rfl, HA, HK2, HO_5, HB⟩ := hrel
       cases gk with
       | zero => exact absurd HA.out (by simp [spec_TreeSize.l1])
       | succ k2 =>
        have H := HA.out
        clear HA
        simp only [spec_TreeSize.l1] at H
        obtain ⟨c11b0, H⟩ := ifd_ H
        obtain ⟨c12b0, H⟩ := ifd_ H
        by_cases c13 : x8_2 < (((rd_T58 l0 x6_1).f2).length : Int)
        ·rw [if_pos c13] at H
         have c13b0 : decide (x8_2 < (((rd_T58 l0 x6_1).f2).length : Int)) = true := decide_eq_true c13
         clear c13
         obtain ⟨c14b0, H⟩ := ifd_ H
         obtain ⟨c15b0, H⟩ := ifd_ H
         obtain ⟨c16b0, H⟩ := ifd_ H
         obtain ⟨t821, A17, H⟩ := bindE_ H
         have H' := aa_ H
         clear H
         have p817 : 0 ≤ (x6_1 : Int) := od_
         have q817 : x6_1 < (l0.length : Int) := od_
         obtain ⟨ad817, A817_13, c817_13, e817, hx817_0, hx817_1, hx817_2, hx817_3, hx817_4, hx817_5, hx817_6, hx817_7, hx817_8, hx817_9, hx817_10, hx817_11, hx817_12, hx817_13, hl817_13, hi817_13⟩ := at_T58 HR0.out x6_1 p817 q817
         cases e817
         replace hx817_0 := cb_ HB hx817_0
         replace hx817_1 := cb_ HB hx817_1
         replace hx817_2 := cb_ HB hx817_2
         replace hx817_3 := cb_ HB hx817_3
         replace hx817_4 := cb_ HB hx817_4
         replace hx817_5 := cb_ HB hx817_5
         replace hx817_6 := cb_ HB hx817_6
         replace hx817_7 := cb_ HB hx817_7
         replace hx817_8 := cb_ HB hx817_8
         replace hx817_9 := cb_ HB hx817_9
         replace hx817_10 := cb_ HB hx817_10
         replace hx817_11 := cb_ HB hx817_11
         replace hx817_12 := cb_ HB hx817_12
         replace hx817_13 := cb_ HB hx817_13
         have HR817_13 := aa_ hi817_13
         have HC817_13 := aa_ hl817_13
         clear hi817_13 hl817_13
         replace p817 := eq_true p817
         replace q817 := eq_true q817
         have p818 : 0 ≤ (x6_1 : Int) := od_
         have q818 : x6_1 < (l0.length : Int) := od_
         obtain ⟨ad818, A818_13, c818_13, e818, hx818_0, hx818_1, hx818_2, hx818_3, hx818_4, hx818_5, hx818_6, hx818_7, hx818_8, hx818_9, hx818_10, hx818_11, hx818_12, hx818_13, hl818_13, hi818_13⟩ := at_T58 HR0.out x6_1 p818 q818
         obtain rfl : ad817 = ad818 := (by injection e818)
         replace hx818_0 := cb_ HB hx818_0
         replace hx818_1 := cb_ HB hx818_1
         replace hx818_2 := cb_ HB hx818_2
         replace hx818_3 := cb_ HB hx818_3
         replace hx818_4 := cb_ HB hx818_4
         replace hx818_5 := cb_ HB hx818_5
         replace hx818_6 := cb_ HB hx818_6
         replace hx818_7 := cb_ HB hx818_7
         replace hx818_8 := cb_ HB hx818_8
         replace hx818_9 := cb_ HB hx818_9
         replace hx818_10 := cb_ HB hx818_10
         replace hx818_11 := cb_ HB hx818_11
         replace hx818_12 := cb_ HB hx818_12
         replace hx818_13 := cb_ HB hx818_13
         have HR818_13 := aa_ hi818_13
         have HC818_13 := aa_ hl818_13
         clear hi818_13 hl818_13
         replace p818 := eq_true p818
         replace q818 := eq_true q818
         have ea_ := Option.some.inj (hx817_13.symm.trans hx818_13)
         injection ea_ with ea_ en_ ec_
         subst ea_
         subst ec_
         clear en_
         have p819 : 0 ≤ (x8_2 : Int) := od_
         have q819 : x8_2 < (((rd_T58 l0 x6_1).f2).length : Int) := od_
         obtain ⟨ad819, e819, hx819_0⟩ := Kd.at_int (Kd.C_below HR818_13.out HB.out) x8_2 p819 q819
         cases e819
         replace p819 := eq_true p819
         replace q819 := eq_true q819
         obtain ⟨Ao18, co18, eo18⟩ := Kd.R_slice HO_5.out
         subst eo18
         have p820 : 0 ≤ ((rd ((rd_T58 l0 x6_1).f2) x8_2) : Int) := od_
         have q820 : (rd ((rd_T58 l0 x6_1).f2) x8_2) < (x5_1.length : Int) := od_
         obtain ⟨ad820, e820, hx820_0⟩ := Kd.at_int (Kd.R_reads' HO_5.out).2.2 (rd ((rd_T58 l0 x6_1).f2) x8_2) p820 q820
         cases e820
         replace p820 := eq_true p820
         replace q820 := eq_true q820
         go_wp2_with (first | ((with_reducible refine gC_ 36 rfl ?_); refine goesC_ (some 48) Try.func36 #[.int .i64 (wrap64 (x7_2 + (rd x5_1 (rd ((rd_T58 l0 x6_1).f2) x8_2))))] ?_; (with_reducible refine (spec_l19Cap.calls (wrap64 (x7_2 + (rd x5_1 (rd ((rd_T58 l0 x6_1).f2) x8_2)))) t821 _ A17.out).mono ?_); rintro e w' ⟨rfl, ⟨nd, rfl⟩⟩; refine ⟨_, rfl, ?_⟩))
         go_roundg k2
         case measure => have := HK1.out; have := HK2.out; omega
         case rel => exact ⟨(t821), (wrap64 (x8_2 + 1)), rf_, rf_, H', ⟨by have := HK1.out; have := HK2.out; omega⟩, ⟨rr_ HO_5⟩, ⟨bl_⟩⟩
        ·rw [if_neg c13] at H
         have c13b0 : decide (x8_2 < (((rd_T58 l0 x6_1).f2).length : Int)) = false := decide_eq_false c13
         clear c13
         obtain ⟨c19, H⟩ := ifn_ H
         have LMc19 := aa_ c19
         clear c19
         obtain ⟨y822, hy822⟩ : ∃ y_ : List Int, y_ = (x5_1 ++ [x7_2]) := ⟨_, rfl⟩
         replace H : (spec_TreeSize.l0 k2 l0 a1 y822 (wrap64 (x6_1 + 1))) = some r := rh_ hy822 H
         have Ny822 := aa_ hy822
         clear hy822
         have H' := aa_ H
         clear H
         have p817 : 0 ≤ (x6_1 : Int) := od_
         have q817 : x6_1 < (l0.length : Int) := od_
         obtain ⟨ad817, A817_13, c817_13, e817, hx817_0, hx817_1, hx817_2, hx817_3, hx817_4, hx817_5, hx817_6, hx817_7, hx817_8, hx817_9, hx817_10, hx817_11, hx817_12, hx817_13, hl817_13, hi817_13⟩ := at_T58 HR0.out x6_1 p817 q817
         cases e817
         replace hx817_0 := cb_ HB hx817_0
         replace hx817_1 := cb_ HB hx817_1
         replace hx817_2 := cb_ HB hx817_2
         replace hx817_3 := cb_ HB hx817_3
         replace hx817_4 := cb_ HB hx817_4
         replace hx817_5 := cb_ HB hx817_5
         replace hx817_6 := cb_ HB hx817_6
         replace hx817_7 := cb_ HB hx817_7
         replace hx817_8 := cb_ HB hx817_8
         replace hx817_9 := cb_ HB hx817_9
         replace hx817_10 := cb_ HB hx817_10
         replace hx817_11 := cb_ HB hx817_11
         replace hx817_12 := cb_ HB hx817_12
         replace hx817_13 := cb_ HB hx817_13
         have HR817_13 := aa_ hi817_13
         have HC817_13 := aa_ hl817_13
         clear hi817_13 hl817_13
         replace p817 := eq_true p817
         replace q817 := eq_true q817
         go_wp2_with (first | ((with_reducible refine gate_builtin (b := .append) (xs := #[.tmp 49, .tmp 51]) rfl ?_); at_builtin; refine Kd.R_append (Kd.int .i64) (w0 := w) w.heap.size rfl (.tmp 49) (.tmp 51) 53 3 (.int .i64 0) 8 rfl Try.underlying53 info3 rfl (by decide) (by omega) u5 x5_1 x7_2 [.int .i64 x7_2] (fun _ => True) (fun _ => False) rfl rfl ?aP (fun _ hk => hk.elim) ?aF ?aO ?aB ?aS ?aL ?_; (case aP => exact rfl); (case aB => exact bl_); (case aF => exact (fun _ _ => trivial)); (case aO => exact (rr_ HO_5)); (case aS => exact bls_); (case aL => have := LMc19.out; omega); intro v823 w20 ho hb hg hat; rw [← Ny822.out] at ho; replace HB := aa_ (hb); have HO824 := aa_ (ho); clear HO_5; clear ho hb hg hat))
         go_roundg k2
         case measure => have := HK1.out; have := HK2.out; omega
         case rel => exact ⟨(y822), (wrap64 (x6_1 + 1)), rf_, H', ⟨by have := HK1.out; have := HK2.out; omega⟩, ⟨rr_ HO824⟩, ⟨bl_⟩⟩
     ·replace c9 := Bool.eq_false_iff.mpr c9
      subst c9
      replace H := ite_f_ H
      obtain rfl := Option.some.inj H
      go_wp2_with (first | ((with_reducible refine gC_ 32 rfl ?_); refine goesC_ (some 23) Try.func32 #[.slice A0 l0.length c0, .int .i64 x6_1] ?_; (with_reducible refine (spec_StepOk.calls k1 _ _ l0 x6_1 false _ ?side1 ?side2 A8.out).mono ?_); (case side1 => repeat (first | exact (Kd.C_below HR0.out HB.out) | (with_reducible refine Kd.C_alloc ?_ _) | (with_reducible refine Kd.C_drewN ?_ _) | (with_reducible refine Kd.C_drew ?_))); (case side2 => exact HC0.out); rintro e w21 ⟨rfl, hb⟩; refine ⟨_, rfl, ?_⟩; replace HO_5 := hob_ HO_5 hb; replace HB := hbs_ hb; clear hb))
      go_ret
      exact ⟨eq_, bl_⟩
    ·rw [if_neg c7] at H
     have c7b0 : decide (x6_1 ≤ a1) = false := decide_eq_false c7
     clear c7
     obtain ⟨c22b0, H⟩ := ifd_ H
     obtain ⟨c23b0, H⟩ := ifd_ H
     obtain rfl := Option.some.inj H
     obtain ⟨Ao24, co24, eo24⟩ := Kd.R_slice HO_5.out
     subst eo24
     have p815 : 0 ≤ (a1 : Int) := od_
     have q815 : a1 < (x5_1.length : Int) := od_
     obtain ⟨ad815, e815, hx815_0⟩ := Kd.at_int (Kd.R_reads' HO_5.out).2.2 a1 p815 q815
     cases e815
     replace p815 := eq_true p815
     replace q815 := eq_true q815
     go_wp2
     go_ret
     exact ⟨eq_, bl_⟩
 ·replace c4 := Bool.eq_false_iff.mpr c4
  subst c4
  replace H := ite_f_ H
  obtain rfl := Option.some.inj H
  go_enter Try.func17, Try.ntmps17
  go_wp2_with (first | ((with_reducible refine gC_ 31 rfl ?_); refine goesC_ (some 13) Try.func31 #[.int .i64 a1, .int .i64 0, .int .i64 (wrap64 ((l0.length : Int) - 1))] ?_; (with_reducible refine (spec_l01In.calls a1 0 (wrap64 ((l0.length : Int) - 1)) false _ A3.out).mono ?_); rintro e w' ⟨rfl, ⟨nd, rfl⟩⟩; refine ⟨_, rfl, ?_⟩))
  go_ret
  exact ⟨eq_, bl_⟩
end Go.Proofs.Ytljhfomkakhflaa.PA
