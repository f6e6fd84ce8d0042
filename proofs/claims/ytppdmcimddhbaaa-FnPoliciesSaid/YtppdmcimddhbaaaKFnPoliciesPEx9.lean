import Derived.Test.YtppdmcimddhbaaaKFnPoliciesPEx0
import Derived.Test.YtppdmcimddhbaaaKFnPoliciesPEx1
import Derived.Test.YtppdmcimddhbaaaKFnPoliciesPEx8
-- A text of this claim: written by the session's own program out of the translation (wip/tools). Lean checks it.
namespace Go.Proofs.Ytppdmcimddhbaaa.PE
open Go.RowKit Go.Proofs.YtppdmcimddhbaaaW.PrintWords Go.Proofs.YtppdmcimddhbaaaW.PrintLast Go.Proofs.YtppdmcimddhbaaaW.PrintMore
attribute [local go_sem] max2_int min2_int max_two min_two max_three min_three max_four min_four   -- for this text's walks alone
set_option linter.unusedVariables false
set_option linter.unusedSimpArgs false
attribute [local go_sem high] eqA27
mutual
def impl_PolicyOk.l0 : Nat → List (S71) → Int → Int → Option (Bool)
 | 0, _, _, _ => none
 | k + 1, x13, x14, x15 => if x15 < x14 then (if 0 ≤ x15 then (if x15 < (x13.length : Int) then (if ((rd_T71 x13 x15).f0) = 1 then ((impl_RoleOk.f ((rd_T71 x13 x15).f1.f0) ((rd_T71 x13 x15).f1.f1)).bind fun t275 => (if t275 = true then (if ((rd_T71 x13 x15).f2) = 0 then (if (((rd_T71 x13 x15).f3) = 0) then (impl_PolicyOk.l0 k x13 x14 (wrap64 (x15 + 1))) else (some false)) else (some false)) else (some false))) else (if ((rd_T71 x13 x15).f0) = 2 then (impl_PolicyOk.j1 k x15 false x13 x14 x15 ((rd_T71 x13 x15).f0) (((rd_T71 x13 x15).f0) == 2) ((rd_T71 x13 x15).f0) ((rd_T71 x13 x15).f1.f0) ((rd_T71 x13 x15).f1.f1) ((rd_T71 x13 x15).f2) ((rd_T71 x13 x15).f3) 0 0) else (impl_PolicyOk.j1 k x15 false x13 x14 x15 ((rd_T71 x13 x15).f0) (((rd_T71 x13 x15).f0) == 3) ((rd_T71 x13 x15).f0) ((rd_T71 x13 x15).f1.f0) ((rd_T71 x13 x15).f1.f1) ((rd_T71 x13 x15).f2) ((rd_T71 x13 x15).f3) 0 0))) else (none)) else (none)) else (some true)
def impl_PolicyOk.j1 : Nat → Int → Bool → List (S71) → Int → Int → Int → Bool → Int → Int → Int → Int → Int → Int → Int → Option (Bool)
 | 0, _, _, _, _, _, _, _, _, _, _, _, _, _, _ => none
 | k + 1, x3, x6, x13, x14, x15, x22, x38, x274000, x274001, x274002, x274003, x274004, x275000, x275001 => if x38 = true then (if (x274001 == x275000 && (x274002 == x275001)) = true then ((impl_in.f x274003 0 (wrap64 (x3 - 1))).bind fun t276 => (if t276 = true then ((impl_in.f x274004 0 (wrap64 (x3 - 1))).bind fun t277 => (if t277 = true then (impl_PolicyOk.l0 k x13 x14 (wrap64 (x15 + 1))) else (some false))) else (some false))) else (some false)) else (if x22 = 4 then (if (x274001 == x275000 && (x274002 == x275001)) = true then ((impl_in.f x274003 0 (wrap64 (x3 - 1))).bind fun t278 => (if t278 = true then (if x274004 = 0 then (impl_PolicyOk.l0 k x13 x14 (wrap64 (x15 + 1))) else (some false)) else (some false))) else (some false)) else (if x6 = true then (impl_PolicyOk.l0 k x13 x14 (wrap64 (x15 + 1))) else (some false)))
end
def impl_PolicyOk.f (k : Nat) (l0_0 : List (S71)) : Option (Bool) := (impl_in.f (l0_0.length : Int) 1 40).bind fun t271 => (if t271 = true then (impl_PolicyOk.l0 k l0_0 (l0_0.length : Int) 0) else (some false))
set_option maxHeartbeats 8000000 in
set_option maxRecDepth 100000 in
theorem impl_PolicyOk.calls (k : Nat) (A0_0 : Option Addr) (c0_0 : Nat) (l0_0 : List (S71)) (r : Bool) (w : World) (hr0_0 : Kd.C k71 w A0_0 l0_0.length l0_0) (hc0_0 : l0_0.length ≤ c0_0) (h : impl_PolicyOk.f k l0_0 = some r) :
  Calls Try.prog 49 #[.agg #[.slice A0_0 l0_0.length c0_0]] w fun e w' => e = .returned (.bool r) ∧ Below w.heap.size w w' := by
 have hu68 := Try.underlying68
 have hu71 := Try.underlying71
 have hu27 := Try.underlying27
 have HR0_0 := Aside0.mk hr0_0
 have HC0_0 := Aside0.mk hc0_0
 clear hr0_0 hc0_0
 have HB := Aside0.mk (Below.refl w.heap.size w)
 have H : ((impl_in.f (l0_0.length : Int) 1 40).bind fun t271 => (if t271 = true then (impl_PolicyOk.l0 k l0_0 (l0_0.length : Int) 0) else (some false))) = some r := h
 clear h
 obtain ⟨t271, A2, H⟩ := bindE_ H
 by_cases c3 : t271 = true
 ·subst c3
  replace H := ite_t_ H
  have H' := Aside0.mk H
  clear H
  go_enter Try.func49, Try.ntmps49
  go_wp2_with (first | ((with_reducible refine gate_dst (N := 1) rfl ?_); refine box_event ?hg (N := 1) ?hd (cs := #[.slice A0_0 l0_0.length c0_0]) (t := 68) ?hr ?_; (case hd => rfl); (case hg => rfl); (case hr => first | (go_simp; done) | (go_simp; rfl)); intro gb270 hg w4 hbox hb; have BK270 := Aside0.mk (hbox); have GW270 := gs_ hg; have GE270 := gs_ hg; replace HB := hbs_ hb; clear hb hbox hg; have hcz5 := blk_cell BK270.out; have hfz5 := blk_frozen BK270.out) | ((with_reducible refine gate_callee (f := 83) rfl ?_); refine goesC_ (some 10) Try.func83 #[.int .i64 (l0_0.length : Int), .int .i64 1, .int .i64 40] ?_; (with_reducible refine (impl_in.calls (l0_0.length : Int) 1 40 true _ A2.out).mono ?_); rintro e w' ⟨rfl, ⟨nd, rfl⟩⟩; refine ⟨_, rfl, ?_⟩))
  go_loopg [15] k (fun kq v15 w' => ∃ (x15_1 : Int), v15 = .int .i64 x15_1 ∧ Aside0 (impl_PolicyOk.l0 kq l0_0 (l0_0.length : Int) x15_1 = some r) ∧ Aside0 (kq ≤ k) ∧ Aside0 (w'.heap[gb270]? = some (.cells #[(.slice A0_0 l0_0.length c0_0)] 68 (0, 0))) ∧ Aside0 (Below w.heap.size w w'))
  case atStart => exact ⟨(0), (by first | rfl | (simp; done) | (simp [*]; done)), H', ⟨Nat.le_refl _⟩, ⟨bk_ BK270⟩, ⟨bl_⟩⟩
  case round =>
   clear H'
   try clear p2
   try clear c3
   try clear c4
   try clear hcz5
   try clear hfz5
   obtain ⟨x15_1, rfl, HA, HK1, BK270, HB⟩ := hrel
   cases gk with
   | zero => exact absurd HA.out (by simp [impl_PolicyOk.l0])
   | succ k1 =>
    have H := HA.out
    clear HA
    simp only [impl_PolicyOk.l0] at H
    by_cases c6 : x15_1 < (l0_0.length : Int)
    ·rw [if_pos c6] at H
     have c6b0 : decide (x15_1 < (l0_0.length : Int)) = true := decide_eq_true c6
     clear c6
     by_cases c7 : 0 ≤ x15_1
     ·rw [if_pos c7] at H
      have c7b0 : decide (0 ≤ x15_1) = true := decide_eq_true c7
      clear c7
      by_cases c8 : x15_1 < (l0_0.length : Int)
      ·rw [if_pos c8] at H
       have c8b0 : decide (x15_1 < (l0_0.length : Int)) = true := decide_eq_true c8
       clear c8
       by_cases c9 : ((rd_T71 l0_0 x15_1).f0) = 1
       ·rw [if_pos c9] at H
        have c9b0 : (((rd_T71 l0_0 x15_1).f0) == 1) = true := beq_iff_eq.mpr c9
        have c9b1 : (((rd_T71 l0_0 x15_1).f0) != 1) = false := bne_eq_false_iff_eq.mpr c9
        clear c9
        obtain ⟨t275, A10, H⟩ := bindE_ H
        by_cases c11 : t275 = true
        ·subst c11
         replace H := ite_t_ H
         by_cases c12 : ((rd_T71 l0_0 x15_1).f2) = 0
         ·rw [if_pos c12] at H
          have c12b0 : (((rd_T71 l0_0 x15_1).f2) == 0) = true := beq_iff_eq.mpr c12
          have c12b1 : (((rd_T71 l0_0 x15_1).f2) != 0) = false := bne_eq_false_iff_eq.mpr c12
          clear c12
          by_cases c13 : (((rd_T71 l0_0 x15_1).f3) = 0)
          ·rw [if_pos c13] at H
           have c13b0 : (((rd_T71 l0_0 x15_1).f3) == 0) = true := beq_iff_eq.mpr c13
           have c13b1 : (((rd_T71 l0_0 x15_1).f3) != 0) = false := bne_eq_false_iff_eq.mpr c13
           clear c13
           have H' := Aside0.mk H
           clear H
           have p272 : 0 ≤ (x15_1 : Int) := of_decide_eq_true (by first | (with_reducible assumption) | assumption)
           have q272 : x15_1 < (l0_0.length : Int) := of_decide_eq_true (by first | (with_reducible assumption) | assumption)
           obtain ⟨ad272, e272, hx272_0, hx272_1, hx272_2, hx272_3, hx272_4⟩ := at_T71 (Kd.C_below HR0_0.out HB.out) x15_1 p272 q272
           cases e272
           replace p272 := eq_true p272
           replace q272 := eq_true q272
           go_wp2_with (first | ((with_reducible refine gate_dst (N := 4) rfl ?_); refine box_event ?hg (N := 4) ?hd (cs := #[.int .i64 0, .int .i64 0, .int .i64 0, .int .i64 0, .int .i64 0]) (t := 71) ?hr ?_; (case hd => rfl); (case hg => rfl); (case hr => first | (go_simp; done) | (go_simp; rfl)); intro gb273 hg w14 hbox hb; have BK273 := Aside0.mk (hbox); have GW273 := gs_ hg; have GE273 := gs_ hg; replace HB := hbs_ hb; have NB270_273 := Aside0.mk ((by rw [hg]; exact Nat.ne_of_lt (blk_lt (g := gb270) (o := .cells #[.slice (some ad272) l0_0.length c0_0] 68 (0, 0)) (bk_ BK270)) : gb270 ≠ gb273)); have NB273_270 := Aside0.mk ((by rw [hg]; exact Nat.ne_of_gt (blk_lt (g := gb270) (o := .cells #[.slice (some ad272) l0_0.length c0_0] 68 (0, 0)) (bk_ BK270)) : gb273 ≠ gb270)); replace BK270 := bkb_ BK270 hb; clear hb hbox hg; have hnb15 := NB273_270.out; have hnc15 := NB270_273.out; have hcz16 := blk_cell BK273.out; have hfz16 := blk_frozen BK273.out) | ((with_reducible refine gate_dst (N := 5) rfl ?_); refine box_event ?hg (N := 5) ?hd (cs := #[.int .i64 0, .int .i64 0]) (t := 27) ?hr ?_; (case hd => rfl); (case hg => rfl); (case hr => first | (go_simp; done) | (go_simp; rfl)); intro gb274 hg w17 hbox hb; have BK274 := Aside0.mk (hbox); have GW274 := gs_ hg; have GE274 := gs_ hg; replace HB := hbs_ hb; have NB270_274 := Aside0.mk ((by rw [hg]; exact Nat.ne_of_lt (blk_lt (g := gb270) (o := .cells #[.slice (some ad272) l0_0.length c0_0] 68 (0, 0)) (bk_ BK270)) : gb270 ≠ gb274)); have NB274_270 := Aside0.mk ((by rw [hg]; exact Nat.ne_of_gt (blk_lt (g := gb270) (o := .cells #[.slice (some ad272) l0_0.length c0_0] 68 (0, 0)) (bk_ BK270)) : gb274 ≠ gb270)); replace BK270 := Aside0.mk (blk_below (g := gb270) (o := .cells #[.slice (some ad272) l0_0.length c0_0] 68 (0, 0)) (bk_ BK270) hb); have NB273_274 := Aside0.mk ((by rw [hg]; exact Nat.ne_of_lt (blk_lt (g := gb273) (o := .cells #[.int .i64 ((rd_T71 l0_0 x15_1).f0), .int .i64 ((rd_T71 l0_0 x15_1).f1.f0), .int .i64 ((rd_T71 l0_0 x15_1).f1.f1), .int .i64 ((rd_T71 l0_0 x15_1).f2), .int .i64 ((rd_T71 l0_0 x15_1).f3)] 71 (0, 0)) (bk_ BK273)) : gb273 ≠ gb274)); have NB274_273 := Aside0.mk ((by rw [hg]; exact Nat.ne_of_gt (blk_lt (g := gb273) (o := .cells #[.int .i64 ((rd_T71 l0_0 x15_1).f0), .int .i64 ((rd_T71 l0_0 x15_1).f1.f0), .int .i64 ((rd_T71 l0_0 x15_1).f1.f1), .int .i64 ((rd_T71 l0_0 x15_1).f2), .int .i64 ((rd_T71 l0_0 x15_1).f3)] 71 (0, 0)) (bk_ BK273)) : gb274 ≠ gb273)); replace BK273 := Aside0.mk (blk_below (g := gb273) (o := .cells #[.int .i64 ((rd_T71 l0_0 x15_1).f0), .int .i64 ((rd_T71 l0_0 x15_1).f1.f0), .int .i64 ((rd_T71 l0_0 x15_1).f1.f1), .int .i64 ((rd_T71 l0_0 x15_1).f2), .int .i64 ((rd_T71 l0_0 x15_1).f3)] 71 (0, 0)) (bk_ BK273) hb); clear hb hbox hg; have hnb18 := NB274_270.out; have hnc18 := NB270_274.out; have hnb19 := NB274_273.out; have hnc19 := NB273_274.out; have hcz20 := blk_cell BK274.out; have hfz20 := blk_frozen BK274.out; have hcz21 := blk_cell BK273.out; have hfz21 := blk_frozen BK273.out) | ((with_reducible refine gate_callee (f := 103) rfl ?_); refine goesC_ (some 27) Try.func103 #[.agg #[.int .i64 ((rd_T71 l0_0 x15_1).f1.f0), .int .i64 ((rd_T71 l0_0 x15_1).f1.f1)]] ?_; (with_reducible refine (impl_RoleOk.calls ((rd_T71 l0_0 x15_1).f1.f0) ((rd_T71 l0_0 x15_1).f1.f1) true _ A10.out).mono ?_); rintro e w22 ⟨rfl, hb⟩; refine ⟨_, rfl, ?_⟩; replace BK270 := Aside0.mk (blk_below (g := gb270) (o := .cells #[.slice (some ad272) l0_0.length c0_0] 68 (0, 0)) (bk_ BK270) hb); replace BK273 := Aside0.mk (blk_below (g := gb273) (o := .cells #[.int .i64 ((rd_T71 l0_0 x15_1).f0), .int .i64 ((rd_T71 l0_0 x15_1).f1.f0), .int .i64 ((rd_T71 l0_0 x15_1).f1.f1), .int .i64 ((rd_T71 l0_0 x15_1).f2), .int .i64 ((rd_T71 l0_0 x15_1).f3)] 71 (0, 0)) (bk_ BK273) hb); replace BK274 := Aside0.mk (blk_below (g := gb274) (o := .cells #[.int .i64 0, .int .i64 0] 27 (0, 0)) (bk_ BK274) hb); replace HB := hbs_ hb; clear hb; have hcz23 := blk_cell BK273.out; have hfz23 := blk_frozen BK273.out))
           go_roundg k1
           case measure => have := HK1.out; omega
           case rel => exact ⟨(wrap64 (x15_1 + 1)), (by first | rfl | (simp; done) | (simp [*]; done)), H', ⟨by have := HK1.out; omega⟩, ⟨bk_ BK270⟩, ⟨bl_⟩⟩
          ·rw [if_neg c13] at H
           have c13b0 : (((rd_T71 l0_0 x15_1).f3) == 0) = false := beq_eq_false_iff_ne.mpr c13
           have c13b1 : (((rd_T71 l0_0 x15_1).f3) != 0) = true := bne_iff_ne.mpr c13
           obtain rfl := Option.some.inj H
           have p272 : 0 ≤ (x15_1 : Int) := of_decide_eq_true (by first | (with_reducible assumption) | assumption)
           have q272 : x15_1 < (l0_0.length : Int) := of_decide_eq_true (by first | (with_reducible assumption) | assumption)
           obtain ⟨ad272, e272, hx272_0, hx272_1, hx272_2, hx272_3, hx272_4⟩ := at_T71 (Kd.C_below HR0_0.out HB.out) x15_1 p272 q272
           cases e272
           replace p272 := eq_true p272
           replace q272 := eq_true q272
           go_wp2_with (first | ((with_reducible refine gate_dst (N := 4) rfl ?_); refine box_event ?hg (N := 4) ?hd (cs := #[.int .i64 0, .int .i64 0, .int .i64 0, .int .i64 0, .int .i64 0]) (t := 71) ?hr ?_; (case hd => rfl); (case hg => rfl); (case hr => first | (go_simp; done) | (go_simp; rfl)); intro gb273 hg w24 hbox hb; have BK273 := Aside0.mk (hbox); have GW273 := gs_ hg; have GE273 := gs_ hg; replace HB := hbs_ hb; have NB270_273 := Aside0.mk ((by rw [hg]; exact Nat.ne_of_lt (blk_lt (g := gb270) (o := .cells #[.slice (some ad272) l0_0.length c0_0] 68 (0, 0)) (bk_ BK270)) : gb270 ≠ gb273)); have NB273_270 := Aside0.mk ((by rw [hg]; exact Nat.ne_of_gt (blk_lt (g := gb270) (o := .cells #[.slice (some ad272) l0_0.length c0_0] 68 (0, 0)) (bk_ BK270)) : gb273 ≠ gb270)); replace BK270 := bkb_ BK270 hb; clear hb hbox hg; have hnb25 := NB273_270.out; have hnc25 := NB270_273.out; have hcz26 := blk_cell BK273.out; have hfz26 := blk_frozen BK273.out) | ((with_reducible refine gate_dst (N := 5) rfl ?_); refine box_event ?hg (N := 5) ?hd (cs := #[.int .i64 0, .int .i64 0]) (t := 27) ?hr ?_; (case hd => rfl); (case hg => rfl); (case hr => first | (go_simp; done) | (go_simp; rfl)); intro gb274 hg w27 hbox hb; have BK274 := Aside0.mk (hbox); have GW274 := gs_ hg; have GE274 := gs_ hg; replace HB := hbs_ hb; have NB270_274 := Aside0.mk ((by rw [hg]; exact Nat.ne_of_lt (blk_lt (g := gb270) (o := .cells #[.slice (some ad272) l0_0.length c0_0] 68 (0, 0)) (bk_ BK270)) : gb270 ≠ gb274)); have NB274_270 := Aside0.mk ((by rw [hg]; exact Nat.ne_of_gt (blk_lt (g := gb270) (o := .cells #[.slice (some ad272) l0_0.length c0_0] 68 (0, 0)) (bk_ BK270)) : gb274 ≠ gb270)); replace BK270 := Aside0.mk (blk_below (g := gb270) (o := .cells #[.slice (some ad272) l0_0.length c0_0] 68 (0, 0)) (bk_ BK270) hb); have NB273_274 := Aside0.mk ((by rw [hg]; exact Nat.ne_of_lt (blk_lt (g := gb273) (o := .cells #[.int .i64 ((rd_T71 l0_0 x15_1).f0), .int .i64 ((rd_T71 l0_0 x15_1).f1.f0), .int .i64 ((rd_T71 l0_0 x15_1).f1.f1), .int .i64 ((rd_T71 l0_0 x15_1).f2), .int .i64 ((rd_T71 l0_0 x15_1).f3)] 71 (0, 0)) (bk_ BK273)) : gb273 ≠ gb274)); have NB274_273 := Aside0.mk ((by rw [hg]; exact Nat.ne_of_gt (blk_lt (g := gb273) (o := .cells #[.int .i64 ((rd_T71 l0_0 x15_1).f0), .int .i64 ((rd_T71 l0_0 x15_1).f1.f0), .int .i64 ((rd_T71 l0_0 x15_1).f1.f1), .int .i64 ((rd_T71 l0_0 x15_1).f2), .int .i64 ((rd_T71 l0_0 x15_1).f3)] 71 (0, 0)) (bk_ BK273)) : gb274 ≠ gb273)); replace BK273 := Aside0.mk (blk_below (g := gb273) (o := .cells #[.int .i64 ((rd_T71 l0_0 x15_1).f0), .int .i64 ((rd_T71 l0_0 x15_1).f1.f0), .int .i64 ((rd_T71 l0_0 x15_1).f1.f1), .int .i64 ((rd_T71 l0_0 x15_1).f2), .int .i64 ((rd_T71 l0_0 x15_1).f3)] 71 (0, 0)) (bk_ BK273) hb); clear hb hbox hg; have hnb28 := NB274_270.out; have hnc28 := NB270_274.out; have hnb29 := NB274_273.out; have hnc29 := NB273_274.out; have hcz30 := blk_cell BK274.out; have hfz30 := blk_frozen BK274.out; have hcz31 := blk_cell BK273.out; have hfz31 := blk_frozen BK273.out) | ((with_reducible refine gate_callee (f := 103) rfl ?_); refine goesC_ (some 27) Try.func103 #[.agg #[.int .i64 ((rd_T71 l0_0 x15_1).f1.f0), .int .i64 ((rd_T71 l0_0 x15_1).f1.f1)]] ?_; (with_reducible refine (impl_RoleOk.calls ((rd_T71 l0_0 x15_1).f1.f0) ((rd_T71 l0_0 x15_1).f1.f1) true _ A10.out).mono ?_); rintro e w32 ⟨rfl, hb⟩; refine ⟨_, rfl, ?_⟩; replace BK270 := Aside0.mk (blk_below (g := gb270) (o := .cells #[.slice (some ad272) l0_0.length c0_0] 68 (0, 0)) (bk_ BK270) hb); replace BK273 := Aside0.mk (blk_below (g := gb273) (o := .cells #[.int .i64 ((rd_T71 l0_0 x15_1).f0), .int .i64 ((rd_T71 l0_0 x15_1).f1.f0), .int .i64 ((rd_T71 l0_0 x15_1).f1.f1), .int .i64 ((rd_T71 l0_0 x15_1).f2), .int .i64 ((rd_T71 l0_0 x15_1).f3)] 71 (0, 0)) (bk_ BK273) hb); replace BK274 := Aside0.mk (blk_below (g := gb274) (o := .cells #[.int .i64 0, .int .i64 0] 27 (0, 0)) (bk_ BK274) hb); replace HB := hbs_ hb; clear hb; have hcz33 := blk_cell BK273.out; have hfz33 := blk_frozen BK273.out))
           go_ret
           exact ⟨eq_, bl_⟩
         ·rw [if_neg c12] at H
          have c12b0 : (((rd_T71 l0_0 x15_1).f2) == 0) = false := beq_eq_false_iff_ne.mpr c12
          have c12b1 : (((rd_T71 l0_0 x15_1).f2) != 0) = true := bne_iff_ne.mpr c12
          obtain rfl := Option.some.inj H
          have p272 : 0 ≤ (x15_1 : Int) := of_decide_eq_true (by first | (with_reducible assumption) | assumption)
          have q272 : x15_1 < (l0_0.length : Int) := of_decide_eq_true (by first | (with_reducible assumption) | assumption)
          obtain ⟨ad272, e272, hx272_0, hx272_1, hx272_2, hx272_3, hx272_4⟩ := at_T71 (Kd.C_below HR0_0.out HB.out) x15_1 p272 q272
          cases e272
          replace p272 := eq_true p272
          replace q272 := eq_true q272
          go_wp2_with (first | ((with_reducible refine gate_dst (N := 4) rfl ?_); refine box_event ?hg (N := 4) ?hd (cs := #[.int .i64 0, .int .i64 0, .int .i64 0, .int .i64 0, .int .i64 0]) (t := 71) ?hr ?_; (case hd => rfl); (case hg => rfl); (case hr => first | (go_simp; done) | (go_simp; rfl)); intro gb273 hg w34 hbox hb; have BK273 := Aside0.mk (hbox); have GW273 := gs_ hg; have GE273 := gs_ hg; replace HB := hbs_ hb; have NB270_273 := Aside0.mk ((by rw [hg]; exact Nat.ne_of_lt (blk_lt (g := gb270) (o := .cells #[.slice (some ad272) l0_0.length c0_0] 68 (0, 0)) (bk_ BK270)) : gb270 ≠ gb273)); have NB273_270 := Aside0.mk ((by rw [hg]; exact Nat.ne_of_gt (blk_lt (g := gb270) (o := .cells #[.slice (some ad272) l0_0.length c0_0] 68 (0, 0)) (bk_ BK270)) : gb273 ≠ gb270)); replace BK270 := bkb_ BK270 hb; clear hb hbox hg; have hnb35 := NB273_270.out; have hnc35 := NB270_273.out; have hcz36 := blk_cell BK273.out; have hfz36 := blk_frozen BK273.out) | ((with_reducible refine gate_dst (N := 5) rfl ?_); refine box_event ?hg (N := 5) ?hd (cs := #[.int .i64 0, .int .i64 0]) (t := 27) ?hr ?_; (case hd => rfl); (case hg => rfl); (case hr => first | (go_simp; done) | (go_simp; rfl)); intro gb274 hg w37 hbox hb; have BK274 := Aside0.mk (hbox); have GW274 := gs_ hg; have GE274 := gs_ hg; replace HB := hbs_ hb; have NB270_274 := Aside0.mk ((by rw [hg]; exact Nat.ne_of_lt (blk_lt (g := gb270) (o := .cells #[.slice (some ad272) l0_0.length c0_0] 68 (0, 0)) (bk_ BK270)) : gb270 ≠ gb274)); have NB274_270 := Aside0.mk ((by rw [hg]; exact Nat.ne_of_gt (blk_lt (g := gb270) (o := .cells #[.slice (some ad272) l0_0.length c0_0] 68 (0, 0)) (bk_ BK270)) : gb274 ≠ gb270)); replace BK270 := Aside0.mk (blk_below (g := gb270) (o := .cells #[.slice (some ad272) l0_0.length c0_0] 68 (0, 0)) (bk_ BK270) hb); have NB273_274 := Aside0.mk ((by rw [hg]; exact Nat.ne_of_lt (blk_lt (g := gb273) (o := .cells #[.int .i64 ((rd_T71 l0_0 x15_1).f0), .int .i64 ((rd_T71 l0_0 x15_1).f1.f0), .int .i64 ((rd_T71 l0_0 x15_1).f1.f1), .int .i64 ((rd_T71 l0_0 x15_1).f2), .int .i64 ((rd_T71 l0_0 x15_1).f3)] 71 (0, 0)) (bk_ BK273)) : gb273 ≠ gb274)); have NB274_273 := Aside0.mk ((by rw [hg]; exact Nat.ne_of_gt (blk_lt (g := gb273) (o := .cells #[.int .i64 ((rd_T71 l0_0 x15_1).f0), .int .i64 ((rd_T71 l0_0 x15_1).f1.f0), .int .i64 ((rd_T71 l0_0 x15_1).f1.f1), .int .i64 ((rd_T71 l0_0 x15_1).f2), .int .i64 ((rd_T71 l0_0 x15_1).f3)] 71 (0, 0)) (bk_ BK273)) : gb274 ≠ gb273)); replace BK273 := Aside0.mk (blk_below (g := gb273) (o := .cells #[.int .i64 ((rd_T71 l0_0 x15_1).f0), .int .i64 ((rd_T71 l0_0 x15_1).f1.f0), .int .i64 ((rd_T71 l0_0 x15_1).f1.f1), .int .i64 ((rd_T71 l0_0 x15_1).f2), .int .i64 ((rd_T71 l0_0 x15_1).f3)] 71 (0, 0)) (bk_ BK273) hb); clear hb hbox hg; have hnb38 := NB274_270.out; have hnc38 := NB270_274.out; have hnb39 := NB274_273.out; have hnc39 := NB273_274.out; have hcz40 := blk_cell BK274.out; have hfz40 := blk_frozen BK274.out; have hcz41 := blk_cell BK273.out; have hfz41 := blk_frozen BK273.out) | ((with_reducible refine gate_callee (f := 103) rfl ?_); refine goesC_ (some 27) Try.func103 #[.agg #[.int .i64 ((rd_T71 l0_0 x15_1).f1.f0), .int .i64 ((rd_T71 l0_0 x15_1).f1.f1)]] ?_; (with_reducible refine (impl_RoleOk.calls ((rd_T71 l0_0 x15_1).f1.f0) ((rd_T71 l0_0 x15_1).f1.f1) true _ A10.out).mono ?_); rintro e w42 ⟨rfl, hb⟩; refine ⟨_, rfl, ?_⟩; replace BK270 := Aside0.mk (blk_below (g := gb270) (o := .cells #[.slice (some ad272) l0_0.length c0_0] 68 (0, 0)) (bk_ BK270) hb); replace BK273 := Aside0.mk (blk_below (g := gb273) (o := .cells #[.int .i64 ((rd_T71 l0_0 x15_1).f0), .int .i64 ((rd_T71 l0_0 x15_1).f1.f0), .int .i64 ((rd_T71 l0_0 x15_1).f1.f1), .int .i64 ((rd_T71 l0_0 x15_1).f2), .int .i64 ((rd_T71 l0_0 x15_1).f3)] 71 (0, 0)) (bk_ BK273) hb); replace BK274 := Aside0.mk (blk_below (g := gb274) (o := .cells #[.int .i64 0, .int .i64 0] 27 (0, 0)) (bk_ BK274) hb); replace HB := hbs_ hb; clear hb; have hcz43 := blk_cell BK273.out; have hfz43 := blk_frozen BK273.out))
          go_ret
          exact ⟨eq_, bl_⟩
        ·replace c11 := Bool.eq_false_iff.mpr c11
         subst c11
         replace H := ite_f_ H
         obtain rfl := Option.some.inj H
         have p272 : 0 ≤ (x15_1 : Int) := of_decide_eq_true (by first | (with_reducible assumption) | assumption)
         have q272 : x15_1 < (l0_0.length : Int) := of_decide_eq_true (by first | (with_reducible assumption) | assumption)
         obtain ⟨ad272, e272, hx272_0, hx272_1, hx272_2, hx272_3, hx272_4⟩ := at_T71 (Kd.C_below HR0_0.out HB.out) x15_1 p272 q272
         cases e272
         replace p272 := eq_true p272
         replace q272 := eq_true q272
         go_wp2_with (first | ((with_reducible refine gate_dst (N := 4) rfl ?_); refine box_event ?hg (N := 4) ?hd (cs := #[.int .i64 0, .int .i64 0, .int .i64 0, .int .i64 0, .int .i64 0]) (t := 71) ?hr ?_; (case hd => rfl); (case hg => rfl); (case hr => first | (go_simp; done) | (go_simp; rfl)); intro gb273 hg w44 hbox hb; have BK273 := Aside0.mk (hbox); have GW273 := gs_ hg; have GE273 := gs_ hg; replace HB := hbs_ hb; have NB270_273 := Aside0.mk ((by rw [hg]; exact Nat.ne_of_lt (blk_lt (g := gb270) (o := .cells #[.slice (some ad272) l0_0.length c0_0] 68 (0, 0)) (bk_ BK270)) : gb270 ≠ gb273)); have NB273_270 := Aside0.mk ((by rw [hg]; exact Nat.ne_of_gt (blk_lt (g := gb270) (o := .cells #[.slice (some ad272) l0_0.length c0_0] 68 (0, 0)) (bk_ BK270)) : gb273 ≠ gb270)); replace BK270 := bkb_ BK270 hb; clear hb hbox hg; have hnb45 := NB273_270.out; have hnc45 := NB270_273.out; have hcz46 := blk_cell BK273.out; have hfz46 := blk_frozen BK273.out) | ((with_reducible refine gate_dst (N := 5) rfl ?_); refine box_event ?hg (N := 5) ?hd (cs := #[.int .i64 0, .int .i64 0]) (t := 27) ?hr ?_; (case hd => rfl); (case hg => rfl); (case hr => first | (go_simp; done) | (go_simp; rfl)); intro gb274 hg w47 hbox hb; have BK274 := Aside0.mk (hbox); have GW274 := gs_ hg; have GE274 := gs_ hg; replace HB := hbs_ hb; have NB270_274 := Aside0.mk ((by rw [hg]; exact Nat.ne_of_lt (blk_lt (g := gb270) (o := .cells #[.slice (some ad272) l0_0.length c0_0] 68 (0, 0)) (bk_ BK270)) : gb270 ≠ gb274)); have NB274_270 := Aside0.mk ((by rw [hg]; exact Nat.ne_of_gt (blk_lt (g := gb270) (o := .cells #[.slice (some ad272) l0_0.length c0_0] 68 (0, 0)) (bk_ BK270)) : gb274 ≠ gb270)); replace BK270 := Aside0.mk (blk_below (g := gb270) (o := .cells #[.slice (some ad272) l0_0.length c0_0] 68 (0, 0)) (bk_ BK270) hb); have NB273_274 := Aside0.mk ((by rw [hg]; exact Nat.ne_of_lt (blk_lt (g := gb273) (o := .cells #[.int .i64 ((rd_T71 l0_0 x15_1).f0), .int .i64 ((rd_T71 l0_0 x15_1).f1.f0), .int .i64 ((rd_T71 l0_0 x15_1).f1.f1), .int .i64 ((rd_T71 l0_0 x15_1).f2), .int .i64 ((rd_T71 l0_0 x15_1).f3)] 71 (0, 0)) (bk_ BK273)) : gb273 ≠ gb274)); have NB274_273 := Aside0.mk ((by rw [hg]; exact Nat.ne_of_gt (blk_lt (g := gb273) (o := .cells #[.int .i64 ((rd_T71 l0_0 x15_1).f0), .int .i64 ((rd_T71 l0_0 x15_1).f1.f0), .int .i64 ((rd_T71 l0_0 x15_1).f1.f1), .int .i64 ((rd_T71 l0_0 x15_1).f2), .int .i64 ((rd_T71 l0_0 x15_1).f3)] 71 (0, 0)) (bk_ BK273)) : gb274 ≠ gb273)); replace BK273 := Aside0.mk (blk_below (g := gb273) (o := .cells #[.int .i64 ((rd_T71 l0_0 x15_1).f0), .int .i64 ((rd_T71 l0_0 x15_1).f1.f0), .int .i64 ((rd_T71 l0_0 x15_1).f1.f1), .int .i64 ((rd_T71 l0_0 x15_1).f2), .int .i64 ((rd_T71 l0_0 x15_1).f3)] 71 (0, 0)) (bk_ BK273) hb); clear hb hbox hg; have hnb48 := NB274_270.out; have hnc48 := NB270_274.out; have hnb49 := NB274_273.out; have hnc49 := NB273_274.out; have hcz50 := blk_cell BK274.out; have hfz50 := blk_frozen BK274.out; have hcz51 := blk_cell BK273.out; have hfz51 := blk_frozen BK273.out) | ((with_reducible refine gate_callee (f := 103) rfl ?_); refine goesC_ (some 27) Try.func103 #[.agg #[.int .i64 ((rd_T71 l0_0 x15_1).f1.f0), .int .i64 ((rd_T71 l0_0 x15_1).f1.f1)]] ?_; (with_reducible refine (impl_RoleOk.calls ((rd_T71 l0_0 x15_1).f1.f0) ((rd_T71 l0_0 x15_1).f1.f1) false _ A10.out).mono ?_); rintro e w52 ⟨rfl, hb⟩; refine ⟨_, rfl, ?_⟩; replace BK270 := Aside0.mk (blk_below (g := gb270) (o := .cells #[.slice (some ad272) l0_0.length c0_0] 68 (0, 0)) (bk_ BK270) hb); replace BK273 := Aside0.mk (blk_below (g := gb273) (o := .cells #[.int .i64 ((rd_T71 l0_0 x15_1).f0), .int .i64 ((rd_T71 l0_0 x15_1).f1.f0), .int .i64 ((rd_T71 l0_0 x15_1).f1.f1), .int .i64 ((rd_T71 l0_0 x15_1).f2), .int .i64 ((rd_T71 l0_0 x15_1).f3)] 71 (0, 0)) (bk_ BK273) hb); replace BK274 := Aside0.mk (blk_below (g := gb274) (o := .cells #[.int .i64 0, .int .i64 0] 27 (0, 0)) (bk_ BK274) hb); replace HB := hbs_ hb; clear hb))
         go_ret
         exact ⟨eq_, bl_⟩
       ·rw [if_neg c9] at H
        have c9b0 : (((rd_T71 l0_0 x15_1).f0) == 1) = false := beq_eq_false_iff_ne.mpr c9
        have c9b1 : (((rd_T71 l0_0 x15_1).f0) != 1) = true := bne_iff_ne.mpr c9
        have HC53 := Aside0.mk H
        clear H
        have p272 : 0 ≤ (x15_1 : Int) := of_decide_eq_true (by first | (with_reducible assumption) | assumption)
        have q272 : x15_1 < (l0_0.length : Int) := of_decide_eq_true (by first | (with_reducible assumption) | assumption)
        obtain ⟨ad272, e272, hx272_0, hx272_1, hx272_2, hx272_3, hx272_4⟩ := at_T71 (Kd.C_below HR0_0.out HB.out) x15_1 p272 q272
        cases e272
        replace p272 := eq_true p272
        replace q272 := eq_true q272
        go_upto_if 38 with (first | ((with_reducible refine gate_dst (N := 4) rfl ?_); refine box_event ?hg (N := 4) ?hd (cs := #[.int .i64 0, .int .i64 0, .int .i64 0, .int .i64 0, .int .i64 0]) (t := 71) ?hr ?_; (case hd => rfl); (case hg => rfl); (case hr => first | (go_simp; done) | (go_simp; rfl)); intro gb273 hg w54 hbox hb; have BK273 := Aside0.mk (hbox); have GW273 := gs_ hg; have GE273 := gs_ hg; replace HB := hbs_ hb; have NB270_273 := Aside0.mk ((by rw [hg]; exact Nat.ne_of_lt (blk_lt (g := gb270) (o := .cells #[.slice (some ad272) l0_0.length c0_0] 68 (0, 0)) (bk_ BK270)) : gb270 ≠ gb273)); have NB273_270 := Aside0.mk ((by rw [hg]; exact Nat.ne_of_gt (blk_lt (g := gb270) (o := .cells #[.slice (some ad272) l0_0.length c0_0] 68 (0, 0)) (bk_ BK270)) : gb273 ≠ gb270)); replace BK270 := bkb_ BK270 hb; clear hb hbox hg; have hnb55 := NB273_270.out; have hnc55 := NB270_273.out; have hcz56 := blk_cell BK273.out; have hfz56 := blk_frozen BK273.out) | ((with_reducible refine gate_dst (N := 5) rfl ?_); refine box_event ?hg (N := 5) ?hd (cs := #[.int .i64 0, .int .i64 0]) (t := 27) ?hr ?_; (case hd => rfl); (case hg => rfl); (case hr => first | (go_simp; done) | (go_simp; rfl)); intro gb274 hg w57 hbox hb; have BK274 := Aside0.mk (hbox); have GW274 := gs_ hg; have GE274 := gs_ hg; replace HB := hbs_ hb; have NB270_274 := Aside0.mk ((by rw [hg]; exact Nat.ne_of_lt (blk_lt (g := gb270) (o := .cells #[.slice (some ad272) l0_0.length c0_0] 68 (0, 0)) (bk_ BK270)) : gb270 ≠ gb274)); have NB274_270 := Aside0.mk ((by rw [hg]; exact Nat.ne_of_gt (blk_lt (g := gb270) (o := .cells #[.slice (some ad272) l0_0.length c0_0] 68 (0, 0)) (bk_ BK270)) : gb274 ≠ gb270)); replace BK270 := Aside0.mk (blk_below (g := gb270) (o := .cells #[.slice (some ad272) l0_0.length c0_0] 68 (0, 0)) (bk_ BK270) hb); have NB273_274 := Aside0.mk ((by rw [hg]; exact Nat.ne_of_lt (blk_lt (g := gb273) (o := .cells #[.int .i64 ((rd_T71 l0_0 x15_1).f0), .int .i64 ((rd_T71 l0_0 x15_1).f1.f0), .int .i64 ((rd_T71 l0_0 x15_1).f1.f1), .int .i64 ((rd_T71 l0_0 x15_1).f2), .int .i64 ((rd_T71 l0_0 x15_1).f3)] 71 (0, 0)) (bk_ BK273)) : gb273 ≠ gb274)); have NB274_273 := Aside0.mk ((by rw [hg]; exact Nat.ne_of_gt (blk_lt (g := gb273) (o := .cells #[.int .i64 ((rd_T71 l0_0 x15_1).f0), .int .i64 ((rd_T71 l0_0 x15_1).f1.f0), .int .i64 ((rd_T71 l0_0 x15_1).f1.f1), .int .i64 ((rd_T71 l0_0 x15_1).f2), .int .i64 ((rd_T71 l0_0 x15_1).f3)] 71 (0, 0)) (bk_ BK273)) : gb274 ≠ gb273)); replace BK273 := Aside0.mk (blk_below (g := gb273) (o := .cells #[.int .i64 ((rd_T71 l0_0 x15_1).f0), .int .i64 ((rd_T71 l0_0 x15_1).f1.f0), .int .i64 ((rd_T71 l0_0 x15_1).f1.f1), .int .i64 ((rd_T71 l0_0 x15_1).f2), .int .i64 ((rd_T71 l0_0 x15_1).f3)] 71 (0, 0)) (bk_ BK273) hb); clear hb hbox hg; have hnb58 := NB274_270.out; have hnc58 := NB270_274.out; have hnb59 := NB274_273.out; have hnc59 := NB273_274.out; have hcz60 := blk_cell BK274.out; have hfz60 := blk_frozen BK274.out; have hcz61 := blk_cell BK273.out; have hfz61 := blk_frozen BK273.out))
        (try simp only [Act.put, List.setIfInBounds_toArray, List.set_cons_zero, List.set_cons_succ])
        go_cut [38] (fun v38 wc => ∃ (kq : Nat) (x38_52 : Bool), v38 = .bool x38_52 ∧ Aside0 (impl_PolicyOk.j1 kq x15_1 false l0_0 (l0_0.length : Int) x15_1 ((rd_T71 l0_0 x15_1).f0) x38_52 ((rd_T71 l0_0 x15_1).f0) ((rd_T71 l0_0 x15_1).f1.f0) ((rd_T71 l0_0 x15_1).f1.f1) ((rd_T71 l0_0 x15_1).f2) ((rd_T71 l0_0 x15_1).f3) 0 0 = some r) ∧ Aside0 (kq ≤ k1) ∧ Aside0 (wc.heap[gb270]? = some (.cells #[(.slice (some ad272) l0_0.length c0_0)] 68 (0, 0))) ∧ Aside0 (wc.heap[gb273]? = some (.cells #[.int .i64 ((rd_T71 l0_0 x15_1).f0), .int .i64 ((rd_T71 l0_0 x15_1).f1.f0), .int .i64 ((rd_T71 l0_0 x15_1).f1.f1), .int .i64 ((rd_T71 l0_0 x15_1).f2), .int .i64 ((rd_T71 l0_0 x15_1).f3)] 71 (0, 0))) ∧ Aside0 (wc.heap[gb274]? = some (.cells #[.int .i64 0, .int .i64 0] 27 (0, 0))) ∧ Aside0 (Below w.heap.size w wc))
        case first =>
         have H := HC53.out
         clear HC53
         by_cases c62 : ((rd_T71 l0_0 x15_1).f0) = 2
         ·rw [if_pos c62] at H
          have c62b0 : (((rd_T71 l0_0 x15_1).f0) == 2) = true := beq_iff_eq.mpr c62
          have c62b1 : (((rd_T71 l0_0 x15_1).f0) != 2) = false := bne_eq_false_iff_eq.mpr c62
          clear c62
          (first | rw [c62b0] | (simp only [i64_w, i32_w]; rw [c62b0]) | skip)
          have H' := Aside0.mk H
          clear H
          go_wp2
          go_meet
          case rel => exact ⟨_, ((((rd_T71 l0_0 x15_1).f0) == 2)), (by first | rfl | (simp; done) | (simp [*]; done)), H', ⟨by have := HK1.out; first | omega | exact Nat.le_refl _⟩, ⟨bk_ BK270⟩, ⟨bk_ BK273⟩, ⟨bk_ BK274⟩, ⟨bl_⟩⟩
         ·rw [if_neg c62] at H
          have c62b0 : (((rd_T71 l0_0 x15_1).f0) == 2) = false := beq_eq_false_iff_ne.mpr c62
          have c62b1 : (((rd_T71 l0_0 x15_1).f0) != 2) = true := bne_iff_ne.mpr c62
          (first | rw [c62b0] | (simp only [i64_w, i32_w]; rw [c62b0]) | skip)
          have H' := Aside0.mk H
          clear H
          go_wp2
          go_meet
          case rel => exact ⟨_, ((((rd_T71 l0_0 x15_1).f0) == 3)), (by first | rfl | (simp; done) | (simp [*]; done)), H', ⟨by have := HK1.out; first | omega | exact Nat.le_refl _⟩, ⟨bk_ BK270⟩, ⟨bk_ BK273⟩, ⟨bk_ BK274⟩, ⟨bl_⟩⟩
        case rest =>
         clear HC53
         try clear c1
         try clear c2
         try clear p2
         try clear q2
         try clear hx2
         try clear c3
         try clear c4
         try clear c5
         try clear c6
         try clear c6b0
         try clear p6
         try clear c7
         try clear c7b0
         try clear c8
         try clear c8b0
         try clear c9
         try clear c9b0
         try clear c9b1
         try clear c10
         try clear c11
         try clear c12
         try clear c12b0
         try clear c12b1
         try clear c13
         try clear c13b0
         try clear c13b1
         try clear c15
         try clear c18
         try clear c19
         try clear c25
         try clear p27
         try clear q27
         try clear hx27
         try clear c28
         try clear c29
         try clear c35
         try clear c38
         try clear c39
         try clear c45
         try clear c48
         try clear c49
         try clear c55
         try clear c58
         try clear c59
         try clear c62
         try clear c62b0
         try clear c62b1
         try clear hcz16
         try clear hcz20
         try clear hcz21
         try clear hcz23
         try clear hcz26
         try clear hcz30
         try clear hcz31
         try clear hcz33
         try clear hcz36
         try clear hcz40
         try clear hcz41
         try clear hcz43
         try clear hcz46
         try clear hcz50
         try clear hcz51
         try clear hcz56
         try clear hcz5
         try clear hcz60
         try clear hcz61
         try clear hfz16
         try clear hfz20
         try clear hfz21
         try clear hfz23
         try clear hfz26
         try clear hfz30
         try clear hfz31
         try clear hfz33
         try clear hfz36
         try clear hfz40
         try clear hfz41
         try clear hfz43
         try clear hfz46
         try clear hfz50
         try clear hfz51
         try clear hfz56
         try clear hfz5
         try clear hfz60
         try clear hfz61
         try clear hx272_0
         try clear hx272_1
         try clear hx272_2
         try clear hx272_3
         try clear hx272_4
         try clear p2
         try clear p272
         try clear q272
         obtain ⟨kq, x38_52, rfl, HA, HJ52, BK270, BK273, BK274, HB⟩ := hcut
         cases kq with
         | zero => exact absurd HA.out (by simp [impl_PolicyOk.j1])
         | succ kj52 =>
          have H := HA.out
          clear HA
          simp only [impl_PolicyOk.j1] at H
          by_cases c63 : x38_52 = true
          ·subst c63
           replace H := ite_t_ H
           by_cases c64 : (((rd_T71 l0_0 x15_1).f1.f0) == 0 && (((rd_T71 l0_0 x15_1).f1.f1) == 0)) = true
           ·rw [if_pos c64] at H
            have c64b0 : (((rd_T71 l0_0 x15_1).f1.f0) == 0 && (((rd_T71 l0_0 x15_1).f1.f1) == 0)) = true := c64
            (try (have c64b1 : decide (((rd_T71 l0_0 x15_1).f1.f0) = 0 && (((rd_T71 l0_0 x15_1).f1.f1) == 0)) = true := by simpa using c64))
            (try (have c64b2 : (((rd_T71 l0_0 x15_1).f1.f0) == 0 && (((rd_T71 l0_0 x15_1).f1.f1) == 0)) = true := by simpa using c64))
            clear c64
            obtain ⟨t276, A65, H⟩ := bindE_ H
            by_cases c66 : t276 = true
            ·subst c66
             replace H := ite_t_ H
             obtain ⟨t277, A67, H⟩ := bindE_ H
             by_cases c68 : t277 = true
             ·subst c68
              replace H := ite_t_ H
              have H' := Aside0.mk H
              clear H
              have hnb69 := NB273_270.out
              have hnc69 := NB270_273.out
              have hnb70 := NB273_274.out
              have hnc70 := NB274_273.out
              have hcz71 := blk_cell BK273.out
              have hfz71 := blk_frozen BK273.out
              have hnb72 := NB274_270.out
              have hnc72 := NB270_274.out
              have hcz73 := blk_cell BK274.out
              have hfz73 := blk_frozen BK274.out
              go_wp2_with (first | (go_at_call 83; (with_reducible refine (impl_in.calls ((rd_T71 l0_0 x15_1).f2) 0 (wrap64 (x15_1 - 1)) true _ A65.out).mono ?_); rintro e w' ⟨rfl, ⟨nd, rfl⟩⟩) | (go_at_call 83; (with_reducible refine (impl_in.calls ((rd_T71 l0_0 x15_1).f3) 0 (wrap64 (x15_1 - 1)) true _ A67.out).mono ?_); rintro e w' ⟨rfl, ⟨nd, rfl⟩⟩))
              go_roundg kj52
              case measure => have := HK1.out; have := HJ52.out; omega
              case rel => exact ⟨(wrap64 (x15_1 + 1)), (by first | rfl | (simp; done) | (simp [*]; done)), H', ⟨by have := HK1.out; have := HJ52.out; omega⟩, ⟨bk_ BK270⟩, ⟨bl_⟩⟩
             ·replace c68 := Bool.eq_false_iff.mpr c68
              subst c68
              replace H := ite_f_ H
              obtain rfl := Option.some.inj H
              have hnb74 := NB273_270.out
              have hnc74 := NB270_273.out
              have hnb75 := NB273_274.out
              have hnc75 := NB274_273.out
              have hcz76 := blk_cell BK273.out
              have hfz76 := blk_frozen BK273.out
              have hnb77 := NB274_270.out
              have hnc77 := NB270_274.out
              have hcz78 := blk_cell BK274.out
              have hfz78 := blk_frozen BK274.out
              go_wp2_with (first | (go_at_call 83; (with_reducible refine (impl_in.calls ((rd_T71 l0_0 x15_1).f2) 0 (wrap64 (x15_1 - 1)) true _ A65.out).mono ?_); rintro e w' ⟨rfl, ⟨nd, rfl⟩⟩) | (go_at_call 83; (with_reducible refine (impl_in.calls ((rd_T71 l0_0 x15_1).f3) 0 (wrap64 (x15_1 - 1)) false _ A67.out).mono ?_); rintro e w' ⟨rfl, ⟨nd, rfl⟩⟩))
              go_ret
              exact ⟨eq_, bl_⟩
            ·replace c66 := Bool.eq_false_iff.mpr c66
             subst c66
             replace H := ite_f_ H
             obtain rfl := Option.some.inj H
             have hnb79 := NB273_270.out
             have hnc79 := NB270_273.out
             have hnb80 := NB273_274.out
             have hnc80 := NB274_273.out
             have hcz81 := blk_cell BK273.out
             have hfz81 := blk_frozen BK273.out
             have hnb82 := NB274_270.out
             have hnc82 := NB270_274.out
             have hcz83 := blk_cell BK274.out
             have hfz83 := blk_frozen BK274.out
             go_wp2_with (first | (go_at_call 83; (with_reducible refine (impl_in.calls ((rd_T71 l0_0 x15_1).f2) 0 (wrap64 (x15_1 - 1)) false _ A65.out).mono ?_); rintro e w' ⟨rfl, ⟨nd, rfl⟩⟩))
             go_ret
             exact ⟨eq_, bl_⟩
           ·rw [if_neg c64] at H
            have c64b0 : (((rd_T71 l0_0 x15_1).f1.f0) == 0 && (((rd_T71 l0_0 x15_1).f1.f1) == 0)) = false := by simpa using c64
            (try (have c64b1 : decide (((rd_T71 l0_0 x15_1).f1.f0) = 0 && (((rd_T71 l0_0 x15_1).f1.f1) == 0)) = false := by simpa using c64))
            (try (have c64b2 : (((rd_T71 l0_0 x15_1).f1.f0) == 0 && (((rd_T71 l0_0 x15_1).f1.f1) == 0)) = false := by simpa using c64))
            (try (have c64b3 : ¬ (((rd_T71 l0_0 x15_1).f1.f0) = 0 && (((rd_T71 l0_0 x15_1).f1.f1) == 0)) := by simpa using c64))
            clear c64
            obtain rfl := Option.some.inj H
            have hnb84 := NB273_270.out
            have hnc84 := NB270_273.out
            have hnb85 := NB273_274.out
            have hnc85 := NB274_273.out
            have hcz86 := blk_cell BK273.out
            have hfz86 := blk_frozen BK273.out
            have hnb87 := NB274_270.out
            have hnc87 := NB270_274.out
            have hcz88 := blk_cell BK274.out
            have hfz88 := blk_frozen BK274.out
            go_wp2
            go_ret
            exact ⟨eq_, bl_⟩
          ·replace c63 := Bool.eq_false_iff.mpr c63
           subst c63
           replace H := ite_f_ H
           by_cases c89 : ((rd_T71 l0_0 x15_1).f0) = 4
           ·rw [if_pos c89] at H
            have c89b0 : (((rd_T71 l0_0 x15_1).f0) == 4) = true := beq_iff_eq.mpr c89
            have c89b1 : (((rd_T71 l0_0 x15_1).f0) != 4) = false := bne_eq_false_iff_eq.mpr c89
            clear c89
            by_cases c90 : (((rd_T71 l0_0 x15_1).f1.f0) == 0 && (((rd_T71 l0_0 x15_1).f1.f1) == 0)) = true
            ·rw [if_pos c90] at H
             have c90b0 : (((rd_T71 l0_0 x15_1).f1.f0) == 0 && (((rd_T71 l0_0 x15_1).f1.f1) == 0)) = true := c90
             (try (have c90b1 : decide (((rd_T71 l0_0 x15_1).f1.f0) = 0 && (((rd_T71 l0_0 x15_1).f1.f1) == 0)) = true := by simpa using c90))
             (try (have c90b2 : (((rd_T71 l0_0 x15_1).f1.f0) == 0 && (((rd_T71 l0_0 x15_1).f1.f1) == 0)) = true := by simpa using c90))
             clear c90
             obtain ⟨t278, A91, H⟩ := bindE_ H
             by_cases c92 : t278 = true
             ·subst c92
              replace H := ite_t_ H
              by_cases c93 : ((rd_T71 l0_0 x15_1).f3) = 0
              ·rw [if_pos c93] at H
               have c93b0 : (((rd_T71 l0_0 x15_1).f3) == 0) = true := beq_iff_eq.mpr c93
               have c93b1 : (((rd_T71 l0_0 x15_1).f3) != 0) = false := bne_eq_false_iff_eq.mpr c93
               clear c93
               have H' := Aside0.mk H
               clear H
               have hnb94 := NB273_270.out
               have hnc94 := NB270_273.out
               have hnb95 := NB273_274.out
               have hnc95 := NB274_273.out
               have hcz96 := blk_cell BK273.out
               have hfz96 := blk_frozen BK273.out
               have hnb97 := NB274_270.out
               have hnc97 := NB270_274.out
               have hcz98 := blk_cell BK274.out
               have hfz98 := blk_frozen BK274.out
               go_wp2_with (first | (go_at_call 83; (with_reducible refine (impl_in.calls ((rd_T71 l0_0 x15_1).f2) 0 (wrap64 (x15_1 - 1)) true _ A91.out).mono ?_); rintro e w' ⟨rfl, ⟨nd, rfl⟩⟩))
               go_roundg kj52
               case measure => have := HK1.out; have := HJ52.out; omega
               case rel => exact ⟨(wrap64 (x15_1 + 1)), (by first | rfl | (simp; done) | (simp [*]; done)), H', ⟨by have := HK1.out; have := HJ52.out; omega⟩, ⟨bk_ BK270⟩, ⟨bl_⟩⟩
              ·rw [if_neg c93] at H
               have c93b0 : (((rd_T71 l0_0 x15_1).f3) == 0) = false := beq_eq_false_iff_ne.mpr c93
               have c93b1 : (((rd_T71 l0_0 x15_1).f3) != 0) = true := bne_iff_ne.mpr c93
               obtain rfl := Option.some.inj H
               have hnb99 := NB273_270.out
               have hnc99 := NB270_273.out
               have hnb100 := NB273_274.out
               have hnc100 := NB274_273.out
               have hcz101 := blk_cell BK273.out
               have hfz101 := blk_frozen BK273.out
               have hnb102 := NB274_270.out
               have hnc102 := NB270_274.out
               have hcz103 := blk_cell BK274.out
               have hfz103 := blk_frozen BK274.out
               go_wp2_with (first | (go_at_call 83; (with_reducible refine (impl_in.calls ((rd_T71 l0_0 x15_1).f2) 0 (wrap64 (x15_1 - 1)) true _ A91.out).mono ?_); rintro e w' ⟨rfl, ⟨nd, rfl⟩⟩))
               go_ret
               exact ⟨eq_, bl_⟩
             ·replace c92 := Bool.eq_false_iff.mpr c92
              subst c92
              replace H := ite_f_ H
              obtain rfl := Option.some.inj H
              have hnb104 := NB273_270.out
              have hnc104 := NB270_273.out
              have hnb105 := NB273_274.out
              have hnc105 := NB274_273.out
              have hcz106 := blk_cell BK273.out
              have hfz106 := blk_frozen BK273.out
              have hnb107 := NB274_270.out
              have hnc107 := NB270_274.out
              have hcz108 := blk_cell BK274.out
              have hfz108 := blk_frozen BK274.out
              go_wp2_with (first | (go_at_call 83; (with_reducible refine (impl_in.calls ((rd_T71 l0_0 x15_1).f2) 0 (wrap64 (x15_1 - 1)) false _ A91.out).mono ?_); rintro e w' ⟨rfl, ⟨nd, rfl⟩⟩))
              go_ret
              exact ⟨eq_, bl_⟩
            ·rw [if_neg c90] at H
             have c90b0 : (((rd_T71 l0_0 x15_1).f1.f0) == 0 && (((rd_T71 l0_0 x15_1).f1.f1) == 0)) = false := by simpa using c90
             (try (have c90b1 : decide (((rd_T71 l0_0 x15_1).f1.f0) = 0 && (((rd_T71 l0_0 x15_1).f1.f1) == 0)) = false := by simpa using c90))
             (try (have c90b2 : (((rd_T71 l0_0 x15_1).f1.f0) == 0 && (((rd_T71 l0_0 x15_1).f1.f1) == 0)) = false := by simpa using c90))
             (try (have c90b3 : ¬ (((rd_T71 l0_0 x15_1).f1.f0) = 0 && (((rd_T71 l0_0 x15_1).f1.f1) == 0)) := by simpa using c90))
             clear c90
             obtain rfl := Option.some.inj H
             have hnb109 := NB273_270.out
             have hnc109 := NB270_273.out
             have hnb110 := NB273_274.out
             have hnc110 := NB274_273.out
             have hcz111 := blk_cell BK273.out
             have hfz111 := blk_frozen BK273.out
             have hnb112 := NB274_270.out
             have hnc112 := NB270_274.out
             have hcz113 := blk_cell BK274.out
             have hfz113 := blk_frozen BK274.out
             go_wp2
             go_ret
             exact ⟨eq_, bl_⟩
           ·rw [if_neg c89] at H
            have c89b0 : (((rd_T71 l0_0 x15_1).f0) == 4) = false := beq_eq_false_iff_ne.mpr c89
            have c89b1 : (((rd_T71 l0_0 x15_1).f0) != 4) = true := bne_iff_ne.mpr c89
            replace H := ite_f_ H
            obtain rfl := Option.some.inj H
            go_wp2
            go_ret
            exact ⟨eq_, bl_⟩
      ·rw [if_neg c8] at H
       exact absurd H (by simp)
     ·rw [if_neg c7] at H
      exact absurd H (by simp)
    ·rw [if_neg c6] at H
     have c6b0 : decide (x15_1 < (l0_0.length : Int)) = false := decide_eq_false c6
     clear c6
     obtain rfl := Option.some.inj H
     go_wp2
     go_ret
     exact ⟨eq_, bl_⟩
 ·replace c3 := Bool.eq_false_iff.mpr c3
  subst c3
  replace H := ite_f_ H
  obtain rfl := Option.some.inj H
  go_enter Try.func49, Try.ntmps49
  go_wp2_with (first | ((with_reducible refine gate_dst (N := 1) rfl ?_); refine box_event ?hg (N := 1) ?hd (cs := #[.slice A0_0 l0_0.length c0_0]) (t := 68) ?hr ?_; (case hd => rfl); (case hg => rfl); (case hr => first | (go_simp; done) | (go_simp; rfl)); intro gb270 hg w114 hbox hb; have BK270 := Aside0.mk (hbox); have GW270 := gs_ hg; have GE270 := gs_ hg; replace HB := hbs_ hb; clear hb hbox hg; have hcz115 := blk_cell BK270.out; have hfz115 := blk_frozen BK270.out) | ((with_reducible refine gate_callee (f := 83) rfl ?_); refine goesC_ (some 10) Try.func83 #[.int .i64 (l0_0.length : Int), .int .i64 1, .int .i64 40] ?_; (with_reducible refine (impl_in.calls (l0_0.length : Int) 1 40 false _ A2.out).mono ?_); rintro e w' ⟨rfl, ⟨nd, rfl⟩⟩; refine ⟨_, rfl, ?_⟩))
  go_ret
  exact ⟨eq_, bl_⟩
mutual
def impl_ReadVar.l0 : Nat → ByteArray → Int → Int → Int → Option (Int × Int × Bool)
 | 0, _, _, _, _ => none
 | k + 1, x0, x1, x7, x8 => if x8 < 5 then (impl_ReadVar.j1 k x0 x1 x7 x8 (decide ((wrap64 (x1 + x8)) < (x0.size : Int)))) else (impl_ReadVar.j1 k x0 x1 x7 x8 false)
def impl_ReadVar.j1 : Nat → ByteArray → Int → Int → Int → Bool → Option (Int × Int × Bool)
 | 0, _, _, _, _, _ => none
 | k + 1, x0, x1, x7, x8, x24 => if x24 = true then (if 0 ≤ (wrap64 (x1 + x8)) then (if (wrap64 (x1 + x8)) < (x0.size : Int) then (if 0 ≤ (wrap64 (7 * x8)) then (if (wrap64 (bt x0 (wrap64 (x1 + x8)))) > 127 then (impl_ReadVar.l0 k x0 x1 (Go.bits .or .i64 x7 (shl .i64 (Go.bits .and .i64 (wrap64 (bt x0 (wrap64 (x1 + x8)))) 127) (wrap64 (7 * x8)))) (wrap64 (x8 + 1))) else (if (wrap64 (bt x0 (wrap64 (x1 + x8)))) = 0 then (if x8 > 0 then (some (0, 0, false)) else (if (Go.bits .or .i64 x7 (shl .i64 (Go.bits .and .i64 (wrap64 (bt x0 (wrap64 (x1 + x8)))) 127) (wrap64 (7 * x8)))) > 1000000000 then (some (0, 0, false)) else (some (Go.bits .or .i64 x7 (shl .i64 (Go.bits .and .i64 (wrap64 (bt x0 (wrap64 (x1 + x8)))) 127) (wrap64 (7 * x8))), wrap64 ((wrap64 (x1 + x8)) + 1), true)))) else (if (Go.bits .or .i64 x7 (shl .i64 (Go.bits .and .i64 (wrap64 (bt x0 (wrap64 (x1 + x8)))) 127) (wrap64 (7 * x8)))) > 1000000000 then (some (0, 0, false)) else (some (Go.bits .or .i64 x7 (shl .i64 (Go.bits .and .i64 (wrap64 (bt x0 (wrap64 (x1 + x8)))) 127) (wrap64 (7 * x8))), wrap64 ((wrap64 (x1 + x8)) + 1), true))))) else (none)) else (none)) else (none)) else (some (0, 0, false))
end
def impl_ReadVar.f (k : Nat) (a0 : ByteArray) (a1 : Int) : Option (Int × Int × Bool) := (impl_in.f a1 0 (a0.size : Int)).bind fun t279 => (if t279 = true then (impl_ReadVar.l0 k a0 a1 0 0) else (some (0, 0, false)))
set_option maxHeartbeats 8000000 in
set_option maxRecDepth 100000 in
theorem impl_ReadVar.calls (k : Nat) (a0 : ByteArray) (a1 : Int) (r1 : Int) (r2 : Int) (r3 : Bool) (w : World) (h : impl_ReadVar.f k a0 a1 = some (r1, r2, r3)) :
  Calls Try.prog 98 #[.string a0, .int .i64 a1] w fun e w' => e = .returned (.tuple #[.int .i64 r1, .int .i64 r2, .bool r3]) ∧ Drawn0 w w' := by
 have H : ((impl_in.f a1 0 (a0.size : Int)).bind fun t279 => (if t279 = true then (impl_ReadVar.l0 k a0 a1 0 0) else (some (0, 0, false)))) = some (r1, r2, r3) := h
 clear h
 obtain ⟨t279, A3, H⟩ := bindE_ H
 by_cases c4 : t279 = true
 ·subst c4
  replace H := ite_t_ H
  have H' := Aside0.mk H
  clear H
  go_enter Try.func98, Try.ntmps98
  go_wp2_with (first | ((with_reducible refine gate_callee (f := 83) rfl ?_); refine goesC_ (some 13) Try.func83 #[.int .i64 a1, .int .i64 0, .int .i64 (a0.size : Int)] ?_; (with_reducible refine (impl_in.calls a1 0 (a0.size : Int) true _ A3.out).mono ?_); rintro e w' ⟨rfl, ⟨nd, rfl⟩⟩; refine ⟨_, rfl, ?_⟩))
  go_loopg [7, 8] k (fun kq v7 v8 w' => ∃ (x7_1 : Int) (x8_1 : Int), v7 = .int .i64 x7_1 ∧ v8 = .int .i64 x8_1 ∧ Aside0 (impl_ReadVar.l0 kq a0 a1 x7_1 x8_1 = some (r1, r2, r3)) ∧ Aside0 (kq ≤ k) ∧ Drawn0 w w')
  case atStart => exact ⟨(0), (0), (by first | rfl | (simp; done) | (simp [*]; done)), (by first | rfl | (simp; done) | (simp [*]; done)), H', ⟨Nat.le_refl _⟩, by repeat (first | exact Drawn0.refl _ | apply Drawn0.step)⟩
  case round =>
   clear H'
   try clear p2
   try clear c4
   obtain ⟨x7_1, x8_1, rfl, rfl, HA, HK1, ⟨m1, rfl⟩⟩ := hrel
   cases gk with
   | zero => exact absurd HA.out (by simp [impl_ReadVar.l0])
   | succ k1 =>
    have H := HA.out
    clear HA
    simp only [impl_ReadVar.l0] at H
    have HC5 := Aside0.mk H
    clear H
    go_upto_region 5 with (fail)
    go_cut [24] (fun v24 wc => ∃ (kq : Nat) (x24_4 : Bool), v24 = .bool x24_4 ∧ Aside0 (impl_ReadVar.j1 kq a0 a1 x7_1 x8_1 x24_4 = some (r1, r2, r3)) ∧ Aside0 (kq ≤ k1) ∧ Drawn0 w wc)
    case first =>
     have H := HC5.out
     clear HC5
     by_cases c6 : x8_1 < 5
     ·rw [if_pos c6] at H
      have c6b0 : decide (x8_1 < 5) = true := decide_eq_true c6
      clear c6
      (first | rw [c6b0] | (simp only [i64_w, i32_w]; rw [c6b0]) | skip)
      have H' := Aside0.mk H
      clear H
      go_wp2
      go_meet
      case rel => exact ⟨_, (decide ((wrap64 (a1 + x8_1)) < (a0.size : Int))), (by first | rfl | (simp; done) | (simp [*]; done)), H', ⟨by have := HK1.out; first | omega | exact Nat.le_refl _⟩, by repeat (first | exact Drawn0.refl _ | apply Drawn0.step)⟩
     ·rw [if_neg c6] at H
      have c6b0 : decide (x8_1 < 5) = false := decide_eq_false c6
      clear c6
      (first | rw [c6b0] | (simp only [i64_w, i32_w]; rw [c6b0]) | skip)
      have H' := Aside0.mk H
      clear H
      go_wp2
      go_meet
      case rel => exact ⟨_, (false), (by first | rfl | (simp; done) | (simp [*]; done)), H', ⟨by have := HK1.out; first | omega | exact Nat.le_refl _⟩, by repeat (first | exact Drawn0.refl _ | apply Drawn0.step)⟩
    case rest =>
     clear HC5
     try clear p2
     try clear c4
     try clear c6
     try clear c6b0
     try clear p6
     try clear p2
     obtain ⟨kq, x24_4, rfl, HA, HJ4, ⟨mc4, rfl⟩⟩ := hcut
     cases kq with
     | zero => exact absurd HA.out (by simp [impl_ReadVar.j1])
     | succ kj4 =>
      have H := HA.out
      clear HA
      simp only [impl_ReadVar.j1] at H
      by_cases c7 : x24_4 = true
      ·subst c7
       replace H := ite_t_ H
       obtain ⟨ji8, hji8⟩ : ∃ j_ : Int, (wrap64 (a1 + x8_1)) = j_ := ⟨_, rfl⟩
       replace H : (if 0 ≤ (ji8) then (if (ji8) < (a0.size : Int) then (if 0 ≤ (wrap64 (7 * x8_1)) then (if (wrap64 (bt a0 (ji8))) > 127 then (impl_ReadVar.l0 kj4 a0 a1 (Go.bits .or .i64 x7_1 (shl .i64 (Go.bits .and .i64 (wrap64 (bt a0 (ji8))) 127) (wrap64 (7 * x8_1)))) (wrap64 (x8_1 + 1))) else (if (wrap64 (bt a0 (ji8))) = 0 then (if x8_1 > 0 then (some (0, 0, false)) else (if (Go.bits .or .i64 x7_1 (shl .i64 (Go.bits .and .i64 (wrap64 (bt a0 (ji8))) 127) (wrap64 (7 * x8_1)))) > 1000000000 then (some (0, 0, false)) else (some (Go.bits .or .i64 x7_1 (shl .i64 (Go.bits .and .i64 (wrap64 (bt a0 (ji8))) 127) (wrap64 (7 * x8_1))), wrap64 ((ji8) + 1), true)))) else (if (Go.bits .or .i64 x7_1 (shl .i64 (Go.bits .and .i64 (wrap64 (bt a0 (ji8))) 127) (wrap64 (7 * x8_1)))) > 1000000000 then (some (0, 0, false)) else (some (Go.bits .or .i64 x7_1 (shl .i64 (Go.bits .and .i64 (wrap64 (bt a0 (ji8))) 127) (wrap64 (7 * x8_1))), wrap64 ((ji8) + 1), true))))) else (none)) else (none)) else (none)) = some (r1, r2, r3) := by first | (rw [hji8] at H; exact H) | (simp only [hji8] at H ⊢; exact H)
       have hji8w : (IntKind.i64.wrap (a1 + x8_1)) = ji8 := (i64_w _).trans hji8
       by_cases c9 : 0 ≤ (ji8)
       ·rw [if_pos c9] at H
        have c9b0 : decide (0 ≤ (ji8)) = true := decide_eq_true c9
        clear c9
        by_cases c10 : (ji8) < (a0.size : Int)
        ·rw [if_pos c10] at H
         have c10b0 : decide ((ji8) < (a0.size : Int)) = true := decide_eq_true c10
         clear c10
         obtain ⟨ji12, hji12⟩ : ∃ j_ : Int, (wrap64 (7 * x8_1)) = j_ := ⟨_, rfl⟩
         replace H : (if 0 ≤ (ji12) then (if (wrap64 (bt a0 (ji8))) > 127 then (impl_ReadVar.l0 kj4 a0 a1 (Go.bits .or .i64 x7_1 (shl .i64 (Go.bits .and .i64 (wrap64 (bt a0 (ji8))) 127) (ji12))) (wrap64 (x8_1 + 1))) else (if (wrap64 (bt a0 (ji8))) = 0 then (if x8_1 > 0 then (some (0, 0, false)) else (if (Go.bits .or .i64 x7_1 (shl .i64 (Go.bits .and .i64 (wrap64 (bt a0 (ji8))) 127) (ji12))) > 1000000000 then (some (0, 0, false)) else (some (Go.bits .or .i64 x7_1 (shl .i64 (Go.bits .and .i64 (wrap64 (bt a0 (ji8))) 127) (ji12)), wrap64 ((ji8) + 1), true)))) else (if (Go.bits .or .i64 x7_1 (shl .i64 (Go.bits .and .i64 (wrap64 (bt a0 (ji8))) 127) (ji12))) > 1000000000 then (some (0, 0, false)) else (some (Go.bits .or .i64 x7_1 (shl .i64 (Go.bits .and .i64 (wrap64 (bt a0 (ji8))) 127) (ji12)), wrap64 ((ji8) + 1), true))))) else (none)) = some (r1, r2, r3) := by first | (rw [hji12] at H; exact H) | (simp only [hji12] at H ⊢; exact H)
         have hji12w : (IntKind.i64.wrap (7 * x8_1)) = ji12 := (i64_w _).trans hji12
         by_cases c13 : 0 ≤ (ji12)
         ·rw [if_pos c13] at H
          have c13b0 := eq_true c13
          have c13b1 : decide (0 ≤ (ji12)) = true := decide_eq_true c13
          clear c13
          obtain ⟨ji14, hji14⟩ : ∃ j_ : Int, (shl .i64 (Go.bits .and .i64 (wrap64 (bt a0 (ji8))) 127) (ji12)) = j_ := ⟨_, rfl⟩
          replace H : (if (wrap64 (bt a0 (ji8))) > 127 then (impl_ReadVar.l0 kj4 a0 a1 (Go.bits .or .i64 x7_1 (ji14)) (wrap64 (x8_1 + 1))) else (if (wrap64 (bt a0 (ji8))) = 0 then (if x8_1 > 0 then (some (0, 0, false)) else (if (Go.bits .or .i64 x7_1 (ji14)) > 1000000000 then (some (0, 0, false)) else (some (Go.bits .or .i64 x7_1 (ji14), wrap64 ((ji8) + 1), true)))) else (if (Go.bits .or .i64 x7_1 (ji14)) > 1000000000 then (some (0, 0, false)) else (some (Go.bits .or .i64 x7_1 (ji14), wrap64 ((ji8) + 1), true))))) = some (r1, r2, r3) := by first | (rw [hji14] at H; exact H) | (simp only [hji14] at H ⊢; exact H)
          have hji14_ : (IntKind.i64.wrap ((Go.bits .and .i64 (wrap64 (bt a0 (ji8))) 127) * 2 ^ min (ji12).toNat 64)) = ji14 := hji14
          have hji14z : (ji12) ≤ 64 → (IntKind.i64.wrap ((Go.bits .and .i64 (wrap64 (bt a0 (ji8))) 127) * 2 ^ (ji12).toNat)) = ji14 := shl_small hji14
          have hji14y : (wrap64 ((Go.bits .and .i64 (wrap64 (bt a0 (ji8))) 127) * 2 ^ min (ji12).toNat 64)) = ji14 := (i64_w _).symm.trans hji14_
          have hji14x : (ji12) ≤ 64 → (wrap64 ((Go.bits .and .i64 (wrap64 (bt a0 (ji8))) 127) * 2 ^ (ji12).toNat)) = ji14 := fun h_ => (i64_w _).symm.trans (hji14z h_)
          by_cases c15 : (wrap64 (bt a0 (ji8))) > 127
          ·rw [if_pos c15] at H
           have c15b0 : decide (127 < (wrap64 (bt a0 (ji8)))) = true := decide_eq_true c15
           clear c15
           have H' := Aside0.mk H
           clear H
           have p11 : 0 ≤ ((ji8) : Int) := of_decide_eq_true (by first | (with_reducible assumption) | assumption)
           have q11 : (ji8) < (a0.size : Int) := of_decide_eq_true (by first | (with_reducible assumption) | assumption)
           have hx11 := bt_at a0 (ji8)
           replace p11 := eq_true p11
           replace q11 := eq_true q11
           go_wp2
           go_roundg kj4
           case measure => have := HK1.out; have := HJ4.out; omega
           case rel => exact ⟨(Go.bits .or .i64 x7_1 (ji14)), (wrap64 (x8_1 + 1)), (by first | rfl | (simp; done) | (simp only [← hji14] <;> (first | rfl | simp)) | (simp [*]; done)), (by first | rfl | (simp; done) | (simp [*]; done)), H', ⟨by have := HK1.out; have := HJ4.out; omega⟩, by repeat (first | exact Drawn0.refl _ | apply Drawn0.step)⟩
          ·rw [if_neg c15] at H
           have c15b0 : decide (127 < (wrap64 (bt a0 (ji8)))) = false := decide_eq_false c15
           clear c15
           by_cases c16 : (wrap64 (bt a0 (ji8))) = 0
           ·rw [if_pos c16] at H
            have c16b0 : ((wrap64 (bt a0 (ji8))) == 0) = true := beq_iff_eq.mpr c16
            have c16b1 : ((wrap64 (bt a0 (ji8))) != 0) = false := bne_eq_false_iff_eq.mpr c16
            clear c16
            by_cases c17 : x8_1 > 0
            ·rw [if_pos c17] at H
             have c17b0 : decide (0 < x8_1) = true := decide_eq_true c17
             clear c17
             simp only [Option.some.injEq, Prod.mk.injEq] at H
             obtain ⟨rfl, rfl, rfl⟩ := H
             have p11 : 0 ≤ ((ji8) : Int) := of_decide_eq_true (by first | (with_reducible assumption) | assumption)
             have q11 : (ji8) < (a0.size : Int) := of_decide_eq_true (by first | (with_reducible assumption) | assumption)
             have hx11 := bt_at a0 (ji8)
             replace p11 := eq_true p11
             replace q11 := eq_true q11
             go_wp2
             go_ret3
             exact ⟨by first | rfl | (simp; done) | (simp only [← hji8, ← hji12, ← hji14] <;> (first | rfl | simp)) | (simp [*]; done), by repeat (first | exact Drawn0.refl _ | apply Drawn0.step)⟩
            ·rw [if_neg c17] at H
             have c17b0 : decide (0 < x8_1) = false := decide_eq_false c17
             clear c17
             by_cases c18 : (Go.bits .or .i64 x7_1 (ji14)) > 1000000000
             ·rw [if_pos c18] at H
              have c18b0 : decide (1000000000 < (Go.bits .or .i64 x7_1 (ji14))) = true := decide_eq_true c18
              clear c18
              simp only [Option.some.injEq, Prod.mk.injEq] at H
              obtain ⟨rfl, rfl, rfl⟩ := H
              have p11 : 0 ≤ ((ji8) : Int) := of_decide_eq_true (by first | (with_reducible assumption) | assumption)
              have q11 : (ji8) < (a0.size : Int) := of_decide_eq_true (by first | (with_reducible assumption) | assumption)
              have hx11 := bt_at a0 (ji8)
              replace p11 := eq_true p11
              replace q11 := eq_true q11
              go_wp2
              go_ret3
              exact ⟨by first | rfl | (simp; done) | (simp only [← hji8, ← hji12, ← hji14] <;> (first | rfl | simp)) | (simp [*]; done), by repeat (first | exact Drawn0.refl _ | apply Drawn0.step)⟩
             ·rw [if_neg c18] at H
              have c18b0 : decide (1000000000 < (Go.bits .or .i64 x7_1 (ji14))) = false := decide_eq_false c18
              clear c18
              simp only [Option.some.injEq, Prod.mk.injEq] at H
              obtain ⟨rfl, rfl, rfl⟩ := H
              have p11 : 0 ≤ ((ji8) : Int) := of_decide_eq_true (by first | (with_reducible assumption) | assumption)
              have q11 : (ji8) < (a0.size : Int) := of_decide_eq_true (by first | (with_reducible assumption) | assumption)
              have hx11 := bt_at a0 (ji8)
              replace p11 := eq_true p11
              replace q11 := eq_true q11
              go_wp2
              go_ret3
              exact ⟨by first | rfl | (simp; done) | (simp only [← hji8, ← hji12, ← hji14] <;> (first | rfl | simp)) | (simp [*]; done), by repeat (first | exact Drawn0.refl _ | apply Drawn0.step)⟩
           ·rw [if_neg c16] at H
            have c16b0 : ((wrap64 (bt a0 (ji8))) == 0) = false := beq_eq_false_iff_ne.mpr c16
            have c16b1 : ((wrap64 (bt a0 (ji8))) != 0) = true := bne_iff_ne.mpr c16
            by_cases c19 : (Go.bits .or .i64 x7_1 (ji14)) > 1000000000
            ·rw [if_pos c19] at H
             have c19b0 : decide (1000000000 < (Go.bits .or .i64 x7_1 (ji14))) = true := decide_eq_true c19
             clear c19
             simp only [Option.some.injEq, Prod.mk.injEq] at H
             obtain ⟨rfl, rfl, rfl⟩ := H
             have p11 : 0 ≤ ((ji8) : Int) := of_decide_eq_true (by first | (with_reducible assumption) | assumption)
             have q11 : (ji8) < (a0.size : Int) := of_decide_eq_true (by first | (with_reducible assumption) | assumption)
             have hx11 := bt_at a0 (ji8)
             replace p11 := eq_true p11
             replace q11 := eq_true q11
             go_wp2
             go_ret3
             exact ⟨by first | rfl | (simp; done) | (simp only [← hji8, ← hji12, ← hji14] <;> (first | rfl | simp)) | (simp [*]; done), by repeat (first | exact Drawn0.refl _ | apply Drawn0.step)⟩
            ·rw [if_neg c19] at H
             have c19b0 : decide (1000000000 < (Go.bits .or .i64 x7_1 (ji14))) = false := decide_eq_false c19
             clear c19
             simp only [Option.some.injEq, Prod.mk.injEq] at H
             obtain ⟨rfl, rfl, rfl⟩ := H
             have p11 : 0 ≤ ((ji8) : Int) := of_decide_eq_true (by first | (with_reducible assumption) | assumption)
             have q11 : (ji8) < (a0.size : Int) := of_decide_eq_true (by first | (with_reducible assumption) | assumption)
             have hx11 := bt_at a0 (ji8)
             replace p11 := eq_true p11
             replace q11 := eq_true q11
             go_wp2
             go_ret3
             exact ⟨by first | rfl | (simp; done) | (simp only [← hji8, ← hji12, ← hji14] <;> (first | rfl | simp)) | (simp [*]; done), by repeat (first | exact Drawn0.refl _ | apply Drawn0.step)⟩
         ·rw [if_neg c13] at H
          exact absurd H (by simp)
        ·rw [if_neg c10] at H
         exact absurd H (by simp)
       ·rw [if_neg c9] at H
        exact absurd H (by simp)
      ·replace c7 := Bool.eq_false_iff.mpr c7
       subst c7
       replace H := ite_f_ H
       simp only [Option.some.injEq, Prod.mk.injEq] at H
       obtain ⟨rfl, rfl, rfl⟩ := H
       go_wp2
       go_ret3
       exact ⟨by first | rfl | (simp; done) | (simp [*]; done), by repeat (first | exact Drawn0.refl _ | apply Drawn0.step)⟩
 ·replace c4 := Bool.eq_false_iff.mpr c4
  subst c4
  replace H := ite_f_ H
  simp only [Option.some.injEq, Prod.mk.injEq] at H
  obtain ⟨rfl, rfl, rfl⟩ := H
  go_enter Try.func98, Try.ntmps98
  go_wp2_with (first | ((with_reducible refine gate_callee (f := 83) rfl ?_); refine goesC_ (some 13) Try.func83 #[.int .i64 a1, .int .i64 0, .int .i64 (a0.size : Int)] ?_; (with_reducible refine (impl_in.calls a1 0 (a0.size : Int) false _ A3.out).mono ?_); rintro e w' ⟨rfl, ⟨nd, rfl⟩⟩; refine ⟨_, rfl, ?_⟩))
  go_ret3
  exact ⟨by first | rfl | (simp; done) | (simp [*]; done), by repeat (first | exact Drawn0.refl _ | apply Drawn0.step)⟩
def impl_readVars.l0 : Nat → ByteArray → Int → List Int → Int → Int → Option (List Int × Int × Bool)
 | 0, _, _, _, _, _ => none
 | k + 1, x0, x1, x9, x14, x15 => if x15 < x14 then ((impl_ReadVar.f k x0 x1).bind fun bt283 => (if bt283.2.2 = true then (if x9.length < 17592186044416 then (impl_readVars.l0 k x0 bt283.2.1 (x9 ++ [bt283.1]) x14 (wrap64 (x15 + 1))) else (none)) else (some (([] : List Int), 0, false)))) else (some (x9, x1, true))
def impl_readVars.f (k : Nat) (a0 : ByteArray) (a1 : Int) (a2 : Int) : Option (List Int × Int × Bool) := impl_readVars.l0 k a0 a1 (([] : List Int)) a2 0
set_option maxHeartbeats 8000000 in
set_option maxRecDepth 100000 in
theorem impl_readVars.calls (k : Nat) (a0 : ByteArray) (a1 : Int) (a2 : Int) (r1 : List Int) (r2 : Int) (r3 : Bool) (w : World) (h : impl_readVars.f k a0 a1 a2 = some (r1, r2, r3)) :
  Calls Try.prog 99 #[.string a0, .int .i64 a1, .int .i64 a2] w fun e w' => ∃ v0_ : Value, e = .returned (.tuple #[v0_, .int .i64 r2, .bool r3]) ∧ Kd.R (Kd.int .i64) 3 w' w.heap.size (fun _ => True) v0_ r1 ∧ Below w.heap.size w w' := by
 have HB := Aside0.mk (Below.refl w.heap.size w)
 have H : (impl_readVars.l0 k a0 a1 (([] : List Int)) a2 0) = some (r1, r2, r3) := h
 clear h
 obtain ⟨y280, hy280⟩ : ∃ y_ : List Int, y_ = (([] : List Int)) := ⟨_, rfl⟩
 replace H : (impl_readVars.l0 k a0 a1 y280 a2 0) = some (r1, r2, r3) := by first | (rw [hy280]; with_reducible exact H) | (have H2_ := (Option.bind_some _ _).symm.trans H; rw [hy280]; with_reducible exact H2_) | (have H2_ := (Option.bind_some _ _).symm.trans H; with_reducible exact H2_) | with_reducible exact H | (rw [hy280]; exact H) | exact H
 have Ny280 := Aside0.mk hy280
 clear hy280
 have H' := Aside0.mk H
 clear H
 go_enter Try.func99, Try.ntmps99
 go_wp2_with (first | ((with_reducible refine gate_dst (N := 13) rfl ?_); refine Kd.R_lit (Kd.int .i64) _ 3 ?hg (N := 13) ?hd (xs := ([] : List Int)) (inner := []) (ok := fun _ => True) (okp := fun _ => True) ?hr ?hp (fun _ hk => hk) trivial (Below.refl _ _) (Nat.le_refl _) (by simp) ?_; (case hd => rfl); (case hg => rfl); (case hr => first | (go_simp; done) | (go_simp; rfl)); (case hp => exact (Reps.none _ _)); intro v281 w4 ho5 hb hg_ hnew_; clear hg_ hnew_; (first | rw [← Ny280.out] at ho5 | (simp only [Int.reduceToNat] at ho5; rw [← Ny280.out] at ho5)); have HO282 := Aside0.mk (Kd.R_lower ho5 bls_); replace HB := hbs_ hb; clear hb ho5))
 go_loopg [1, 9, 15] k (fun kq v1 v9 v15 w' => ∃ (x1_1 : Int) (x9_1 : List Int) (x15_1 : Int), v1 = .int .i64 x1_1 ∧ v15 = .int .i64 x15_1 ∧ Aside0 (impl_readVars.l0 kq a0 x1_1 x9_1 a2 x15_1 = some (r1, r2, r3)) ∧ Aside0 (kq ≤ k) ∧ Aside0 (Kd.R (Kd.int .i64) 3 w' w.heap.size (fun _ => True) v9 x9_1) ∧ Aside0 (Below w.heap.size w w'))
 case atStart => exact ⟨(a1), (y280), (0), (by first | rfl | (simp; done) | (simp [*]; done)), (by first | rfl | (simp; done) | (simp [*]; done)), H', ⟨Nat.le_refl _⟩, ⟨by (with_reducible repeat (first | apply Kd.R_alloc | apply Kd.R_drewN | apply Kd.R_drew)); exact HO282.out⟩, ⟨bl_⟩⟩
 case round =>
  clear H'
  try clear p2
  obtain ⟨x1_1, x9_1, x15_1, rfl, rfl, HA, HK1, HO_9, HB⟩ := hrel
  cases gk with
  | zero => exact absurd HA.out (by simp [impl_readVars.l0])
  | succ k1 =>
   have H := HA.out
   clear HA
   simp only [impl_readVars.l0] at H
   by_cases c6 : x15_1 < a2
   ·rw [if_pos c6] at H
    have c6b0 : decide (x15_1 < a2) = true := decide_eq_true c6
    clear c6
    obtain ⟨⟨t283, t284, t285⟩, A7, H⟩ := bindE_ H
    replace H : (if t285 = true then (if x9_1.length < 17592186044416 then (impl_readVars.l0 k1 a0 t284 (x9_1 ++ [t283]) a2 (wrap64 (x15_1 + 1))) else (none)) else (some (([] : List Int), 0, false))) = some (r1, r2, r3) := H
    by_cases c8 : t285 = true
    ·subst c8
     replace H := ite_t_ H
     by_cases c9 : x9_1.length < 17592186044416
     ·rw [if_pos c9] at H
      have LMc9 := Aside0.mk c9
      clear c9
      obtain ⟨y286, hy286⟩ : ∃ y_ : List Int, y_ = (x9_1 ++ [t283]) := ⟨_, rfl⟩
      replace H : (impl_readVars.l0 k1 a0 t284 y286 a2 (wrap64 (x15_1 + 1))) = some (r1, r2, r3) := by first | (rw [hy286]; with_reducible exact H) | (have H2_ := (Option.bind_some _ _).symm.trans H; rw [hy286]; with_reducible exact H2_) | (have H2_ := (Option.bind_some _ _).symm.trans H; with_reducible exact H2_) | with_reducible exact H | (rw [hy286]; exact H) | exact H
      have Ny286 := Aside0.mk hy286
      clear hy286
      have H' := Aside0.mk H
      clear H
      go_wp2_with (first | ((with_reducible refine gate_callee (f := 98) rfl ?_); refine goesC_ (some 20) Try.func98 #[.string a0, .int .i64 x1_1] ?_; (with_reducible refine (impl_ReadVar.calls k1 a0 x1_1 t283 t284 true _ A7.out).mono ?_); rintro e w' ⟨rfl, ⟨nd, rfl⟩⟩; refine ⟨_, rfl, ?_⟩) | ((with_reducible refine gate_builtin (b := .append) (xs := #[.tmp 26, .tmp 28]) rfl ?_); at_builtin; refine Kd.R_append (Kd.int .i64) (w0 := w) w.heap.size rfl (.tmp 26) (.tmp 28) 32 3 (.int .i64 0) 8 rfl Try.underlying32 info3 rfl (by decide) (by omega) u9 x9_1 t283 [.int .i64 t283] (fun _ => True) (fun _ => False) rfl rfl ?aP (fun _ hk => hk.elim) ?aF ?aO ?aB ?aS ?aL ?_; (case aP => exact rfl); (case aB => exact bl_); (case aF => exact (fun _ _ => trivial)); (case aO => exact (by (with_reducible repeat (first | apply Kd.R_alloc | apply Kd.R_drewN | apply Kd.R_drew)); exact HO_9.out)); (case aS => exact bls_); (case aL => have := LMc9.out; omega); intro v287 w10 ho hb hg hat; rw [← Ny286.out] at ho; replace HB := Aside0.mk (hb); have HO288 := Aside0.mk (ho); clear HO_9; clear ho hb hg hat))
      go_roundg k1
      case measure => have := HK1.out; omega
      case rel => exact ⟨(t284), (y286), (wrap64 (x15_1 + 1)), (by first | rfl | (simp; done) | (simp [*]; done)), (by first | rfl | (simp; done) | (simp [*]; done)), H', ⟨by have := HK1.out; omega⟩, ⟨by (with_reducible repeat (first | apply Kd.R_alloc | apply Kd.R_drewN | apply Kd.R_drew)); exact HO288.out⟩, ⟨bl_⟩⟩
     ·rw [if_neg c9] at H
      exact absurd H (by simp)
    ·replace c8 := Bool.eq_false_iff.mpr c8
     subst c8
     replace H := ite_f_ H
     simp only [Option.some.injEq, Prod.mk.injEq] at H
     obtain ⟨rfl, rfl, rfl⟩ := H
     go_wp2_with (first | ((with_reducible refine gate_callee (f := 98) rfl ?_); refine goesC_ (some 20) Try.func98 #[.string a0, .int .i64 x1_1] ?_; (with_reducible refine (impl_ReadVar.calls k1 a0 x1_1 t283 t284 false _ A7.out).mono ?_); rintro e w' ⟨rfl, ⟨nd, rfl⟩⟩; refine ⟨_, rfl, ?_⟩))
     go_ret3
     exact ⟨_, eq_, by first | exact Kd.R_nil _ _ _ _ _ | exact Kd.N_nil _ _ _ _ _ | exact Kd.V_nil _ _ _ _ _ | exact Kd.Q_nil _ _ _ _ _ | exact Kd.S_nil _ _ _ _ _, bl_⟩
   ·rw [if_neg c6] at H
    have c6b0 : decide (x15_1 < a2) = false := decide_eq_false c6
    clear c6
    simp only [Option.some.injEq, Prod.mk.injEq] at H
    obtain ⟨rfl, rfl, rfl⟩ := H
    go_wp2
    go_ret3
    exact ⟨_, eq_, by (with_reducible repeat (first | apply Kd.R_alloc | apply Kd.R_drewN | apply Kd.R_drew)); exact HO_9.out, bl_⟩
end Go.Proofs.Ytppdmcimddhbaaa.PE
