import Derived.Test.YtppdmcimddhbaaaKNPEx1
import Derived.Test.YtppdmcimddhbaaaKNPEx8
-- printed by wip/tools
namespace Go.Proofs.Ytppdmcimddhbaaa.PE
open Go.RowKit Go.Proofs.YtppdmcimddhbaaaW.PrintWords Go.Proofs.YtppdmcimddhbaaaW.PrintLast Go.Proofs.YtppdmcimddhbaaaW.PrintMore
attribute [local go_sem] max2_int min2_int max_two min_two max_three min_three max_four min_four
set_option linter.unusedVariables false
set_option linter.unusedSimpArgs false
attribute [local go_sem high] eqA27
mutual
def impl_PolicyOk.l0 : Nat → List (S71) → Int → Int → Option (Bool)
 | 0, _, _, _ => none
 | k + 1, x13, x14, x15 => if x15 < x14 then (if 0 ≤ x15 then (if x15 < (x13.length : Int) then (if ((rd_T71 x13 x15).f0) = 1 then ((impl_RoleOk.f ((rd_T71 x13 x15).f1.f0) ((rd_T71 x13 x15).f1.f1)).bind fun t275 => (if t275 = true then (if ((rd_T71 x13 x15).f2) = 0 then (if (((rd_T71 x13 x15).f3) = 0) then (impl_PolicyOk.l0 k x13 x14 (wrap64 (x15 + 1))) else (some false)) else (some false)) else (some false))) else (if ((rd_T71 x13 x15).f0) = 2 then (impl_PolicyOk.j1 k x15 false x13 x14 x15 ((rd_T71 x13 x15).f0) (((rd_T71 x13 x15).f0) == 2) ((rd_T71 x13 x15).f0) ((rd_T71 x13 x15).f1.f0) ((rd_T71 x13 x15).f1.f1) ((rd_T71 x13 x15).f2) ((rd_T71 x13 x15).f3) 0 0) else (impl_PolicyOk.j1 k x15 false x13 x14 x15 ((rd_T71 x13 x15).f0) (((rd_T71 x13 x15).f0) == 3) ((rd_T71 x13 x15).f0) ((rd_T71 x13 x15).f1.f0) ((rd_T71 x13 x15).f1.f1) ((rd_T71 x13 x15).f2) ((rd_T71 x13 x15).f3) 0 0))) else (none)) else (none)) else (some true)
def impl_PolicyOk.j1 : Nat → Int → Bool → List (S71) → Int → Int → Int → Bool → Int → Int → Int → Int → Int → Int → Int → Option (Bool)
 | 0, _, _, _, _, _, _, _, _, _, _, _, _, _, _ => none
 | k + 1, x3, x6, x13, x14, x15, x22, x38, x274000, x274001, x274002, x274003, x274004, x275000, x275001 => if x38 = true then (if (x274001 == x275000 && (x274002 == x275001)) = true then ((impl_in.f x274003 0 (wrap64 (x3 - 1))).bind fun t276 => (if t276 = true then ((impl_in.f x274004 0 (wrap64 (x3 - 1))).bind fun t277 => (if t277 = true then (impl_PolicyOk.l0 k x13 x14 (wrap64 (x15 + 1))) else (some false))) else (some false))) else (some false)) else (if x22 = 4 then (if (x274001 == x275000 && (x274002 == x275001)) = true then ((impl_in.f x274003 0 (wrap64 (x3 - 1))).bind fun t278 => (if t278 = true then (if x274004 = 0 then (impl_PolicyOk.l0 k x13 x14 (wrap64 (x15 + 1))) else (some false)) else (some false))) else (some false)) else (if x6 = true then (impl_PolicyOk.l0 k x13 x14 (wrap64 (x15 + 1))) else (some false)))
end
def impl_PolicyOk.f (k : Nat) (l0_0 : List (S71)) : Option (Bool) := (impl_in.f (l0_0.length : Int) 1 40).bind fun t271 => (if t271 = true then (impl_PolicyOk.l0 k l0_0 (l0_0.length : Int) 0) else (some false))
set_option maxHeartbeats 8000000 in
set_option maxRecDepth 100000 in
theorem impl_PolicyOk.calls (k : Nat) (A0_0 : Option Addr) (c0_0 : Nat) (l0_0 : List (S71)) (r : Bool) (w : World) (hr0_0 : Kd.C k71 w A0_0 l0_0.length l0_0) (hc0_0 : l0_0.length ≤ c0_0) (h : impl_PolicyOk.f k l0_0 = some r) :
  Calls Try.prog 49 #[.agg #[.slice A0_0 l0_0.length c0_0]] w fun e w' => e = .returned (.bool r) ∧ Below w.heap.size w w' := by
 have hu68 := Try.underlying68
 have hu71 := Try.underlying71
 have hu27 := Try.underlying27
 have HR0_0 := Aside0.mk hr0_0
 have HC0_0 := Aside0.mk hc0_0
 clear hr0_0 hc0_0
 have HB := Aside0.mk (Below.refl w.heap.size w)
 have H : ((impl_in.f (l0_0.length : Int) 1 40).bind fun t271 => (if t271 = true then (impl_PolicyOk.l0 k l0_0 (l0_0.length : Int) 0) else (some false))) = some r := h
 clear h
 obtain ⟨t271, A2, H⟩ := bindE_ H
 by_cases c3 : t271 = true
 ·subst c3
  replace H := ite_t_ H
  have H' := Aside0.mk H
  clear H
  go_enter Try.func49, Try.ntmps49
  go_wp2_with (first | ((with_reducible refine gate_dst (N := 1) rfl ?_); refine box_event ?hg (N := 1) ?hd (cs := #[.slice A0_0 l0_0.length c0_0]) (t := 68) ?hr ?_; (case hd => rfl); (case hg => rfl); (case hr => first | (go_simp; done) | (go_simp; rfl)); intro gb270 hg w4 hbox hb; have BK270 := Aside0.mk (hbox); have GW270 := gs_ hg; have GE270 := gs_ hg; replace HB := hbs_ hb; clear hb hbox hg; have hcz5 := blk_cell BK270.out; have hfz5 := blk_frozen BK270.out) | ((with_reducible refine gate_callee (f := 83) rfl ?_); refine goesC_ (some 10) Try.func83 #[.int .i64 (l0_0.length : Int), .int .i64 1, .int .i64 40] ?_; (with_reducible refine (impl_in.calls (l0_0.length : Int) 1 40 true _ A2.out).mono ?_); rintro e w' ⟨rfl, ⟨nd, rfl⟩⟩; refine ⟨_, rfl, ?_⟩))
  go_loopg [15] k (fun kq v15 w' => ∃ (x15_1 : Int), v15 = .int .i64 x15_1 ∧ Aside0 (impl_PolicyOk.l0 kq l0_0 (l0_0.length : Int) x15_1 = some r) ∧ Aside0 (kq ≤ k) ∧ Aside0 (w'.heap[gb270]? = some (.cells #[(.slice A0_0 l0_0.length c0_0)] 68 (0, 0))) ∧ Aside0 (Below w.heap.size w w'))
  case atStart => exact ⟨(0), rf_, H', ⟨Nat.le_refl _⟩, ⟨bk_ BK270⟩, ⟨bl_⟩⟩
  case round =>
   clear H'
   try clear p2
   try clear c3
   try clear c4
   try clear hcz5
   try clear hfz5
   obtain ⟨x15_1, rfl, HA, HK1, BK270, HB⟩ := hrel
   cases gk with
   | zero => exact absurd HA.out (by simp [impl_PolicyOk.l0])
   | succ k1 =>
    have H := HA.out
    clear HA
    simp only [impl_PolicyOk.l0] at H
    by_cases c6 : x15_1 < (l0_0.length : Int)
    ·rw [if_pos c6] at H
     have c6b0 : decide (x15_1 < (l0_0.length : Int)) = true := decide_eq_true c6
     clear c6
     obtain ⟨c7b0, H⟩ := ifd_ H
     obtain ⟨c8b0, H⟩ := ifd_ H
     by_cases c9 : ((rd_T71 l0_0 x15_1).f0) = 1
     ·rw [if_pos c9] at H
      have c9b0 : (((rd_T71 l0_0 x15_1).f0) == 1) = true := beq_iff_eq.mpr c9
      have c9b1 : (((rd_T71 l0_0 x15_1).f0) != 1) = false := bne_eq_false_iff_eq.mpr c9
      clear c9
      obtain ⟨t275, A10, H⟩ := bindE_ H
      by_cases c11 : t275 = true
      ·subst c11
       replace H := ite_t_ H
       by_cases c12 : ((rd_T71 l0_0 x15_1).f2) = 0
       ·rw [if_pos c12] at H
        have c12b0 : (((rd_T71 l0_0 x15_1).f2) == 0) = true := beq_iff_eq.mpr c12
        have c12b1 : (((rd_T71 l0_0 x15_1).f2) != 0) = false := bne_eq_false_iff_eq.mpr c12
        clear c12
        by_cases c13 : (((rd_T71 l0_0 x15_1).f3) = 0)
        ·rw [if_pos c13] at H
         have c13b0 : (((rd_T71 l0_0 x15_1).f3) == 0) = true := beq_iff_eq.mpr c13
         have c13b1 : (((rd_T71 l0_0 x15_1).f3) != 0) = false := bne_eq_false_iff_eq.mpr c13
         clear c13
         have H' := Aside0.mk H
         clear H
         have p272 : 0 ≤ (x15_1 : Int) := od_
         have q272 : x15_1 < (l0_0.length : Int) := od_
         obtain ⟨ad272, e272, hx272_0, hx272_1, hx272_2, hx272_3, hx272_4⟩ := at_T71 (Kd.C_below HR0_0.out HB.out) x15_1 p272 q272
         cases e272
         replace p272 := eq_true p272
         replace q272 := eq_true q272
         go_wp2_with (first | ((with_reducible refine gate_dst (N := 4) rfl ?_); refine box_event ?hg (N := 4) ?hd (cs := #[.int .i64 0, .int .i64 0, .int .i64 0, .int .i64 0, .int .i64 0]) (t := 71) ?hr ?_; (case hd => rfl); (case hg => rfl); (case hr => first | (go_simp; done) | (go_simp; rfl)); intro gb273 hg w14 hbox hb; have BK273 := Aside0.mk (hbox); have GW273 := gs_ hg; have GE273 := gs_ hg; replace HB := hbs_ hb; have NB270_273 := nl_ hg BK270; have NB273_270 := nr_ hg BK270; replace BK270 := bkb_ BK270 hb; clear hb hbox hg; have hnb15 := NB273_270.out; have hnc15 := NB270_273.out; have hcz16 := blk_cell BK273.out; have hfz16 := blk_frozen BK273.out) | ((with_reducible refine gate_dst (N := 5) rfl ?_); refine box_event ?hg (N := 5) ?hd (cs := #[.int .i64 0, .int .i64 0]) (t := 27) ?hr ?_; (case hd => rfl); (case hg => rfl); (case hr => first | (go_simp; done) | (go_simp; rfl)); intro gb274 hg w17 hbox hb; have BK274 := Aside0.mk (hbox); have GW274 := gs_ hg; have GE274 := gs_ hg; replace HB := hbs_ hb; have NB270_274 := nl_ hg BK270; have NB274_270 := nr_ hg BK270; replace BK270 := Aside0.mk (blk_below (g := gb270) (o := .cells #[.slice (some ad272) l0_0.length c0_0] 68 (0, 0)) (bk_ BK270) hb); have NB273_274 := nl_ hg BK273; have NB274_273 := nr_ hg BK273; replace BK273 := Aside0.mk (blk_below (g := gb273) (o := .cells #[.int .i64 ((rd_T71 l0_0 x15_1).f0), .int .i64 ((rd_T71 l0_0 x15_1).f1.f0), .int .i64 ((rd_T71 l0_0 x15_1).f1.f1), .int .i64 ((rd_T71 l0_0 x15_1).f2), .int .i64 ((rd_T71 l0_0 x15_1).f3)] 71 (0, 0)) (bk_ BK273) hb); clear hb hbox hg; have hnb18 := NB274_270.out; have hnc18 := NB270_274.out; have hnb19 := NB274_273.out; have hnc19 := NB273_274.out; have hcz20 := blk_cell BK274.out; have hfz20 := blk_frozen BK274.out; have hcz21 := blk_cell BK273.out; have hfz21 := blk_frozen BK273.out) | ((with_reducible refine gate_callee (f := 103) rfl ?_); refine goesC_ (some 27) Try.func103 #[.agg #[.int .i64 ((rd_T71 l0_0 x15_1).f1.f0), .int .i64 ((rd_T71 l0_0 x15_1).f1.f1)]] ?_; (with_reducible refine (impl_RoleOk.calls ((rd_T71 l0_0 x15_1).f1.f0) ((rd_T71 l0_0 x15_1).f1.f1) true _ A10.out).mono ?_); rintro e w22 ⟨rfl, hb⟩; refine ⟨_, rfl, ?_⟩; replace BK270 := Aside0.mk (blk_below (g := gb270) (o := .cells #[.slice (some ad272) l0_0.length c0_0] 68 (0, 0)) (bk_ BK270) hb); replace BK273 := Aside0.mk (blk_below (g := gb273) (o := .cells #[.int .i64 ((rd_T71 l0_0 x15_1).f0), .int .i64 ((rd_T71 l0_0 x15_1).f1.f0), .int .i64 ((rd_T71 l0_0 x15_1).f1.f1), .int .i64 ((rd_T71 l0_0 x15_1).f2), .int .i64 ((rd_T71 l0_0 x15_1).f3)] 71 (0, 0)) (bk_ BK273) hb); replace BK274 := Aside0.mk (blk_below (g := gb274) (o := .cells #[.int .i64 0, .int .i64 0] 27 (0, 0)) (bk_ BK274) hb); replace HB := hbs_ hb; clear hb; have hcz23 := blk_cell BK273.out; have hfz23 := blk_frozen BK273.out))
         go_roundg k1
         case measure => have := HK1.out; omega
         case rel => exact ⟨(wrap64 (x15_1 + 1)), rf_, H', ⟨by have := HK1.out; omega⟩, ⟨bk_ BK270⟩, ⟨bl_⟩⟩
        ·rw [if_neg c13] at H
         have c13b0 : (((rd_T71 l0_0 x15_1).f3) == 0) = false := beq_eq_false_iff_ne.mpr c13
         have c13b1 : (((rd_T71 l0_0 x15_1).f3) != 0) = true := bne_iff_ne.mpr c13
         obtain rfl := Option.some.inj H
         have p272 : 0 ≤ (x15_1 : Int) := od_
         have q272 : x15_1 < (l0_0.length : Int) := od_
         obtain ⟨ad272, e272, hx272_0, hx272_1, hx272_2, hx272_3, hx272_4⟩ := at_T71 (Kd.C_below HR0_0.out HB.out) x15_1 p272 q272
         cases e272
         replace p272 := eq_true p272
         replace q272 := eq_true q272
         go_wp2_with (first | ((with_reducible refine gate_dst (N := 4) rfl ?_); refine box_event ?hg (N := 4) ?hd (cs := #[.int .i64 0, .int .i64 0, .int .i64 0, .int .i64 0, .int .i64 0]) (t := 71) ?hr ?_; (case hd => rfl); (case hg => rfl); (case hr => first | (go_simp; done) | (go_simp; rfl)); intro gb273 hg w24 hbox hb; have BK273 := Aside0.mk (hbox); have GW273 := gs_ hg; have GE273 := gs_ hg; replace HB := hbs_ hb; have NB270_273 := nl_ hg BK270; have NB273_270 := nr_ hg BK270; replace BK270 := bkb_ BK270 hb; clear hb hbox hg; have hnb25 := NB273_270.out; have hnc25 := NB270_273.out; have hcz26 := blk_cell BK273.out; have hfz26 := blk_frozen BK273.out) | ((with_reducible refine gate_dst (N := 5) rfl ?_); refine box_event ?hg (N := 5) ?hd (cs := #[.int .i64 0, .int .i64 0]) (t := 27) ?hr ?_; (case hd => rfl); (case hg => rfl); (case hr => first | (go_simp; done) | (go_simp; rfl)); intro gb274 hg w27 hbox hb; have BK274 := Aside0.mk (hbox); have GW274 := gs_ hg; have GE274 := gs_ hg; replace HB := hbs_ hb; have NB270_274 := nl_ hg BK270; have NB274_270 := nr_ hg BK270; replace BK270 := Aside0.mk (blk_below (g := gb270) (o := .cells #[.slice (some ad272) l0_0.length c0_0] 68 (0, 0)) (bk_ BK270) hb); have NB273_274 := nl_ hg BK273; have NB274_273 := nr_ hg BK273; replace BK273 := Aside0.mk (blk_below (g := gb273) (o := .cells #[.int .i64 ((rd_T71 l0_0 x15_1).f0), .int .i64 ((rd_T71 l0_0 x15_1).f1.f0), .int .i64 ((rd_T71 l0_0 x15_1).f1.f1), .int .i64 ((rd_T71 l0_0 x15_1).f2), .int .i64 ((rd_T71 l0_0 x15_1).f3)] 71 (0, 0)) (bk_ BK273) hb); clear hb hbox hg; have hnb28 := NB274_270.out; have hnc28 := NB270_274.out; have hnb29 := NB274_273.out; have hnc29 := NB273_274.out; have hcz30 := blk_cell BK274.out; have hfz30 := blk_frozen BK274.out; have hcz31 := blk_cell BK273.out; have hfz31 := blk_frozen BK273.out) | ((with_reducible refine gate_callee (f := 103) rfl ?_); refine goesC_ (some 27) Try.func103 #[.agg #[.int .i64 ((rd_T71 l0_0 x15_1).f1.f0), .int .i64 ((rd_T71 l0_0 x15_1).f1.f1)]] ?_; (with_reducible refine (impl_RoleOk.calls ((rd_T71 l0_0 x15_1).f1.f0) ((rd_T71 l0_0 x15_1).f1.f1) true _ A10.out).mono ?_); rintro e w32 ⟨rfl, hb⟩; refine ⟨_, rfl, ?_⟩; replace BK270 := Aside0.mk (blk_below (g := gb270) (o := .cells #[.slice (some ad272) l0_0.length c0_0] 68 (0, 0)) (bk_ BK270) hb); replace BK273 := Aside0.mk (blk_below (g := gb273) (o := .cells #[.int .i64 ((rd_T71 l0_0 x15_1).f0), .int .i64 ((rd_T71 l0_0 x15_1).f1.f0), .int .i64 ((rd_T71 l0_0 x15_1).f1.f1), .int .i64 ((rd_T71 l0_0 x15_1).f2), .int .i64 ((rd_T71 l0_0 x15_1).f3)] 71 (0, 0)) (bk_ BK273) hb); replace BK274 := Aside0.mk (blk_below (g := gb274) (o := .cells #[.int .i64 0, .int .i64 0] 27 (0, 0)) (bk_ BK274) hb); replace HB := hbs_ hb; clear hb; have hcz33 := blk_cell BK273.out; have hfz33 := blk_frozen BK273.out))
         go_ret
         exact ⟨eq_, bl_⟩
       ·rw [if_neg c12] at H
        have c12b0 : (((rd_T71 l0_0 x15_1).f2) == 0) = false := beq_eq_false_iff_ne.mpr c12
        have c12b1 : (((rd_T71 l0_0 x15_1).f2) != 0) = true := bne_iff_ne.mpr c12
        obtain rfl := Option.some.inj H
        have p272 : 0 ≤ (x15_1 : Int) := od_
        have q272 : x15_1 < (l0_0.length : Int) := od_
        obtain ⟨ad272, e272, hx272_0, hx272_1, hx272_2, hx272_3, hx272_4⟩ := at_T71 (Kd.C_below HR0_0.out HB.out) x15_1 p272 q272
        cases e272
        replace p272 := eq_true p272
        replace q272 := eq_true q272
        go_wp2_with (first | ((with_reducible refine gate_dst (N := 4) rfl ?_); refine box_event ?hg (N := 4) ?hd (cs := #[.int .i64 0, .int .i64 0, .int .i64 0, .int .i64 0, .int .i64 0]) (t := 71) ?hr ?_; (case hd => rfl); (case hg => rfl); (case hr => first | (go_simp; done) | (go_simp; rfl)); intro gb273 hg w34 hbox hb; have BK273 := Aside0.mk (hbox); have GW273 := gs_ hg; have GE273 := gs_ hg; replace HB := hbs_ hb; have NB270_273 := nl_ hg BK270; have NB273_270 := nr_ hg BK270; replace BK270 := bkb_ BK270 hb; clear hb hbox hg; have hnb35 := NB273_270.out; have hnc35 := NB270_273.out; have hcz36 := blk_cell BK273.out; have hfz36 := blk_frozen BK273.out) | ((with_reducible refine gate_dst (N := 5) rfl ?_); refine box_event ?hg (N := 5) ?hd (cs := #[.int .i64 0, .int .i64 0]) (t := 27) ?hr ?_; (case hd => rfl); (case hg => rfl); (case hr => first | (go_simp; done) | (go_simp; rfl)); intro gb274 hg w37 hbox hb; have BK274 := Aside0.mk (hbox); have GW274 := gs_ hg; have GE274 := gs_ hg; replace HB := hbs_ hb; have NB270_274 := nl_ hg BK270; have NB274_270 := nr_ hg BK270; replace BK270 := Aside0.mk (blk_below (g := gb270) (o := .cells #[.slice (some ad272) l0_0.length c0_0] 68 (0, 0)) (bk_ BK270) hb); have NB273_274 := nl_ hg BK273; have NB274_273 := nr_ hg BK273; replace BK273 := Aside0.mk (blk_below (g := gb273) (o := .cells #[.int .i64 ((rd_T71 l0_0 x15_1).f0), .int .i64 ((rd_T71 l0_0 x15_1).f1.f0), .int .i64 ((rd_T71 l0_0 x15_1).f1.f1), .int .i64 ((rd_T71 l0_0 x15_1).f2), .int .i64 ((rd_T71 l0_0 x15_1).f3)] 71 (0, 0)) (bk_ BK273) hb); clear hb hbox hg; have hnb38 := NB274_270.out; have hnc38 := NB270_274.out; have hnb39 := NB274_273.out; have hnc39 := NB273_274.out; have hcz40 := blk_cell BK274.out; have hfz40 := blk_frozen BK274.out; have hcz41 := blk_cell BK273.out; have hfz41 := blk_frozen BK273.out) | ((with_reducible refine gate_callee (f := 103) rfl ?_); refine goesC_ (some 27) Try.func103 #[.agg #[.int .i64 ((rd_T71 l0_0 x15_1).f1.f0), .int .i64 ((rd_T71 l0_0 x15_1).f1.f1)]] ?_; (with_reducible refine (impl_RoleOk.calls ((rd_T71 l0_0 x15_1).f1.f0) ((rd_T71 l0_0 x15_1).f1.f1) true _ A10.out).mono ?_); rintro e w42 ⟨rfl, hb⟩; refine ⟨_, rfl, ?_⟩; replace BK270 := Aside0.mk (blk_below (g := gb270) (o := .cells #[.slice (some ad272) l0_0.length c0_0] 68 (0, 0)) (bk_ BK270) hb); replace BK273 := Aside0.mk (blk_below (g := gb273) (o := .cells #[.int .i64 ((rd_T71 l0_0 x15_1).f0), .int .i64 ((rd_T71 l0_0 x15_1).f1.f0), .int .i64 ((rd_T71 l0_0 x15_1).f1.f1), .int .i64 ((rd_T71 l0_0 x15_1).f2), .int .i64 ((rd_T71 l0_0 x15_1).f3)] 71 (0, 0)) (bk_ BK273) hb); replace BK274 := Aside0.mk (blk_below (g := gb274) (o := .cells #[.int .i64 0, .int .i64 0] 27 (0, 0)) (bk_ BK274) hb); replace HB := hbs_ hb; clear hb; have hcz43 := blk_cell BK273.out; have hfz43 := blk_frozen BK273.out))
        go_ret
        exact ⟨eq_, bl_⟩
      ·replace c11 := Bool.eq_false_iff.mpr c11
       subst c11
       replace H := ite_f_ H
       obtain rfl := Option.some.inj H
       have p272 : 0 ≤ (x15_1 : Int) := od_
       have q272 : x15_1 < (l0_0.length : Int) := od_
       obtain ⟨ad272, e272, hx272_0, hx272_1, hx272_2, hx272_3, hx272_4⟩ := at_T71 (Kd.C_below HR0_0.out HB.out) x15_1 p272 q272
       cases e272
       replace p272 := eq_true p272
       replace q272 := eq_true q272
       go_wp2_with (first | ((with_reducible refine gate_dst (N := 4) rfl ?_); refine box_event ?hg (N := 4) ?hd (cs := #[.int .i64 0, .int .i64 0, .int .i64 0, .int .i64 0, .int .i64 0]) (t := 71) ?hr ?_; (case hd => rfl); (case hg => rfl); (case hr => first | (go_simp; done) | (go_simp; rfl)); intro gb273 hg w44 hbox hb; have BK273 := Aside0.mk (hbox); have GW273 := gs_ hg; have GE273 := gs_ hg; replace HB := hbs_ hb; have NB270_273 := nl_ hg BK270; have NB273_270 := nr_ hg BK270; replace BK270 := bkb_ BK270 hb; clear hb hbox hg; have hnb45 := NB273_270.out; have hnc45 := NB270_273.out; have hcz46 := blk_cell BK273.out; have hfz46 := blk_frozen BK273.out) | ((with_reducible refine gate_dst (N := 5) rfl ?_); refine box_event ?hg (N := 5) ?hd (cs := #[.int .i64 0, .int .i64 0]) (t := 27) ?hr ?_; (case hd => rfl); (case hg => rfl); (case hr => first | (go_simp; done) | (go_simp; rfl)); intro gb274 hg w47 hbox hb; have BK274 := Aside0.mk (hbox); have GW274 := gs_ hg; have GE274 := gs_ hg; replace HB := hbs_ hb; have NB270_274 := nl_ hg BK270; have NB274_270 := nr_ hg BK270; replace BK270 := Aside0.mk (blk_below (g := gb270) (o := .cells #[.slice (some ad272) l0_0.length c0_0] 68 (0, 0)) (bk_ BK270) hb); have NB273_274 := nl_ hg BK273; have NB274_273 := nr_ hg BK273; replace BK273 := Aside0.mk (blk_below (g := gb273) (o := .cells #[.int .i64 ((rd_T71 l0_0 x15_1).f0), .int .i64 ((rd_T71 l0_0 x15_1).f1.f0), .int .i64 ((rd_T71 l0_0 x15_1).f1.f1), .int .i64 ((rd_T71 l0_0 x15_1).f2), .int .i64 ((rd_T71 l0_0 x15_1).f3)] 71 (0, 0)) (bk_ BK273) hb); clear hb hbox hg; have hnb48 := NB274_270.out; have hnc48 := NB270_274.out; have hnb49 := NB274_273.out; have hnc49 := NB273_274.out; have hcz50 := blk_cell BK274.out; have hfz50 := blk_frozen BK274.out; have hcz51 := blk_cell BK273.out; have hfz51 := blk_frozen BK273.out) | ((with_reducible refine gate_callee (f := 103) rfl ?_); refine goesC_ (some 27) Try.func103 #[.agg #[.int .i64 ((rd_T71 l0_0 x15_1).f1.f0), .int .i64 ((rd_T71 l0_0 x15_1).f1.f1)]] ?_; (with_reducible refine (impl_RoleOk.calls ((rd_T71 l0_0 x15_1).f1.f0) ((rd_T71 l0_0 x15_1).f1.f1) false _ A10.out).mono ?_); rintro e w52 ⟨rfl, hb⟩; refine ⟨_, rfl, ?_⟩; replace BK270 := Aside0.mk (blk_below (g := gb270) (o := .cells #[.slice (some ad272) l0_0.length c0_0] 68 (0, 0)) (bk_ BK270) hb); replace BK273 := Aside0.mk (blk_below (g := gb273) (o := .cells #[.int .i64 ((rd_T71 l0_0 x15_1).f0), .int .i64 ((rd_T71 l0_0 x15_1).f1.f0), .int .i64 ((rd_T71 l0_0 x15_1).f1.f1), .int .i64 ((rd_T71 l0_0 x15_1).f2), .int .i64 ((rd_T71 l0_0 x15_1).f3)] 71 (0, 0)) (bk_ BK273) hb); replace BK274 := Aside0.mk (blk_below (g := gb274) (o := .cells #[.int .i64 0, .int .i64 0] 27 (0, 0)) (bk_ BK274) hb); replace HB := hbs_ hb; clear hb))
       go_ret
       exact ⟨eq_, bl_⟩
     ·rw [if_neg c9] at H
      have c9b0 : (((rd_T71 l0_0 x15_1).f0) == 1) = false := beq_eq_false_iff_ne.mpr c9
      have c9b1 : (((rd_T71 l0_0 x15_1).f0) != 1) = true := bne_iff_ne.mpr c9
      have HC53 := Aside0.mk H
      clear H
      have p272 : 0 ≤ (x15_1 : Int) := od_
      have q272 : x15_1 < (l0_0.length : Int) := od_
      obtain ⟨ad272, e272, hx272_0, hx272_1, hx272_2, hx272_3, hx272_4⟩ := at_T71 (Kd.C_below HR0_0.out HB.out) x15_1 p272 q272
      cases e272
      replace p272 := eq_true p272
      replace q272 := eq_true q272
      go_upto_if 38 with (first | ((with_reducible refine gate_dst (N := 4) rfl ?_); refine box_event ?hg (N := 4) ?hd (cs := #[.int .i64 0, .int .i64 0, .int .i64 0, .int .i64 0, .int .i64 0]) (t := 71) ?hr ?_; (case hd => rfl); (case hg => rfl); (case hr => first | (go_simp; done) | (go_simp; rfl)); intro gb273 hg w54 hbox hb; have BK273 := Aside0.mk (hbox); have GW273 := gs_ hg; have GE273 := gs_ hg; replace HB := hbs_ hb; have NB270_273 := nl_ hg BK270; have NB273_270 := nr_ hg BK270; replace BK270 := bkb_ BK270 hb; clear hb hbox hg; have hnb55 := NB273_270.out; have hnc55 := NB270_273.out; have hcz56 := blk_cell BK273.out; have hfz56 := blk_frozen BK273.out) | ((with_reducible refine gate_dst (N := 5) rfl ?_); refine box_event ?hg (N := 5) ?hd (cs := #[.int .i64 0, .int .i64 0]) (t := 27) ?hr ?_; (case hd => rfl); (case hg => rfl); (case hr => first | (go_simp; done) | (go_simp; rfl)); intro gb274 hg w57 hbox hb; have BK274 := Aside0.mk (hbox); have GW274 := gs_ hg; have GE274 := gs_ hg; replace HB := hbs_ hb; have NB270_274 := nl_ hg BK270; have NB274_270 := nr_ hg BK270; replace BK270 := Aside0.mk (blk_below (g := gb270) (o := .cells #[.slice (some ad272) l0_0.length c0_0] 68 (0, 0)) (bk_ BK270) hb); have NB273_274 := nl_ hg BK273; have NB274_273 := nr_ hg BK273; replace BK273 := Aside0.mk (blk_below (g := gb273) (o := .cells #[.int .i64 ((rd_T71 l0_0 x15_1).f0), .int .i64 ((rd_T71 l0_0 x15_1).f1.f0), .int .i64 ((rd_T71 l0_0 x15_1).f1.f1), .int .i64 ((rd_T71 l0_0 x15_1).f2), .int .i64 ((rd_T71 l0_0 x15_1).f3)] 71 (0, 0)) (bk_ BK273) hb); clear hb hbox hg; have hnb58 := NB274_270.out; have hnc58 := NB270_274.out; have hnb59 := NB274_273.out; have hnc59 := NB273_274.out; have hcz60 := blk_cell BK274.out; have hfz60 := blk_frozen BK274.out; have hcz61 := blk_cell BK273.out; have hfz61 := blk_frozen BK273.out))
      (try simp only [Act.put, List.setIfInBounds_toArray, List.set_cons_zero, List.set_cons_succ])
      go_cut [38] (fun v38 wc => ∃ (kq : Nat) (x38_52 : Bool), v38 = .bool x38_52 ∧ Aside0 (impl_PolicyOk.j1 kq x15_1 false l0_0 (l0_0.length : Int) x15_1 ((rd_T71 l0_0 x15_1).f0) x38_52 ((rd_T71 l0_0 x15_1).f0) ((rd_T71 l0_0 x15_1).f1.f0) ((rd_T71 l0_0 x15_1).f1.f1) ((rd_T71 l0_0 x15_1).f2) ((rd_T71 l0_0 x15_1).f3) 0 0 = some r) ∧ Aside0 (kq ≤ k1) ∧ Aside0 (wc.heap[gb270]? = some (.cells #[(.slice (some ad272) l0_0.length c0_0)] 68 (0, 0))) ∧ Aside0 (wc.heap[gb273]? = some (.cells #[.int .i64 ((rd_T71 l0_0 x15_1).f0), .int .i64 ((rd_T71 l0_0 x15_1).f1.f0), .int .i64 ((rd_T71 l0_0 x15_1).f1.f1), .int .i64 ((rd_T71 l0_0 x15_1).f2), .int .i64 ((rd_T71 l0_0 x15_1).f3)] 71 (0, 0))) ∧ Aside0 (wc.heap[gb274]? = some (.cells #[.int .i64 0, .int .i64 0] 27 (0, 0))) ∧ Aside0 (Below w.heap.size w wc))
      case first =>
       have H := HC53.out
       clear HC53
       by_cases c62 : ((rd_T71 l0_0 x15_1).f0) = 2
       ·rw [if_pos c62] at H
        have c62b0 : (((rd_T71 l0_0 x15_1).f0) == 2) = true := beq_iff_eq.mpr c62
        have c62b1 : (((rd_T71 l0_0 x15_1).f0) != 2) = false := bne_eq_false_iff_eq.mpr c62
        clear c62
        (first | rw [c62b0] | (simp only [i64_w, i32_w]; rw [c62b0]) | skip)
        have H' := Aside0.mk H
        clear H
        go_wp2
        go_meet
        case rel => exact ⟨_, ((((rd_T71 l0_0 x15_1).f0) == 2)), rf_, H', ⟨by have := HK1.out; first | omega | exact Nat.le_refl _⟩, ⟨bk_ BK270⟩, ⟨bk_ BK273⟩, ⟨bk_ BK274⟩, ⟨bl_⟩⟩
       ·rw [if_neg c62] at H
        have c62b0 : (((rd_T71 l0_0 x15_1).f0) == 2) = false := beq_eq_false_iff_ne.mpr c62
        have c62b1 : (((rd_T71 l0_0 x15_1).f0) != 2) = true := bne_iff_ne.mpr c62
        (first | rw [c62b0] | (simp only [i64_w, i32_w]; rw [c62b0]) | skip)
        have H' := Aside0.mk H
        clear H
        go_wp2
        go_meet
        case rel => exact ⟨_, ((((rd_T71 l0_0 x15_1).f0) == 3)), rf_, H', ⟨by have := HK1.out; first | omega | exact Nat.le_refl _⟩, ⟨bk_ BK270⟩, ⟨bk_ BK273⟩, ⟨bk_ BK274⟩, ⟨bl_⟩⟩
      case rest =>
       clear HC53
       try clear c1
       try clear c2
       try clear p2
       try clear q2
       try clear hx2
       try clear c3
       try clear c4
       try clear c5
       try clear c6
       try clear c6b0
       try clear p6
       try clear c7
       try clear c7b0
       try clear c8
       try clear c8b0
       try clear c9
       try clear c9b0
       try clear c9b1
       try clear c10
       try clear c11
       try clear c12
       try clear c12b0
       try clear c12b1
       try clear c13
       try clear c13b0
       try clear c13b1
       try clear c15
       try clear c18
       try clear c19
       try clear c25
       try clear p27
       try clear q27
       try clear hx27
       try clear c28
       try clear c29
       try clear c35
       try clear c38
       try clear c39
       try clear c45
       try clear c48
       try clear c49
       try clear c55
       try clear c58
       try clear c59
       try clear c62
       try clear c62b0
       try clear c62b1
       try clear hcz16
       try clear hcz20
       try clear hcz21
       try clear hcz23
       try clear hcz26
       try clear hcz30
       try clear hcz31
       try clear hcz33
       try clear hcz36
       try clear hcz40
       try clear hcz41
       try clear hcz43
       try clear hcz46
       try clear hcz50
       try clear hcz51
       try clear hcz56
       try clear hcz5
       try clear hcz60
       try clear hcz61
       try clear hfz16
       try clear hfz20
       try clear hfz21
       try clear hfz23
       try clear hfz26
       try clear hfz30
       try clear hfz31
       try clear hfz33
       try clear hfz36
       try clear hfz40
       try clear hfz41
       try clear hfz43
       try clear hfz46
       try clear hfz50
       try clear hfz51
       try clear hfz56
       try clear hfz5
       try clear hfz60
       try clear hfz61
       try clear hx272_0
       try clear hx272_1
       try clear hx272_2
       try clear hx272_3
       try clear hx272_4
       try clear p2
       try clear p272
       try clear q272
       obtain ⟨kq, x38_52, rfl, HA, HJ52, BK270, BK273, BK274, HB⟩ := hcut
       cases kq with
       | zero => exact absurd HA.out (by simp [impl_PolicyOk.j1])
       | succ kj52 =>
        have H := HA.out
        clear HA
        simp only [impl_PolicyOk.j1] at H
        by_cases c63 : x38_52 = true
        ·subst c63
         replace H := ite_t_ H
         by_cases c64 : (((rd_T71 l0_0 x15_1).f1.f0) == 0 && (((rd_T71 l0_0 x15_1).f1.f1) == 0)) = true
         ·rw [if_pos c64] at H
          have c64b0 : (((rd_T71 l0_0 x15_1).f1.f0) == 0 && (((rd_T71 l0_0 x15_1).f1.f1) == 0)) = true := c64
          (try (have c64b1 : decide (((rd_T71 l0_0 x15_1).f1.f0) = 0 && (((rd_T71 l0_0 x15_1).f1.f1) == 0)) = true := by simpa using c64))
          (try (have c64b2 : (((rd_T71 l0_0 x15_1).f1.f0) == 0 && (((rd_T71 l0_0 x15_1).f1.f1) == 0)) = true := by simpa using c64))
          clear c64
          obtain ⟨t276, A65, H⟩ := bindE_ H
          by_cases c66 : t276 = true
          ·subst c66
           replace H := ite_t_ H
           obtain ⟨t277, A67, H⟩ := bindE_ H
           by_cases c68 : t277 = true
           ·subst c68
            replace H := ite_t_ H
            have H' := Aside0.mk H
            clear H
            have hnb69 := NB273_270.out
            have hnc69 := NB270_273.out
            have hnb70 := NB273_274.out
            have hnc70 := NB274_273.out
            have hcz71 := blk_cell BK273.out
            have hfz71 := blk_frozen BK273.out
            have hnb72 := NB274_270.out
            have hnc72 := NB270_274.out
            have hcz73 := blk_cell BK274.out
            have hfz73 := blk_frozen BK274.out
            go_wp2_with (first | (go_at_call 83; (with_reducible refine (impl_in.calls ((rd_T71 l0_0 x15_1).f2) 0 (wrap64 (x15_1 - 1)) true _ A65.out).mono ?_); rintro e w' ⟨rfl, ⟨nd, rfl⟩⟩) | (go_at_call 83; (with_reducible refine (impl_in.calls ((rd_T71 l0_0 x15_1).f3) 0 (wrap64 (x15_1 - 1)) true _ A67.out).mono ?_); rintro e w' ⟨rfl, ⟨nd, rfl⟩⟩))
            go_roundg kj52
            case measure => have := HK1.out; have := HJ52.out; omega
            case rel => exact ⟨(wrap64 (x15_1 + 1)), rf_, H', ⟨by have := HK1.out; have := HJ52.out; omega⟩, ⟨bk_ BK270⟩, ⟨bl_⟩⟩
           ·replace c68 := Bool.eq_false_iff.mpr c68
            subst c68
            replace H := ite_f_ H
            obtain rfl := Option.some.inj H
            have hnb74 := NB273_270.out
            have hnc74 := NB270_273.out
            have hnb75 := NB273_274.out
            have hnc75 := NB274_273.out
            have hcz76 := blk_cell BK273.out
            have hfz76 := blk_frozen BK273.out
            have hnb77 := NB274_270.out
            have hnc77 := NB270_274.out
            have hcz78 := blk_cell BK274.out
            have hfz78 := blk_frozen BK274.out
            go_wp2_with (first | (go_at_call 83; (with_reducible refine (impl_in.calls ((rd_T71 l0_0 x15_1).f2) 0 (wrap64 (x15_1 - 1)) true _ A65.out).mono ?_); rintro e w' ⟨rfl, ⟨nd, rfl⟩⟩) | (go_at_call 83; (with_reducible refine (impl_in.calls ((rd_T71 l0_0 x15_1).f3) 0 (wrap64 (x15_1 - 1)) false _ A67.out).mono ?_); rintro e w' ⟨rfl, ⟨nd, rfl⟩⟩))
            go_ret
            exact ⟨eq_, bl_⟩
          ·replace c66 := Bool.eq_false_iff.mpr c66
           subst c66
           replace H := ite_f_ H
           obtain rfl := Option.some.inj H
           have hnb79 := NB273_270.out
           have hnc79 := NB270_273.out
           have hnb80 := NB273_274.out
           have hnc80 := NB274_273.out
           have hcz81 := blk_cell BK273.out
           have hfz81 := blk_frozen BK273.out
           have hnb82 := NB274_270.out
           have hnc82 := NB270_274.out
           have hcz83 := blk_cell BK274.out
           have hfz83 := blk_frozen BK274.out
           go_wp2_with (first | (go_at_call 83; (with_reducible refine (impl_in.calls ((rd_T71 l0_0 x15_1).f2) 0 (wrap64 (x15_1 - 1)) false _ A65.out).mono ?_); rintro e w' ⟨rfl, ⟨nd, rfl⟩⟩))
           go_ret
           exact ⟨eq_, bl_⟩
         ·rw [if_neg c64] at H
          have c64b0 : (((rd_T71 l0_0 x15_1).f1.f0) == 0 && (((rd_T71 l0_0 x15_1).f1.f1) == 0)) = false := by simpa using c64
          (try (have c64b1 : decide (((rd_T71 l0_0 x15_1).f1.f0) = 0 && (((rd_T71 l0_0 x15_1).f1.f1) == 0)) = false := by simpa using c64))
          (try (have c64b2 : (((rd_T71 l0_0 x15_1).f1.f0) == 0 && (((rd_T71 l0_0 x15_1).f1.f1) == 0)) = false := by simpa using c64))
          (try (have c64b3 : ¬ (((rd_T71 l0_0 x15_1).f1.f0) = 0 && (((rd_T71 l0_0 x15_1).f1.f1) == 0)) := by simpa using c64))
          clear c64
          obtain rfl := Option.some.inj H
          have hnb84 := NB273_270.out
          have hnc84 := NB270_273.out
          have hnb85 := NB273_274.out
          have hnc85 := NB274_273.out
          have hcz86 := blk_cell BK273.out
          have hfz86 := blk_frozen BK273.out
          have hnb87 := NB274_270.out
          have hnc87 := NB270_274.out
          have hcz88 := blk_cell BK274.out
          have hfz88 := blk_frozen BK274.out
          go_wp2
          go_ret
          exact ⟨eq_, bl_⟩
        ·replace c63 := Bool.eq_false_iff.mpr c63
         subst c63
         replace H := ite_f_ H
         by_cases c89 : ((rd_T71 l0_0 x15_1).f0) = 4
         ·rw [if_pos c89] at H
          have c89b0 : (((rd_T71 l0_0 x15_1).f0) == 4) = true := beq_iff_eq.mpr c89
          have c89b1 : (((rd_T71 l0_0 x15_1).f0) != 4) = false := bne_eq_false_iff_eq.mpr c89
          clear c89
          by_cases c90 : (((rd_T71 l0_0 x15_1).f1.f0) == 0 && (((rd_T71 l0_0 x15_1).f1.f1) == 0)) = true
          ·rw [if_pos c90] at H
           have c90b0 : (((rd_T71 l0_0 x15_1).f1.f0) == 0 && (((rd_T71 l0_0 x15_1).f1.f1) == 0)) = true := c90
           (try (have c90b1 : decide (((rd_T71 l0_0 x15_1).f1.f0) = 0 && (((rd_T71 l0_0 x15_1).f1.f1) == 0)) = true := by simpa using c90))
           (try (have c90b2 : (((rd_T71 l0_0 x15_1).f1.f0) == 0 && (((rd_T71 l0_0 x15_1).f1.f1) == 0)) = true := by simpa using c90))
           clear c90
           obtain ⟨t278, A91, H⟩ := bindE_ H
           by_cases c92 : t278 = true
           ·subst c92
            replace H := ite_t_ H
            by_cases c93 : ((rd_T71 l0_0 x15_1).f3) = 0
            ·rw [if_pos c93] at H
             have c93b0 : (((rd_T71 l0_0 x15_1).f3) == 0) = true := beq_iff_eq.mpr c93
             have c93b1 : (((rd_T71 l0_0 x15_1).f3) != 0) = false := bne_eq_false_iff_eq.mpr c93
             clear c93
             have H' := Aside0.mk H
             clear H
             have hnb94 := NB273_270.out
             have hnc94 := NB270_273.out
             have hnb95 := NB273_274.out
             have hnc95 := NB274_273.out
             have hcz96 := blk_cell BK273.out
             have hfz96 := blk_frozen BK273.out
             have hnb97 := NB274_270.out
             have hnc97 := NB270_274.out
             have hcz98 := blk_cell BK274.out
             have hfz98 := blk_frozen BK274.out
             go_wp2_with (first | (go_at_call 83; (with_reducible refine (impl_in.calls ((rd_T71 l0_0 x15_1).f2) 0 (wrap64 (x15_1 - 1)) true _ A91.out).mono ?_); rintro e w' ⟨rfl, ⟨nd, rfl⟩⟩))
             go_roundg kj52
             case measure => have := HK1.out; have := HJ52.out; omega
             case rel => exact ⟨(wrap64 (x15_1 + 1)), rf_, H', ⟨by have := HK1.out; have := HJ52.out; omega⟩, ⟨bk_ BK270⟩, ⟨bl_⟩⟩
            ·rw [if_neg c93] at H
             have c93b0 : (((rd_T71 l0_0 x15_1).f3) == 0) = false := beq_eq_false_iff_ne.mpr c93
             have c93b1 : (((rd_T71 l0_0 x15_1).f3) != 0) = true := bne_iff_ne.mpr c93
             obtain rfl := Option.some.inj H
             have hnb99 := NB273_270.out
             have hnc99 := NB270_273.out
             have hnb100 := NB273_274.out
             have hnc100 := NB274_273.out
             have hcz101 := blk_cell BK273.out
             have hfz101 := blk_frozen BK273.out
             have hnb102 := NB274_270.out
             have hnc102 := NB270_274.out
             have hcz103 := blk_cell BK274.out
             have hfz103 := blk_frozen BK274.out
             go_wp2_with (first | (go_at_call 83; (with_reducible refine (impl_in.calls ((rd_T71 l0_0 x15_1).f2) 0 (wrap64 (x15_1 - 1)) true _ A91.out).mono ?_); rintro e w' ⟨rfl, ⟨nd, rfl⟩⟩))
             go_ret
             exact ⟨eq_, bl_⟩
           ·replace c92 := Bool.eq_false_iff.mpr c92
            subst c92
            replace H := ite_f_ H
            obtain rfl := Option.some.inj H
            have hnb104 := NB273_270.out
            have hnc104 := NB270_273.out
            have hnb105 := NB273_274.out
            have hnc105 := NB274_273.out
            have hcz106 := blk_cell BK273.out
            have hfz106 := blk_frozen BK273.out
            have hnb107 := NB274_270.out
            have hnc107 := NB270_274.out
            have hcz108 := blk_cell BK274.out
            have hfz108 := blk_frozen BK274.out
            go_wp2_with (first | (go_at_call 83; (with_reducible refine (impl_in.calls ((rd_T71 l0_0 x15_1).f2) 0 (wrap64 (x15_1 - 1)) false _ A91.out).mono ?_); rintro e w' ⟨rfl, ⟨nd, rfl⟩⟩))
            go_ret
            exact ⟨eq_, bl_⟩
          ·rw [if_neg c90] at H
           have c90b0 : (((rd_T71 l0_0 x15_1).f1.f0) == 0 && (((rd_T71 l0_0 x15_1).f1.f1) == 0)) = false := by simpa using c90
           (try (have c90b1 : decide (((rd_T71 l0_0 x15_1).f1.f0) = 0 && (((rd_T71 l0_0 x15_1).f1.f1) == 0)) = false := by simpa using c90))
           (try (have c90b2 : (((rd_T71 l0_0 x15_1).f1.f0) == 0 && (((rd_T71 l0_0 x15_1).f1.f1) == 0)) = false := by simpa using c90))
           (try (have c90b3 : ¬ (((rd_T71 l0_0 x15_1).f1.f0) = 0 && (((rd_T71 l0_0 x15_1).f1.f1) == 0)) := by simpa using c90))
           clear c90
           obtain rfl := Option.some.inj H
           have hnb109 := NB273_270.out
           have hnc109 := NB270_273.out
           have hnb110 := NB273_274.out
           have hnc110 := NB274_273.out
           have hcz111 := blk_cell BK273.out
           have hfz111 := blk_frozen BK273.out
           have hnb112 := NB274_270.out
           have hnc112 := NB270_274.out
           have hcz113 := blk_cell BK274.out
           have hfz113 := blk_frozen BK274.out
           go_wp2
           go_ret
           exact ⟨eq_, bl_⟩
         ·rw [if_neg c89] at H
          have c89b0 : (((rd_T71 l0_0 x15_1).f0) == 4) = false := beq_eq_false_iff_ne.mpr c89
          have c89b1 : (((rd_T71 l0_0 x15_1).f0) != 4) = true := bne_iff_ne.mpr c89
          replace H := ite_f_ H
          obtain rfl := Option.some.inj H
          go_wp2
          go_ret
          exact ⟨eq_, bl_⟩
    ·rw [if_neg c6] at H
     have c6b0 : decide (x15_1 < (l0_0.length : Int)) = false := decide_eq_false c6
     clear c6
     obtain rfl := Option.some.inj H
     go_wp2
     go_ret
     exact ⟨eq_, bl_⟩
 ·replace c3 := Bool.eq_false_iff.mpr c3
  subst c3
  replace H := ite_f_ H
  obtain rfl := Option.some.inj H
  go_enter Try.func49, Try.ntmps49
  go_wp2_with (first | ((with_reducible refine gate_dst (N := 1) rfl ?_); refine box_event ?hg (N := 1) ?hd (cs := #[.slice A0_0 l0_0.length c0_0]) (t := 68) ?hr ?_; (case hd => rfl); (case hg => rfl); (case hr => first | (go_simp; done) | (go_simp; rfl)); intro gb270 hg w114 hbox hb; have BK270 := Aside0.mk (hbox); have GW270 := gs_ hg; have GE270 := gs_ hg; replace HB := hbs_ hb; clear hb hbox hg; have hcz115 := blk_cell BK270.out; have hfz115 := blk_frozen BK270.out) | ((with_reducible refine gate_callee (f := 83) rfl ?_); refine goesC_ (some 10) Try.func83 #[.int .i64 (l0_0.length : Int), .int .i64 1, .int .i64 40] ?_; (with_reducible refine (impl_in.calls (l0_0.length : Int) 1 40 false _ A2.out).mono ?_); rintro e w' ⟨rfl, ⟨nd, rfl⟩⟩; refine ⟨_, rfl, ?_⟩))
  go_ret
  exact ⟨eq_, bl_⟩
end Go.Proofs.Ytppdmcimddhbaaa.PE
