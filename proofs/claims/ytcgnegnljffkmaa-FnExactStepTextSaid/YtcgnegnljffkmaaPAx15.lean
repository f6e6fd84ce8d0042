-- A text of this claim: written by the session's own program out of the translation (wip/tools). Lean checks it.
import Derived.Test.YtcgnegnljffkmaaPAx0
import Derived.Test.YtcgnegnljffkmaaPAx1
import Derived.Test.YtcgnegnljffkmaaPAx10
import Derived.Test.YtcgnegnljffkmaaPAx12
import Derived.Test.YtcgnegnljffkmaaPAx13
import Derived.Test.YtcgnegnljffkmaaPAx14
namespace Go.Proofs.Ytcgnegnljffkmaa.PA
open Go.RowKit Go.Proofs.YtcgnegnljffkmaaW.PrintWords Go.Proofs.YtcgnegnljffkmaaW.PrintLast Go.Proofs.YtcgnegnljffkmaaW.PrintMore
attribute [local go_sem] max2_int min2_int max_two min_two max_three min_three max_four min_four   -- for this text's walks alone
set_option linter.unusedVariables false
set_option linter.unusedSimpArgs false

attribute [local go_sem high] eqA27
/-! ### laws_eqStep: function 48 -/
def laws_eqStep.f (k : Nat) (a0_0 : Int) (a0_1 : Int) (a0_2 : Int) (a0_3 : Int) (a0_4 : Int) (a0_5 : Int) (a0_6 : Int) (a0_7 : Int) (a0_8 : Int) (a0_9 : Int) (a0_10 : Int) (a0_11 : Int) (a0_12 : Int) (l0_13 : List Int) (a1_0 : Int) (a1_1 : Int) (a1_2 : Int) (a1_3 : Int) (a1_4 : Int) (a1_5 : Int) (a1_6 : Int) (a1_7 : Int) (a1_8 : Int) (a1_9 : Int) (a1_10 : Int) (a1_11 : Int) (a1_12 : Int) (l1_13 : List Int) : Option (Bool) := (laws_eqCred.f a0_0 a0_1 a0_2 a0_3 a0_4 a0_5 a0_6 a0_7 a0_8 a0_9 a1_0 a1_1 a1_2 a1_3 a1_4 a1_5 a1_6 a1_7 a1_8 a1_9).bind fun t484 => (if t484 = true then ((laws_eqFact.f a0_10 a0_11 a0_12 a1_10 a1_11 a1_12).bind fun t485 => (if t485 = true then ((laws_eqIntS.f k l0_13 l1_13).bind fun t486 => (if t486 = true then (some true) else (some false))) else (some false))) else (some false))
theorem laws_eqStep.mono : ∀ a0 a1 a2 a3 a4 a5 a6 a7 a8 a9 a10 a11 a12 a13 a14 a15 a16 a17 a18 a19 a20 a21 a22 a23 a24 a25 a26 a27 k, LeO (laws_eqStep.f k a0 a1 a2 a3 a4 a5 a6 a7 a8 a9 a10 a11 a12 a13 a14 a15 a16 a17 a18 a19 a20 a21 a22 a23 a24 a25 a26 a27) (laws_eqStep.f (k + 1) a0 a1 a2 a3 a4 a5 a6 a7 a8 a9 a10 a11 a12 a13 a14 a15 a16 a17 a18 a19 a20 a21 a22 a23 a24 a25 a26 a27) := by
  intro a0 a1 a2 a3 a4 a5 a6 a7 a8 a9 a10 a11 a12 a13 a14 a15 a16 a17 a18 a19 a20 a21 a22 a23 a24 a25 a26 a27 k
  unfold laws_eqStep.f
  repeat' first
      | (with_reducible exact laws_eqIntS.mono _ _ _)
      | (with_reducible exact LeO.refl _)
      | (with_reducible exact LeO.none _)
      | (with_reducible refine LeO.ite ?_ ?_)
      | (with_reducible refine LeO.bind ?_ (fun _ => ?_))
      | exact laws_eqIntS.mono _ _ _
      | exact LeO.none _
      | refine LeO.ite ?_ ?_
      | refine LeO.bind ?_ (fun _ => ?_)
set_option maxHeartbeats 8000000 in
set_option maxRecDepth 100000 in
theorem laws_eqStep.calls (k : Nat) (a0_0 : Int) (a0_1 : Int) (a0_2 : Int) (a0_3 : Int) (a0_4 : Int) (a0_5 : Int) (a0_6 : Int) (a0_7 : Int) (a0_8 : Int) (a0_9 : Int) (a0_10 : Int) (a0_11 : Int) (a0_12 : Int) (A0_13 : Option Addr) (c0_13 : Nat) (l0_13 : List Int) (a1_0 : Int) (a1_1 : Int) (a1_2 : Int) (a1_3 : Int) (a1_4 : Int) (a1_5 : Int) (a1_6 : Int) (a1_7 : Int) (a1_8 : Int) (a1_9 : Int) (a1_10 : Int) (a1_11 : Int) (a1_12 : Int) (A1_13 : Option Addr) (c1_13 : Nat) (l1_13 : List Int) (r : Bool) (w : World) (hr0_13 : Kd.C (Kd.int .i64) w A0_13 l0_13.length l0_13) (hc0_13 : l0_13.length ≤ c0_13) (hr1_13 : Kd.C (Kd.int .i64) w A1_13 l1_13.length l1_13) (hc1_13 : l1_13.length ≤ c1_13) (h : laws_eqStep.f k a0_0 a0_1 a0_2 a0_3 a0_4 a0_5 a0_6 a0_7 a0_8 a0_9 a0_10 a0_11 a0_12 l0_13 a1_0 a1_1 a1_2 a1_3 a1_4 a1_5 a1_6 a1_7 a1_8 a1_9 a1_10 a1_11 a1_12 l1_13 = some r) :
    Calls Try.prog 48 #[.agg #[.int .i64 a0_0, .int .i64 a0_1, .int .i64 a0_2, .int .i64 a0_3, .int .i64 a0_4, .int .i64 a0_5, .int .i64 a0_6, .int .i64 a0_7, .int .i64 a0_8, .int .i64 a0_9, .int .i64 a0_10, .int .i64 a0_11, .int .i64 a0_12, .slice A0_13 l0_13.length c0_13], .agg #[.int .i64 a1_0, .int .i64 a1_1, .int .i64 a1_2, .int .i64 a1_3, .int .i64 a1_4, .int .i64 a1_5, .int .i64 a1_6, .int .i64 a1_7, .int .i64 a1_8, .int .i64 a1_9, .int .i64 a1_10, .int .i64 a1_11, .int .i64 a1_12, .slice A1_13 l1_13.length c1_13]] w fun e w' => e = .returned (.bool r) ∧ Below w.heap.size w w' := by
  have hu77 := Try.underlying77
  have hu29 := Try.underlying29
  have hu55 := Try.underlying55
  have HR0_13 := Aside0.mk hr0_13
  have HC0_13 := Aside0.mk hc0_13
  clear hr0_13 hc0_13
  have HR1_13 := Aside0.mk hr1_13
  have HC1_13 := Aside0.mk hc1_13
  clear hr1_13 hc1_13
  have HB := Aside0.mk (Below.refl w.heap.size w)
  have H : ((laws_eqCred.f a0_0 a0_1 a0_2 a0_3 a0_4 a0_5 a0_6 a0_7 a0_8 a0_9 a1_0 a1_1 a1_2 a1_3 a1_4 a1_5 a1_6 a1_7 a1_8 a1_9).bind fun t484 => (if t484 = true then ((laws_eqFact.f a0_10 a0_11 a0_12 a1_10 a1_11 a1_12).bind fun t485 => (if t485 = true then ((laws_eqIntS.f k l0_13 l1_13).bind fun t486 => (if t486 = true then (some true) else (some false))) else (some false))) else (some false))) = some r := h
  clear h
  obtain ⟨t484, A3, H⟩ := bindE_ H
  by_cases c4 : t484 = true
  · subst c4
    replace H := ite_t_ H
    obtain ⟨t485, A5, H⟩ := bindE_ H
    by_cases c6 : t485 = true
    · subst c6
      replace H := ite_t_ H
      obtain ⟨t486, A7, H⟩ := bindE_ H
      by_cases c8 : t486 = true
      · subst c8
        replace H := ite_t_ H
        obtain rfl := Option.some.inj H
        go_enter Try.func48, Try.ntmps48
        go_wp2_with (first | ((with_reducible refine gate_dst (N := 2) rfl ?_); refine box_event ?hg (N := 2) ?hd (cs := #[.int .i64 a0_0, .int .i64 a0_1, .int .i64 a0_2, .int .i64 a0_3, .int .i64 a0_4, .int .i64 a0_5, .int .i64 a0_6, .int .i64 a0_7, .int .i64 a0_8, .int .i64 a0_9, .int .i64 a0_10, .int .i64 a0_11, .int .i64 a0_12, .slice A0_13 l0_13.length c0_13]) (t := 77) ?hr ?_; (case hd => rfl); (case hg => rfl); (case hr => first | (go_simp; done) | (go_simp; rfl)); intro gb482 hg w9 hbox hb; have BK482 := Aside0.mk (hbox); have GW482 := gs_ hg; have GE482 := gs_ hg; replace HB := hbs_ hb; clear hb hbox hg) | ((with_reducible refine gate_dst (N := 3) rfl ?_); refine box_event ?hg (N := 3) ?hd (cs := #[.int .i64 a1_0, .int .i64 a1_1, .int .i64 a1_2, .int .i64 a1_3, .int .i64 a1_4, .int .i64 a1_5, .int .i64 a1_6, .int .i64 a1_7, .int .i64 a1_8, .int .i64 a1_9, .int .i64 a1_10, .int .i64 a1_11, .int .i64 a1_12, .slice A1_13 l1_13.length c1_13]) (t := 77) ?hr ?_; (case hd => rfl); (case hg => rfl); (case hr => first | (go_simp; done) | (go_simp; rfl)); intro gb483 hg w10 hbox hb; have BK483 := Aside0.mk (hbox); have GW483 := gs_ hg; have GE483 := gs_ hg; replace HB := hbs_ hb; have NB482_483 := Aside0.mk ((by rw [hg]; exact Nat.ne_of_lt (blk_lt (g := gb482) (o := .cells #[.int .i64 a0_0, .int .i64 a0_1, .int .i64 a0_2, .int .i64 a0_3, .int .i64 a0_4, .int .i64 a0_5, .int .i64 a0_6, .int .i64 a0_7, .int .i64 a0_8, .int .i64 a0_9, .int .i64 a0_10, .int .i64 a0_11, .int .i64 a0_12, .slice A0_13 l0_13.length c0_13] 77 (0, 0)) (bk_ BK482)) : gb482 ≠ gb483)); have NB483_482 := Aside0.mk ((by rw [hg]; exact Nat.ne_of_gt (blk_lt (g := gb482) (o := .cells #[.int .i64 a0_0, .int .i64 a0_1, .int .i64 a0_2, .int .i64 a0_3, .int .i64 a0_4, .int .i64 a0_5, .int .i64 a0_6, .int .i64 a0_7, .int .i64 a0_8, .int .i64 a0_9, .int .i64 a0_10, .int .i64 a0_11, .int .i64 a0_12, .slice A0_13 l0_13.length c0_13] 77 (0, 0)) (bk_ BK482)) : gb483 ≠ gb482)); replace BK482 := bkb_ BK482 hb; clear hb hbox hg; have hnb11 := NB482_483.out; have hnc11 := NB483_482.out; have hcz12 := blk_cell BK482.out; have hfz12 := blk_frozen BK482.out; have hcz13 := blk_cell BK483.out; have hfz13 := blk_frozen BK483.out) | ((with_reducible refine gate_callee (f := 87) rfl ?_); refine goesC_ (some 9) Try.func87 #[.agg #[.int .i64 a0_0, .int .i64 a0_1, .int .i64 a0_2, .int .i64 a0_3, .int .i64 a0_4, .int .i64 a0_5, .int .i64 a0_6, .int .i64 a0_7, .int .i64 a0_8, .int .i64 a0_9], .agg #[.int .i64 a1_0, .int .i64 a1_1, .int .i64 a1_2, .int .i64 a1_3, .int .i64 a1_4, .int .i64 a1_5, .int .i64 a1_6, .int .i64 a1_7, .int .i64 a1_8, .int .i64 a1_9]] ?_; (with_reducible refine (laws_eqCred.calls a0_0 a0_1 a0_2 a0_3 a0_4 a0_5 a0_6 a0_7 a0_8 a0_9 a1_0 a1_1 a1_2 a1_3 a1_4 a1_5 a1_6 a1_7 a1_8 a1_9 true _ A3.out).mono ?_); rintro e w14 ⟨rfl, hb⟩; refine ⟨_, rfl, ?_⟩; replace BK482 := bkb_ BK482 hb; replace BK483 := bkb_ BK483 hb; replace HB := hbs_ hb; clear hb; have hcz15 := blk_cell BK482.out; have hfz15 := blk_frozen BK482.out; have hcz16 := blk_cell BK483.out; have hfz16 := blk_frozen BK483.out) | ((with_reducible refine gate_callee (f := 110) rfl ?_); refine goesC_ (some 15) Try.func110 #[.agg #[.int .i64 a0_10, .int .i64 a0_11, .int .i64 a0_12], .agg #[.int .i64 a1_10, .int .i64 a1_11, .int .i64 a1_12]] ?_; (with_reducible refine (laws_eqFact.calls a0_10 a0_11 a0_12 a1_10 a1_11 a1_12 true _ A5.out).mono ?_); rintro e w17 ⟨rfl, hb⟩; refine ⟨_, rfl, ?_⟩; replace BK482 := bkb_ BK482 hb; replace BK483 := bkb_ BK483 hb; replace HB := hbs_ hb; clear hb; have hcz18 := blk_cell BK482.out; have hfz18 := blk_frozen BK482.out; have hcz19 := blk_cell BK483.out; have hfz19 := blk_frozen BK483.out) | ((with_reducible refine gate_callee (f := 111) rfl ?_); refine goesC_ (some 21) Try.func111 #[.slice A0_13 l0_13.length c0_13, .slice A1_13 l1_13.length c1_13] ?_; (with_reducible refine (laws_eqIntS.calls k _ _ l0_13 _ _ l1_13 true _ ?side1 ?side2 ?side3 ?side4 A7.out).mono ?_); (case side1 => repeat (first | exact (Kd.C_below HR0_13.out HB.out) | (with_reducible refine Kd.C_alloc ?_ _) | (with_reducible refine Kd.C_drewN ?_ _) | (with_reducible refine Kd.C_drew ?_))); (case side2 => exact HC0_13.out); (case side3 => repeat (first | exact (Kd.C_below HR1_13.out HB.out) | (with_reducible refine Kd.C_alloc ?_ _) | (with_reducible refine Kd.C_drewN ?_ _) | (with_reducible refine Kd.C_drew ?_))); (case side4 => exact HC1_13.out); rintro e w' ⟨rfl, ⟨nd, rfl⟩⟩; refine ⟨_, rfl, ?_⟩))
        go_ret
        exact ⟨eq_, bl_⟩
      · replace c8 := Bool.eq_false_iff.mpr c8
        subst c8
        replace H := ite_f_ H
        obtain rfl := Option.some.inj H
        go_enter Try.func48, Try.ntmps48
        go_wp2_with (first | ((with_reducible refine gate_dst (N := 2) rfl ?_); refine box_event ?hg (N := 2) ?hd (cs := #[.int .i64 a0_0, .int .i64 a0_1, .int .i64 a0_2, .int .i64 a0_3, .int .i64 a0_4, .int .i64 a0_5, .int .i64 a0_6, .int .i64 a0_7, .int .i64 a0_8, .int .i64 a0_9, .int .i64 a0_10, .int .i64 a0_11, .int .i64 a0_12, .slice A0_13 l0_13.length c0_13]) (t := 77) ?hr ?_; (case hd => rfl); (case hg => rfl); (case hr => first | (go_simp; done) | (go_simp; rfl)); intro gb482 hg w20 hbox hb; have BK482 := Aside0.mk (hbox); have GW482 := gs_ hg; have GE482 := gs_ hg; replace HB := hbs_ hb; clear hb hbox hg) | ((with_reducible refine gate_dst (N := 3) rfl ?_); refine box_event ?hg (N := 3) ?hd (cs := #[.int .i64 a1_0, .int .i64 a1_1, .int .i64 a1_2, .int .i64 a1_3, .int .i64 a1_4, .int .i64 a1_5, .int .i64 a1_6, .int .i64 a1_7, .int .i64 a1_8, .int .i64 a1_9, .int .i64 a1_10, .int .i64 a1_11, .int .i64 a1_12, .slice A1_13 l1_13.length c1_13]) (t := 77) ?hr ?_; (case hd => rfl); (case hg => rfl); (case hr => first | (go_simp; done) | (go_simp; rfl)); intro gb483 hg w21 hbox hb; have BK483 := Aside0.mk (hbox); have GW483 := gs_ hg; have GE483 := gs_ hg; replace HB := hbs_ hb; have NB482_483 := Aside0.mk ((by rw [hg]; exact Nat.ne_of_lt (blk_lt (g := gb482) (o := .cells #[.int .i64 a0_0, .int .i64 a0_1, .int .i64 a0_2, .int .i64 a0_3, .int .i64 a0_4, .int .i64 a0_5, .int .i64 a0_6, .int .i64 a0_7, .int .i64 a0_8, .int .i64 a0_9, .int .i64 a0_10, .int .i64 a0_11, .int .i64 a0_12, .slice A0_13 l0_13.length c0_13] 77 (0, 0)) (bk_ BK482)) : gb482 ≠ gb483)); have NB483_482 := Aside0.mk ((by rw [hg]; exact Nat.ne_of_gt (blk_lt (g := gb482) (o := .cells #[.int .i64 a0_0, .int .i64 a0_1, .int .i64 a0_2, .int .i64 a0_3, .int .i64 a0_4, .int .i64 a0_5, .int .i64 a0_6, .int .i64 a0_7, .int .i64 a0_8, .int .i64 a0_9, .int .i64 a0_10, .int .i64 a0_11, .int .i64 a0_12, .slice A0_13 l0_13.length c0_13] 77 (0, 0)) (bk_ BK482)) : gb483 ≠ gb482)); replace BK482 := bkb_ BK482 hb; clear hb hbox hg; have hnb22 := NB482_483.out; have hnc22 := NB483_482.out; have hcz23 := blk_cell BK482.out; have hfz23 := blk_frozen BK482.out; have hcz24 := blk_cell BK483.out; have hfz24 := blk_frozen BK483.out) | ((with_reducible refine gate_callee (f := 87) rfl ?_); refine goesC_ (some 9) Try.func87 #[.agg #[.int .i64 a0_0, .int .i64 a0_1, .int .i64 a0_2, .int .i64 a0_3, .int .i64 a0_4, .int .i64 a0_5, .int .i64 a0_6, .int .i64 a0_7, .int .i64 a0_8, .int .i64 a0_9], .agg #[.int .i64 a1_0, .int .i64 a1_1, .int .i64 a1_2, .int .i64 a1_3, .int .i64 a1_4, .int .i64 a1_5, .int .i64 a1_6, .int .i64 a1_7, .int .i64 a1_8, .int .i64 a1_9]] ?_; (with_reducible refine (laws_eqCred.calls a0_0 a0_1 a0_2 a0_3 a0_4 a0_5 a0_6 a0_7 a0_8 a0_9 a1_0 a1_1 a1_2 a1_3 a1_4 a1_5 a1_6 a1_7 a1_8 a1_9 true _ A3.out).mono ?_); rintro e w25 ⟨rfl, hb⟩; refine ⟨_, rfl, ?_⟩; replace BK482 := bkb_ BK482 hb; replace BK483 := bkb_ BK483 hb; replace HB := hbs_ hb; clear hb; have hcz26 := blk_cell BK482.out; have hfz26 := blk_frozen BK482.out; have hcz27 := blk_cell BK483.out; have hfz27 := blk_frozen BK483.out) | ((with_reducible refine gate_callee (f := 110) rfl ?_); refine goesC_ (some 15) Try.func110 #[.agg #[.int .i64 a0_10, .int .i64 a0_11, .int .i64 a0_12], .agg #[.int .i64 a1_10, .int .i64 a1_11, .int .i64 a1_12]] ?_; (with_reducible refine (laws_eqFact.calls a0_10 a0_11 a0_12 a1_10 a1_11 a1_12 true _ A5.out).mono ?_); rintro e w28 ⟨rfl, hb⟩; refine ⟨_, rfl, ?_⟩; replace BK482 := bkb_ BK482 hb; replace BK483 := bkb_ BK483 hb; replace HB := hbs_ hb; clear hb; have hcz29 := blk_cell BK482.out; have hfz29 := blk_frozen BK482.out; have hcz30 := blk_cell BK483.out; have hfz30 := blk_frozen BK483.out) | ((with_reducible refine gate_callee (f := 111) rfl ?_); refine goesC_ (some 21) Try.func111 #[.slice A0_13 l0_13.length c0_13, .slice A1_13 l1_13.length c1_13] ?_; (with_reducible refine (laws_eqIntS.calls k _ _ l0_13 _ _ l1_13 false _ ?side1 ?side2 ?side3 ?side4 A7.out).mono ?_); (case side1 => repeat (first | exact (Kd.C_below HR0_13.out HB.out) | (with_reducible refine Kd.C_alloc ?_ _) | (with_reducible refine Kd.C_drewN ?_ _) | (with_reducible refine Kd.C_drew ?_))); (case side2 => exact HC0_13.out); (case side3 => repeat (first | exact (Kd.C_below HR1_13.out HB.out) | (with_reducible refine Kd.C_alloc ?_ _) | (with_reducible refine Kd.C_drewN ?_ _) | (with_reducible refine Kd.C_drew ?_))); (case side4 => exact HC1_13.out); rintro e w' ⟨rfl, ⟨nd, rfl⟩⟩; refine ⟨_, rfl, ?_⟩))
        go_ret
        exact ⟨eq_, bl_⟩
    · replace c6 := Bool.eq_false_iff.mpr c6
      subst c6
      replace H := ite_f_ H
      obtain rfl := Option.some.inj H
      go_enter Try.func48, Try.ntmps48
      go_wp2_with (first | ((with_reducible refine gate_dst (N := 2) rfl ?_); refine box_event ?hg (N := 2) ?hd (cs := #[.int .i64 a0_0, .int .i64 a0_1, .int .i64 a0_2, .int .i64 a0_3, .int .i64 a0_4, .int .i64 a0_5, .int .i64 a0_6, .int .i64 a0_7, .int .i64 a0_8, .int .i64 a0_9, .int .i64 a0_10, .int .i64 a0_11, .int .i64 a0_12, .slice A0_13 l0_13.length c0_13]) (t := 77) ?hr ?_; (case hd => rfl); (case hg => rfl); (case hr => first | (go_simp; done) | (go_simp; rfl)); intro gb482 hg w31 hbox hb; have BK482 := Aside0.mk (hbox); have GW482 := gs_ hg; have GE482 := gs_ hg; replace HB := hbs_ hb; clear hb hbox hg) | ((with_reducible refine gate_dst (N := 3) rfl ?_); refine box_event ?hg (N := 3) ?hd (cs := #[.int .i64 a1_0, .int .i64 a1_1, .int .i64 a1_2, .int .i64 a1_3, .int .i64 a1_4, .int .i64 a1_5, .int .i64 a1_6, .int .i64 a1_7, .int .i64 a1_8, .int .i64 a1_9, .int .i64 a1_10, .int .i64 a1_11, .int .i64 a1_12, .slice A1_13 l1_13.length c1_13]) (t := 77) ?hr ?_; (case hd => rfl); (case hg => rfl); (case hr => first | (go_simp; done) | (go_simp; rfl)); intro gb483 hg w32 hbox hb; have BK483 := Aside0.mk (hbox); have GW483 := gs_ hg; have GE483 := gs_ hg; replace HB := hbs_ hb; have NB482_483 := Aside0.mk ((by rw [hg]; exact Nat.ne_of_lt (blk_lt (g := gb482) (o := .cells #[.int .i64 a0_0, .int .i64 a0_1, .int .i64 a0_2, .int .i64 a0_3, .int .i64 a0_4, .int .i64 a0_5, .int .i64 a0_6, .int .i64 a0_7, .int .i64 a0_8, .int .i64 a0_9, .int .i64 a0_10, .int .i64 a0_11, .int .i64 a0_12, .slice A0_13 l0_13.length c0_13] 77 (0, 0)) (bk_ BK482)) : gb482 ≠ gb483)); have NB483_482 := Aside0.mk ((by rw [hg]; exact Nat.ne_of_gt (blk_lt (g := gb482) (o := .cells #[.int .i64 a0_0, .int .i64 a0_1, .int .i64 a0_2, .int .i64 a0_3, .int .i64 a0_4, .int .i64 a0_5, .int .i64 a0_6, .int .i64 a0_7, .int .i64 a0_8, .int .i64 a0_9, .int .i64 a0_10, .int .i64 a0_11, .int .i64 a0_12, .slice A0_13 l0_13.length c0_13] 77 (0, 0)) (bk_ BK482)) : gb483 ≠ gb482)); replace BK482 := bkb_ BK482 hb; clear hb hbox hg; have hnb33 := NB482_483.out; have hnc33 := NB483_482.out; have hcz34 := blk_cell BK482.out; have hfz34 := blk_frozen BK482.out; have hcz35 := blk_cell BK483.out; have hfz35 := blk_frozen BK483.out) | ((with_reducible refine gate_callee (f := 87) rfl ?_); refine goesC_ (some 9) Try.func87 #[.agg #[.int .i64 a0_0, .int .i64 a0_1, .int .i64 a0_2, .int .i64 a0_3, .int .i64 a0_4, .int .i64 a0_5, .int .i64 a0_6, .int .i64 a0_7, .int .i64 a0_8, .int .i64 a0_9], .agg #[.int .i64 a1_0, .int .i64 a1_1, .int .i64 a1_2, .int .i64 a1_3, .int .i64 a1_4, .int .i64 a1_5, .int .i64 a1_6, .int .i64 a1_7, .int .i64 a1_8, .int .i64 a1_9]] ?_; (with_reducible refine (laws_eqCred.calls a0_0 a0_1 a0_2 a0_3 a0_4 a0_5 a0_6 a0_7 a0_8 a0_9 a1_0 a1_1 a1_2 a1_3 a1_4 a1_5 a1_6 a1_7 a1_8 a1_9 true _ A3.out).mono ?_); rintro e w36 ⟨rfl, hb⟩; refine ⟨_, rfl, ?_⟩; replace BK482 := bkb_ BK482 hb; replace BK483 := bkb_ BK483 hb; replace HB := hbs_ hb; clear hb; have hcz37 := blk_cell BK482.out; have hfz37 := blk_frozen BK482.out; have hcz38 := blk_cell BK483.out; have hfz38 := blk_frozen BK483.out) | ((with_reducible refine gate_callee (f := 110) rfl ?_); refine goesC_ (some 15) Try.func110 #[.agg #[.int .i64 a0_10, .int .i64 a0_11, .int .i64 a0_12], .agg #[.int .i64 a1_10, .int .i64 a1_11, .int .i64 a1_12]] ?_; (with_reducible refine (laws_eqFact.calls a0_10 a0_11 a0_12 a1_10 a1_11 a1_12 false _ A5.out).mono ?_); rintro e w39 ⟨rfl, hb⟩; refine ⟨_, rfl, ?_⟩; replace BK482 := bkb_ BK482 hb; replace BK483 := bkb_ BK483 hb; replace HB := hbs_ hb; clear hb))
      go_ret
      exact ⟨eq_, bl_⟩
  · replace c4 := Bool.eq_false_iff.mpr c4
    subst c4
    replace H := ite_f_ H
    obtain rfl := Option.some.inj H
    go_enter Try.func48, Try.ntmps48
    go_wp2_with (first | ((with_reducible refine gate_dst (N := 2) rfl ?_); refine box_event ?hg (N := 2) ?hd (cs := #[.int .i64 a0_0, .int .i64 a0_1, .int .i64 a0_2, .int .i64 a0_3, .int .i64 a0_4, .int .i64 a0_5, .int .i64 a0_6, .int .i64 a0_7, .int .i64 a0_8, .int .i64 a0_9, .int .i64 a0_10, .int .i64 a0_11, .int .i64 a0_12, .slice A0_13 l0_13.length c0_13]) (t := 77) ?hr ?_; (case hd => rfl); (case hg => rfl); (case hr => first | (go_simp; done) | (go_simp; rfl)); intro gb482 hg w40 hbox hb; have BK482 := Aside0.mk (hbox); have GW482 := gs_ hg; have GE482 := gs_ hg; replace HB := hbs_ hb; clear hb hbox hg) | ((with_reducible refine gate_dst (N := 3) rfl ?_); refine box_event ?hg (N := 3) ?hd (cs := #[.int .i64 a1_0, .int .i64 a1_1, .int .i64 a1_2, .int .i64 a1_3, .int .i64 a1_4, .int .i64 a1_5, .int .i64 a1_6, .int .i64 a1_7, .int .i64 a1_8, .int .i64 a1_9, .int .i64 a1_10, .int .i64 a1_11, .int .i64 a1_12, .slice A1_13 l1_13.length c1_13]) (t := 77) ?hr ?_; (case hd => rfl); (case hg => rfl); (case hr => first | (go_simp; done) | (go_simp; rfl)); intro gb483 hg w41 hbox hb; have BK483 := Aside0.mk (hbox); have GW483 := gs_ hg; have GE483 := gs_ hg; replace HB := hbs_ hb; have NB482_483 := Aside0.mk ((by rw [hg]; exact Nat.ne_of_lt (blk_lt (g := gb482) (o := .cells #[.int .i64 a0_0, .int .i64 a0_1, .int .i64 a0_2, .int .i64 a0_3, .int .i64 a0_4, .int .i64 a0_5, .int .i64 a0_6, .int .i64 a0_7, .int .i64 a0_8, .int .i64 a0_9, .int .i64 a0_10, .int .i64 a0_11, .int .i64 a0_12, .slice A0_13 l0_13.length c0_13] 77 (0, 0)) (bk_ BK482)) : gb482 ≠ gb483)); have NB483_482 := Aside0.mk ((by rw [hg]; exact Nat.ne_of_gt (blk_lt (g := gb482) (o := .cells #[.int .i64 a0_0, .int .i64 a0_1, .int .i64 a0_2, .int .i64 a0_3, .int .i64 a0_4, .int .i64 a0_5, .int .i64 a0_6, .int .i64 a0_7, .int .i64 a0_8, .int .i64 a0_9, .int .i64 a0_10, .int .i64 a0_11, .int .i64 a0_12, .slice A0_13 l0_13.length c0_13] 77 (0, 0)) (bk_ BK482)) : gb483 ≠ gb482)); replace BK482 := bkb_ BK482 hb; clear hb hbox hg; have hnb42 := NB482_483.out; have hnc42 := NB483_482.out; have hcz43 := blk_cell BK482.out; have hfz43 := blk_frozen BK482.out; have hcz44 := blk_cell BK483.out; have hfz44 := blk_frozen BK483.out) | ((with_reducible refine gate_callee (f := 87) rfl ?_); refine goesC_ (some 9) Try.func87 #[.agg #[.int .i64 a0_0, .int .i64 a0_1, .int .i64 a0_2, .int .i64 a0_3, .int .i64 a0_4, .int .i64 a0_5, .int .i64 a0_6, .int .i64 a0_7, .int .i64 a0_8, .int .i64 a0_9], .agg #[.int .i64 a1_0, .int .i64 a1_1, .int .i64 a1_2, .int .i64 a1_3, .int .i64 a1_4, .int .i64 a1_5, .int .i64 a1_6, .int .i64 a1_7, .int .i64 a1_8, .int .i64 a1_9]] ?_; (with_reducible refine (laws_eqCred.calls a0_0 a0_1 a0_2 a0_3 a0_4 a0_5 a0_6 a0_7 a0_8 a0_9 a1_0 a1_1 a1_2 a1_3 a1_4 a1_5 a1_6 a1_7 a1_8 a1_9 false _ A3.out).mono ?_); rintro e w45 ⟨rfl, hb⟩; refine ⟨_, rfl, ?_⟩; replace BK482 := bkb_ BK482 hb; replace BK483 := bkb_ BK483 hb; replace HB := hbs_ hb; clear hb))
    go_ret
    exact ⟨eq_, bl_⟩

/-! ### laws_FnExactStepText: function 9 -/
def laws_FnExactStepText.j0 : Nat → Bool → Int → Int → Int → Int → Int → Int → Int → Int → Int → Int → Int → Int → Int → List Int → Int → Int → Int → Int → Int → Int → Int → Int → Int → Int → Int → Int → Int → List Int → Option (Bool)
  | 0, _, _, _, _, _, _, _, _, _, _, _, _, _, _, _, _, _, _, _, _, _, _, _, _, _, _, _, _, _ => none
  | k + 1, x34, x488000, x488001, x488002, x488003, x488004, x488005, x488006, x488007, x488008, x488009, x488010, x488011, x488012, x488013, x524000, x524001, x524002, x524003, x524004, x524005, x524006, x524007, x524008, x524009, x524010, x524011, x524012, x524013 => if x34 = true then (some false) else ((laws_toStep.f k x488000 x488001 x488002 x488003 x488004 x488005 x488006 x488007 x488008 x488009 x488010 x488011 x488012 x488013).bind fun bt526 => ((laws_eqStep.f k x524000 x524001 x524002 x524003 x524004 x524005 x524006 x524007 x524008 x524009 x524010 x524011 x524012 x524013 bt526.1 bt526.2.1 bt526.2.2.1 bt526.2.2.2.1 bt526.2.2.2.2.1 bt526.2.2.2.2.2.1 bt526.2.2.2.2.2.2.1 bt526.2.2.2.2.2.2.2.1 bt526.2.2.2.2.2.2.2.2.1 bt526.2.2.2.2.2.2.2.2.2.1 bt526.2.2.2.2.2.2.2.2.2.2.1 bt526.2.2.2.2.2.2.2.2.2.2.2.1 bt526.2.2.2.2.2.2.2.2.2.2.2.2.1 bt526.2.2.2.2.2.2.2.2.2.2.2.2.2).bind fun t542 => (if t542 = true then (some true) else (some false))))
def laws_FnExactStepText.f (k : Nat) (a0_0 : Int) (a0_1 : Int) (a0_2 : Int) (a0_3 : Int) (a0_4 : Int) (a0_5 : Int) (a0_6 : Int) (a0_7 : Int) (a0_8 : Int) (a0_9 : Int) (a0_10 : Int) (a0_11 : Int) (a0_12 : Int) (l0_13 : List Int) : Option (Bool) := (laws_szStep.f a0_0 a0_1 a0_2 a0_3 a0_4 a0_5 a0_6 a0_7 a0_8 a0_9 a0_10 a0_11 a0_12 l0_13 1048576).bind fun t488 => (if t488 < 0 then (some true) else ((laws_toStep.f k a0_0 a0_1 a0_2 a0_3 a0_4 a0_5 a0_6 a0_7 a0_8 a0_9 a0_10 a0_11 a0_12 l0_13).bind fun bt489 => ((spec_StepText.f k bt489.1 bt489.2.1 bt489.2.2.1 bt489.2.2.2.1 bt489.2.2.2.2.1 bt489.2.2.2.2.2.1 bt489.2.2.2.2.2.2.1 bt489.2.2.2.2.2.2.2.1 bt489.2.2.2.2.2.2.2.2.1 bt489.2.2.2.2.2.2.2.2.2.1 bt489.2.2.2.2.2.2.2.2.2.2.1 bt489.2.2.2.2.2.2.2.2.2.2.2.1 bt489.2.2.2.2.2.2.2.2.2.2.2.2.1 bt489.2.2.2.2.2.2.2.2.2.2.2.2.2).bind fun bt505 => ((laws_toStep.f k a0_0 a0_1 a0_2 a0_3 a0_4 a0_5 a0_6 a0_7 a0_8 a0_9 a0_10 a0_11 a0_12 l0_13).bind fun bt507 => ((impl_StepText.f k bt507.1 bt507.2.1 bt507.2.2.1 bt507.2.2.2.1 bt507.2.2.2.2.1 bt507.2.2.2.2.2.1 bt507.2.2.2.2.2.2.1 bt507.2.2.2.2.2.2.2.1 bt507.2.2.2.2.2.2.2.2.1 bt507.2.2.2.2.2.2.2.2.2.1 bt507.2.2.2.2.2.2.2.2.2.2.1 bt507.2.2.2.2.2.2.2.2.2.2.2.1 bt507.2.2.2.2.2.2.2.2.2.2.2.2.1 bt507.2.2.2.2.2.2.2.2.2.2.2.2.2).bind fun bt524 => (if bt524.1.toList = bt505.1.toList then (laws_FnExactStepText.j0 k (bt524.2 != bt505.2) a0_0 a0_1 a0_2 a0_3 a0_4 a0_5 a0_6 a0_7 a0_8 a0_9 a0_10 a0_11 a0_12 l0_13 bt507.1 bt507.2.1 bt507.2.2.1 bt507.2.2.2.1 bt507.2.2.2.2.1 bt507.2.2.2.2.2.1 bt507.2.2.2.2.2.2.1 bt507.2.2.2.2.2.2.2.1 bt507.2.2.2.2.2.2.2.2.1 bt507.2.2.2.2.2.2.2.2.2.1 bt507.2.2.2.2.2.2.2.2.2.2.1 bt507.2.2.2.2.2.2.2.2.2.2.2.1 bt507.2.2.2.2.2.2.2.2.2.2.2.2.1 bt507.2.2.2.2.2.2.2.2.2.2.2.2.2) else (laws_FnExactStepText.j0 k true a0_0 a0_1 a0_2 a0_3 a0_4 a0_5 a0_6 a0_7 a0_8 a0_9 a0_10 a0_11 a0_12 l0_13 bt507.1 bt507.2.1 bt507.2.2.1 bt507.2.2.2.1 bt507.2.2.2.2.1 bt507.2.2.2.2.2.1 bt507.2.2.2.2.2.2.1 bt507.2.2.2.2.2.2.2.1 bt507.2.2.2.2.2.2.2.2.1 bt507.2.2.2.2.2.2.2.2.2.1 bt507.2.2.2.2.2.2.2.2.2.2.1 bt507.2.2.2.2.2.2.2.2.2.2.2.1 bt507.2.2.2.2.2.2.2.2.2.2.2.2.1 bt507.2.2.2.2.2.2.2.2.2.2.2.2.2)))))))
theorem laws_FnExactStepText.mono_l : ∀ k, (∀ y0 y1 y2 y3 y4 y5 y6 y7 y8 y9 y10 y11 y12 y13 y14 y15 y16 y17 y18 y19 y20 y21 y22 y23 y24 y25 y26 y27 y28, LeO (laws_FnExactStepText.j0 k y0 y1 y2 y3 y4 y5 y6 y7 y8 y9 y10 y11 y12 y13 y14 y15 y16 y17 y18 y19 y20 y21 y22 y23 y24 y25 y26 y27 y28) (laws_FnExactStepText.j0 (k + 1) y0 y1 y2 y3 y4 y5 y6 y7 y8 y9 y10 y11 y12 y13 y14 y15 y16 y17 y18 y19 y20 y21 y22 y23 y24 y25 y26 y27 y28))
  | 0 => fun _ _ _ _ _ _ _ _ _ _ _ _ _ _ _ _ _ _ _ _ _ _ _ _ _ _ _ _ _ r h => by simp [laws_FnExactStepText.j0] at h
  | k + 1 => by
    have ih0 := laws_FnExactStepText.mono_l k
    · intro y0 y1 y2 y3 y4 y5 y6 y7 y8 y9 y10 y11 y12 y13 y14 y15 y16 y17 y18 y19 y20 y21 y22 y23 y24 y25 y26 y27 y28
      unfold laws_FnExactStepText.j0
      repeat' first
      | (with_reducible exact ih0 _ _ _ _ _ _ _ _ _ _ _ _ _ _ _ _ _ _ _ _ _ _ _ _ _ _ _ _ _)
      | (with_reducible exact impl_StepText.mono _ _ _ _ _ _ _ _ _ _ _ _ _ _ _)
      | (with_reducible exact laws_eqStep.mono _ _ _ _ _ _ _ _ _ _ _ _ _ _ _ _ _ _ _ _ _ _ _ _ _ _ _ _ _)
      | (with_reducible exact laws_toStep.mono _ _ _ _ _ _ _ _ _ _ _ _ _ _ _)
      | (with_reducible exact spec_StepText.mono _ _ _ _ _ _ _ _ _ _ _ _ _ _ _)
      | (with_reducible exact LeO.refl _)
      | (with_reducible exact LeO.none _)
      | (with_reducible refine LeO.ite ?_ ?_)
      | (with_reducible refine LeO.bind ?_ (fun _ => ?_))
      | exact ih0 _ _ _ _ _ _ _ _ _ _ _ _ _ _ _ _ _ _ _ _ _ _ _ _ _ _ _ _ _
      | exact impl_StepText.mono _ _ _ _ _ _ _ _ _ _ _ _ _ _ _
      | exact laws_eqStep.mono _ _ _ _ _ _ _ _ _ _ _ _ _ _ _ _ _ _ _ _ _ _ _ _ _ _ _ _ _
      | exact laws_toStep.mono _ _ _ _ _ _ _ _ _ _ _ _ _ _ _
      | exact spec_StepText.mono _ _ _ _ _ _ _ _ _ _ _ _ _ _ _
      | exact LeO.none _
      | refine LeO.ite ?_ ?_
      | refine LeO.bind ?_ (fun _ => ?_)
theorem laws_FnExactStepText.mono : ∀ a0 a1 a2 a3 a4 a5 a6 a7 a8 a9 a10 a11 a12 a13 k, LeO (laws_FnExactStepText.f k a0 a1 a2 a3 a4 a5 a6 a7 a8 a9 a10 a11 a12 a13) (laws_FnExactStepText.f (k + 1) a0 a1 a2 a3 a4 a5 a6 a7 a8 a9 a10 a11 a12 a13) := by
  intro a0 a1 a2 a3 a4 a5 a6 a7 a8 a9 a10 a11 a12 a13 k
  have ih0 := laws_FnExactStepText.mono_l k
  unfold laws_FnExactStepText.f
  repeat' first
      | (with_reducible exact ih0 _ _ _ _ _ _ _ _ _ _ _ _ _ _ _ _ _ _ _ _ _ _ _ _ _ _ _ _ _)
      | (with_reducible exact impl_StepText.mono _ _ _ _ _ _ _ _ _ _ _ _ _ _ _)
      | (with_reducible exact laws_eqStep.mono _ _ _ _ _ _ _ _ _ _ _ _ _ _ _ _ _ _ _ _ _ _ _ _ _ _ _ _ _)
      | (with_reducible exact laws_toStep.mono _ _ _ _ _ _ _ _ _ _ _ _ _ _ _)
      | (with_reducible exact spec_StepText.mono _ _ _ _ _ _ _ _ _ _ _ _ _ _ _)
      | (with_reducible exact LeO.refl _)
      | (with_reducible exact LeO.none _)
      | (with_reducible refine LeO.ite ?_ ?_)
      | (with_reducible refine LeO.bind ?_ (fun _ => ?_))
      | exact ih0 _ _ _ _ _ _ _ _ _ _ _ _ _ _ _ _ _ _ _ _ _ _ _ _ _ _ _ _ _
      | exact impl_StepText.mono _ _ _ _ _ _ _ _ _ _ _ _ _ _ _
      | exact laws_eqStep.mono _ _ _ _ _ _ _ _ _ _ _ _ _ _ _ _ _ _ _ _ _ _ _ _ _ _ _ _ _
      | exact laws_toStep.mono _ _ _ _ _ _ _ _ _ _ _ _ _ _ _
      | exact spec_StepText.mono _ _ _ _ _ _ _ _ _ _ _ _ _ _ _
      | exact LeO.none _
      | refine LeO.ite ?_ ?_
      | refine LeO.bind ?_ (fun _ => ?_)
set_option maxHeartbeats 8000000 in
set_option maxRecDepth 100000 in
theorem laws_FnExactStepText.calls (k : Nat) (a0_0 : Int) (a0_1 : Int) (a0_2 : Int) (a0_3 : Int) (a0_4 : Int) (a0_5 : Int) (a0_6 : Int) (a0_7 : Int) (a0_8 : Int) (a0_9 : Int) (a0_10 : Int) (a0_11 : Int) (a0_12 : Int) (A0_13 : Option Addr) (c0_13 : Nat) (l0_13 : List Int) (r : Bool) (w : World) (hr0_13 : Kd.C (Kd.int .i64) w A0_13 l0_13.length l0_13) (hc0_13 : l0_13.length ≤ c0_13) (h : laws_FnExactStepText.f k a0_0 a0_1 a0_2 a0_3 a0_4 a0_5 a0_6 a0_7 a0_8 a0_9 a0_10 a0_11 a0_12 l0_13 = some r) :
    Calls Try.prog 9 #[.agg #[.int .i64 a0_0, .int .i64 a0_1, .int .i64 a0_2, .int .i64 a0_3, .int .i64 a0_4, .int .i64 a0_5, .int .i64 a0_6, .int .i64 a0_7, .int .i64 a0_8, .int .i64 a0_9, .int .i64 a0_10, .int .i64 a0_11, .int .i64 a0_12, .slice A0_13 l0_13.length c0_13]] w fun e w' => e = .returned (.bool r) ∧ Below w.heap.size w w' := by
  have hu72 := Try.underlying72
  have hu77 := Try.underlying77
  have HR0_13 := Aside0.mk hr0_13
  have HC0_13 := Aside0.mk hc0_13
  clear hr0_13 hc0_13
  have HB := Aside0.mk (Below.refl w.heap.size w)
  have H : ((laws_szStep.f a0_0 a0_1 a0_2 a0_3 a0_4 a0_5 a0_6 a0_7 a0_8 a0_9 a0_10 a0_11 a0_12 l0_13 1048576).bind fun t488 => (if t488 < 0 then (some true) else ((laws_toStep.f k a0_0 a0_1 a0_2 a0_3 a0_4 a0_5 a0_6 a0_7 a0_8 a0_9 a0_10 a0_11 a0_12 l0_13).bind fun bt489 => ((spec_StepText.f k bt489.1 bt489.2.1 bt489.2.2.1 bt489.2.2.2.1 bt489.2.2.2.2.1 bt489.2.2.2.2.2.1 bt489.2.2.2.2.2.2.1 bt489.2.2.2.2.2.2.2.1 bt489.2.2.2.2.2.2.2.2.1 bt489.2.2.2.2.2.2.2.2.2.1 bt489.2.2.2.2.2.2.2.2.2.2.1 bt489.2.2.2.2.2.2.2.2.2.2.2.1 bt489.2.2.2.2.2.2.2.2.2.2.2.2.1 bt489.2.2.2.2.2.2.2.2.2.2.2.2.2).bind fun bt505 => ((laws_toStep.f k a0_0 a0_1 a0_2 a0_3 a0_4 a0_5 a0_6 a0_7 a0_8 a0_9 a0_10 a0_11 a0_12 l0_13).bind fun bt507 => ((impl_StepText.f k bt507.1 bt507.2.1 bt507.2.2.1 bt507.2.2.2.1 bt507.2.2.2.2.1 bt507.2.2.2.2.2.1 bt507.2.2.2.2.2.2.1 bt507.2.2.2.2.2.2.2.1 bt507.2.2.2.2.2.2.2.2.1 bt507.2.2.2.2.2.2.2.2.2.1 bt507.2.2.2.2.2.2.2.2.2.2.1 bt507.2.2.2.2.2.2.2.2.2.2.2.1 bt507.2.2.2.2.2.2.2.2.2.2.2.2.1 bt507.2.2.2.2.2.2.2.2.2.2.2.2.2).bind fun bt524 => (if bt524.1.toList = bt505.1.toList then (laws_FnExactStepText.j0 k (bt524.2 != bt505.2) a0_0 a0_1 a0_2 a0_3 a0_4 a0_5 a0_6 a0_7 a0_8 a0_9 a0_10 a0_11 a0_12 l0_13 bt507.1 bt507.2.1 bt507.2.2.1 bt507.2.2.2.1 bt507.2.2.2.2.1 bt507.2.2.2.2.2.1 bt507.2.2.2.2.2.2.1 bt507.2.2.2.2.2.2.2.1 bt507.2.2.2.2.2.2.2.2.1 bt507.2.2.2.2.2.2.2.2.2.1 bt507.2.2.2.2.2.2.2.2.2.2.1 bt507.2.2.2.2.2.2.2.2.2.2.2.1 bt507.2.2.2.2.2.2.2.2.2.2.2.2.1 bt507.2.2.2.2.2.2.2.2.2.2.2.2.2) else (laws_FnExactStepText.j0 k true a0_0 a0_1 a0_2 a0_3 a0_4 a0_5 a0_6 a0_7 a0_8 a0_9 a0_10 a0_11 a0_12 l0_13 bt507.1 bt507.2.1 bt507.2.2.1 bt507.2.2.2.1 bt507.2.2.2.2.1 bt507.2.2.2.2.2.1 bt507.2.2.2.2.2.2.1 bt507.2.2.2.2.2.2.2.1 bt507.2.2.2.2.2.2.2.2.1 bt507.2.2.2.2.2.2.2.2.2.1 bt507.2.2.2.2.2.2.2.2.2.2.1 bt507.2.2.2.2.2.2.2.2.2.2.2.1 bt507.2.2.2.2.2.2.2.2.2.2.2.2.1 bt507.2.2.2.2.2.2.2.2.2.2.2.2.2)))))))) = some r := h
  clear h
  obtain ⟨t488, A2, H⟩ := bindE_ H
  by_cases c3 : t488 < 0
  · rw [if_pos c3] at H
    have c3b0 : decide (t488 < 0) = true := decide_eq_true c3
    clear c3
    obtain rfl := Option.some.inj H
    go_enter Try.func9, Try.ntmps9
    go_wp2_with (first | ((with_reducible refine gate_dst (N := 1) rfl ?_); refine box_event ?hg (N := 1) ?hd (cs := #[.int .i64 a0_0, .int .i64 a0_1, .int .i64 a0_2, .int .i64 a0_3, .int .i64 a0_4, .int .i64 a0_5, .int .i64 a0_6, .int .i64 a0_7, .int .i64 a0_8, .int .i64 a0_9, .int .i64 a0_10, .int .i64 a0_11, .int .i64 a0_12, .slice A0_13 l0_13.length c0_13]) (t := 72) ?hr ?_; (case hd => rfl); (case hg => rfl); (case hr => first | (go_simp; done) | (go_simp; rfl)); intro gb487 hg w4 hbox hb; have BK487 := Aside0.mk (hbox); have GW487 := gs_ hg; have GE487 := gs_ hg; replace HB := hbs_ hb; clear hb hbox hg; have hcz5 := blk_cell BK487.out; have hfz5 := blk_frozen BK487.out) | ((with_reducible refine gate_callee (f := 44) rfl ?_); refine goesC_ (some 11) Try.func44 #[.agg #[.int .i64 a0_0, .int .i64 a0_1, .int .i64 a0_2, .int .i64 a0_3, .int .i64 a0_4, .int .i64 a0_5, .int .i64 a0_6, .int .i64 a0_7, .int .i64 a0_8, .int .i64 a0_9, .int .i64 a0_10, .int .i64 a0_11, .int .i64 a0_12, .slice A0_13 l0_13.length c0_13], .int .i64 1048576] ?_; (with_reducible refine (laws_szStep.calls a0_0 a0_1 a0_2 a0_3 a0_4 a0_5 a0_6 a0_7 a0_8 a0_9 a0_10 a0_11 a0_12 _ _ l0_13 1048576 t488 _ ?side1 ?side2 A2.out).mono ?_); (case side1 => repeat (first | exact (Kd.C_below HR0_13.out HB.out) | (with_reducible refine Kd.C_alloc ?_ _) | (with_reducible refine Kd.C_drewN ?_ _) | (with_reducible refine Kd.C_drew ?_))); (case side2 => exact HC0_13.out); rintro e w6 ⟨rfl, hb⟩; refine ⟨_, rfl, ?_⟩; replace BK487 := bkb_ BK487 hb; replace HB := hbs_ hb; clear hb))
    go_ret
    exact ⟨eq_, bl_⟩
  · rw [if_neg c3] at H
    have c3b0 : decide (t488 < 0) = false := decide_eq_false c3
    clear c3
    obtain ⟨⟨t489, t490, t491, t492, t493, t494, t495, t496, t497, t498, t499, t500, t501, t502⟩, A7, H⟩ := bindE_ H
    replace H : ((spec_StepText.f k t489 t490 t491 t492 t493 t494 t495 t496 t497 t498 t499 t500 t501 t502).bind fun bt505 => ((laws_toStep.f k a0_0 a0_1 a0_2 a0_3 a0_4 a0_5 a0_6 a0_7 a0_8 a0_9 a0_10 a0_11 a0_12 l0_13).bind fun bt507 => ((impl_StepText.f k bt507.1 bt507.2.1 bt507.2.2.1 bt507.2.2.2.1 bt507.2.2.2.2.1 bt507.2.2.2.2.2.1 bt507.2.2.2.2.2.2.1 bt507.2.2.2.2.2.2.2.1 bt507.2.2.2.2.2.2.2.2.1 bt507.2.2.2.2.2.2.2.2.2.1 bt507.2.2.2.2.2.2.2.2.2.2.1 bt507.2.2.2.2.2.2.2.2.2.2.2.1 bt507.2.2.2.2.2.2.2.2.2.2.2.2.1 bt507.2.2.2.2.2.2.2.2.2.2.2.2.2).bind fun bt524 => (if bt524.1.toList = bt505.1.toList then (laws_FnExactStepText.j0 k (bt524.2 != bt505.2) a0_0 a0_1 a0_2 a0_3 a0_4 a0_5 a0_6 a0_7 a0_8 a0_9 a0_10 a0_11 a0_12 l0_13 bt507.1 bt507.2.1 bt507.2.2.1 bt507.2.2.2.1 bt507.2.2.2.2.1 bt507.2.2.2.2.2.1 bt507.2.2.2.2.2.2.1 bt507.2.2.2.2.2.2.2.1 bt507.2.2.2.2.2.2.2.2.1 bt507.2.2.2.2.2.2.2.2.2.1 bt507.2.2.2.2.2.2.2.2.2.2.1 bt507.2.2.2.2.2.2.2.2.2.2.2.1 bt507.2.2.2.2.2.2.2.2.2.2.2.2.1 bt507.2.2.2.2.2.2.2.2.2.2.2.2.2) else (laws_FnExactStepText.j0 k true a0_0 a0_1 a0_2 a0_3 a0_4 a0_5 a0_6 a0_7 a0_8 a0_9 a0_10 a0_11 a0_12 l0_13 bt507.1 bt507.2.1 bt507.2.2.1 bt507.2.2.2.1 bt507.2.2.2.2.1 bt507.2.2.2.2.2.1 bt507.2.2.2.2.2.2.1 bt507.2.2.2.2.2.2.2.1 bt507.2.2.2.2.2.2.2.2.1 bt507.2.2.2.2.2.2.2.2.2.1 bt507.2.2.2.2.2.2.2.2.2.2.1 bt507.2.2.2.2.2.2.2.2.2.2.2.1 bt507.2.2.2.2.2.2.2.2.2.2.2.2.1 bt507.2.2.2.2.2.2.2.2.2.2.2.2.2))))) = some r := H
    obtain ⟨⟨t505, t506⟩, A8, H⟩ := bindE_ H
    replace H : ((laws_toStep.f k a0_0 a0_1 a0_2 a0_3 a0_4 a0_5 a0_6 a0_7 a0_8 a0_9 a0_10 a0_11 a0_12 l0_13).bind fun bt507 => ((impl_StepText.f k bt507.1 bt507.2.1 bt507.2.2.1 bt507.2.2.2.1 bt507.2.2.2.2.1 bt507.2.2.2.2.2.1 bt507.2.2.2.2.2.2.1 bt507.2.2.2.2.2.2.2.1 bt507.2.2.2.2.2.2.2.2.1 bt507.2.2.2.2.2.2.2.2.2.1 bt507.2.2.2.2.2.2.2.2.2.2.1 bt507.2.2.2.2.2.2.2.2.2.2.2.1 bt507.2.2.2.2.2.2.2.2.2.2.2.2.1 bt507.2.2.2.2.2.2.2.2.2.2.2.2.2).bind fun bt524 => (if bt524.1.toList = t505.toList then (laws_FnExactStepText.j0 k (bt524.2 != t506) a0_0 a0_1 a0_2 a0_3 a0_4 a0_5 a0_6 a0_7 a0_8 a0_9 a0_10 a0_11 a0_12 l0_13 bt507.1 bt507.2.1 bt507.2.2.1 bt507.2.2.2.1 bt507.2.2.2.2.1 bt507.2.2.2.2.2.1 bt507.2.2.2.2.2.2.1 bt507.2.2.2.2.2.2.2.1 bt507.2.2.2.2.2.2.2.2.1 bt507.2.2.2.2.2.2.2.2.2.1 bt507.2.2.2.2.2.2.2.2.2.2.1 bt507.2.2.2.2.2.2.2.2.2.2.2.1 bt507.2.2.2.2.2.2.2.2.2.2.2.2.1 bt507.2.2.2.2.2.2.2.2.2.2.2.2.2) else (laws_FnExactStepText.j0 k true a0_0 a0_1 a0_2 a0_3 a0_4 a0_5 a0_6 a0_7 a0_8 a0_9 a0_10 a0_11 a0_12 l0_13 bt507.1 bt507.2.1 bt507.2.2.1 bt507.2.2.2.1 bt507.2.2.2.2.1 bt507.2.2.2.2.2.1 bt507.2.2.2.2.2.2.1 bt507.2.2.2.2.2.2.2.1 bt507.2.2.2.2.2.2.2.2.1 bt507.2.2.2.2.2.2.2.2.2.1 bt507.2.2.2.2.2.2.2.2.2.2.1 bt507.2.2.2.2.2.2.2.2.2.2.2.1 bt507.2.2.2.2.2.2.2.2.2.2.2.2.1 bt507.2.2.2.2.2.2.2.2.2.2.2.2.2)))) = some r := H
    obtain ⟨⟨t507, t508, t509, t510, t511, t512, t513, t514, t515, t516, t517, t518, t519, t520⟩, A9, H⟩ := bindE_ H
    replace H : ((impl_StepText.f k t507 t508 t509 t510 t511 t512 t513 t514 t515 t516 t517 t518 t519 t520).bind fun bt524 => (if bt524.1.toList = t505.toList then (laws_FnExactStepText.j0 k (bt524.2 != t506) a0_0 a0_1 a0_2 a0_3 a0_4 a0_5 a0_6 a0_7 a0_8 a0_9 a0_10 a0_11 a0_12 l0_13 t507 t508 t509 t510 t511 t512 t513 t514 t515 t516 t517 t518 t519 t520) else (laws_FnExactStepText.j0 k true a0_0 a0_1 a0_2 a0_3 a0_4 a0_5 a0_6 a0_7 a0_8 a0_9 a0_10 a0_11 a0_12 l0_13 t507 t508 t509 t510 t511 t512 t513 t514 t515 t516 t517 t518 t519 t520))) = some r := H
    obtain ⟨⟨t524, t525⟩, A10, H⟩ := bindE_ H
    replace H : (if t524.toList = t505.toList then (laws_FnExactStepText.j0 k (t525 != t506) a0_0 a0_1 a0_2 a0_3 a0_4 a0_5 a0_6 a0_7 a0_8 a0_9 a0_10 a0_11 a0_12 l0_13 t507 t508 t509 t510 t511 t512 t513 t514 t515 t516 t517 t518 t519 t520) else (laws_FnExactStepText.j0 k true a0_0 a0_1 a0_2 a0_3 a0_4 a0_5 a0_6 a0_7 a0_8 a0_9 a0_10 a0_11 a0_12 l0_13 t507 t508 t509 t510 t511 t512 t513 t514 t515 t516 t517 t518 t519 t520)) = some r := H
    have HC11 := Aside0.mk H
    clear H
    go_enter Try.func9, Try.ntmps9
    go_upto_region 8 with (first | ((with_reducible refine gate_dst (N := 1) rfl ?_); refine box_event ?hg (N := 1) ?hd (cs := #[.int .i64 a0_0, .int .i64 a0_1, .int .i64 a0_2, .int .i64 a0_3, .int .i64 a0_4, .int .i64 a0_5, .int .i64 a0_6, .int .i64 a0_7, .int .i64 a0_8, .int .i64 a0_9, .int .i64 a0_10, .int .i64 a0_11, .int .i64 a0_12, .slice A0_13 l0_13.length c0_13]) (t := 72) ?hr ?_; (case hd => rfl); (case hg => rfl); (case hr => first | (go_simp; done) | (go_simp; rfl)); intro gb487 hg w12 hbox hb; have BK487 := Aside0.mk (hbox); have GW487 := gs_ hg; have GE487 := gs_ hg; replace HB := hbs_ hb; clear hb hbox hg; have hcz13 := blk_cell BK487.out; have hfz13 := blk_frozen BK487.out) | ((with_reducible refine gate_callee (f := 44) rfl ?_); refine goesC_ (some 11) Try.func44 #[.agg #[.int .i64 a0_0, .int .i64 a0_1, .int .i64 a0_2, .int .i64 a0_3, .int .i64 a0_4, .int .i64 a0_5, .int .i64 a0_6, .int .i64 a0_7, .int .i64 a0_8, .int .i64 a0_9, .int .i64 a0_10, .int .i64 a0_11, .int .i64 a0_12, .slice A0_13 l0_13.length c0_13], .int .i64 1048576] ?_; (with_reducible refine (laws_szStep.calls a0_0 a0_1 a0_2 a0_3 a0_4 a0_5 a0_6 a0_7 a0_8 a0_9 a0_10 a0_11 a0_12 _ _ l0_13 1048576 t488 _ ?side1 ?side2 A2.out).mono ?_); (case side1 => repeat (first | exact (Kd.C_below HR0_13.out HB.out) | (with_reducible refine Kd.C_alloc ?_ _) | (with_reducible refine Kd.C_drewN ?_ _) | (with_reducible refine Kd.C_drew ?_))); (case side2 => exact HC0_13.out); rintro e w14 ⟨rfl, hb⟩; refine ⟨_, rfl, ?_⟩; replace BK487 := bkb_ BK487 hb; replace HB := hbs_ hb; clear hb; have hcz15 := blk_cell BK487.out; have hfz15 := blk_frozen BK487.out) | ((with_reducible refine gate_callee (f := 46) rfl ?_); refine goesC_ (some 16) Try.func46 #[.agg #[.int .i64 a0_0, .int .i64 a0_1, .int .i64 a0_2, .int .i64 a0_3, .int .i64 a0_4, .int .i64 a0_5, .int .i64 a0_6, .int .i64 a0_7, .int .i64 a0_8, .int .i64 a0_9, .int .i64 a0_10, .int .i64 a0_11, .int .i64 a0_12, .slice A0_13 l0_13.length c0_13]] ?_; (with_reducible refine (laws_toStep.calls k a0_0 a0_1 a0_2 a0_3 a0_4 a0_5 a0_6 a0_7 a0_8 a0_9 a0_10 a0_11 a0_12 _ _ l0_13 t489 t490 t491 t492 t493 t494 t495 t496 t497 t498 t499 t500 t501 t502 _ ?side1 ?side2 A7.out).mono ?_); (case side1 => repeat (first | exact (Kd.C_below HR0_13.out HB.out) | (with_reducible refine Kd.C_alloc ?_ _) | (with_reducible refine Kd.C_drewN ?_ _) | (with_reducible refine Kd.C_drew ?_))); (case side2 => exact HC0_13.out); rintro e w16 ⟨v503, rfl, ho0, hb⟩; refine ⟨_, rfl, ?_⟩; have HO504 := Aside0.mk (Kd.R_lower ho0 bls_); replace BK487 := bkb_ BK487 hb; replace HB := hbs_ hb; (try clear hb); (try clear hb2); (try clear hk); (try clear hi); (try clear ho0); obtain ⟨Ao17, co17, eo17⟩ := Kd.R_slice HO504.out; subst eo17) | ((with_reducible refine gate_callee (f := 45) rfl ?_); refine goesC_ (some 17) Try.func45 #[.agg #[.int .i64 t489, .int .i64 t490, .int .i64 t491, .int .i64 t492, .int .i64 t493, .int .i64 t494, .int .i64 t495, .int .i64 t496, .int .i64 t497, .int .i64 t498, .int .i64 t499, .int .i64 t500, .int .i64 t501, .slice Ao17 t502.length co17]] ?_; (with_reducible refine (spec_StepText.calls k t489 t490 t491 t492 t493 t494 t495 t496 t497 t498 t499 t500 t501 _ _ t502 t505 t506 _ ?side1 ?side2 A8.out).mono ?_); (case side1 => repeat (first | exact (Kd.R_reads' HO504.out).2.2 | (with_reducible refine Kd.C_alloc ?_ _) | (with_reducible refine Kd.C_drewN ?_ _) | (with_reducible refine Kd.C_drew ?_))); (case side2 => exact (Kd.R_reads' HO504.out).2.1); rintro e w18 ⟨rfl, hb⟩; refine ⟨_, rfl, ?_⟩; replace HO504 := Aside0.mk (Kd.R_below (by (with_reducible repeat (first | apply Kd.R_alloc | apply Kd.R_drewN | apply Kd.R_drew)); exact HO504.out) hb); replace BK487 := bkb_ BK487 hb; replace HB := hbs_ hb; clear hb; have hcz19 := blk_cell BK487.out; have hfz19 := blk_frozen BK487.out) | ((with_reducible refine gate_callee (f := 46) rfl ?_); refine goesC_ (some 21) Try.func46 #[.agg #[.int .i64 a0_0, .int .i64 a0_1, .int .i64 a0_2, .int .i64 a0_3, .int .i64 a0_4, .int .i64 a0_5, .int .i64 a0_6, .int .i64 a0_7, .int .i64 a0_8, .int .i64 a0_9, .int .i64 a0_10, .int .i64 a0_11, .int .i64 a0_12, .slice A0_13 l0_13.length c0_13]] ?_; (with_reducible refine (laws_toStep.calls k a0_0 a0_1 a0_2 a0_3 a0_4 a0_5 a0_6 a0_7 a0_8 a0_9 a0_10 a0_11 a0_12 _ _ l0_13 t507 t508 t509 t510 t511 t512 t513 t514 t515 t516 t517 t518 t519 t520 _ ?side1 ?side2 A9.out).mono ?_); (case side1 => repeat (first | exact (Kd.C_below HR0_13.out HB.out) | (with_reducible refine Kd.C_alloc ?_ _) | (with_reducible refine Kd.C_drewN ?_ _) | (with_reducible refine Kd.C_drew ?_))); (case side2 => exact HC0_13.out); rintro e w20 ⟨v521, rfl, ho0, hb⟩; refine ⟨_, rfl, ?_⟩; have HO522 := Aside0.mk (Kd.R_lower (Kd.R_new' ho0 (Kd.R_lt (by (with_reducible repeat (first | apply Kd.R_alloc | apply Kd.R_drewN | apply Kd.R_drew)); exact HO504.out))) bls_); replace HO504 := Aside0.mk (Kd.R_elder' (by (with_reducible repeat (first | apply Kd.R_alloc | apply Kd.R_drewN | apply Kd.R_drew)); exact HO504.out) (Kd.R_base ho0) hb); replace BK487 := bkb_ BK487 hb; replace HB := hbs_ hb; (try clear hb); (try clear hb2); (try clear hk); (try clear hi); (try clear ho0)) | ((with_reducible refine gate_dst (N := 6) rfl ?_); refine box_event ?hg (N := 6) ?hd (cs := #[.int .i64 0, .int .i64 0, .int .i64 0, .int .i64 0, .int .i64 0, .int .i64 0, .int .i64 0, .int .i64 0, .int .i64 0, .int .i64 0, .int .i64 0, .int .i64 0, .int .i64 0, .slice none 0 0]) (t := 77) ?hr ?_; (case hd => rfl); (case hg => rfl); (case hr => first | (go_simp; done) | (go_simp; rfl)); intro gb523 hg w21 hbox hb; replace HO504 := Aside0.mk (Kd.R_below (by (with_reducible repeat (first | apply Kd.R_alloc | apply Kd.R_drewN | apply Kd.R_drew)); exact HO504.out) hb); replace HO522 := Aside0.mk (Kd.R_below (by (with_reducible repeat (first | apply Kd.R_alloc | apply Kd.R_drewN | apply Kd.R_drew)); exact HO522.out) hb); have BK523 := Aside0.mk (hbox); have GW523 := gs_ hg; have GE523 := gs_ hg; replace HB := hbs_ hb; have NB487_523 := Aside0.mk ((by rw [hg]; exact Nat.ne_of_lt (blk_lt (g := gb487) (o := .cells #[.int .i64 a0_0, .int .i64 a0_1, .int .i64 a0_2, .int .i64 a0_3, .int .i64 a0_4, .int .i64 a0_5, .int .i64 a0_6, .int .i64 a0_7, .int .i64 a0_8, .int .i64 a0_9, .int .i64 a0_10, .int .i64 a0_11, .int .i64 a0_12, .slice A0_13 l0_13.length c0_13] 72 (0, 0)) (bk_ BK487)) : gb487 ≠ gb523)); have NB523_487 := Aside0.mk ((by rw [hg]; exact Nat.ne_of_gt (blk_lt (g := gb487) (o := .cells #[.int .i64 a0_0, .int .i64 a0_1, .int .i64 a0_2, .int .i64 a0_3, .int .i64 a0_4, .int .i64 a0_5, .int .i64 a0_6, .int .i64 a0_7, .int .i64 a0_8, .int .i64 a0_9, .int .i64 a0_10, .int .i64 a0_11, .int .i64 a0_12, .slice A0_13 l0_13.length c0_13] 72 (0, 0)) (bk_ BK487)) : gb523 ≠ gb487)); replace BK487 := bkb_ BK487 hb; clear hb hbox hg; have hnb22 := NB523_487.out; have hnc22 := NB487_523.out; have hcz23 := blk_cell BK523.out; have hfz23 := blk_frozen BK523.out; obtain ⟨Ao24, co24, eo24⟩ := Kd.R_slice HO522.out; subst eo24) | ((with_reducible refine gate_callee (f := 47) rfl ?_); refine goesC_ (some 24) Try.func47 #[.agg #[.int .i64 t507, .int .i64 t508, .int .i64 t509, .int .i64 t510, .int .i64 t511, .int .i64 t512, .int .i64 t513, .int .i64 t514, .int .i64 t515, .int .i64 t516, .int .i64 t517, .int .i64 t518, .int .i64 t519, .slice Ao24 t520.length co24]] ?_; (with_reducible refine (impl_StepText.calls k t507 t508 t509 t510 t511 t512 t513 t514 t515 t516 t517 t518 t519 _ _ t520 t524 t525 _ ?side1 ?side2 A10.out).mono ?_); (case side1 => refine (Kd.R_reads' (e := 3) (base := w.heap.size) (ok := fun k_ => (True ∧ some k_ ≠ (.slice Ao17 t502.length co17 : Value).ownBlock)) (n := t520.length) (c := co24) ?_).2.2; exact (by (with_reducible repeat (first | apply Kd.R_alloc | apply Kd.R_drewN | apply Kd.R_drew)); exact (Kd.R_mono (Kd.R_far (p := ⟨gb523, 13, none⟩) (Kd.R_far (p := ⟨gb523, 12, none⟩) (Kd.R_far (p := ⟨gb523, 11, none⟩) (Kd.R_far (p := ⟨gb523, 10, none⟩) (Kd.R_far (p := ⟨gb523, 9, none⟩) (Kd.R_far (p := ⟨gb523, 8, none⟩) (Kd.R_far (p := ⟨gb523, 7, none⟩) (Kd.R_far (p := ⟨gb523, 6, none⟩) (Kd.R_far (p := ⟨gb523, 5, none⟩) (Kd.R_far (p := ⟨gb523, 4, none⟩) (Kd.R_far (p := ⟨gb523, 3, none⟩) (Kd.R_far (p := ⟨gb523, 2, none⟩) (Kd.R_far (p := ⟨gb523, 1, none⟩) (Kd.R_far (p := ⟨gb523, 0, none⟩) (Kd.R_types HO522.out BK523.out (by decide)) (fun _ hk => hk.2) (.int .i64 t507)) (fun _ hk => hk.2) (.int .i64 t508)) (fun _ hk => hk.2) (.int .i64 t509)) (fun _ hk => hk.2) (.int .i64 t510)) (fun _ hk => hk.2) (.int .i64 t511)) (fun _ hk => hk.2) (.int .i64 t512)) (fun _ hk => hk.2) (.int .i64 t513)) (fun _ hk => hk.2) (.int .i64 t514)) (fun _ hk => hk.2) (.int .i64 t515)) (fun _ hk => hk.2) (.int .i64 t516)) (fun _ hk => hk.2) (.int .i64 t517)) (fun _ hk => hk.2) (.int .i64 t518)) (fun _ hk => hk.2) (.int .i64 t519)) (fun _ hk => hk.2) (.slice Ao24 t520.length co24)) (fun _ h_ => h_.1)))); (case side2 => exact (Kd.R_reads' HO522.out).2.1); rintro e w25 ⟨rfl, hb⟩; refine ⟨_, rfl, ?_⟩; replace HO504 := Aside0.mk (Kd.R_below (by (with_reducible repeat (first | apply Kd.R_alloc | apply Kd.R_drewN | apply Kd.R_drew)); exact (Kd.R_mono (Kd.R_far (p := ⟨gb523, 13, none⟩) (Kd.R_far (p := ⟨gb523, 12, none⟩) (Kd.R_far (p := ⟨gb523, 11, none⟩) (Kd.R_far (p := ⟨gb523, 10, none⟩) (Kd.R_far (p := ⟨gb523, 9, none⟩) (Kd.R_far (p := ⟨gb523, 8, none⟩) (Kd.R_far (p := ⟨gb523, 7, none⟩) (Kd.R_far (p := ⟨gb523, 6, none⟩) (Kd.R_far (p := ⟨gb523, 5, none⟩) (Kd.R_far (p := ⟨gb523, 4, none⟩) (Kd.R_far (p := ⟨gb523, 3, none⟩) (Kd.R_far (p := ⟨gb523, 2, none⟩) (Kd.R_far (p := ⟨gb523, 1, none⟩) (Kd.R_far (p := ⟨gb523, 0, none⟩) (Kd.R_types HO504.out BK523.out (by decide)) (fun _ hk => hk.2) (.int .i64 t507)) (fun _ hk => hk.2) (.int .i64 t508)) (fun _ hk => hk.2) (.int .i64 t509)) (fun _ hk => hk.2) (.int .i64 t510)) (fun _ hk => hk.2) (.int .i64 t511)) (fun _ hk => hk.2) (.int .i64 t512)) (fun _ hk => hk.2) (.int .i64 t513)) (fun _ hk => hk.2) (.int .i64 t514)) (fun _ hk => hk.2) (.int .i64 t515)) (fun _ hk => hk.2) (.int .i64 t516)) (fun _ hk => hk.2) (.int .i64 t517)) (fun _ hk => hk.2) (.int .i64 t518)) (fun _ hk => hk.2) (.int .i64 t519)) (fun _ hk => hk.2) (.slice Ao24 t520.length co24)) (fun _ h_ => h_.1))) hb); replace HO522 := Aside0.mk (Kd.R_below (by (with_reducible repeat (first | apply Kd.R_alloc | apply Kd.R_drewN | apply Kd.R_drew)); exact (Kd.R_mono (Kd.R_far (p := ⟨gb523, 13, none⟩) (Kd.R_far (p := ⟨gb523, 12, none⟩) (Kd.R_far (p := ⟨gb523, 11, none⟩) (Kd.R_far (p := ⟨gb523, 10, none⟩) (Kd.R_far (p := ⟨gb523, 9, none⟩) (Kd.R_far (p := ⟨gb523, 8, none⟩) (Kd.R_far (p := ⟨gb523, 7, none⟩) (Kd.R_far (p := ⟨gb523, 6, none⟩) (Kd.R_far (p := ⟨gb523, 5, none⟩) (Kd.R_far (p := ⟨gb523, 4, none⟩) (Kd.R_far (p := ⟨gb523, 3, none⟩) (Kd.R_far (p := ⟨gb523, 2, none⟩) (Kd.R_far (p := ⟨gb523, 1, none⟩) (Kd.R_far (p := ⟨gb523, 0, none⟩) (Kd.R_types HO522.out BK523.out (by decide)) (fun _ hk => hk.2) (.int .i64 t507)) (fun _ hk => hk.2) (.int .i64 t508)) (fun _ hk => hk.2) (.int .i64 t509)) (fun _ hk => hk.2) (.int .i64 t510)) (fun _ hk => hk.2) (.int .i64 t511)) (fun _ hk => hk.2) (.int .i64 t512)) (fun _ hk => hk.2) (.int .i64 t513)) (fun _ hk => hk.2) (.int .i64 t514)) (fun _ hk => hk.2) (.int .i64 t515)) (fun _ hk => hk.2) (.int .i64 t516)) (fun _ hk => hk.2) (.int .i64 t517)) (fun _ hk => hk.2) (.int .i64 t518)) (fun _ hk => hk.2) (.int .i64 t519)) (fun _ hk => hk.2) (.slice Ao24 t520.length co24)) (fun _ h_ => h_.1))) hb); replace BK487 := Aside0.mk (blk_below (g := gb487) (o := .cells #[.int .i64 a0_0, .int .i64 a0_1, .int .i64 a0_2, .int .i64 a0_3, .int .i64 a0_4, .int .i64 a0_5, .int .i64 a0_6, .int .i64 a0_7, .int .i64 a0_8, .int .i64 a0_9, .int .i64 a0_10, .int .i64 a0_11, .int .i64 a0_12, .slice A0_13 l0_13.length c0_13] 72 (0, 0)) (bk_ BK487) hb); replace BK523 := Aside0.mk (blk_below (g := gb523) (o := .cells #[.int .i64 t507, .int .i64 t508, .int .i64 t509, .int .i64 t510, .int .i64 t511, .int .i64 t512, .int .i64 t513, .int .i64 t514, .int .i64 t515, .int .i64 t516, .int .i64 t517, .int .i64 t518, .int .i64 t519, .slice Ao24 t520.length co24] 77 (0, 0)) (bk_ BK523) hb); replace HB := hbs_ hb; clear hb))
    (try simp only [Act.put, List.setIfInBounds_toArray, List.set_cons_zero, List.set_cons_succ])
    go_cut [34] (fun v34 wc => ∃ (kq : Nat) (x34_10 : Bool), v34 = .bool x34_10 ∧ Aside0 (laws_FnExactStepText.j0 kq x34_10 a0_0 a0_1 a0_2 a0_3 a0_4 a0_5 a0_6 a0_7 a0_8 a0_9 a0_10 a0_11 a0_12 l0_13 t507 t508 t509 t510 t511 t512 t513 t514 t515 t516 t517 t518 t519 t520 = some r) ∧ Aside0 (kq ≤ k) ∧ Aside0 (Kd.R (Kd.int .i64) 3 wc w.heap.size (fun _ => True) (.slice Ao24 t520.length co24) t520) ∧ Aside0 (wc.heap[gb487]? = some (.cells #[.int .i64 a0_0, .int .i64 a0_1, .int .i64 a0_2, .int .i64 a0_3, .int .i64 a0_4, .int .i64 a0_5, .int .i64 a0_6, .int .i64 a0_7, .int .i64 a0_8, .int .i64 a0_9, .int .i64 a0_10, .int .i64 a0_11, .int .i64 a0_12, (.slice A0_13 l0_13.length c0_13)] 72 (0, 0))) ∧ Aside0 (wc.heap[gb523]? = some (.cells #[.int .i64 t507, .int .i64 t508, .int .i64 t509, .int .i64 t510, .int .i64 t511, .int .i64 t512, .int .i64 t513, .int .i64 t514, .int .i64 t515, .int .i64 t516, .int .i64 t517, .int .i64 t518, .int .i64 t519, (.slice Ao24 t520.length co24)] 77 (0, 0))) ∧ Aside0 (Below w.heap.size w wc))
    case first =>
      have H := HC11.out
      clear HC11
      by_cases c26 : t524.toList = t505.toList
      · rw [if_pos c26] at H
        have c26b0 : (t524.toList == t505.toList) = true := beq_iff_eq.mpr c26
        have c26b1 : (t524.toList != t505.toList) = false := bne_eq_false_iff_eq.mpr c26
        clear c26
        (first | rw [c26b0] | (simp only [i64_w, i32_w]; rw [c26b0]) | skip)
        have H' := Aside0.mk H
        clear H
        go_wp2
        go_meet
        case rel => exact ⟨_, ((t525 != t506)), (by first | rfl | (simp; done) | (simp [*]; done)), H', ⟨by first | omega | exact Nat.le_refl _⟩, ⟨by (with_reducible repeat (first | apply Kd.R_alloc | apply Kd.R_drewN | apply Kd.R_drew)); exact Kd.R_mono HO522.out (fun _ hk => trivial)⟩, ⟨bk_ BK487⟩, ⟨bk_ BK523⟩, ⟨bl_⟩⟩
      · rw [if_neg c26] at H
        have c26b0 : (t524.toList == t505.toList) = false := beq_eq_false_iff_ne.mpr c26
        have c26b1 : (t524.toList != t505.toList) = true := bne_iff_ne.mpr c26
        (first | rw [c26b0] | (simp only [i64_w, i32_w]; rw [c26b0]) | skip)
        have H' := Aside0.mk H
        clear H
        go_wp2
        go_meet
        case rel => exact ⟨_, (true), (by first | rfl | (simp; done) | (simp [*]; done)), H', ⟨by first | omega | exact Nat.le_refl _⟩, ⟨by (with_reducible repeat (first | apply Kd.R_alloc | apply Kd.R_drewN | apply Kd.R_drew)); exact Kd.R_mono HO522.out (fun _ hk => trivial)⟩, ⟨bk_ BK487⟩, ⟨bk_ BK523⟩, ⟨bl_⟩⟩
    case rest =>
      clear HC11
      try clear c2
      try clear p2
      try clear c3
      try clear c3b0
      try clear c4
      try clear c9
      try clear c22
      try clear c26
      try clear c26b0
      try clear c26b1
      try clear hcz13
      try clear hcz15
      try clear hcz19
      try clear hcz23
      try clear hcz5
      try clear hfz13
      try clear hfz15
      try clear hfz19
      try clear hfz23
      try clear hfz5
      obtain ⟨kq, x34_10, rfl, HA, HJ10, HO_524013, BK487, BK523, HB⟩ := hcut
      cases kq with
      | zero => exact absurd HA.out (by simp [laws_FnExactStepText.j0])
      | succ kj10 =>
        have H := HA.out
        clear HA
        simp only [laws_FnExactStepText.j0] at H
        by_cases c27 : x34_10 = true
        · subst c27
          replace H := ite_t_ H
          obtain rfl := Option.some.inj H
          go_wp2
          go_ret
          exact ⟨eq_, bl_⟩
        · replace c27 := Bool.eq_false_iff.mpr c27
          subst c27
          replace H := ite_f_ H
          obtain ⟨⟨t526, t527, t528, t529, t530, t531, t532, t533, t534, t535, t536, t537, t538, t539⟩, A28, H⟩ := bindE_ H
          replace H : ((laws_eqStep.f kj10 t507 t508 t509 t510 t511 t512 t513 t514 t515 t516 t517 t518 t519 t520 t526 t527 t528 t529 t530 t531 t532 t533 t534 t535 t536 t537 t538 t539).bind fun t542 => (if t542 = true then (some true) else (some false))) = some r := H
          obtain ⟨t542, A29, H⟩ := bindE_ H
          by_cases c30 : t542 = true
          · subst c30
            replace H := ite_t_ H
            obtain rfl := Option.some.inj H
            try go_wp2
            replace HO_524013 := Aside0.mk (Kd.R_drew HO_524013.out)
            replace BK487 := Aside0.mk (blk_drew BK487.out)
            replace BK523 := Aside0.mk (blk_drew BK523.out)
            replace HB := Aside0.mk (below_drew1 HB.out)
            refine start_ (n := 5) (S := fun w' => w'.cell? ⟨gb523, 0, none⟩ = some (.int .i64 t507) ∧ w'.cell? ⟨gb523, 1, none⟩ = some (.int .i64 t508) ∧ w'.cell? ⟨gb523, 2, none⟩ = some (.int .i64 t509) ∧ w'.cell? ⟨gb523, 3, none⟩ = some (.int .i64 t510) ∧ w'.cell? ⟨gb523, 4, none⟩ = some (.int .i64 t511) ∧ w'.cell? ⟨gb523, 5, none⟩ = some (.int .i64 t512) ∧ w'.cell? ⟨gb523, 6, none⟩ = some (.int .i64 t513) ∧ w'.cell? ⟨gb523, 7, none⟩ = some (.int .i64 t514) ∧ w'.cell? ⟨gb523, 8, none⟩ = some (.int .i64 t515) ∧ w'.cell? ⟨gb523, 9, none⟩ = some (.int .i64 t516) ∧ w'.cell? ⟨gb523, 10, none⟩ = some (.int .i64 t517) ∧ w'.cell? ⟨gb523, 11, none⟩ = some (.int .i64 t518) ∧ w'.cell? ⟨gb523, 12, none⟩ = some (.int .i64 t519) ∧ w'.cell? ⟨gb523, 13, none⟩ = some (.slice Ao24 t520.length co24) ∧ w'.cell? ⟨gb487, 0, none⟩ = some (.int .i64 a0_0) ∧ w'.cell? ⟨gb487, 1, none⟩ = some (.int .i64 a0_1) ∧ w'.cell? ⟨gb487, 2, none⟩ = some (.int .i64 a0_2) ∧ w'.cell? ⟨gb487, 3, none⟩ = some (.int .i64 a0_3) ∧ w'.cell? ⟨gb487, 4, none⟩ = some (.int .i64 a0_4) ∧ w'.cell? ⟨gb487, 5, none⟩ = some (.int .i64 a0_5) ∧ w'.cell? ⟨gb487, 6, none⟩ = some (.int .i64 a0_6) ∧ w'.cell? ⟨gb487, 7, none⟩ = some (.int .i64 a0_7) ∧ w'.cell? ⟨gb487, 8, none⟩ = some (.int .i64 a0_8) ∧ w'.cell? ⟨gb487, 9, none⟩ = some (.int .i64 a0_9) ∧ w'.cell? ⟨gb487, 10, none⟩ = some (.int .i64 a0_10) ∧ w'.cell? ⟨gb487, 11, none⟩ = some (.int .i64 a0_11) ∧ w'.cell? ⟨gb487, 12, none⟩ = some (.int .i64 a0_12) ∧ w'.cell? ⟨gb487, 13, none⟩ = some (.slice A0_13 l0_13.length c0_13)) (ds := []) #[false, false, false, false, false] (by kernel_rfl) rfl rfl ⟨(blk_cell BK523.out 0).trans rfl, (blk_cell BK523.out 1).trans rfl, (blk_cell BK523.out 2).trans rfl, (blk_cell BK523.out 3).trans rfl, (blk_cell BK523.out 4).trans rfl, (blk_cell BK523.out 5).trans rfl, (blk_cell BK523.out 6).trans rfl, (blk_cell BK523.out 7).trans rfl, (blk_cell BK523.out 8).trans rfl, (blk_cell BK523.out 9).trans rfl, (blk_cell BK523.out 10).trans rfl, (blk_cell BK523.out 11).trans rfl, (blk_cell BK523.out 12).trans rfl, (blk_cell BK523.out 13).trans rfl, (blk_cell BK487.out 0).trans rfl, (blk_cell BK487.out 1).trans rfl, (blk_cell BK487.out 2).trans rfl, (blk_cell BK487.out 3).trans rfl, (blk_cell BK487.out 4).trans rfl, (blk_cell BK487.out 5).trans rfl, (blk_cell BK487.out 6).trans rfl, (blk_cell BK487.out 7).trans rfl, (blk_cell BK487.out 8).trans rfl, (blk_cell BK487.out 9).trans rfl, (blk_cell BK487.out 10).trans rfl, (blk_cell BK487.out 11).trans rfl, (blk_cell BK487.out 12).trans rfl, (blk_cell BK487.out 13).trans rfl⟩ (fun hHeld => ?_)
            generalize wc.drew = w31 at HO_524013 BK487 BK523 HB hHeld ⊢
            refine take_ (i := 0) (N := some 35) (v := ?_) (a' := ?_) #[true, false, false, false, false] rfl rfl (by kernel_rfl) (fun _ _ _ h => h) (Or.inl ⟨by rfl, ?_⟩) hHeld ?_ ?_
            rotate_left
            · rintro w' ⟨s0, s1, s2, s3, s4, s5, s6, s7, s8, s9, s10, s11, s12, s13, s14, s15, s16, s17, s18, s19, s20, s21, s22, s23, s24, s25, s26, s27⟩
              go_simp
              with_reducible rfl
            rotate_left
            · simp only [Act.put, List.setIfInBounds_toArray, List.set_cons_zero, List.set_cons_succ, i64_w, i32_w]
              rfl
            refine take_ (i := 1) (N := some 36) (v := ?_) (a' := ?_) #[true, true, false, false, false] rfl rfl (by kernel_rfl) (fun _ _ _ h => h) (Or.inl ⟨by rfl, ?_⟩) hHeld ?_ ?_
            rotate_left
            · rintro w' ⟨s0, s1, s2, s3, s4, s5, s6, s7, s8, s9, s10, s11, s12, s13, s14, s15, s16, s17, s18, s19, s20, s21, s22, s23, s24, s25, s26, s27⟩
              go_simp
              with_reducible rfl
            rotate_left
            · simp only [Act.put, List.setIfInBounds_toArray, List.set_cons_zero, List.set_cons_succ, i64_w, i32_w]
              rfl
            refine one_ (i := 2) (N := some 37) #[true, true, true, false, false] rfl rfl (by kernel_rfl) (by decide) (fun K hK => ?_)
            refine goes_ Try.func46 (by kernel_rfl) rfl #[.agg #[.int .i64 a0_0, .int .i64 a0_1, .int .i64 a0_2, .int .i64 a0_3, .int .i64 a0_4, .int .i64 a0_5, .int .i64 a0_6, .int .i64 a0_7, .int .i64 a0_8, .int .i64 a0_9, .int .i64 a0_10, .int .i64 a0_11, .int .i64 a0_12, .slice A0_13 l0_13.length c0_13]] (by rfl) rfl rfl (by (try simp only [List.map_toArray, List.map_cons, List.map_nil]); first | done | rfl | (simp only [List.length_drop, List.length_take]; rfl)) ?_
            with_reducible refine (laws_toStep.calls kj10 a0_0 a0_1 a0_2 a0_3 a0_4 a0_5 a0_6 a0_7 a0_8 a0_9 a0_10 a0_11 a0_12 _ _ l0_13 t526 t527 t528 t529 t530 t531 t532 t533 t534 t535 t536 t537 t538 t539 _ ?side1 ?side2 A28.out).mono ?_
            (case side1 => repeat (first | exact (Kd.C_below HR0_13.out HB.out) | (with_reducible refine Kd.C_alloc ?_ _) | (with_reducible refine Kd.C_drewN ?_ _) | (with_reducible refine Kd.C_drew ?_)))
            (case side2 => exact HC0_13.out)
            rintro e w32 ⟨v540, rfl, ho0, hb⟩
            refine ⟨_, rfl, ?_⟩
            have HO541 := Aside0.mk (Kd.R_lower (Kd.R_new' ho0 (Kd.R_lt (by (with_reducible repeat (first | apply Kd.R_alloc | apply Kd.R_drewN | apply Kd.R_drew)); exact HO_524013.out))) bls_)
            replace HO_524013 := Aside0.mk (Kd.R_elder' (by (with_reducible repeat (first | apply Kd.R_alloc | apply Kd.R_drewN | apply Kd.R_drew)); exact HO_524013.out) (Kd.R_base ho0) hb)
            replace BK487 := bkb_ BK487 hb
            replace BK523 := bkb_ BK523 hb
            replace HB := hbs_ hb
            (try clear hb)
            (try clear hb2)
            (try clear hk)
            (try clear hi)
            (try clear ho0)
            obtain ⟨Ao33, co33, eo33⟩ := Kd.R_slice HO541.out
            (first | subst eo33 | (injection eo33 with f1_ f2_ f3_; have f4_ := f1_.symm; have f5_ := f3_.symm; clear f1_ f2_ f3_; subst f4_; subst f5_))
            refine hK.out _ _ ⟨(blk_cell BK523.out 0).trans rfl, (blk_cell BK523.out 1).trans rfl, (blk_cell BK523.out 2).trans rfl, (blk_cell BK523.out 3).trans rfl, (blk_cell BK523.out 4).trans rfl, (blk_cell BK523.out 5).trans rfl, (blk_cell BK523.out 6).trans rfl, (blk_cell BK523.out 7).trans rfl, (blk_cell BK523.out 8).trans rfl, (blk_cell BK523.out 9).trans rfl, (blk_cell BK523.out 10).trans rfl, (blk_cell BK523.out 11).trans rfl, (blk_cell BK523.out 12).trans rfl, (blk_cell BK523.out 13).trans rfl, (blk_cell BK487.out 0).trans rfl, (blk_cell BK487.out 1).trans rfl, (blk_cell BK487.out 2).trans rfl, (blk_cell BK487.out 3).trans rfl, (blk_cell BK487.out 4).trans rfl, (blk_cell BK487.out 5).trans rfl, (blk_cell BK487.out 6).trans rfl, (blk_cell BK487.out 7).trans rfl, (blk_cell BK487.out 8).trans rfl, (blk_cell BK487.out 9).trans rfl, (blk_cell BK487.out 10).trans rfl, (blk_cell BK487.out 11).trans rfl, (blk_cell BK487.out 12).trans rfl, (blk_cell BK487.out 13).trans rfl⟩ (fun hHeld => ?_)
            clear hK K
            refine norm_ (a' := ?_) ?_ ?_
            rotate_left
            · show Act.put _ (some 37) _ = _
              simp only [Act.put, List.setIfInBounds_toArray, List.set_cons_zero, List.set_cons_succ, i64_w, i32_w]
              rfl
            refine one_ (i := 3) (N := some 38) #[true, true, true, true, false] rfl rfl (by kernel_rfl) (by decide) (fun K hK => ?_)
            refine goes_ Try.func48 (by kernel_rfl) rfl #[.agg #[.int .i64 t507, .int .i64 t508, .int .i64 t509, .int .i64 t510, .int .i64 t511, .int .i64 t512, .int .i64 t513, .int .i64 t514, .int .i64 t515, .int .i64 t516, .int .i64 t517, .int .i64 t518, .int .i64 t519, .slice Ao24 t520.length co24], .agg #[.int .i64 t526, .int .i64 t527, .int .i64 t528, .int .i64 t529, .int .i64 t530, .int .i64 t531, .int .i64 t532, .int .i64 t533, .int .i64 t534, .int .i64 t535, .int .i64 t536, .int .i64 t537, .int .i64 t538, .slice Ao33 t539.length co33]] (by rfl) rfl rfl (by (try simp only [List.map_toArray, List.map_cons, List.map_nil]); first | done | rfl | (simp only [List.length_drop, List.length_take]; rfl)) ?_
            with_reducible refine (laws_eqStep.calls kj10 t507 t508 t509 t510 t511 t512 t513 t514 t515 t516 t517 t518 t519 _ _ t520 t526 t527 t528 t529 t530 t531 t532 t533 t534 t535 t536 t537 t538 _ _ t539 true _ ?side1 ?side2 ?side3 ?side4 A29.out).mono ?_
            (case side1 => repeat (first | exact (Kd.R_reads' HO_524013.out).2.2 | (with_reducible refine Kd.C_alloc ?_ _) | (with_reducible refine Kd.C_drewN ?_ _) | (with_reducible refine Kd.C_drew ?_)))
            (case side2 => exact (Kd.R_reads' HO_524013.out).2.1)
            (case side3 => repeat (first | exact (Kd.R_reads' HO541.out).2.2 | (with_reducible refine Kd.C_alloc ?_ _) | (with_reducible refine Kd.C_drewN ?_ _) | (with_reducible refine Kd.C_drew ?_)))
            (case side4 => exact (Kd.R_reads' HO541.out).2.1)
            rintro e w34 ⟨rfl, hb⟩
            refine ⟨_, rfl, ?_⟩
            replace HO_524013 := Aside0.mk (Kd.R_below (by (with_reducible repeat (first | apply Kd.R_alloc | apply Kd.R_drewN | apply Kd.R_drew)); exact HO_524013.out) hb)
            replace HO541 := Aside0.mk (Kd.R_below (by (with_reducible repeat (first | apply Kd.R_alloc | apply Kd.R_drewN | apply Kd.R_drew)); exact HO541.out) hb)
            replace BK487 := bkb_ BK487 hb
            replace BK523 := bkb_ BK523 hb
            replace HB := hbs_ hb
            (try clear hb)
            (try clear hb2)
            (try clear hk)
            (try clear hi)
            refine hK.out _ _ ⟨(blk_cell BK523.out 0).trans rfl, (blk_cell BK523.out 1).trans rfl, (blk_cell BK523.out 2).trans rfl, (blk_cell BK523.out 3).trans rfl, (blk_cell BK523.out 4).trans rfl, (blk_cell BK523.out 5).trans rfl, (blk_cell BK523.out 6).trans rfl, (blk_cell BK523.out 7).trans rfl, (blk_cell BK523.out 8).trans rfl, (blk_cell BK523.out 9).trans rfl, (blk_cell BK523.out 10).trans rfl, (blk_cell BK523.out 11).trans rfl, (blk_cell BK523.out 12).trans rfl, (blk_cell BK523.out 13).trans rfl, (blk_cell BK487.out 0).trans rfl, (blk_cell BK487.out 1).trans rfl, (blk_cell BK487.out 2).trans rfl, (blk_cell BK487.out 3).trans rfl, (blk_cell BK487.out 4).trans rfl, (blk_cell BK487.out 5).trans rfl, (blk_cell BK487.out 6).trans rfl, (blk_cell BK487.out 7).trans rfl, (blk_cell BK487.out 8).trans rfl, (blk_cell BK487.out 9).trans rfl, (blk_cell BK487.out 10).trans rfl, (blk_cell BK487.out 11).trans rfl, (blk_cell BK487.out 12).trans rfl, (blk_cell BK487.out 13).trans rfl⟩ (fun hHeld => ?_)
            clear hK K
            refine norm_ (a' := ?_) ?_ ?_
            rotate_left
            · show Act.put _ (some 38) _ = _
              simp only [Act.put, List.setIfInBounds_toArray, List.set_cons_zero, List.set_cons_succ, i64_w, i32_w]
              rfl
            refine pure_ (i := 4) (N := some 39) (v := ?_) (a' := ?_) #[true, true, true, true, true] rfl rfl (by kernel_rfl) (fun _ _ _ h => h) (Or.inl ⟨by rfl, ?_⟩) ?_ ?_
            rotate_left
            · intro w'
              go_simp
              with_reducible rfl
            rotate_left
            · simp only [Act.put, List.setIfInBounds_toArray, List.set_cons_zero, List.set_cons_succ, i64_w, i32_w]
              rfl
            refine done_ (by kernel_rfl) ?_
            try go_wp2
            go_ret
            exact ⟨eq_, bl_⟩
          · replace c30 := Bool.eq_false_iff.mpr c30
            subst c30
            replace H := ite_f_ H
            obtain rfl := Option.some.inj H
            try go_wp2
            replace HO_524013 := Aside0.mk (Kd.R_drew HO_524013.out)
            replace BK487 := Aside0.mk (blk_drew BK487.out)
            replace BK523 := Aside0.mk (blk_drew BK523.out)
            replace HB := Aside0.mk (below_drew1 HB.out)
            refine start_ (n := 5) (S := fun w' => w'.cell? ⟨gb523, 0, none⟩ = some (.int .i64 t507) ∧ w'.cell? ⟨gb523, 1, none⟩ = some (.int .i64 t508) ∧ w'.cell? ⟨gb523, 2, none⟩ = some (.int .i64 t509) ∧ w'.cell? ⟨gb523, 3, none⟩ = some (.int .i64 t510) ∧ w'.cell? ⟨gb523, 4, none⟩ = some (.int .i64 t511) ∧ w'.cell? ⟨gb523, 5, none⟩ = some (.int .i64 t512) ∧ w'.cell? ⟨gb523, 6, none⟩ = some (.int .i64 t513) ∧ w'.cell? ⟨gb523, 7, none⟩ = some (.int .i64 t514) ∧ w'.cell? ⟨gb523, 8, none⟩ = some (.int .i64 t515) ∧ w'.cell? ⟨gb523, 9, none⟩ = some (.int .i64 t516) ∧ w'.cell? ⟨gb523, 10, none⟩ = some (.int .i64 t517) ∧ w'.cell? ⟨gb523, 11, none⟩ = some (.int .i64 t518) ∧ w'.cell? ⟨gb523, 12, none⟩ = some (.int .i64 t519) ∧ w'.cell? ⟨gb523, 13, none⟩ = some (.slice Ao24 t520.length co24) ∧ w'.cell? ⟨gb487, 0, none⟩ = some (.int .i64 a0_0) ∧ w'.cell? ⟨gb487, 1, none⟩ = some (.int .i64 a0_1) ∧ w'.cell? ⟨gb487, 2, none⟩ = some (.int .i64 a0_2) ∧ w'.cell? ⟨gb487, 3, none⟩ = some (.int .i64 a0_3) ∧ w'.cell? ⟨gb487, 4, none⟩ = some (.int .i64 a0_4) ∧ w'.cell? ⟨gb487, 5, none⟩ = some (.int .i64 a0_5) ∧ w'.cell? ⟨gb487, 6, none⟩ = some (.int .i64 a0_6) ∧ w'.cell? ⟨gb487, 7, none⟩ = some (.int .i64 a0_7) ∧ w'.cell? ⟨gb487, 8, none⟩ = some (.int .i64 a0_8) ∧ w'.cell? ⟨gb487, 9, none⟩ = some (.int .i64 a0_9) ∧ w'.cell? ⟨gb487, 10, none⟩ = some (.int .i64 a0_10) ∧ w'.cell? ⟨gb487, 11, none⟩ = some (.int .i64 a0_11) ∧ w'.cell? ⟨gb487, 12, none⟩ = some (.int .i64 a0_12) ∧ w'.cell? ⟨gb487, 13, none⟩ = some (.slice A0_13 l0_13.length c0_13)) (ds := []) #[false, false, false, false, false] (by kernel_rfl) rfl rfl ⟨(blk_cell BK523.out 0).trans rfl, (blk_cell BK523.out 1).trans rfl, (blk_cell BK523.out 2).trans rfl, (blk_cell BK523.out 3).trans rfl, (blk_cell BK523.out 4).trans rfl, (blk_cell BK523.out 5).trans rfl, (blk_cell BK523.out 6).trans rfl, (blk_cell BK523.out 7).trans rfl, (blk_cell BK523.out 8).trans rfl, (blk_cell BK523.out 9).trans rfl, (blk_cell BK523.out 10).trans rfl, (blk_cell BK523.out 11).trans rfl, (blk_cell BK523.out 12).trans rfl, (blk_cell BK523.out 13).trans rfl, (blk_cell BK487.out 0).trans rfl, (blk_cell BK487.out 1).trans rfl, (blk_cell BK487.out 2).trans rfl, (blk_cell BK487.out 3).trans rfl, (blk_cell BK487.out 4).trans rfl, (blk_cell BK487.out 5).trans rfl, (blk_cell BK487.out 6).trans rfl, (blk_cell BK487.out 7).trans rfl, (blk_cell BK487.out 8).trans rfl, (blk_cell BK487.out 9).trans rfl, (blk_cell BK487.out 10).trans rfl, (blk_cell BK487.out 11).trans rfl, (blk_cell BK487.out 12).trans rfl, (blk_cell BK487.out 13).trans rfl⟩ (fun hHeld => ?_)
            generalize wc.drew = w35 at HO_524013 BK487 BK523 HB hHeld ⊢
            refine take_ (i := 0) (N := some 35) (v := ?_) (a' := ?_) #[true, false, false, false, false] rfl rfl (by kernel_rfl) (fun _ _ _ h => h) (Or.inl ⟨by rfl, ?_⟩) hHeld ?_ ?_
            rotate_left
            · rintro w' ⟨s0, s1, s2, s3, s4, s5, s6, s7, s8, s9, s10, s11, s12, s13, s14, s15, s16, s17, s18, s19, s20, s21, s22, s23, s24, s25, s26, s27⟩
              go_simp
              with_reducible rfl
            rotate_left
            · simp only [Act.put, List.setIfInBounds_toArray, List.set_cons_zero, List.set_cons_succ, i64_w, i32_w]
              rfl
            refine take_ (i := 1) (N := some 36) (v := ?_) (a' := ?_) #[true, true, false, false, false] rfl rfl (by kernel_rfl) (fun _ _ _ h => h) (Or.inl ⟨by rfl, ?_⟩) hHeld ?_ ?_
            rotate_left
            · rintro w' ⟨s0, s1, s2, s3, s4, s5, s6, s7, s8, s9, s10, s11, s12, s13, s14, s15, s16, s17, s18, s19, s20, s21, s22, s23, s24, s25, s26, s27⟩
              go_simp
              with_reducible rfl
            rotate_left
            · simp only [Act.put, List.setIfInBounds_toArray, List.set_cons_zero, List.set_cons_succ, i64_w, i32_w]
              rfl
            refine one_ (i := 2) (N := some 37) #[true, true, true, false, false] rfl rfl (by kernel_rfl) (by decide) (fun K hK => ?_)
            refine goes_ Try.func46 (by kernel_rfl) rfl #[.agg #[.int .i64 a0_0, .int .i64 a0_1, .int .i64 a0_2, .int .i64 a0_3, .int .i64 a0_4, .int .i64 a0_5, .int .i64 a0_6, .int .i64 a0_7, .int .i64 a0_8, .int .i64 a0_9, .int .i64 a0_10, .int .i64 a0_11, .int .i64 a0_12, .slice A0_13 l0_13.length c0_13]] (by rfl) rfl rfl (by (try simp only [List.map_toArray, List.map_cons, List.map_nil]); first | done | rfl | (simp only [List.length_drop, List.length_take]; rfl)) ?_
            with_reducible refine (laws_toStep.calls kj10 a0_0 a0_1 a0_2 a0_3 a0_4 a0_5 a0_6 a0_7 a0_8 a0_9 a0_10 a0_11 a0_12 _ _ l0_13 t526 t527 t528 t529 t530 t531 t532 t533 t534 t535 t536 t537 t538 t539 _ ?side1 ?side2 A28.out).mono ?_
            (case side1 => repeat (first | exact (Kd.C_below HR0_13.out HB.out) | (with_reducible refine Kd.C_alloc ?_ _) | (with_reducible refine Kd.C_drewN ?_ _) | (with_reducible refine Kd.C_drew ?_)))
            (case side2 => exact HC0_13.out)
            rintro e w36 ⟨v540, rfl, ho0, hb⟩
            refine ⟨_, rfl, ?_⟩
            have HO541 := Aside0.mk (Kd.R_lower (Kd.R_new' ho0 (Kd.R_lt (by (with_reducible repeat (first | apply Kd.R_alloc | apply Kd.R_drewN | apply Kd.R_drew)); exact HO_524013.out))) bls_)
            replace HO_524013 := Aside0.mk (Kd.R_elder' (by (with_reducible repeat (first | apply Kd.R_alloc | apply Kd.R_drewN | apply Kd.R_drew)); exact HO_524013.out) (Kd.R_base ho0) hb)
            replace BK487 := bkb_ BK487 hb
            replace BK523 := bkb_ BK523 hb
            replace HB := hbs_ hb
            (try clear hb)
            (try clear hb2)
            (try clear hk)
            (try clear hi)
            (try clear ho0)
            obtain ⟨Ao37, co37, eo37⟩ := Kd.R_slice HO541.out
            (first | subst eo37 | (injection eo37 with f1_ f2_ f3_; have f4_ := f1_.symm; have f5_ := f3_.symm; clear f1_ f2_ f3_; subst f4_; subst f5_))
            refine hK.out _ _ ⟨(blk_cell BK523.out 0).trans rfl, (blk_cell BK523.out 1).trans rfl, (blk_cell BK523.out 2).trans rfl, (blk_cell BK523.out 3).trans rfl, (blk_cell BK523.out 4).trans rfl, (blk_cell BK523.out 5).trans rfl, (blk_cell BK523.out 6).trans rfl, (blk_cell BK523.out 7).trans rfl, (blk_cell BK523.out 8).trans rfl, (blk_cell BK523.out 9).trans rfl, (blk_cell BK523.out 10).trans rfl, (blk_cell BK523.out 11).trans rfl, (blk_cell BK523.out 12).trans rfl, (blk_cell BK523.out 13).trans rfl, (blk_cell BK487.out 0).trans rfl, (blk_cell BK487.out 1).trans rfl, (blk_cell BK487.out 2).trans rfl, (blk_cell BK487.out 3).trans rfl, (blk_cell BK487.out 4).trans rfl, (blk_cell BK487.out 5).trans rfl, (blk_cell BK487.out 6).trans rfl, (blk_cell BK487.out 7).trans rfl, (blk_cell BK487.out 8).trans rfl, (blk_cell BK487.out 9).trans rfl, (blk_cell BK487.out 10).trans rfl, (blk_cell BK487.out 11).trans rfl, (blk_cell BK487.out 12).trans rfl, (blk_cell BK487.out 13).trans rfl⟩ (fun hHeld => ?_)
            clear hK K
            refine norm_ (a' := ?_) ?_ ?_
            rotate_left
            · show Act.put _ (some 37) _ = _
              simp only [Act.put, List.setIfInBounds_toArray, List.set_cons_zero, List.set_cons_succ, i64_w, i32_w]
              rfl
            refine one_ (i := 3) (N := some 38) #[true, true, true, true, false] rfl rfl (by kernel_rfl) (by decide) (fun K hK => ?_)
            refine goes_ Try.func48 (by kernel_rfl) rfl #[.agg #[.int .i64 t507, .int .i64 t508, .int .i64 t509, .int .i64 t510, .int .i64 t511, .int .i64 t512, .int .i64 t513, .int .i64 t514, .int .i64 t515, .int .i64 t516, .int .i64 t517, .int .i64 t518, .int .i64 t519, .slice Ao24 t520.length co24], .agg #[.int .i64 t526, .int .i64 t527, .int .i64 t528, .int .i64 t529, .int .i64 t530, .int .i64 t531, .int .i64 t532, .int .i64 t533, .int .i64 t534, .int .i64 t535, .int .i64 t536, .int .i64 t537, .int .i64 t538, .slice Ao37 t539.length co37]] (by rfl) rfl rfl (by (try simp only [List.map_toArray, List.map_cons, List.map_nil]); first | done | rfl | (simp only [List.length_drop, List.length_take]; rfl)) ?_
            with_reducible refine (laws_eqStep.calls kj10 t507 t508 t509 t510 t511 t512 t513 t514 t515 t516 t517 t518 t519 _ _ t520 t526 t527 t528 t529 t530 t531 t532 t533 t534 t535 t536 t537 t538 _ _ t539 false _ ?side1 ?side2 ?side3 ?side4 A29.out).mono ?_
            (case side1 => repeat (first | exact (Kd.R_reads' HO_524013.out).2.2 | (with_reducible refine Kd.C_alloc ?_ _) | (with_reducible refine Kd.C_drewN ?_ _) | (with_reducible refine Kd.C_drew ?_)))
            (case side2 => exact (Kd.R_reads' HO_524013.out).2.1)
            (case side3 => repeat (first | exact (Kd.R_reads' HO541.out).2.2 | (with_reducible refine Kd.C_alloc ?_ _) | (with_reducible refine Kd.C_drewN ?_ _) | (with_reducible refine Kd.C_drew ?_)))
            (case side4 => exact (Kd.R_reads' HO541.out).2.1)
            rintro e w38 ⟨rfl, hb⟩
            refine ⟨_, rfl, ?_⟩
            replace HO_524013 := Aside0.mk (Kd.R_below (by (with_reducible repeat (first | apply Kd.R_alloc | apply Kd.R_drewN | apply Kd.R_drew)); exact HO_524013.out) hb)
            replace HO541 := Aside0.mk (Kd.R_below (by (with_reducible repeat (first | apply Kd.R_alloc | apply Kd.R_drewN | apply Kd.R_drew)); exact HO541.out) hb)
            replace BK487 := bkb_ BK487 hb
            replace BK523 := bkb_ BK523 hb
            replace HB := hbs_ hb
            (try clear hb)
            (try clear hb2)
            (try clear hk)
            (try clear hi)
            refine hK.out _ _ ⟨(blk_cell BK523.out 0).trans rfl, (blk_cell BK523.out 1).trans rfl, (blk_cell BK523.out 2).trans rfl, (blk_cell BK523.out 3).trans rfl, (blk_cell BK523.out 4).trans rfl, (blk_cell BK523.out 5).trans rfl, (blk_cell BK523.out 6).trans rfl, (blk_cell BK523.out 7).trans rfl, (blk_cell BK523.out 8).trans rfl, (blk_cell BK523.out 9).trans rfl, (blk_cell BK523.out 10).trans rfl, (blk_cell BK523.out 11).trans rfl, (blk_cell BK523.out 12).trans rfl, (blk_cell BK523.out 13).trans rfl, (blk_cell BK487.out 0).trans rfl, (blk_cell BK487.out 1).trans rfl, (blk_cell BK487.out 2).trans rfl, (blk_cell BK487.out 3).trans rfl, (blk_cell BK487.out 4).trans rfl, (blk_cell BK487.out 5).trans rfl, (blk_cell BK487.out 6).trans rfl, (blk_cell BK487.out 7).trans rfl, (blk_cell BK487.out 8).trans rfl, (blk_cell BK487.out 9).trans rfl, (blk_cell BK487.out 10).trans rfl, (blk_cell BK487.out 11).trans rfl, (blk_cell BK487.out 12).trans rfl, (blk_cell BK487.out 13).trans rfl⟩ (fun hHeld => ?_)
            clear hK K
            refine norm_ (a' := ?_) ?_ ?_
            rotate_left
            · show Act.put _ (some 38) _ = _
              simp only [Act.put, List.setIfInBounds_toArray, List.set_cons_zero, List.set_cons_succ, i64_w, i32_w]
              rfl
            refine pure_ (i := 4) (N := some 39) (v := ?_) (a' := ?_) #[true, true, true, true, true] rfl rfl (by kernel_rfl) (fun _ _ _ h => h) (Or.inl ⟨by rfl, ?_⟩) ?_ ?_
            rotate_left
            · intro w'
              go_simp
              with_reducible rfl
            rotate_left
            · simp only [Act.put, List.setIfInBounds_toArray, List.set_cons_zero, List.set_cons_succ, i64_w, i32_w]
              rfl
            refine done_ (by kernel_rfl) ?_
            try go_wp2
            go_ret
            exact ⟨eq_, bl_⟩

/-! ### spec_l13Done: function 140 -/
def spec_l13Done.l0 : Nat → List (S27) → Int → Int → Int → Option (Bool)
  | 0, _, _, _, _ => none
  | k + 1, x0, x5, x544000, x544001 => if x5 < (x0.length : Int) then (if 0 ≤ x5 then (if (((rd_T27 x0 x5).f0) == x544000 && (((rd_T27 x0 x5).f1) == x544001)) = true then (some true) else (spec_l13Done.l0 k x0 (wrap64 (x5 + 1)) x544000 x544001)) else (none)) else (some false)
def spec_l13Done.f (k : Nat) (l0 : List (S27)) (a1_0 : Int) (a1_1 : Int) : Option (Bool) := spec_l13Done.l0 k l0 0 a1_0 a1_1
theorem spec_l13Done.mono_l : ∀ k, (∀ y0 y1 y2 y3, LeO (spec_l13Done.l0 k y0 y1 y2 y3) (spec_l13Done.l0 (k + 1) y0 y1 y2 y3))
  | 0 => fun _ _ _ _ r h => by simp [spec_l13Done.l0] at h
  | k + 1 => by
    have ih0 := spec_l13Done.mono_l k
    · intro y0 y1 y2 y3
      unfold spec_l13Done.l0
      repeat' first
      | (with_reducible exact ih0 _ _ _ _)
      | (with_reducible exact LeO.refl _)
      | (with_reducible exact LeO.none _)
      | (with_reducible refine LeO.ite ?_ ?_)
      | (with_reducible refine LeO.bind ?_ (fun _ => ?_))
      | exact ih0 _ _ _ _
      | exact LeO.none _
      | refine LeO.ite ?_ ?_
      | refine LeO.bind ?_ (fun _ => ?_)
theorem spec_l13Done.mono : ∀ a0 a1 a2 k, LeO (spec_l13Done.f k a0 a1 a2) (spec_l13Done.f (k + 1) a0 a1 a2) := by
  intro a0 a1 a2 k
  have ih0 := spec_l13Done.mono_l k
  unfold spec_l13Done.f
  repeat' first
      | (with_reducible exact ih0 _ _ _ _)
      | (with_reducible exact LeO.refl _)
      | (with_reducible exact LeO.none _)
      | (with_reducible refine LeO.ite ?_ ?_)
      | (with_reducible refine LeO.bind ?_ (fun _ => ?_))
      | exact ih0 _ _ _ _
      | exact LeO.none _
      | refine LeO.ite ?_ ?_
      | refine LeO.bind ?_ (fun _ => ?_)
set_option maxHeartbeats 8000000 in
set_option maxRecDepth 100000 in
theorem spec_l13Done.calls (k : Nat) (A0 : Option Addr) (c0 : Nat) (l0 : List (S27)) (a1_0 : Int) (a1_1 : Int) (r : Bool) (w : World) (hr0 : Kd.C k27 w A0 l0.length l0) (hc0 : l0.length ≤ c0) (h : spec_l13Done.f k l0 a1_0 a1_1 = some r) :
    Calls Try.prog 140 #[.slice A0 l0.length c0, .agg #[.int .i64 a1_0, .int .i64 a1_1]] w fun e w' => e = .returned (.bool r) ∧ Below w.heap.size w w' := by
  have hu27 := Try.underlying27
  have HR0 := Aside0.mk hr0
  have HC0 := Aside0.mk hc0
  clear hr0 hc0
  have HB := Aside0.mk (Below.refl w.heap.size w)
  have H : (spec_l13Done.l0 k l0 0 a1_0 a1_1) = some r := h
  clear h
  have H' := Aside0.mk H
  clear H
  go_enter Try.func140, Try.ntmps140
  go_wp2_with (first | ((with_reducible refine gate_dst (N := 3) rfl ?_); refine box_event ?hg (N := 3) ?hd (cs := #[.int .i64 a1_0, .int .i64 a1_1]) (t := 27) ?hr ?_; (case hd => rfl); (case hg => rfl); (case hr => first | (go_simp; done) | (go_simp; rfl)); intro gb543 hg w3 hbox hb; have BK543 := Aside0.mk (hbox); have GW543 := gs_ hg; have GE543 := gs_ hg; replace HB := hbs_ hb; clear hb hbox hg))
  repeat (go_quiet (first | ((with_reducible refine gate_dst (N := 3) rfl ?_); refine box_event ?hg (N := 3) ?hd (cs := #[.int .i64 a1_0, .int .i64 a1_1]) (t := 27) ?hr ?_; (case hd => rfl); (case hg => rfl); (case hr => first | (go_simp; done) | (go_simp; rfl)); intro gb543 hg w3 hbox hb; have BK543 := Aside0.mk (hbox); have GW543 := gs_ hg; have GE543 := gs_ hg; replace HB := hbs_ hb; clear hb hbox hg)); try go_wp2_with (first | ((with_reducible refine gate_dst (N := 3) rfl ?_); refine box_event ?hg (N := 3) ?hd (cs := #[.int .i64 a1_0, .int .i64 a1_1]) (t := 27) ?hr ?_; (case hd => rfl); (case hg => rfl); (case hr => first | (go_simp; done) | (go_simp; rfl)); intro gb543 hg w3 hbox hb; have BK543 := Aside0.mk (hbox); have GW543 := gs_ hg; have GE543 := gs_ hg; replace HB := hbs_ hb; clear hb hbox hg)))
  go_loopg [5] k (fun kq v5 w' => ∃ (x5_1 : Int), v5 = .int .i64 x5_1 ∧ Aside0 (spec_l13Done.l0 kq l0 x5_1 a1_0 a1_1 = some r) ∧ Aside0 (kq ≤ k) ∧ Aside0 (w'.heap[gb543]? = some (.cells #[.int .i64 a1_0, .int .i64 a1_1] 27 (0, 0))) ∧ Aside0 (Below w.heap.size w w'))
  case atStart => exact ⟨(0), (by first | rfl | (simp; done) | (simp [*]; done)), H', ⟨Nat.le_refl _⟩, ⟨bk_ BK543⟩, ⟨bl_⟩⟩
  case round =>
    clear H'
    try clear c1
    try clear p2
    obtain ⟨x5_1, rfl, HA, HK1, BK543, HB⟩ := hrel
    cases gk with
    | zero => exact absurd HA.out (by simp [spec_l13Done.l0])
    | succ k1 =>
      have H := HA.out
      clear HA
      simp only [spec_l13Done.l0] at H
      by_cases c4 : x5_1 < (l0.length : Int)
      · rw [if_pos c4] at H
        have c4b0 : decide (x5_1 < (l0.length : Int)) = true := decide_eq_true c4
        clear c4
        by_cases c5 : 0 ≤ x5_1
        · rw [if_pos c5] at H
          have c5b0 : decide (0 ≤ x5_1) = true := decide_eq_true c5
          clear c5
          by_cases c6 : (((rd_T27 l0 x5_1).f0) == a1_0 && (((rd_T27 l0 x5_1).f1) == a1_1)) = true
          · rw [if_pos c6] at H
            have c6b0 : (((rd_T27 l0 x5_1).f0) == a1_0 && (((rd_T27 l0 x5_1).f1) == a1_1)) = true := c6
            (try (have c6b1 : decide (((rd_T27 l0 x5_1).f0) = a1_0 && (((rd_T27 l0 x5_1).f1) == a1_1)) = true := by simpa using c6))
            (try (have c6b2 : (((rd_T27 l0 x5_1).f0) == a1_0 && (((rd_T27 l0 x5_1).f1) == a1_1)) = true := by simpa using c6))
            clear c6
            obtain rfl := Option.some.inj H
            have p544 : 0 ≤ (x5_1 : Int) := of_decide_eq_true (by first | (with_reducible assumption) | assumption)
            have q544 : x5_1 < (l0.length : Int) := of_decide_eq_true (by first | (with_reducible assumption) | assumption)
            obtain ⟨ad544, e544, hx544_0, hx544_1⟩ := at_T27 (Kd.C_below HR0.out HB.out) x5_1 p544 q544
            cases e544
            replace p544 := eq_true p544
            replace q544 := eq_true q544
            have hcz7 := blk_cell BK543.out
            have hfz7 := blk_frozen BK543.out
            go_wp2
            repeat (go_quiet (fail); try go_wp2)
            go_ret
            exact ⟨eq_, bl_⟩
          · rw [if_neg c6] at H
            have c6b0 : (((rd_T27 l0 x5_1).f0) == a1_0 && (((rd_T27 l0 x5_1).f1) == a1_1)) = false := by simpa using c6
            (try (have c6b1 : decide (((rd_T27 l0 x5_1).f0) = a1_0 && (((rd_T27 l0 x5_1).f1) == a1_1)) = false := by simpa using c6))
            (try (have c6b2 : (((rd_T27 l0 x5_1).f0) == a1_0 && (((rd_T27 l0 x5_1).f1) == a1_1)) = false := by simpa using c6))
            (try (have c6b3 : ¬ (((rd_T27 l0 x5_1).f0) = a1_0 && (((rd_T27 l0 x5_1).f1) == a1_1)) := by simpa using c6))
            clear c6
            have H' := Aside0.mk H
            clear H
            have p544 : 0 ≤ (x5_1 : Int) := of_decide_eq_true (by first | (with_reducible assumption) | assumption)
            have q544 : x5_1 < (l0.length : Int) := of_decide_eq_true (by first | (with_reducible assumption) | assumption)
            obtain ⟨ad544, e544, hx544_0, hx544_1⟩ := at_T27 (Kd.C_below HR0.out HB.out) x5_1 p544 q544
            cases e544
            replace p544 := eq_true p544
            replace q544 := eq_true q544
            have hcz8 := blk_cell BK543.out
            have hfz8 := blk_frozen BK543.out
            go_wp2
            repeat (go_quiet (fail); try go_wp2)
            go_roundg k1
            case measure => have := HK1.out; omega
            case rel => exact ⟨(wrap64 (x5_1 + 1)), (by first | rfl | (simp; done) | (simp [*]; done)), H', ⟨by have := HK1.out; omega⟩, ⟨bk_ BK543⟩, ⟨bl_⟩⟩
        · rw [if_neg c5] at H
          exact absurd H (by simp)
      · rw [if_neg c4] at H
        have c4b0 : decide (x5_1 < (l0.length : Int)) = false := decide_eq_false c4
        clear c4
        obtain rfl := Option.some.inj H
        go_wp2
        repeat (go_quiet (fail); try go_wp2)
        go_ret
        exact ⟨eq_, bl_⟩

end Go.Proofs.Ytcgnegnljffkmaa.PA
