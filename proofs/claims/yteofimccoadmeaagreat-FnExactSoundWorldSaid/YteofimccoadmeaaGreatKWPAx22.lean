import Derived.Test.YteofimccoadmeaaGreatKWPAx18
import Derived.Test.YteofimccoadmeaaGreatKWPAx21
-- printed by wip/tools
namespace Go.Proofs.YteofimccoadmeaaGreat.PA
open Go.RowKit Go.Proofs.YteofimccoadmeaaGreatW.PrintWords Go.Proofs.YteofimccoadmeaaGreatW.PrintLast Go.Proofs.YteofimccoadmeaaGreatW.PrintMore
attribute [local go_sem] max2_int min2_int max_two min_two max_three min_three max_four min_four
set_option linter.unusedVariables false
set_option linter.unusedSimpArgs false
def laws_FnExactSoundWorld.f (k : Nat) (l0_0 : List (S104)) (a0_1 : Int) (l0_2 : List Int) (l0_3 : List (S88)) (l0_4 : List (S88)) (l0_5 : List (S64)) (l0_6 : List (S92)) (l0_7 : List Int) : Option (Bool) := (laws_szWorld.f k l0_0 a0_1 l0_2 l0_3 l0_4 l0_5 l0_6 l0_7 1048576).bind fun t640 => (if t640 < 0 then (some true) else ((laws_toWorld.f k l0_0 a0_1 l0_2 l0_3 l0_4 l0_5 l0_6 l0_7).bind fun bt641 => ((spec_SoundWorld.f k bt641.1 bt641.2.1 bt641.2.2.1 bt641.2.2.2.1 bt641.2.2.2.2.1 bt641.2.2.2.2.2.1 bt641.2.2.2.2.2.2.1 bt641.2.2.2.2.2.2.2).bind fun t663 => ((laws_toWorld.f k l0_0 a0_1 l0_2 l0_3 l0_4 l0_5 l0_6 l0_7).bind fun bt664 => ((impl_SoundWorld.f k bt664.1 bt664.2.1 bt664.2.2.1 bt664.2.2.2.1 bt664.2.2.2.2.1 bt664.2.2.2.2.2.1 bt664.2.2.2.2.2.2.1 bt664.2.2.2.2.2.2.2).bind fun t687 => (if (t687 != t663) = true then (some false) else ((laws_toWorld.f k l0_0 a0_1 l0_2 l0_3 l0_4 l0_5 l0_6 l0_7).bind fun bt688 => ((laws_eqWorld.f k bt664.1 bt664.2.1 bt664.2.2.1 bt664.2.2.2.1 bt664.2.2.2.2.1 bt664.2.2.2.2.2.1 bt664.2.2.2.2.2.2.1 bt664.2.2.2.2.2.2.2 bt688.1 bt688.2.1 bt688.2.2.1 bt688.2.2.2.1 bt688.2.2.2.2.1 bt688.2.2.2.2.2.1 bt688.2.2.2.2.2.2.1 bt688.2.2.2.2.2.2.2).bind fun t710 => (if t710 = true then (some true) else (some false))))))))))
set_option maxHeartbeats 8000000 in
set_option maxRecDepth 100000 in
theorem laws_FnExactSoundWorld.calls (k : Nat) (A0_0 : Option Addr) (c0_0 : Nat) (l0_0 : List (S104)) (a0_1 : Int) (A0_2 : Option Addr) (c0_2 : Nat) (l0_2 : List Int) (A0_3 : Option Addr) (c0_3 : Nat) (l0_3 : List (S88)) (A0_4 : Option Addr) (c0_4 : Nat) (l0_4 : List (S88)) (A0_5 : Option Addr) (c0_5 : Nat) (l0_5 : List (S64)) (A0_6 : Option Addr) (c0_6 : Nat) (l0_6 : List (S92)) (A0_7 : Option Addr) (c0_7 : Nat) (l0_7 : List Int) (r : Bool) (w : World) (hr0_0 : Kd.C k104 w A0_0 l0_0.length l0_0) (hc0_0 : l0_0.length ≤ c0_0) (hr0_2 : Kd.C (Kd.int .i64) w A0_2 l0_2.length l0_2) (hc0_2 : l0_2.length ≤ c0_2) (hr0_3 : Kd.C k88 w A0_3 l0_3.length l0_3) (hc0_3 : l0_3.length ≤ c0_3) (hr0_4 : Kd.C k88 w A0_4 l0_4.length l0_4) (hc0_4 : l0_4.length ≤ c0_4) (hr0_5 : Kd.C k64 w A0_5 l0_5.length l0_5) (hc0_5 : l0_5.length ≤ c0_5) (hr0_6 : Kd.C k92 w A0_6 l0_6.length l0_6) (hc0_6 : l0_6.length ≤ c0_6) (hr0_7 : Kd.C (Kd.int .i64) w A0_7 l0_7.length l0_7) (hc0_7 : l0_7.length ≤ c0_7) (hr_ : r = true) (h : laws_FnExactSoundWorld.f k l0_0 a0_1 l0_2 l0_3 l0_4 l0_5 l0_6 l0_7 = some r) :
  Calls Tryz.prog 3 #[.agg #[.slice A0_0 l0_0.length c0_0, .int .i64 a0_1, .slice A0_2 l0_2.length c0_2, .slice A0_3 l0_3.length c0_3, .slice A0_4 l0_4.length c0_4, .slice A0_5 l0_5.length c0_5, .slice A0_6 l0_6.length c0_6, .slice A0_7 l0_7.length c0_7]] w fun e w' => e = .returned (.bool r) ∧ Below w.heap.size w w' := by
 have hu30 := Tryz.underlying30
 have hu40 := Tryz.underlying40
 have HR0_0 := aa_ hr0_0
 have HC0_0 := aa_ hc0_0
 clear hr0_0 hc0_0
 have HR0_2 := aa_ hr0_2
 have HC0_2 := aa_ hc0_2
 clear hr0_2 hc0_2
 have HR0_3 := aa_ hr0_3
 have HC0_3 := aa_ hc0_3
 clear hr0_3 hc0_3
 have HR0_4 := aa_ hr0_4
 have HC0_4 := aa_ hc0_4
 clear hr0_4 hc0_4
 have HR0_5 := aa_ hr0_5
 have HC0_5 := aa_ hc0_5
 clear hr0_5 hc0_5
 have HR0_6 := aa_ hr0_6
 have HC0_6 := aa_ hc0_6
 clear hr0_6 hc0_6
 have HR0_7 := aa_ hr0_7
 have HC0_7 := aa_ hc0_7
 clear hr0_7 hc0_7
 have HB := aa_ (Below.refl w.heap.size w)
 have H : ((laws_szWorld.f k l0_0 a0_1 l0_2 l0_3 l0_4 l0_5 l0_6 l0_7 1048576).bind fun t640 => (if t640 < 0 then (some true) else ((laws_toWorld.f k l0_0 a0_1 l0_2 l0_3 l0_4 l0_5 l0_6 l0_7).bind fun bt641 => ((spec_SoundWorld.f k bt641.1 bt641.2.1 bt641.2.2.1 bt641.2.2.2.1 bt641.2.2.2.2.1 bt641.2.2.2.2.2.1 bt641.2.2.2.2.2.2.1 bt641.2.2.2.2.2.2.2).bind fun t663 => ((laws_toWorld.f k l0_0 a0_1 l0_2 l0_3 l0_4 l0_5 l0_6 l0_7).bind fun bt664 => ((impl_SoundWorld.f k bt664.1 bt664.2.1 bt664.2.2.1 bt664.2.2.2.1 bt664.2.2.2.2.1 bt664.2.2.2.2.2.1 bt664.2.2.2.2.2.2.1 bt664.2.2.2.2.2.2.2).bind fun t687 => (if (t687 != t663) = true then (some false) else ((laws_toWorld.f k l0_0 a0_1 l0_2 l0_3 l0_4 l0_5 l0_6 l0_7).bind fun bt688 => ((laws_eqWorld.f k bt664.1 bt664.2.1 bt664.2.2.1 bt664.2.2.2.1 bt664.2.2.2.2.1 bt664.2.2.2.2.2.1 bt664.2.2.2.2.2.2.1 bt664.2.2.2.2.2.2.2 bt688.1 bt688.2.1 bt688.2.2.1 bt688.2.2.2.1 bt688.2.2.2.2.1 bt688.2.2.2.2.2.1 bt688.2.2.2.2.2.2.1 bt688.2.2.2.2.2.2.2).bind fun t710 => (if t710 = true then (some true) else (some false))))))))))) = some r := h
 clear h
 obtain ⟨t640, A2, H⟩ := bindE_ H
 have HC3 := aa_ H
 clear H
 go_enter Tryz.func3, Tryz.ntmps3
 go_upto_if 11 with (first | ((with_reducible refine gD_ 1 rfl ?_); refine bx_ (N := 1) (cs := #[.slice A0_0 l0_0.length c0_0, .int .i64 a0_1, .slice A0_2 l0_2.length c0_2, .slice A0_3 l0_3.length c0_3, .slice A0_4 l0_4.length c0_4, .slice A0_5 l0_5.length c0_5, .slice A0_6 l0_6.length c0_6, .slice A0_7 l0_7.length c0_7]) (t := 30) ?_; intro gb639 hg w4 hbox hb; have BK639 := aa_ (hbox); have GW639 := gs_ hg; have GE639 := gs_ hg; replace HB := hbs_ hb; clear hb hbox hg; obtain ⟨hcz5, hfz5⟩ := bcf_ BK639) | ((with_reducible refine gC_ 4 rfl ?_); refine goesC_ (some 9) Tryz.func4 #[.agg #[.slice A0_0 l0_0.length c0_0, .int .i64 a0_1, .slice A0_2 l0_2.length c0_2, .slice A0_3 l0_3.length c0_3, .slice A0_4 l0_4.length c0_4, .slice A0_5 l0_5.length c0_5, .slice A0_6 l0_6.length c0_6, .slice A0_7 l0_7.length c0_7], .int .i64 1048576] ?_; (with_reducible refine (laws_szWorld.calls k _ _ l0_0 a0_1 _ _ l0_2 _ _ l0_3 _ _ l0_4 _ _ l0_5 _ _ l0_6 _ _ l0_7 1048576 t640 _ ?side1 ?side2 ?side3 ?side4 ?side5 ?side6 ?side7 ?side8 ?side9 ?side10 ?side11 ?side12 ?side13 ?side14 A2.out).mono ?_); (case side1 => repeat (first | exact (Kd.C_below HR0_0.out HB.out) | (with_reducible refine Kd.C_alloc ?_ _) | (with_reducible refine Kd.C_drewN ?_ _) | (with_reducible refine Kd.C_drew ?_))); (case side2 => exact HC0_0.out); (case side3 => repeat (first | exact (Kd.C_below HR0_2.out HB.out) | (with_reducible refine Kd.C_alloc ?_ _) | (with_reducible refine Kd.C_drewN ?_ _) | (with_reducible refine Kd.C_drew ?_))); (case side4 => exact HC0_2.out); (case side5 => repeat (first | exact (Kd.C_below HR0_3.out HB.out) | (with_reducible refine Kd.C_alloc ?_ _) | (with_reducible refine Kd.C_drewN ?_ _) | (with_reducible refine Kd.C_drew ?_))); (case side6 => exact HC0_3.out); (case side7 => repeat (first | exact (Kd.C_below HR0_4.out HB.out) | (with_reducible refine Kd.C_alloc ?_ _) | (with_reducible refine Kd.C_drewN ?_ _) | (with_reducible refine Kd.C_drew ?_))); (case side8 => exact HC0_4.out); (case side9 => repeat (first | exact (Kd.C_below HR0_5.out HB.out) | (with_reducible refine Kd.C_alloc ?_ _) | (with_reducible refine Kd.C_drewN ?_ _) | (with_reducible refine Kd.C_drew ?_))); (case side10 => exact HC0_5.out); (case side11 => repeat (first | exact (Kd.C_below HR0_6.out HB.out) | (with_reducible refine Kd.C_alloc ?_ _) | (with_reducible refine Kd.C_drewN ?_ _) | (with_reducible refine Kd.C_drew ?_))); (case side12 => exact HC0_6.out); (case side13 => repeat (first | exact (Kd.C_below HR0_7.out HB.out) | (with_reducible refine Kd.C_alloc ?_ _) | (with_reducible refine Kd.C_drewN ?_ _) | (with_reducible refine Kd.C_drew ?_))); (case side14 => exact HC0_7.out); rintro e w6 ⟨rfl, hb⟩; refine ⟨_, rfl, ?_⟩; replace BK639 := bkb_ BK639 hb; replace HB := hbs_ hb; clear hb))
 (try simp only [Act.put, sb_, sz_, ss_])
 have H := HC3.out
 clear HC3
 by_cases c7 : t640 < 0
 ·rw [if_pos c7] at H
  have c7b0 : decide (t640 < 0) = true := decide_eq_true c7
  clear c7
  (first | rw [c7b0] | (simp only [i64_w, i32_w]; rw [c7b0]) | skip)
  obtain rfl := Option.some.inj H
  go_wp2
  go_ret
  exact ⟨eq_, bl_⟩
 ·rw [if_neg c7] at H
  have c7b0 : decide (t640 < 0) = false := decide_eq_false c7
  clear c7
  (first | rw [c7b0] | (simp only [i64_w, i32_w]; rw [c7b0]) | skip)
  obtain ⟨⟨t641, t644, t645, t648, t651, t654, t657, t660⟩, A8, H⟩ := bindE_ H
  (try dsimp only at H)
  obtain ⟨t663, A9, H⟩ := bindE_ H
  obtain ⟨⟨t664, t667, t668, t671, t674, t677, t680, t683⟩, A10, H⟩ := bindE_ H
  (try dsimp only at H)
  obtain ⟨t687, A11, H⟩ := bindE_ H
  have HC12 := aa_ H
  clear H
  have hcz13 := blk_cell BK639.out
  have hfz13 := blk_frozen BK639.out
  go_upto_if 21 with (first | ((with_reducible refine gC_ 6 rfl ?_); refine goesC_ (some 13) Tryz.func6 #[.agg #[.slice A0_0 l0_0.length c0_0, .int .i64 a0_1, .slice A0_2 l0_2.length c0_2, .slice A0_3 l0_3.length c0_3, .slice A0_4 l0_4.length c0_4, .slice A0_5 l0_5.length c0_5, .slice A0_6 l0_6.length c0_6, .slice A0_7 l0_7.length c0_7]] ?_; (with_reducible refine (laws_toWorld.calls k _ _ l0_0 a0_1 _ _ l0_2 _ _ l0_3 _ _ l0_4 _ _ l0_5 _ _ l0_6 _ _ l0_7 t641 t644 t645 t648 t651 t654 t657 t660 _ ?side1 ?side2 ?side3 ?side4 ?side5 ?side6 ?side7 ?side8 ?side9 ?side10 ?side11 ?side12 ?side13 ?side14 A8.out).mono ?_); (case side1 => repeat (first | exact (Kd.C_below HR0_0.out HB.out) | (with_reducible refine Kd.C_alloc ?_ _) | (with_reducible refine Kd.C_drewN ?_ _) | (with_reducible refine Kd.C_drew ?_))); (case side2 => exact HC0_0.out); (case side3 => repeat (first | exact (Kd.C_below HR0_2.out HB.out) | (with_reducible refine Kd.C_alloc ?_ _) | (with_reducible refine Kd.C_drewN ?_ _) | (with_reducible refine Kd.C_drew ?_))); (case side4 => exact HC0_2.out); (case side5 => repeat (first | exact (Kd.C_below HR0_3.out HB.out) | (with_reducible refine Kd.C_alloc ?_ _) | (with_reducible refine Kd.C_drewN ?_ _) | (with_reducible refine Kd.C_drew ?_))); (case side6 => exact HC0_3.out); (case side7 => repeat (first | exact (Kd.C_below HR0_4.out HB.out) | (with_reducible refine Kd.C_alloc ?_ _) | (with_reducible refine Kd.C_drewN ?_ _) | (with_reducible refine Kd.C_drew ?_))); (case side8 => exact HC0_4.out); (case side9 => repeat (first | exact (Kd.C_below HR0_5.out HB.out) | (with_reducible refine Kd.C_alloc ?_ _) | (with_reducible refine Kd.C_drewN ?_ _) | (with_reducible refine Kd.C_drew ?_))); (case side10 => exact HC0_5.out); (case side11 => repeat (first | exact (Kd.C_below HR0_6.out HB.out) | (with_reducible refine Kd.C_alloc ?_ _) | (with_reducible refine Kd.C_drewN ?_ _) | (with_reducible refine Kd.C_drew ?_))); (case side12 => exact HC0_6.out); (case side13 => repeat (first | exact (Kd.C_below HR0_7.out HB.out) | (with_reducible refine Kd.C_alloc ?_ _) | (with_reducible refine Kd.C_drewN ?_ _) | (with_reducible refine Kd.C_drew ?_))); (case side14 => exact HC0_7.out); rintro e w14 ⟨v642, v646, v649, v652, v655, v658, v661, rfl, ho0, ho1, ho2, ho3, ho4, ho5, ho6, hb⟩; refine ⟨_, rfl, ?_⟩; have HO643 := aa_ (Kd.R_lower ho0 bls_); have HO647 := aa_ (Kd.R_lower ho1 bls_); have HO650 := aa_ (Kd.R_lower ho2 bls_); have HO653 := aa_ (Kd.R_lower ho3 bls_); have HO656 := aa_ (Kd.R_lower ho4 bls_); have HO659 := aa_ (Kd.R_lower ho5 bls_); have HO662 := aa_ (Kd.R_lower ho6 bls_); replace BK639 := bkb_ BK639 hb; replace HB := hbs_ hb; (try clear hb ho0 ho1 ho2 ho3 ho4 ho5 ho6); obtain ⟨Ao15, co15, eo15⟩ := Kd.R_slice HO643.out; subst eo15; obtain ⟨Ao16, co16, eo16⟩ := Kd.R_slice HO647.out; subst eo16; obtain ⟨Ao17, co17, eo17⟩ := Kd.R_slice HO650.out; subst eo17; obtain ⟨Ao18, co18, eo18⟩ := Kd.R_slice HO653.out; subst eo18; obtain ⟨Ao19, co19, eo19⟩ := Kd.R_slice HO656.out; subst eo19; obtain ⟨Ao20, co20, eo20⟩ := Kd.R_slice HO659.out; subst eo20; obtain ⟨Ao21, co21, eo21⟩ := Kd.R_slice HO662.out; subst eo21) | ((with_reducible refine gC_ 5 rfl ?_); refine goesC_ (some 14) Tryz.func5 #[.agg #[.slice Ao15 t641.length co15, .int .i64 t644, .slice Ao16 t645.length co16, .slice Ao17 t648.length co17, .slice Ao18 t651.length co18, .slice Ao19 t654.length co19, .slice Ao20 t657.length co20, .slice Ao21 t660.length co21]] ?_; (with_reducible refine (spec_SoundWorld.calls k _ _ t641 t644 _ _ t645 _ _ t648 _ _ t651 _ _ t654 _ _ t657 _ _ t660 t663 _ ?side1 ?side2 ?side3 ?side4 ?side5 ?side6 ?side7 ?side8 ?side9 ?side10 ?side11 ?side12 ?side13 ?side14 A9.out).mono ?_); (case side1 => repeat (first | exact (Kd.R_reads' HO643.out).2.2 | (with_reducible refine Kd.C_alloc ?_ _) | (with_reducible refine Kd.C_drewN ?_ _) | (with_reducible refine Kd.C_drew ?_))); (case side2 => exact (Kd.R_reads' HO643.out).2.1); (case side3 => repeat (first | exact (Kd.R_reads' HO647.out).2.2 | (with_reducible refine Kd.C_alloc ?_ _) | (with_reducible refine Kd.C_drewN ?_ _) | (with_reducible refine Kd.C_drew ?_))); (case side4 => exact (Kd.R_reads' HO647.out).2.1); (case side5 => repeat (first | exact (Kd.R_reads' HO650.out).2.2 | (with_reducible refine Kd.C_alloc ?_ _) | (with_reducible refine Kd.C_drewN ?_ _) | (with_reducible refine Kd.C_drew ?_))); (case side6 => exact (Kd.R_reads' HO650.out).2.1); (case side7 => repeat (first | exact (Kd.R_reads' HO653.out).2.2 | (with_reducible refine Kd.C_alloc ?_ _) | (with_reducible refine Kd.C_drewN ?_ _) | (with_reducible refine Kd.C_drew ?_))); (case side8 => exact (Kd.R_reads' HO653.out).2.1); (case side9 => repeat (first | exact (Kd.R_reads' HO656.out).2.2 | (with_reducible refine Kd.C_alloc ?_ _) | (with_reducible refine Kd.C_drewN ?_ _) | (with_reducible refine Kd.C_drew ?_))); (case side10 => exact (Kd.R_reads' HO656.out).2.1); (case side11 => repeat (first | exact (Kd.R_reads' HO659.out).2.2 | (with_reducible refine Kd.C_alloc ?_ _) | (with_reducible refine Kd.C_drewN ?_ _) | (with_reducible refine Kd.C_drew ?_))); (case side12 => exact (Kd.R_reads' HO659.out).2.1); (case side13 => repeat (first | exact (Kd.R_reads' HO662.out).2.2 | (with_reducible refine Kd.C_alloc ?_ _) | (with_reducible refine Kd.C_drewN ?_ _) | (with_reducible refine Kd.C_drew ?_))); (case side14 => exact (Kd.R_reads' HO662.out).2.1); rintro e w22 ⟨rfl, hb⟩; refine ⟨_, rfl, ?_⟩; replace HO643 := hob_ HO643 hb; replace HO647 := hob_ HO647 hb; replace HO650 := hob_ HO650 hb; replace HO653 := hob_ HO653 hb; replace HO656 := hob_ HO656 hb; replace HO659 := hob_ HO659 hb; replace HO662 := hob_ HO662 hb; replace BK639 := bkb_ BK639 hb; replace HB := hbs_ hb; clear hb; obtain ⟨hcz23, hfz23⟩ := bcf_ BK639) | ((with_reducible refine gC_ 6 rfl ?_); refine goesC_ (some 16) Tryz.func6 #[.agg #[.slice A0_0 l0_0.length c0_0, .int .i64 a0_1, .slice A0_2 l0_2.length c0_2, .slice A0_3 l0_3.length c0_3, .slice A0_4 l0_4.length c0_4, .slice A0_5 l0_5.length c0_5, .slice A0_6 l0_6.length c0_6, .slice A0_7 l0_7.length c0_7]] ?_; (with_reducible refine (laws_toWorld.calls k _ _ l0_0 a0_1 _ _ l0_2 _ _ l0_3 _ _ l0_4 _ _ l0_5 _ _ l0_6 _ _ l0_7 t664 t667 t668 t671 t674 t677 t680 t683 _ ?side1 ?side2 ?side3 ?side4 ?side5 ?side6 ?side7 ?side8 ?side9 ?side10 ?side11 ?side12 ?side13 ?side14 A10.out).mono ?_); (case side1 => repeat (first | exact (Kd.C_below HR0_0.out HB.out) | (with_reducible refine Kd.C_alloc ?_ _) | (with_reducible refine Kd.C_drewN ?_ _) | (with_reducible refine Kd.C_drew ?_))); (case side2 => exact HC0_0.out); (case side3 => repeat (first | exact (Kd.C_below HR0_2.out HB.out) | (with_reducible refine Kd.C_alloc ?_ _) | (with_reducible refine Kd.C_drewN ?_ _) | (with_reducible refine Kd.C_drew ?_))); (case side4 => exact HC0_2.out); (case side5 => repeat (first | exact (Kd.C_below HR0_3.out HB.out) | (with_reducible refine Kd.C_alloc ?_ _) | (with_reducible refine Kd.C_drewN ?_ _) | (with_reducible refine Kd.C_drew ?_))); (case side6 => exact HC0_3.out); (case side7 => repeat (first | exact (Kd.C_below HR0_4.out HB.out) | (with_reducible refine Kd.C_alloc ?_ _) | (with_reducible refine Kd.C_drewN ?_ _) | (with_reducible refine Kd.C_drew ?_))); (case side8 => exact HC0_4.out); (case side9 => repeat (first | exact (Kd.C_below HR0_5.out HB.out) | (with_reducible refine Kd.C_alloc ?_ _) | (with_reducible refine Kd.C_drewN ?_ _) | (with_reducible refine Kd.C_drew ?_))); (case side10 => exact HC0_5.out); (case side11 => repeat (first | exact (Kd.C_below HR0_6.out HB.out) | (with_reducible refine Kd.C_alloc ?_ _) | (with_reducible refine Kd.C_drewN ?_ _) | (with_reducible refine Kd.C_drew ?_))); (case side12 => exact HC0_6.out); (case side13 => repeat (first | exact (Kd.C_below HR0_7.out HB.out) | (with_reducible refine Kd.C_alloc ?_ _) | (with_reducible refine Kd.C_drewN ?_ _) | (with_reducible refine Kd.C_drew ?_))); (case side14 => exact HC0_7.out); rintro e w24 ⟨v665, v669, v672, v675, v678, v681, v684, rfl, ho0, ho1, ho2, ho3, ho4, ho5, ho6, hb⟩; refine ⟨_, rfl, ?_⟩; have HO666 := aa_ (Kd.R_lower (Kd.R_new' (Kd.R_new' (Kd.R_new' ho0 (Kd.R_lt (rr_ HO643))) (Kd.R_lt (rr_ HO647))) (Kd.R_lt (rr_ HO662))) bls_); replace HO643 := aa_ (Kd.R_mono (Kd.R_told (Kd.R_told (Kd.R_told (Kd.R_old (rr_ HO643) hb) (Kd.R_base ho0)) (Kd.R_base ho1)) (Kd.R_base ho6)) (fun _ h_ => h_.1)); have HO670 := aa_ (Kd.R_lower (Kd.R_new' (Kd.R_new' ho1 (Kd.R_lt (rr_ HO647))) (Kd.R_lt (rr_ HO662))) bls_); have HO673 := aa_ (Kd.R_lower (Kd.R_new' (Kd.R_new' ho2 (Kd.R_lt (rr_ HO650))) (Kd.R_lt (rr_ HO653))) bls_); have HO676 := aa_ (Kd.R_lower (Kd.R_new' (Kd.R_new' ho3 (Kd.R_lt (rr_ HO650))) (Kd.R_lt (rr_ HO653))) bls_); replace HO650 := aa_ (Kd.R_mono (Kd.R_told (Kd.R_told (Kd.R_old (rr_ HO650) hb) (Kd.R_base ho2)) (Kd.R_base ho3)) (fun _ h_ => h_.1)); replace HO653 := aa_ (Kd.R_mono (Kd.R_told (Kd.R_told (Kd.R_old (rr_ HO653) hb) (Kd.R_base ho2)) (Kd.R_base ho3)) (fun _ h_ => h_.1)); have HO679 := aa_ (Kd.R_lower (Kd.R_new' (Kd.R_new' (Kd.R_new' ho4 (Kd.R_lt (rr_ HO647))) (Kd.R_lt (rr_ HO656))) (Kd.R_lt (rr_ HO662))) bls_); replace HO656 := aa_ (Kd.R_mono (Kd.R_told (Kd.R_told (Kd.R_told (Kd.R_old (rr_ HO656) hb) (Kd.R_base ho1)) (Kd.R_base ho4)) (Kd.R_base ho6)) (fun _ h_ => h_.1)); have HO682 := aa_ (Kd.R_lower (Kd.R_new' ho5 (Kd.R_lt (rr_ HO659))) bls_); replace HO659 := aa_ (Kd.R_elder' (rr_ HO659) (Kd.R_base ho5) hb); have HO685 := aa_ (Kd.R_lower (Kd.R_new' (Kd.R_new' ho6 (Kd.R_lt (rr_ HO647))) (Kd.R_lt (rr_ HO662))) bls_); replace HO647 := aa_ (Kd.R_mono (Kd.R_told (Kd.R_told (Kd.R_old (rr_ HO647) hb) (Kd.R_base ho1)) (Kd.R_base ho6)) (fun _ h_ => h_.1)); replace HO662 := aa_ (Kd.R_mono (Kd.R_told (Kd.R_told (Kd.R_old (rr_ HO662) hb) (Kd.R_base ho1)) (Kd.R_base ho6)) (fun _ h_ => h_.1)); replace BK639 := bkb_ BK639 hb; replace HB := hbs_ hb; (try clear hb ho0 ho1 ho2 ho3 ho4 ho5 ho6)) | ((with_reducible refine gD_ 5 rfl ?_); refine bx_ (N := 5) (cs := #[.slice none 0 0, .int .i64 0, .slice none 0 0, .slice none 0 0, .slice none 0 0, .slice none 0 0, .slice none 0 0, .slice none 0 0]) (t := 40) ?_; intro gb686 hg w25 hbox hb; replace HO643 := hob_ HO643 hb; replace HO647 := hob_ HO647 hb; replace HO650 := hob_ HO650 hb; replace HO653 := hob_ HO653 hb; replace HO656 := hob_ HO656 hb; replace HO659 := hob_ HO659 hb; replace HO662 := hob_ HO662 hb; replace HO666 := hob_ HO666 hb; replace HO670 := hob_ HO670 hb; replace HO673 := hob_ HO673 hb; replace HO676 := hob_ HO676 hb; replace HO679 := hob_ HO679 hb; replace HO682 := hob_ HO682 hb; replace HO685 := hob_ HO685 hb; have BK686 := aa_ (hbox); have GW686 := gs_ hg; have GE686 := gs_ hg; replace HB := hbs_ hb; have NB639_686 := nl_ hg BK639; have NB686_639 := nr_ hg BK639; replace BK639 := bkb_ BK639 hb; clear hb hbox hg; obtain ⟨Ao26, co26, eo26⟩ := Kd.R_slice HO666.out; subst eo26; have hnb27 := NB686_639.out; have hnc27 := NB639_686.out; obtain ⟨hcz28, hfz28⟩ := bcf_ BK686; obtain ⟨Ao29, co29, eo29⟩ := Kd.R_slice HO670.out; subst eo29; obtain ⟨Ao30, co30, eo30⟩ := Kd.R_slice HO673.out; subst eo30; obtain ⟨Ao31, co31, eo31⟩ := Kd.R_slice HO676.out; subst eo31; obtain ⟨Ao32, co32, eo32⟩ := Kd.R_slice HO679.out; subst eo32; obtain ⟨Ao33, co33, eo33⟩ := Kd.R_slice HO682.out; subst eo33; obtain ⟨Ao34, co34, eo34⟩ := Kd.R_slice HO685.out; subst eo34) | ((with_reducible refine gC_ 7 rfl ?_); refine goesC_ (some 18) Tryz.func7 #[.agg #[.slice Ao26 t664.length co26, .int .i64 t667, .slice Ao29 t668.length co29, .slice Ao30 t671.length co30, .slice Ao31 t674.length co31, .slice Ao32 t677.length co32, .slice Ao33 t680.length co33, .slice Ao34 t683.length co34]] ?_; (with_reducible refine (impl_SoundWorld.calls k _ _ t664 t667 _ _ t668 _ _ t671 _ _ t674 _ _ t677 _ _ t680 _ _ t683 t687 _ ?side1 ?side2 ?side3 ?side4 ?side5 ?side6 ?side7 ?side8 ?side9 ?side10 ?side11 ?side12 ?side13 ?side14 A11.out).mono ?_); (case side1 => refine (Kd.R_reads' (e := 68) (base := w.heap.size) (ok := fun k_ => ((((some k_ ≠ (.slice Ao29 t668.length co29 : Value).ownBlock ∧ some k_ ≠ (.slice Ao34 t683.length co34 : Value).ownBlock) ∧ some k_ ≠ (.slice Ao15 t641.length co15 : Value).ownBlock) ∧ some k_ ≠ (.slice Ao16 t645.length co16 : Value).ownBlock) ∧ some k_ ≠ (.slice Ao21 t660.length co21 : Value).ownBlock)) (n := t664.length) (c := co26) ?_).2.2; exact (by (with_reducible repeat (first | apply Kd.R_alloc | apply Kd.R_drewN | apply Kd.R_drew)); exact (Kd.R_mono (fr8_ (Kd.R_types HO666.out BK686.out (by decide)) (fun _ hk => hk.2)) (fun _ h_ => h_.1)))); (case side2 => exact (Kd.R_reads' HO666.out).2.1); (case side3 => refine (Kd.R_reads' (e := 3) (base := w.heap.size) (ok := fun k_ => ((some k_ ≠ (.slice Ao34 t683.length co34 : Value).ownBlock ∧ some k_ ≠ (.slice Ao16 t645.length co16 : Value).ownBlock) ∧ some k_ ≠ (.slice Ao21 t660.length co21 : Value).ownBlock)) (n := t668.length) (c := co29) ?_).2.2; exact (by (with_reducible repeat (first | apply Kd.R_alloc | apply Kd.R_drewN | apply Kd.R_drew)); exact (Kd.R_mono (fr8_ (Kd.R_types HO670.out BK686.out (by decide)) (fun _ hk => hk.2)) (fun _ h_ => h_.1)))); (case side4 => exact (Kd.R_reads' HO670.out).2.1); (case side5 => refine (Kd.R_reads' (e := 83) (base := w.heap.size) (ok := fun k_ => ((some k_ ≠ (.slice Ao31 t674.length co31 : Value).ownBlock ∧ some k_ ≠ (.slice Ao17 t648.length co17 : Value).ownBlock) ∧ some k_ ≠ (.slice Ao18 t651.length co18 : Value).ownBlock)) (n := t671.length) (c := co30) ?_).2.2; exact (by (with_reducible repeat (first | apply Kd.R_alloc | apply Kd.R_drewN | apply Kd.R_drew)); exact (Kd.R_mono (fr8_ (Kd.R_types HO673.out BK686.out (by decide)) (fun _ hk => hk.2)) (fun _ h_ => h_.1)))); (case side6 => exact (Kd.R_reads' HO673.out).2.1); (case side7 => refine (Kd.R_reads' (e := 83) (base := w.heap.size) (ok := fun k_ => ((some k_ ≠ (.slice Ao30 t671.length co30 : Value).ownBlock ∧ some k_ ≠ (.slice Ao17 t648.length co17 : Value).ownBlock) ∧ some k_ ≠ (.slice Ao18 t651.length co18 : Value).ownBlock)) (n := t674.length) (c := co31) ?_).2.2; exact (by (with_reducible repeat (first | apply Kd.R_alloc | apply Kd.R_drewN | apply Kd.R_drew)); exact (Kd.R_mono (fr8_ (Kd.R_types HO676.out BK686.out (by decide)) (fun _ hk => hk.2)) (fun _ h_ => h_.1)))); (case side8 => exact (Kd.R_reads' HO676.out).2.1); (case side9 => refine (Kd.R_reads' (e := 73) (base := w.heap.size) (ok := fun k_ => ((((some k_ ≠ (.slice Ao29 t668.length co29 : Value).ownBlock ∧ some k_ ≠ (.slice Ao34 t683.length co34 : Value).ownBlock) ∧ some k_ ≠ (.slice Ao16 t645.length co16 : Value).ownBlock) ∧ some k_ ≠ (.slice Ao19 t654.length co19 : Value).ownBlock) ∧ some k_ ≠ (.slice Ao21 t660.length co21 : Value).ownBlock)) (n := t677.length) (c := co32) ?_).2.2; exact (by (with_reducible repeat (first | apply Kd.R_alloc | apply Kd.R_drewN | apply Kd.R_drew)); exact (Kd.R_mono (fr8_ (Kd.R_types HO679.out BK686.out (by decide)) (fun _ hk => hk.2)) (fun _ h_ => h_.1)))); (case side10 => exact (Kd.R_reads' HO679.out).2.1); (case side11 => refine (Kd.R_reads' (e := 79) (base := w.heap.size) (ok := fun k_ => (True ∧ some k_ ≠ (.slice Ao20 t657.length co20 : Value).ownBlock)) (n := t680.length) (c := co33) ?_).2.2; exact (by (with_reducible repeat (first | apply Kd.R_alloc | apply Kd.R_drewN | apply Kd.R_drew)); exact (Kd.R_mono (fr8_ (Kd.R_types HO682.out BK686.out (by decide)) (fun _ hk => hk.2)) (fun _ h_ => h_.1)))); (case side12 => exact (Kd.R_reads' HO682.out).2.1); (case side13 => refine (Kd.R_reads' (e := 3) (base := w.heap.size) (ok := fun k_ => ((some k_ ≠ (.slice Ao29 t668.length co29 : Value).ownBlock ∧ some k_ ≠ (.slice Ao16 t645.length co16 : Value).ownBlock) ∧ some k_ ≠ (.slice Ao21 t660.length co21 : Value).ownBlock)) (n := t683.length) (c := co34) ?_).2.2; exact (by (with_reducible repeat (first | apply Kd.R_alloc | apply Kd.R_drewN | apply Kd.R_drew)); exact (Kd.R_mono (fr8_ (Kd.R_types HO685.out BK686.out (by decide)) (fun _ hk => hk.2)) (fun _ h_ => h_.1)))); (case side14 => exact (Kd.R_reads' HO685.out).2.1); rintro e w35 ⟨rfl, hb⟩; refine ⟨_, rfl, ?_⟩; replace HO643 := aa_ (Kd.R_below (by (with_reducible repeat (first | apply Kd.R_alloc | apply Kd.R_drewN | apply Kd.R_drew)); exact (Kd.R_mono (fr8_ (Kd.R_types HO643.out BK686.out (by decide)) (fun _ hk => hk.2)) (fun _ h_ => h_.1))) hb); replace HO647 := aa_ (Kd.R_below (by (with_reducible repeat (first | apply Kd.R_alloc | apply Kd.R_drewN | apply Kd.R_drew)); exact (Kd.R_mono (fr8_ (Kd.R_types HO647.out BK686.out (by decide)) (fun _ hk => hk.2)) (fun _ h_ => h_.1))) hb); replace HO650 := aa_ (Kd.R_below (by (with_reducible repeat (first | apply Kd.R_alloc | apply Kd.R_drewN | apply Kd.R_drew)); exact (Kd.R_mono (fr8_ (Kd.R_types HO650.out BK686.out (by decide)) (fun _ hk => hk.2)) (fun _ h_ => h_.1))) hb); replace HO653 := aa_ (Kd.R_below (by (with_reducible repeat (first | apply Kd.R_alloc | apply Kd.R_drewN | apply Kd.R_drew)); exact (Kd.R_mono (fr8_ (Kd.R_types HO653.out BK686.out (by decide)) (fun _ hk => hk.2)) (fun _ h_ => h_.1))) hb); replace HO656 := aa_ (Kd.R_below (by (with_reducible repeat (first | apply Kd.R_alloc | apply Kd.R_drewN | apply Kd.R_drew)); exact (Kd.R_mono (fr8_ (Kd.R_types HO656.out BK686.out (by decide)) (fun _ hk => hk.2)) (fun _ h_ => h_.1))) hb); replace HO659 := aa_ (Kd.R_below (by (with_reducible repeat (first | apply Kd.R_alloc | apply Kd.R_drewN | apply Kd.R_drew)); exact (Kd.R_mono (fr8_ (Kd.R_types HO659.out BK686.out (by decide)) (fun _ hk => hk.2)) (fun _ h_ => h_.1))) hb); replace HO662 := aa_ (Kd.R_below (by (with_reducible repeat (first | apply Kd.R_alloc | apply Kd.R_drewN | apply Kd.R_drew)); exact (Kd.R_mono (fr8_ (Kd.R_types HO662.out BK686.out (by decide)) (fun _ hk => hk.2)) (fun _ h_ => h_.1))) hb); replace HO666 := aa_ (Kd.R_below (by (with_reducible repeat (first | apply Kd.R_alloc | apply Kd.R_drewN | apply Kd.R_drew)); exact (Kd.R_mono (fr8_ (Kd.R_types HO666.out BK686.out (by decide)) (fun _ hk => hk.2)) (fun _ h_ => h_.1))) hb); replace HO670 := aa_ (Kd.R_below (by (with_reducible repeat (first | apply Kd.R_alloc | apply Kd.R_drewN | apply Kd.R_drew)); exact (Kd.R_mono (fr8_ (Kd.R_types HO670.out BK686.out (by decide)) (fun _ hk => hk.2)) (fun _ h_ => h_.1))) hb); replace HO673 := aa_ (Kd.R_below (by (with_reducible repeat (first | apply Kd.R_alloc | apply Kd.R_drewN | apply Kd.R_drew)); exact (Kd.R_mono (fr8_ (Kd.R_types HO673.out BK686.out (by decide)) (fun _ hk => hk.2)) (fun _ h_ => h_.1))) hb); replace HO676 := aa_ (Kd.R_below (by (with_reducible repeat (first | apply Kd.R_alloc | apply Kd.R_drewN | apply Kd.R_drew)); exact (Kd.R_mono (fr8_ (Kd.R_types HO676.out BK686.out (by decide)) (fun _ hk => hk.2)) (fun _ h_ => h_.1))) hb); replace HO679 := aa_ (Kd.R_below (by (with_reducible repeat (first | apply Kd.R_alloc | apply Kd.R_drewN | apply Kd.R_drew)); exact (Kd.R_mono (fr8_ (Kd.R_types HO679.out BK686.out (by decide)) (fun _ hk => hk.2)) (fun _ h_ => h_.1))) hb); replace HO682 := aa_ (Kd.R_below (by (with_reducible repeat (first | apply Kd.R_alloc | apply Kd.R_drewN | apply Kd.R_drew)); exact (Kd.R_mono (fr8_ (Kd.R_types HO682.out BK686.out (by decide)) (fun _ hk => hk.2)) (fun _ h_ => h_.1))) hb); replace HO685 := aa_ (Kd.R_below (by (with_reducible repeat (first | apply Kd.R_alloc | apply Kd.R_drewN | apply Kd.R_drew)); exact (Kd.R_mono (fr8_ (Kd.R_types HO685.out BK686.out (by decide)) (fun _ hk => hk.2)) (fun _ h_ => h_.1))) hb); replace BK639 := aa_ (blk_below (g := gb639) (o := .cells #[.slice A0_0 l0_0.length c0_0, .int .i64 a0_1, .slice A0_2 l0_2.length c0_2, .slice A0_3 l0_3.length c0_3, .slice A0_4 l0_4.length c0_4, .slice A0_5 l0_5.length c0_5, .slice A0_6 l0_6.length c0_6, .slice A0_7 l0_7.length c0_7] 30 (0, 0)) (bk_ BK639) hb); replace BK686 := aa_ (blk_below (g := gb686) (o := .cells #[.slice Ao26 t664.length co26, .int .i64 t667, .slice Ao29 t668.length co29, .slice Ao30 t671.length co30, .slice Ao31 t674.length co31, .slice Ao32 t677.length co32, .slice Ao33 t680.length co33, .slice Ao34 t683.length co34] 40 (0, 0)) (bk_ BK686) hb); replace HB := hbs_ hb; clear hb))
  (try simp only [Act.put, sb_, sz_, ss_])
  have H := HC12.out
  clear HC12
  by_cases c36 : (t687 != t663) = true
  ·rw [if_pos c36] at H
   have c36b0 : (t687 != t663) = true := c36
   (try (have c36b1 : decide (t687 = t663) = false := by simpa using c36))
   (try (have c36b2 : (t687 == t663) = false := by simpa using c36))
   (try (have c36b5 : (!(t687 == t663)) = true := by rw [c36b2]; rfl))
   (try (have c36b3 : ¬ (t687 = t663) := by simpa using c36))
   clear c36
   (first | rw [c36b5] | rw [c36b0] | (simp only [i64_w, i32_w]; rw [c36b0]) | skip)
   exact absurd (Option.some.inj (H.trans (congrArg some hr_))) (by decide)
  ·rw [if_neg c36] at H
   have c36b0 : (t687 != t663) = false := by simpa using c36
   (try (have c36b1 : decide (t687 = t663) = true := by simpa using c36))
   (try (have c36b2 : (t687 == t663) = true := by simpa using c36))
   (try (have c36b5 : (!(t687 == t663)) = false := by rw [c36b2]; rfl))
   clear c36
   (first | rw [c36b5] | rw [c36b0] | (simp only [i64_w, i32_w]; rw [c36b0]) | skip)
   obtain ⟨⟨t688, t691, t692, t695, t698, t701, t704, t707⟩, A37, H⟩ := bindE_ H
   (try dsimp only at H)
   obtain ⟨t710, A38, H⟩ := bindE_ H
   have HC39 := aa_ H
   clear H
   try go_wp2
   replace HO643 := aa_ (Kd.R_drew HO643.out)
   replace HO647 := aa_ (Kd.R_drew HO647.out)
   replace HO650 := aa_ (Kd.R_drew HO650.out)
   replace HO653 := aa_ (Kd.R_drew HO653.out)
   replace HO656 := aa_ (Kd.R_drew HO656.out)
   replace HO659 := aa_ (Kd.R_drew HO659.out)
   replace HO662 := aa_ (Kd.R_drew HO662.out)
   replace HO666 := aa_ (Kd.R_drew HO666.out)
   replace HO670 := aa_ (Kd.R_drew HO670.out)
   replace HO673 := aa_ (Kd.R_drew HO673.out)
   replace HO676 := aa_ (Kd.R_drew HO676.out)
   replace HO679 := aa_ (Kd.R_drew HO679.out)
   replace HO682 := aa_ (Kd.R_drew HO682.out)
   replace HO685 := aa_ (Kd.R_drew HO685.out)
   replace BK639 := aa_ (blk_drew BK639.out)
   replace BK686 := aa_ (blk_drew BK686.out)
   replace HB := aa_ (below_drew1 HB.out)
   refine start_ (n := 5) (S := fun w' => w'.cell? ⟨gb686, 0, none⟩ = some (.slice Ao26 t664.length co26) ∧ w'.cell? ⟨gb686, 1, none⟩ = some (.int .i64 t667) ∧ w'.cell? ⟨gb686, 2, none⟩ = some (.slice Ao29 t668.length co29) ∧ w'.cell? ⟨gb686, 3, none⟩ = some (.slice Ao30 t671.length co30) ∧ w'.cell? ⟨gb686, 4, none⟩ = some (.slice Ao31 t674.length co31) ∧ w'.cell? ⟨gb686, 5, none⟩ = some (.slice Ao32 t677.length co32) ∧ w'.cell? ⟨gb686, 6, none⟩ = some (.slice Ao33 t680.length co33) ∧ w'.cell? ⟨gb686, 7, none⟩ = some (.slice Ao34 t683.length co34) ∧ w'.cell? ⟨gb639, 0, none⟩ = some (.slice A0_0 l0_0.length c0_0) ∧ w'.cell? ⟨gb639, 1, none⟩ = some (.int .i64 a0_1) ∧ w'.cell? ⟨gb639, 2, none⟩ = some (.slice A0_2 l0_2.length c0_2) ∧ w'.cell? ⟨gb639, 3, none⟩ = some (.slice A0_3 l0_3.length c0_3) ∧ w'.cell? ⟨gb639, 4, none⟩ = some (.slice A0_4 l0_4.length c0_4) ∧ w'.cell? ⟨gb639, 5, none⟩ = some (.slice A0_5 l0_5.length c0_5) ∧ w'.cell? ⟨gb639, 6, none⟩ = some (.slice A0_6 l0_6.length c0_6) ∧ w'.cell? ⟨gb639, 7, none⟩ = some (.slice A0_7 l0_7.length c0_7)) (ds := []) (ba_ 5 0) (by kernel_rfl) rfl rfl ⟨(blk_cell BK686.out 0).trans rfl, (blk_cell BK686.out 1).trans rfl, (blk_cell BK686.out 2).trans rfl, (blk_cell BK686.out 3).trans rfl, (blk_cell BK686.out 4).trans rfl, (blk_cell BK686.out 5).trans rfl, (blk_cell BK686.out 6).trans rfl, (blk_cell BK686.out 7).trans rfl, (blk_cell BK639.out 0).trans rfl, (blk_cell BK639.out 1).trans rfl, (blk_cell BK639.out 2).trans rfl, (blk_cell BK639.out 3).trans rfl, (blk_cell BK639.out 4).trans rfl, (blk_cell BK639.out 5).trans rfl, (blk_cell BK639.out 6).trans rfl, (blk_cell BK639.out 7).trans rfl⟩ (fun hHeld => ?_)
   generalize w35.drew = w40 at HO643 HO647 HO650 HO653 HO656 HO659 HO662 HO666 HO670 HO673 HO676 HO679 HO682 HO685 BK639 BK686 HB hHeld ⊢
   refine take_ (i := 0) (N := some 22) (v := ?_) (a' := ?_) (ba_ 5 1) rfl rfl (by kernel_rfl) (fun _ _ _ h => h) (Or.inl ⟨by rfl, ?_⟩) hHeld ?_ ?_
   rotate_left
   ·rintro w' ⟨s0, s1, s2, s3, s4, s5, s6, s7, s8, s9, s10, s11, s12, s13, s14, s15⟩
    go_simp
    with_reducible rfl
   rotate_left
   ·simp only [Act.put, sb_, sz_, ss_, i64_w, i32_w]
    rfl
   refine take_ (i := 1) (N := some 23) (v := ?_) (a' := ?_) (ba_ 5 3) rfl rfl (by kernel_rfl) (fun _ _ _ h => h) (Or.inl ⟨by rfl, ?_⟩) hHeld ?_ ?_
   rotate_left
   ·rintro w' ⟨s0, s1, s2, s3, s4, s5, s6, s7, s8, s9, s10, s11, s12, s13, s14, s15⟩
    go_simp
    with_reducible rfl
   rotate_left
   ·simp only [Act.put, sb_, sz_, ss_, i64_w, i32_w]
    rfl
   refine one_ (i := 2) (N := some 24) (ba_ 5 7) rfl rfl (by kernel_rfl) (by decide) (fun K hK => ?_)
   refine goes_ Tryz.func6 (by kernel_rfl) rfl #[.agg #[.slice A0_0 l0_0.length c0_0, .int .i64 a0_1, .slice A0_2 l0_2.length c0_2, .slice A0_3 l0_3.length c0_3, .slice A0_4 l0_4.length c0_4, .slice A0_5 l0_5.length c0_5, .slice A0_6 l0_6.length c0_6, .slice A0_7 l0_7.length c0_7]] (by rfl) rfl rfl (by (try simp only [List.map_toArray, List.map_cons, List.map_nil]); first | done | rfl | (simp only [List.length_drop, List.length_take]; rfl)) ?_
   with_reducible refine (laws_toWorld.calls k _ _ l0_0 a0_1 _ _ l0_2 _ _ l0_3 _ _ l0_4 _ _ l0_5 _ _ l0_6 _ _ l0_7 t688 t691 t692 t695 t698 t701 t704 t707 _ ?side1 ?side2 ?side3 ?side4 ?side5 ?side6 ?side7 ?side8 ?side9 ?side10 ?side11 ?side12 ?side13 ?side14 A37.out).mono ?_
   (case side1 => repeat (first | exact (Kd.C_below HR0_0.out HB.out) | (with_reducible refine Kd.C_alloc ?_ _) | (with_reducible refine Kd.C_drewN ?_ _) | (with_reducible refine Kd.C_drew ?_)))
   (case side2 => exact HC0_0.out)
   (case side3 => repeat (first | exact (Kd.C_below HR0_2.out HB.out) | (with_reducible refine Kd.C_alloc ?_ _) | (with_reducible refine Kd.C_drewN ?_ _) | (with_reducible refine Kd.C_drew ?_)))
   (case side4 => exact HC0_2.out)
   (case side5 => repeat (first | exact (Kd.C_below HR0_3.out HB.out) | (with_reducible refine Kd.C_alloc ?_ _) | (with_reducible refine Kd.C_drewN ?_ _) | (with_reducible refine Kd.C_drew ?_)))
   (case side6 => exact HC0_3.out)
   (case side7 => repeat (first | exact (Kd.C_below HR0_4.out HB.out) | (with_reducible refine Kd.C_alloc ?_ _) | (with_reducible refine Kd.C_drewN ?_ _) | (with_reducible refine Kd.C_drew ?_)))
   (case side8 => exact HC0_4.out)
   (case side9 => repeat (first | exact (Kd.C_below HR0_5.out HB.out) | (with_reducible refine Kd.C_alloc ?_ _) | (with_reducible refine Kd.C_drewN ?_ _) | (with_reducible refine Kd.C_drew ?_)))
   (case side10 => exact HC0_5.out)
   (case side11 => repeat (first | exact (Kd.C_below HR0_6.out HB.out) | (with_reducible refine Kd.C_alloc ?_ _) | (with_reducible refine Kd.C_drewN ?_ _) | (with_reducible refine Kd.C_drew ?_)))
   (case side12 => exact HC0_6.out)
   (case side13 => repeat (first | exact (Kd.C_below HR0_7.out HB.out) | (with_reducible refine Kd.C_alloc ?_ _) | (with_reducible refine Kd.C_drewN ?_ _) | (with_reducible refine Kd.C_drew ?_)))
   (case side14 => exact HC0_7.out)
   rintro e w41 ⟨v689, v693, v696, v699, v702, v705, v708, rfl, ho0, ho1, ho2, ho3, ho4, ho5, ho6, hb⟩
   refine ⟨_, rfl, ?_⟩
   have HO690 := aa_ (Kd.R_lower (Kd.R_new' (Kd.R_new' (Kd.R_new' (Kd.R_new' (Kd.R_new' (Kd.R_new' ho0 (Kd.R_lt (rr_ HO643))) (Kd.R_lt (rr_ HO647))) (Kd.R_lt (rr_ HO662))) (Kd.R_lt (rr_ HO666))) (Kd.R_lt (rr_ HO670))) (Kd.R_lt (rr_ HO685))) bls_)
   replace HO643 := aa_ (Kd.R_mono (Kd.R_told (Kd.R_told (Kd.R_told (Kd.R_old (rr_ HO643) hb) (Kd.R_base ho0)) (Kd.R_base ho1)) (Kd.R_base ho6)) (fun _ h_ => h_.1))
   replace HO666 := aa_ (Kd.R_mono (Kd.R_told (Kd.R_told (Kd.R_told (Kd.R_old (rr_ HO666) hb) (Kd.R_base ho0)) (Kd.R_base ho1)) (Kd.R_base ho6)) (fun _ h_ => h_.1))
   have HO694 := aa_ (Kd.R_lower (Kd.R_new' (Kd.R_new' (Kd.R_new' (Kd.R_new' ho1 (Kd.R_lt (rr_ HO647))) (Kd.R_lt (rr_ HO662))) (Kd.R_lt (rr_ HO670))) (Kd.R_lt (rr_ HO685))) bls_)
   have HO697 := aa_ (Kd.R_lower (Kd.R_new' (Kd.R_new' (Kd.R_new' (Kd.R_new' ho2 (Kd.R_lt (rr_ HO650))) (Kd.R_lt (rr_ HO653))) (Kd.R_lt (rr_ HO673))) (Kd.R_lt (rr_ HO676))) bls_)
   have HO700 := aa_ (Kd.R_lower (Kd.R_new' (Kd.R_new' (Kd.R_new' (Kd.R_new' ho3 (Kd.R_lt (rr_ HO650))) (Kd.R_lt (rr_ HO653))) (Kd.R_lt (rr_ HO673))) (Kd.R_lt (rr_ HO676))) bls_)
   replace HO650 := aa_ (Kd.R_mono (Kd.R_told (Kd.R_told (Kd.R_old (rr_ HO650) hb) (Kd.R_base ho2)) (Kd.R_base ho3)) (fun _ h_ => h_.1))
   replace HO653 := aa_ (Kd.R_mono (Kd.R_told (Kd.R_told (Kd.R_old (rr_ HO653) hb) (Kd.R_base ho2)) (Kd.R_base ho3)) (fun _ h_ => h_.1))
   replace HO673 := aa_ (Kd.R_mono (Kd.R_told (Kd.R_told (Kd.R_old (rr_ HO673) hb) (Kd.R_base ho2)) (Kd.R_base ho3)) (fun _ h_ => h_.1))
   replace HO676 := aa_ (Kd.R_mono (Kd.R_told (Kd.R_told (Kd.R_old (rr_ HO676) hb) (Kd.R_base ho2)) (Kd.R_base ho3)) (fun _ h_ => h_.1))
   have HO703 := aa_ (Kd.R_lower (Kd.R_new' (Kd.R_new' (Kd.R_new' (Kd.R_new' (Kd.R_new' (Kd.R_new' ho4 (Kd.R_lt (rr_ HO647))) (Kd.R_lt (rr_ HO656))) (Kd.R_lt (rr_ HO662))) (Kd.R_lt (rr_ HO670))) (Kd.R_lt (rr_ HO679))) (Kd.R_lt (rr_ HO685))) bls_)
   replace HO656 := aa_ (Kd.R_mono (Kd.R_told (Kd.R_told (Kd.R_told (Kd.R_old (rr_ HO656) hb) (Kd.R_base ho1)) (Kd.R_base ho4)) (Kd.R_base ho6)) (fun _ h_ => h_.1))
   replace HO679 := aa_ (Kd.R_mono (Kd.R_told (Kd.R_told (Kd.R_told (Kd.R_old (rr_ HO679) hb) (Kd.R_base ho1)) (Kd.R_base ho4)) (Kd.R_base ho6)) (fun _ h_ => h_.1))
   have HO706 := aa_ (Kd.R_lower (Kd.R_new' (Kd.R_new' ho5 (Kd.R_lt (rr_ HO659))) (Kd.R_lt (rr_ HO682))) bls_)
   replace HO659 := aa_ (Kd.R_elder' (rr_ HO659) (Kd.R_base ho5) hb)
   replace HO682 := aa_ (Kd.R_elder' (rr_ HO682) (Kd.R_base ho5) hb)
   have HO709 := aa_ (Kd.R_lower (Kd.R_new' (Kd.R_new' (Kd.R_new' (Kd.R_new' ho6 (Kd.R_lt (rr_ HO647))) (Kd.R_lt (rr_ HO662))) (Kd.R_lt (rr_ HO670))) (Kd.R_lt (rr_ HO685))) bls_)
   replace HO647 := aa_ (Kd.R_mono (Kd.R_told (Kd.R_told (Kd.R_old (rr_ HO647) hb) (Kd.R_base ho1)) (Kd.R_base ho6)) (fun _ h_ => h_.1))
   replace HO662 := aa_ (Kd.R_mono (Kd.R_told (Kd.R_told (Kd.R_old (rr_ HO662) hb) (Kd.R_base ho1)) (Kd.R_base ho6)) (fun _ h_ => h_.1))
   replace HO670 := aa_ (Kd.R_mono (Kd.R_told (Kd.R_told (Kd.R_old (rr_ HO670) hb) (Kd.R_base ho1)) (Kd.R_base ho6)) (fun _ h_ => h_.1))
   replace HO685 := aa_ (Kd.R_mono (Kd.R_told (Kd.R_told (Kd.R_old (rr_ HO685) hb) (Kd.R_base ho1)) (Kd.R_base ho6)) (fun _ h_ => h_.1))
   replace BK639 := bkb_ BK639 hb
   replace BK686 := bkb_ BK686 hb
   replace HB := hbs_ hb
   (try clear hb)
   (try clear hb2)
   (try clear hk)
   (try clear hi)
   (try clear ho0)
   (try clear ho1)
   (try clear ho2)
   (try clear ho3)
   (try clear ho4)
   (try clear ho5)
   (try clear ho6)
   obtain ⟨Ao42, co42, eo42⟩ := Kd.R_slice HO690.out
   (first | subst eo42 | (injection eo42 with f1_ f2_ f3_; have f4_ := f1_.symm; have f5_ := f3_.symm; clear f1_ f2_ f3_; subst f4_; subst f5_))
   obtain ⟨Ao43, co43, eo43⟩ := Kd.R_slice HO694.out
   (first | subst eo43 | (injection eo43 with f1_ f2_ f3_; have f4_ := f1_.symm; have f5_ := f3_.symm; clear f1_ f2_ f3_; subst f4_; subst f5_))
   obtain ⟨Ao44, co44, eo44⟩ := Kd.R_slice HO697.out
   (first | subst eo44 | (injection eo44 with f1_ f2_ f3_; have f4_ := f1_.symm; have f5_ := f3_.symm; clear f1_ f2_ f3_; subst f4_; subst f5_))
   obtain ⟨Ao45, co45, eo45⟩ := Kd.R_slice HO700.out
   (first | subst eo45 | (injection eo45 with f1_ f2_ f3_; have f4_ := f1_.symm; have f5_ := f3_.symm; clear f1_ f2_ f3_; subst f4_; subst f5_))
   obtain ⟨Ao46, co46, eo46⟩ := Kd.R_slice HO703.out
   (first | subst eo46 | (injection eo46 with f1_ f2_ f3_; have f4_ := f1_.symm; have f5_ := f3_.symm; clear f1_ f2_ f3_; subst f4_; subst f5_))
   obtain ⟨Ao47, co47, eo47⟩ := Kd.R_slice HO706.out
   (first | subst eo47 | (injection eo47 with f1_ f2_ f3_; have f4_ := f1_.symm; have f5_ := f3_.symm; clear f1_ f2_ f3_; subst f4_; subst f5_))
   obtain ⟨Ao48, co48, eo48⟩ := Kd.R_slice HO709.out
   (first | subst eo48 | (injection eo48 with f1_ f2_ f3_; have f4_ := f1_.symm; have f5_ := f3_.symm; clear f1_ f2_ f3_; subst f4_; subst f5_))
   refine hK.out _ _ ⟨(blk_cell BK686.out 0).trans rfl, (blk_cell BK686.out 1).trans rfl, (blk_cell BK686.out 2).trans rfl, (blk_cell BK686.out 3).trans rfl, (blk_cell BK686.out 4).trans rfl, (blk_cell BK686.out 5).trans rfl, (blk_cell BK686.out 6).trans rfl, (blk_cell BK686.out 7).trans rfl, (blk_cell BK639.out 0).trans rfl, (blk_cell BK639.out 1).trans rfl, (blk_cell BK639.out 2).trans rfl, (blk_cell BK639.out 3).trans rfl, (blk_cell BK639.out 4).trans rfl, (blk_cell BK639.out 5).trans rfl, (blk_cell BK639.out 6).trans rfl, (blk_cell BK639.out 7).trans rfl⟩ (fun hHeld => ?_)
   clear hK K
   refine norm_ (a' := ?_) ?_ ?_
   rotate_left
   ·show Act.put _ (some 24) _ = _
    simp only [Act.put, sb_, sz_, ss_, i64_w, i32_w]
    rfl
   refine one_ (i := 3) (N := some 25) (ba_ 5 15) rfl rfl (by kernel_rfl) (by decide) (fun K hK => ?_)
   refine goes_ Tryz.func8 (by kernel_rfl) rfl #[.agg #[.slice Ao26 t664.length co26, .int .i64 t667, .slice Ao29 t668.length co29, .slice Ao30 t671.length co30, .slice Ao31 t674.length co31, .slice Ao32 t677.length co32, .slice Ao33 t680.length co33, .slice Ao34 t683.length co34], .agg #[.slice Ao42 t688.length co42, .int .i64 t691, .slice Ao43 t692.length co43, .slice Ao44 t695.length co44, .slice Ao45 t698.length co45, .slice Ao46 t701.length co46, .slice Ao47 t704.length co47, .slice Ao48 t707.length co48]] (by rfl) rfl rfl (by (try simp only [List.map_toArray, List.map_cons, List.map_nil]); first | done | rfl | (simp only [List.length_drop, List.length_take]; rfl)) ?_
   with_reducible refine (laws_eqWorld.calls k _ _ t664 t667 _ _ t668 _ _ t671 _ _ t674 _ _ t677 _ _ t680 _ _ t683 _ _ t688 t691 _ _ t692 _ _ t695 _ _ t698 _ _ t701 _ _ t704 _ _ t707 t710 _ ?side1 ?side2 ?side3 ?side4 ?side5 ?side6 ?side7 ?side8 ?side9 ?side10 ?side11 ?side12 ?side13 ?side14 ?side15 ?side16 ?side17 ?side18 ?side19 ?side20 ?side21 ?side22 ?side23 ?side24 ?side25 ?side26 ?side27 ?side28 A38.out).mono ?_
   (case side1 => repeat (first | exact (Kd.R_reads' HO666.out).2.2 | (with_reducible refine Kd.C_alloc ?_ _) | (with_reducible refine Kd.C_drewN ?_ _) | (with_reducible refine Kd.C_drew ?_)))
   (case side2 => exact (Kd.R_reads' HO666.out).2.1)
   (case side3 => repeat (first | exact (Kd.R_reads' HO670.out).2.2 | (with_reducible refine Kd.C_alloc ?_ _) | (with_reducible refine Kd.C_drewN ?_ _) | (with_reducible refine Kd.C_drew ?_)))
   (case side4 => exact (Kd.R_reads' HO670.out).2.1)
   (case side5 => repeat (first | exact (Kd.R_reads' HO673.out).2.2 | (with_reducible refine Kd.C_alloc ?_ _) | (with_reducible refine Kd.C_drewN ?_ _) | (with_reducible refine Kd.C_drew ?_)))
   (case side6 => exact (Kd.R_reads' HO673.out).2.1)
   (case side7 => repeat (first | exact (Kd.R_reads' HO676.out).2.2 | (with_reducible refine Kd.C_alloc ?_ _) | (with_reducible refine Kd.C_drewN ?_ _) | (with_reducible refine Kd.C_drew ?_)))
   (case side8 => exact (Kd.R_reads' HO676.out).2.1)
   (case side9 => repeat (first | exact (Kd.R_reads' HO679.out).2.2 | (with_reducible refine Kd.C_alloc ?_ _) | (with_reducible refine Kd.C_drewN ?_ _) | (with_reducible refine Kd.C_drew ?_)))
   (case side10 => exact (Kd.R_reads' HO679.out).2.1)
   (case side11 => repeat (first | exact (Kd.R_reads' HO682.out).2.2 | (with_reducible refine Kd.C_alloc ?_ _) | (with_reducible refine Kd.C_drewN ?_ _) | (with_reducible refine Kd.C_drew ?_)))
   (case side12 => exact (Kd.R_reads' HO682.out).2.1)
   (case side13 => repeat (first | exact (Kd.R_reads' HO685.out).2.2 | (with_reducible refine Kd.C_alloc ?_ _) | (with_reducible refine Kd.C_drewN ?_ _) | (with_reducible refine Kd.C_drew ?_)))
   (case side14 => exact (Kd.R_reads' HO685.out).2.1)
   (case side15 => repeat (first | exact (Kd.R_reads' HO690.out).2.2 | (with_reducible refine Kd.C_alloc ?_ _) | (with_reducible refine Kd.C_drewN ?_ _) | (with_reducible refine Kd.C_drew ?_)))
   (case side16 => exact (Kd.R_reads' HO690.out).2.1)
   (case side17 => repeat (first | exact (Kd.R_reads' HO694.out).2.2 | (with_reducible refine Kd.C_alloc ?_ _) | (with_reducible refine Kd.C_drewN ?_ _) | (with_reducible refine Kd.C_drew ?_)))
   (case side18 => exact (Kd.R_reads' HO694.out).2.1)
   (case side19 => repeat (first | exact (Kd.R_reads' HO697.out).2.2 | (with_reducible refine Kd.C_alloc ?_ _) | (with_reducible refine Kd.C_drewN ?_ _) | (with_reducible refine Kd.C_drew ?_)))
   (case side20 => exact (Kd.R_reads' HO697.out).2.1)
   (case side21 => repeat (first | exact (Kd.R_reads' HO700.out).2.2 | (with_reducible refine Kd.C_alloc ?_ _) | (with_reducible refine Kd.C_drewN ?_ _) | (with_reducible refine Kd.C_drew ?_)))
   (case side22 => exact (Kd.R_reads' HO700.out).2.1)
   (case side23 => repeat (first | exact (Kd.R_reads' HO703.out).2.2 | (with_reducible refine Kd.C_alloc ?_ _) | (with_reducible refine Kd.C_drewN ?_ _) | (with_reducible refine Kd.C_drew ?_)))
   (case side24 => exact (Kd.R_reads' HO703.out).2.1)
   (case side25 => repeat (first | exact (Kd.R_reads' HO706.out).2.2 | (with_reducible refine Kd.C_alloc ?_ _) | (with_reducible refine Kd.C_drewN ?_ _) | (with_reducible refine Kd.C_drew ?_)))
   (case side26 => exact (Kd.R_reads' HO706.out).2.1)
   (case side27 => repeat (first | exact (Kd.R_reads' HO709.out).2.2 | (with_reducible refine Kd.C_alloc ?_ _) | (with_reducible refine Kd.C_drewN ?_ _) | (with_reducible refine Kd.C_drew ?_)))
   (case side28 => exact (Kd.R_reads' HO709.out).2.1)
   rintro e w49 ⟨rfl, hb⟩
   refine ⟨_, rfl, ?_⟩
   replace HO643 := hob_ HO643 hb
   replace HO647 := hob_ HO647 hb
   replace HO650 := hob_ HO650 hb
   replace HO653 := hob_ HO653 hb
   replace HO656 := hob_ HO656 hb
   replace HO659 := hob_ HO659 hb
   replace HO662 := hob_ HO662 hb
   replace HO666 := hob_ HO666 hb
   replace HO670 := hob_ HO670 hb
   replace HO673 := hob_ HO673 hb
   replace HO676 := hob_ HO676 hb
   replace HO679 := hob_ HO679 hb
   replace HO682 := hob_ HO682 hb
   replace HO685 := hob_ HO685 hb
   replace HO690 := hob_ HO690 hb
   replace HO694 := hob_ HO694 hb
   replace HO697 := hob_ HO697 hb
   replace HO700 := hob_ HO700 hb
   replace HO703 := hob_ HO703 hb
   replace HO706 := hob_ HO706 hb
   replace HO709 := hob_ HO709 hb
   replace BK639 := bkb_ BK639 hb
   replace BK686 := bkb_ BK686 hb
   replace HB := hbs_ hb
   (try clear hb)
   (try clear hb2)
   (try clear hk)
   (try clear hi)
   refine hK.out _ _ ⟨(blk_cell BK686.out 0).trans rfl, (blk_cell BK686.out 1).trans rfl, (blk_cell BK686.out 2).trans rfl, (blk_cell BK686.out 3).trans rfl, (blk_cell BK686.out 4).trans rfl, (blk_cell BK686.out 5).trans rfl, (blk_cell BK686.out 6).trans rfl, (blk_cell BK686.out 7).trans rfl, (blk_cell BK639.out 0).trans rfl, (blk_cell BK639.out 1).trans rfl, (blk_cell BK639.out 2).trans rfl, (blk_cell BK639.out 3).trans rfl, (blk_cell BK639.out 4).trans rfl, (blk_cell BK639.out 5).trans rfl, (blk_cell BK639.out 6).trans rfl, (blk_cell BK639.out 7).trans rfl⟩ (fun hHeld => ?_)
   clear hK K
   refine norm_ (a' := ?_) ?_ ?_
   rotate_left
   ·show Act.put _ (some 25) _ = _
    simp only [Act.put, sb_, sz_, ss_, i64_w, i32_w]
    rfl
   refine pure_ (i := 4) (N := some 26) (v := ?_) (a' := ?_) (ba_ 5 31) rfl rfl (by kernel_rfl) (fun _ _ _ h => h) (Or.inl ⟨by rfl, ?_⟩) ?_ ?_
   rotate_left
   ·intro w'
    go_simp
    with_reducible rfl
   rotate_left
   ·simp only [Act.put, sb_, sz_, ss_, i64_w, i32_w]
    rfl
   refine done_ (by kernel_rfl) ?_
   go_upto_if 26 with (fail)
   have H := HC39.out
   clear HC39
   by_cases c50 : t710 = true
   ·subst c50
    replace H := ite_t_ H
    obtain rfl := Option.some.inj H
    go_wp2
    go_ret
    exact ⟨eq_, bl_⟩
   ·replace c50 := Bool.eq_false_iff.mpr c50
    subst c50
    replace H := ite_f_ H
    exact absurd (Option.some.inj (H.trans (congrArg some hr_))) (by decide)
end Go.Proofs.YteofimccoadmeaaGreat.PA
