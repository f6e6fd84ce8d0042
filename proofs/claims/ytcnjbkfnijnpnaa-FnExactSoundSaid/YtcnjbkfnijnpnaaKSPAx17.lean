import Derived.Test.YtcnjbkfnijnpnaaKSPAx4
import Derived.Test.YtcnjbkfnijnpnaaKSPAx10
import Derived.Test.YtcnjbkfnijnpnaaKSPAx16
-- printed by wip/tools
namespace Go.Proofs.Ytcnjbkfnijnpnaa.PA
open Go.RowKit Go.Proofs.YtcnjbkfnijnpnaaW.PrintWords Go.Proofs.YtcnjbkfnijnpnaaW.PrintLast Go.Proofs.YtcnjbkfnijnpnaaW.PrintMore
attribute [local go_sem] max2_int min2_int max_two min_two max_three min_three max_four min_four
set_option linter.unusedVariables false
set_option linter.unusedSimpArgs false
def laws_FnExactSound.f (k : Nat) (l0_0 : List (S101)) (a0_1 : Int) (l0_2 : List Int) (l0_3 : List (S87)) (l0_4 : List (S87)) (l0_5 : List (S78)) (l0_6 : List (S91)) (l0_7 : List Int) : Option (Bool) := (laws_szWorld.f k l0_0 a0_1 l0_2 l0_3 l0_4 l0_5 l0_6 l0_7 1048576).bind fun t560 => (if t560 < 0 then (some true) else ((laws_toWorld.f k l0_0 a0_1 l0_2 l0_3 l0_4 l0_5 l0_6 l0_7).bind fun bt561 => ((spec_Sound.f k bt561.1 bt561.2.1 bt561.2.2.1 bt561.2.2.2.1 bt561.2.2.2.2.1 bt561.2.2.2.2.2.1 bt561.2.2.2.2.2.2.1 bt561.2.2.2.2.2.2.2).bind fun t583 => ((laws_toWorld.f k l0_0 a0_1 l0_2 l0_3 l0_4 l0_5 l0_6 l0_7).bind fun bt584 => ((impl_Sound.f k bt584.1 bt584.2.1 bt584.2.2.1 bt584.2.2.2.1 bt584.2.2.2.2.1 bt584.2.2.2.2.2.1 bt584.2.2.2.2.2.2.1 bt584.2.2.2.2.2.2.2).bind fun t607 => (if (t607 != t583) = true then (some false) else ((laws_toWorld.f k l0_0 a0_1 l0_2 l0_3 l0_4 l0_5 l0_6 l0_7).bind fun bt608 => ((laws_eqWorld.f k bt584.1 bt584.2.1 bt584.2.2.1 bt584.2.2.2.1 bt584.2.2.2.2.1 bt584.2.2.2.2.2.1 bt584.2.2.2.2.2.2.1 bt584.2.2.2.2.2.2.2 bt608.1 bt608.2.1 bt608.2.2.1 bt608.2.2.2.1 bt608.2.2.2.2.1 bt608.2.2.2.2.2.1 bt608.2.2.2.2.2.2.1 bt608.2.2.2.2.2.2.2).bind fun t630 => (if t630 = true then (some true) else (some false))))))))))
set_option maxHeartbeats 8000000 in
set_option maxRecDepth 100000 in
theorem laws_FnExactSound.calls (k : Nat) (A0_0 : Option Addr) (c0_0 : Nat) (l0_0 : List (S101)) (a0_1 : Int) (A0_2 : Option Addr) (c0_2 : Nat) (l0_2 : List Int) (A0_3 : Option Addr) (c0_3 : Nat) (l0_3 : List (S87)) (A0_4 : Option Addr) (c0_4 : Nat) (l0_4 : List (S87)) (A0_5 : Option Addr) (c0_5 : Nat) (l0_5 : List (S78)) (A0_6 : Option Addr) (c0_6 : Nat) (l0_6 : List (S91)) (A0_7 : Option Addr) (c0_7 : Nat) (l0_7 : List Int) (r : Bool) (w : World) (hr0_0 : Kd.C k101 w A0_0 l0_0.length l0_0) (hc0_0 : l0_0.length ≤ c0_0) (hr0_2 : Kd.C (Kd.int .i64) w A0_2 l0_2.length l0_2) (hc0_2 : l0_2.length ≤ c0_2) (hr0_3 : Kd.C k87 w A0_3 l0_3.length l0_3) (hc0_3 : l0_3.length ≤ c0_3) (hr0_4 : Kd.C k87 w A0_4 l0_4.length l0_4) (hc0_4 : l0_4.length ≤ c0_4) (hr0_5 : Kd.C k78 w A0_5 l0_5.length l0_5) (hc0_5 : l0_5.length ≤ c0_5) (hr0_6 : Kd.C k91 w A0_6 l0_6.length l0_6) (hc0_6 : l0_6.length ≤ c0_6) (hr0_7 : Kd.C (Kd.int .i64) w A0_7 l0_7.length l0_7) (hc0_7 : l0_7.length ≤ c0_7) (hr_ : r = true) (h : laws_FnExactSound.f k l0_0 a0_1 l0_2 l0_3 l0_4 l0_5 l0_6 l0_7 = some r) :
  Calls Try.prog 3 #[.agg #[.slice A0_0 l0_0.length c0_0, .int .i64 a0_1, .slice A0_2 l0_2.length c0_2, .slice A0_3 l0_3.length c0_3, .slice A0_4 l0_4.length c0_4, .slice A0_5 l0_5.length c0_5, .slice A0_6 l0_6.length c0_6, .slice A0_7 l0_7.length c0_7]] w fun e w' => e = .returned (.bool r) ∧ Below w.heap.size w w' := by
 have hu30 := Try.underlying30
 have hu40 := Try.underlying40
 have HR0_0 := aa_ hr0_0
 have HC0_0 := aa_ hc0_0
 clear hr0_0 hc0_0
 have HR0_2 := aa_ hr0_2
 have HC0_2 := aa_ hc0_2
 clear hr0_2 hc0_2
 have HR0_3 := aa_ hr0_3
 have HC0_3 := aa_ hc0_3
 clear hr0_3 hc0_3
 have HR0_4 := aa_ hr0_4
 have HC0_4 := aa_ hc0_4
 clear hr0_4 hc0_4
 have HR0_5 := aa_ hr0_5
 have HC0_5 := aa_ hc0_5
 clear hr0_5 hc0_5
 have HR0_6 := aa_ hr0_6
 have HC0_6 := aa_ hc0_6
 clear hr0_6 hc0_6
 have HR0_7 := aa_ hr0_7
 have HC0_7 := aa_ hc0_7
 clear hr0_7 hc0_7
 have HB := aa_ (Below.refl w.heap.size w)
 have H : ((laws_szWorld.f k l0_0 a0_1 l0_2 l0_3 l0_4 l0_5 l0_6 l0_7 1048576).bind fun t560 => (if t560 < 0 then (some true) else ((laws_toWorld.f k l0_0 a0_1 l0_2 l0_3 l0_4 l0_5 l0_6 l0_7).bind fun bt561 => ((spec_Sound.f k bt561.1 bt561.2.1 bt561.2.2.1 bt561.2.2.2.1 bt561.2.2.2.2.1 bt561.2.2.2.2.2.1 bt561.2.2.2.2.2.2.1 bt561.2.2.2.2.2.2.2).bind fun t583 => ((laws_toWorld.f k l0_0 a0_1 l0_2 l0_3 l0_4 l0_5 l0_6 l0_7).bind fun bt584 => ((impl_Sound.f k bt584.1 bt584.2.1 bt584.2.2.1 bt584.2.2.2.1 bt584.2.2.2.2.1 bt584.2.2.2.2.2.1 bt584.2.2.2.2.2.2.1 bt584.2.2.2.2.2.2.2).bind fun t607 => (if (t607 != t583) = true then (some false) else ((laws_toWorld.f k l0_0 a0_1 l0_2 l0_3 l0_4 l0_5 l0_6 l0_7).bind fun bt608 => ((laws_eqWorld.f k bt584.1 bt584.2.1 bt584.2.2.1 bt584.2.2.2.1 bt584.2.2.2.2.1 bt584.2.2.2.2.2.1 bt584.2.2.2.2.2.2.1 bt584.2.2.2.2.2.2.2 bt608.1 bt608.2.1 bt608.2.2.1 bt608.2.2.2.1 bt608.2.2.2.2.1 bt608.2.2.2.2.2.1 bt608.2.2.2.2.2.2.1 bt608.2.2.2.2.2.2.2).bind fun t630 => (if t630 = true then (some true) else (some false))))))))))) = some r := h
 clear h
 obtain ⟨t560, A2, H⟩ := bindE_ H
 have HC3 := aa_ H
 clear H
 go_enter Try.func3, Try.ntmps3
 go_upto_if 11 with (first | ((with_reducible refine gD_ 1 rfl ?_); refine bx_ (N := 1) (cs := #[.slice A0_0 l0_0.length c0_0, .int .i64 a0_1, .slice A0_2 l0_2.length c0_2, .slice A0_3 l0_3.length c0_3, .slice A0_4 l0_4.length c0_4, .slice A0_5 l0_5.length c0_5, .slice A0_6 l0_6.length c0_6, .slice A0_7 l0_7.length c0_7]) (t := 30) ?_; intro gb559 hg w4 hbox hb; have BK559 := aa_ (hbox); have GW559 := gs_ hg; have GE559 := gs_ hg; replace HB := hbs_ hb; clear hb hbox hg; obtain ⟨hcz5, hfz5⟩ := bcf_ BK559) | ((with_reducible refine gC_ 4 rfl ?_); refine goesC_ (some 9) Try.func4 #[.agg #[.slice A0_0 l0_0.length c0_0, .int .i64 a0_1, .slice A0_2 l0_2.length c0_2, .slice A0_3 l0_3.length c0_3, .slice A0_4 l0_4.length c0_4, .slice A0_5 l0_5.length c0_5, .slice A0_6 l0_6.length c0_6, .slice A0_7 l0_7.length c0_7], .int .i64 1048576] ?_; (with_reducible refine (laws_szWorld.calls k _ _ l0_0 a0_1 _ _ l0_2 _ _ l0_3 _ _ l0_4 _ _ l0_5 _ _ l0_6 _ _ l0_7 1048576 t560 _ ?side1 ?side2 ?side3 ?side4 ?side5 ?side6 ?side7 ?side8 ?side9 ?side10 ?side11 ?side12 ?side13 ?side14 A2.out).mono ?_); (case side1 => repeat (first | exact (Kd.C_below HR0_0.out HB.out) | (with_reducible refine Kd.C_alloc ?_ _) | (with_reducible refine Kd.C_drewN ?_ _) | (with_reducible refine Kd.C_drew ?_))); (case side2 => exact HC0_0.out); (case side3 => repeat (first | exact (Kd.C_below HR0_2.out HB.out) | (with_reducible refine Kd.C_alloc ?_ _) | (with_reducible refine Kd.C_drewN ?_ _) | (with_reducible refine Kd.C_drew ?_))); (case side4 => exact HC0_2.out); (case side5 => repeat (first | exact (Kd.C_below HR0_3.out HB.out) | (with_reducible refine Kd.C_alloc ?_ _) | (with_reducible refine Kd.C_drewN ?_ _) | (with_reducible refine Kd.C_drew ?_))); (case side6 => exact HC0_3.out); (case side7 => repeat (first | exact (Kd.C_below HR0_4.out HB.out) | (with_reducible refine Kd.C_alloc ?_ _) | (with_reducible refine Kd.C_drewN ?_ _) | (with_reducible refine Kd.C_drew ?_))); (case side8 => exact HC0_4.out); (case side9 => repeat (first | exact (Kd.C_below HR0_5.out HB.out) | (with_reducible refine Kd.C_alloc ?_ _) | (with_reducible refine Kd.C_drewN ?_ _) | (with_reducible refine Kd.C_drew ?_))); (case side10 => exact HC0_5.out); (case side11 => repeat (first | exact (Kd.C_below HR0_6.out HB.out) | (with_reducible refine Kd.C_alloc ?_ _) | (with_reducible refine Kd.C_drewN ?_ _) | (with_reducible refine Kd.C_drew ?_))); (case side12 => exact HC0_6.out); (case side13 => repeat (first | exact (Kd.C_below HR0_7.out HB.out) | (with_reducible refine Kd.C_alloc ?_ _) | (with_reducible refine Kd.C_drewN ?_ _) | (with_reducible refine Kd.C_drew ?_))); (case side14 => exact HC0_7.out); rintro e w6 ⟨rfl, hb⟩; refine ⟨_, rfl, ?_⟩; replace BK559 := bkb_ BK559 hb; replace HB := hbs_ hb; clear hb))
 (try simp only [Act.put, List.setIfInBounds_toArray, List.set_cons_zero, List.set_cons_succ])
 have H := HC3.out
 clear HC3
 by_cases c7 : t560 < 0
 ·rw [if_pos c7] at H
  have c7b0 : decide (t560 < 0) = true := decide_eq_true c7
  clear c7
  (first | rw [c7b0] | (simp only [i64_w, i32_w]; rw [c7b0]) | skip)
  obtain rfl := Option.some.inj H
  go_wp2
  go_ret
  exact ⟨eq_, bl_⟩
 ·rw [if_neg c7] at H
  have c7b0 : decide (t560 < 0) = false := decide_eq_false c7
  clear c7
  (first | rw [c7b0] | (simp only [i64_w, i32_w]; rw [c7b0]) | skip)
  obtain ⟨⟨t561, t564, t565, t568, t571, t574, t577, t580⟩, A8, H⟩ := bindE_ H
  (try dsimp only at H)
  obtain ⟨t583, A9, H⟩ := bindE_ H
  obtain ⟨⟨t584, t587, t588, t591, t594, t597, t600, t603⟩, A10, H⟩ := bindE_ H
  (try dsimp only at H)
  obtain ⟨t607, A11, H⟩ := bindE_ H
  have HC12 := aa_ H
  clear H
  have hcz13 := blk_cell BK559.out
  have hfz13 := blk_frozen BK559.out
  go_upto_if 21 with (first | ((with_reducible refine gC_ 6 rfl ?_); refine goesC_ (some 13) Try.func6 #[.agg #[.slice A0_0 l0_0.length c0_0, .int .i64 a0_1, .slice A0_2 l0_2.length c0_2, .slice A0_3 l0_3.length c0_3, .slice A0_4 l0_4.length c0_4, .slice A0_5 l0_5.length c0_5, .slice A0_6 l0_6.length c0_6, .slice A0_7 l0_7.length c0_7]] ?_; (with_reducible refine (laws_toWorld.calls k _ _ l0_0 a0_1 _ _ l0_2 _ _ l0_3 _ _ l0_4 _ _ l0_5 _ _ l0_6 _ _ l0_7 t561 t564 t565 t568 t571 t574 t577 t580 _ ?side1 ?side2 ?side3 ?side4 ?side5 ?side6 ?side7 ?side8 ?side9 ?side10 ?side11 ?side12 ?side13 ?side14 A8.out).mono ?_); (case side1 => repeat (first | exact (Kd.C_below HR0_0.out HB.out) | (with_reducible refine Kd.C_alloc ?_ _) | (with_reducible refine Kd.C_drewN ?_ _) | (with_reducible refine Kd.C_drew ?_))); (case side2 => exact HC0_0.out); (case side3 => repeat (first | exact (Kd.C_below HR0_2.out HB.out) | (with_reducible refine Kd.C_alloc ?_ _) | (with_reducible refine Kd.C_drewN ?_ _) | (with_reducible refine Kd.C_drew ?_))); (case side4 => exact HC0_2.out); (case side5 => repeat (first | exact (Kd.C_below HR0_3.out HB.out) | (with_reducible refine Kd.C_alloc ?_ _) | (with_reducible refine Kd.C_drewN ?_ _) | (with_reducible refine Kd.C_drew ?_))); (case side6 => exact HC0_3.out); (case side7 => repeat (first | exact (Kd.C_below HR0_4.out HB.out) | (with_reducible refine Kd.C_alloc ?_ _) | (with_reducible refine Kd.C_drewN ?_ _) | (with_reducible refine Kd.C_drew ?_))); (case side8 => exact HC0_4.out); (case side9 => repeat (first | exact (Kd.C_below HR0_5.out HB.out) | (with_reducible refine Kd.C_alloc ?_ _) | (with_reducible refine Kd.C_drewN ?_ _) | (with_reducible refine Kd.C_drew ?_))); (case side10 => exact HC0_5.out); (case side11 => repeat (first | exact (Kd.C_below HR0_6.out HB.out) | (with_reducible refine Kd.C_alloc ?_ _) | (with_reducible refine Kd.C_drewN ?_ _) | (with_reducible refine Kd.C_drew ?_))); (case side12 => exact HC0_6.out); (case side13 => repeat (first | exact (Kd.C_below HR0_7.out HB.out) | (with_reducible refine Kd.C_alloc ?_ _) | (with_reducible refine Kd.C_drewN ?_ _) | (with_reducible refine Kd.C_drew ?_))); (case side14 => exact HC0_7.out); rintro e w14 ⟨v562, v566, v569, v572, v575, v578, v581, rfl, ho0, ho1, ho2, ho3, ho4, ho5, ho6, hb⟩; refine ⟨_, rfl, ?_⟩; have HO563 := aa_ (Kd.R_lower ho0 bls_); have HO567 := aa_ (Kd.R_lower ho1 bls_); have HO570 := aa_ (Kd.R_lower ho2 bls_); have HO573 := aa_ (Kd.R_lower ho3 bls_); have HO576 := aa_ (Kd.R_lower ho4 bls_); have HO579 := aa_ (Kd.R_lower ho5 bls_); have HO582 := aa_ (Kd.R_lower ho6 bls_); replace BK559 := bkb_ BK559 hb; replace HB := hbs_ hb; (try clear hb ho0 ho1 ho2 ho3 ho4 ho5 ho6); obtain ⟨Ao15, co15, eo15⟩ := Kd.R_slice HO563.out; subst eo15; obtain ⟨Ao16, co16, eo16⟩ := Kd.R_slice HO567.out; subst eo16; obtain ⟨Ao17, co17, eo17⟩ := Kd.R_slice HO570.out; subst eo17; obtain ⟨Ao18, co18, eo18⟩ := Kd.R_slice HO573.out; subst eo18; obtain ⟨Ao19, co19, eo19⟩ := Kd.R_slice HO576.out; subst eo19; obtain ⟨Ao20, co20, eo20⟩ := Kd.R_slice HO579.out; subst eo20; obtain ⟨Ao21, co21, eo21⟩ := Kd.R_slice HO582.out; subst eo21) | ((with_reducible refine gC_ 5 rfl ?_); refine goesC_ (some 14) Try.func5 #[.agg #[.slice Ao15 t561.length co15, .int .i64 t564, .slice Ao16 t565.length co16, .slice Ao17 t568.length co17, .slice Ao18 t571.length co18, .slice Ao19 t574.length co19, .slice Ao20 t577.length co20, .slice Ao21 t580.length co21]] ?_; (with_reducible refine (spec_Sound.calls k _ _ t561 t564 _ _ t565 _ _ t568 _ _ t571 _ _ t574 _ _ t577 _ _ t580 t583 _ ?side1 ?side2 ?side3 ?side4 ?side5 ?side6 ?side7 ?side8 ?side9 ?side10 ?side11 ?side12 ?side13 ?side14 A9.out).mono ?_); (case side1 => repeat (first | exact (Kd.R_reads' HO563.out).2.2 | (with_reducible refine Kd.C_alloc ?_ _) | (with_reducible refine Kd.C_drewN ?_ _) | (with_reducible refine Kd.C_drew ?_))); (case side2 => exact (Kd.R_reads' HO563.out).2.1); (case side3 => repeat (first | exact (Kd.R_reads' HO567.out).2.2 | (with_reducible refine Kd.C_alloc ?_ _) | (with_reducible refine Kd.C_drewN ?_ _) | (with_reducible refine Kd.C_drew ?_))); (case side4 => exact (Kd.R_reads' HO567.out).2.1); (case side5 => repeat (first | exact (Kd.R_reads' HO570.out).2.2 | (with_reducible refine Kd.C_alloc ?_ _) | (with_reducible refine Kd.C_drewN ?_ _) | (with_reducible refine Kd.C_drew ?_))); (case side6 => exact (Kd.R_reads' HO570.out).2.1); (case side7 => repeat (first | exact (Kd.R_reads' HO573.out).2.2 | (with_reducible refine Kd.C_alloc ?_ _) | (with_reducible refine Kd.C_drewN ?_ _) | (with_reducible refine Kd.C_drew ?_))); (case side8 => exact (Kd.R_reads' HO573.out).2.1); (case side9 => repeat (first | exact (Kd.R_reads' HO576.out).2.2 | (with_reducible refine Kd.C_alloc ?_ _) | (with_reducible refine Kd.C_drewN ?_ _) | (with_reducible refine Kd.C_drew ?_))); (case side10 => exact (Kd.R_reads' HO576.out).2.1); (case side11 => repeat (first | exact (Kd.R_reads' HO579.out).2.2 | (with_reducible refine Kd.C_alloc ?_ _) | (with_reducible refine Kd.C_drewN ?_ _) | (with_reducible refine Kd.C_drew ?_))); (case side12 => exact (Kd.R_reads' HO579.out).2.1); (case side13 => repeat (first | exact (Kd.R_reads' HO582.out).2.2 | (with_reducible refine Kd.C_alloc ?_ _) | (with_reducible refine Kd.C_drewN ?_ _) | (with_reducible refine Kd.C_drew ?_))); (case side14 => exact (Kd.R_reads' HO582.out).2.1); rintro e w22 ⟨rfl, hb⟩; refine ⟨_, rfl, ?_⟩; replace HO563 := hob_ HO563 hb; replace HO567 := hob_ HO567 hb; replace HO570 := hob_ HO570 hb; replace HO573 := hob_ HO573 hb; replace HO576 := hob_ HO576 hb; replace HO579 := hob_ HO579 hb; replace HO582 := hob_ HO582 hb; replace BK559 := bkb_ BK559 hb; replace HB := hbs_ hb; clear hb; obtain ⟨hcz23, hfz23⟩ := bcf_ BK559) | ((with_reducible refine gC_ 6 rfl ?_); refine goesC_ (some 16) Try.func6 #[.agg #[.slice A0_0 l0_0.length c0_0, .int .i64 a0_1, .slice A0_2 l0_2.length c0_2, .slice A0_3 l0_3.length c0_3, .slice A0_4 l0_4.length c0_4, .slice A0_5 l0_5.length c0_5, .slice A0_6 l0_6.length c0_6, .slice A0_7 l0_7.length c0_7]] ?_; (with_reducible refine (laws_toWorld.calls k _ _ l0_0 a0_1 _ _ l0_2 _ _ l0_3 _ _ l0_4 _ _ l0_5 _ _ l0_6 _ _ l0_7 t584 t587 t588 t591 t594 t597 t600 t603 _ ?side1 ?side2 ?side3 ?side4 ?side5 ?side6 ?side7 ?side8 ?side9 ?side10 ?side11 ?side12 ?side13 ?side14 A10.out).mono ?_); (case side1 => repeat (first | exact (Kd.C_below HR0_0.out HB.out) | (with_reducible refine Kd.C_alloc ?_ _) | (with_reducible refine Kd.C_drewN ?_ _) | (with_reducible refine Kd.C_drew ?_))); (case side2 => exact HC0_0.out); (case side3 => repeat (first | exact (Kd.C_below HR0_2.out HB.out) | (with_reducible refine Kd.C_alloc ?_ _) | (with_reducible refine Kd.C_drewN ?_ _) | (with_reducible refine Kd.C_drew ?_))); (case side4 => exact HC0_2.out); (case side5 => repeat (first | exact (Kd.C_below HR0_3.out HB.out) | (with_reducible refine Kd.C_alloc ?_ _) | (with_reducible refine Kd.C_drewN ?_ _) | (with_reducible refine Kd.C_drew ?_))); (case side6 => exact HC0_3.out); (case side7 => repeat (first | exact (Kd.C_below HR0_4.out HB.out) | (with_reducible refine Kd.C_alloc ?_ _) | (with_reducible refine Kd.C_drewN ?_ _) | (with_reducible refine Kd.C_drew ?_))); (case side8 => exact HC0_4.out); (case side9 => repeat (first | exact (Kd.C_below HR0_5.out HB.out) | (with_reducible refine Kd.C_alloc ?_ _) | (with_reducible refine Kd.C_drewN ?_ _) | (with_reducible refine Kd.C_drew ?_))); (case side10 => exact HC0_5.out); (case side11 => repeat (first | exact (Kd.C_below HR0_6.out HB.out) | (with_reducible refine Kd.C_alloc ?_ _) | (with_reducible refine Kd.C_drewN ?_ _) | (with_reducible refine Kd.C_drew ?_))); (case side12 => exact HC0_6.out); (case side13 => repeat (first | exact (Kd.C_below HR0_7.out HB.out) | (with_reducible refine Kd.C_alloc ?_ _) | (with_reducible refine Kd.C_drewN ?_ _) | (with_reducible refine Kd.C_drew ?_))); (case side14 => exact HC0_7.out); rintro e w24 ⟨v585, v589, v592, v595, v598, v601, v604, rfl, ho0, ho1, ho2, ho3, ho4, ho5, ho6, hb⟩; refine ⟨_, rfl, ?_⟩; have HO586 := aa_ (Kd.R_lower (Kd.R_new' (Kd.R_new' (Kd.R_new' ho0 (Kd.R_lt (rr_ HO563))) (Kd.R_lt (rr_ HO567))) (Kd.R_lt (rr_ HO582))) bls_); replace HO563 := aa_ (Kd.R_mono (Kd.R_told (Kd.R_told (Kd.R_told (Kd.R_old (rr_ HO563) hb) (Kd.R_base ho0)) (Kd.R_base ho1)) (Kd.R_base ho6)) (fun _ h_ => h_.1)); have HO590 := aa_ (Kd.R_lower (Kd.R_new' (Kd.R_new' ho1 (Kd.R_lt (rr_ HO567))) (Kd.R_lt (rr_ HO582))) bls_); have HO593 := aa_ (Kd.R_lower (Kd.R_new' (Kd.R_new' ho2 (Kd.R_lt (rr_ HO570))) (Kd.R_lt (rr_ HO573))) bls_); have HO596 := aa_ (Kd.R_lower (Kd.R_new' (Kd.R_new' ho3 (Kd.R_lt (rr_ HO570))) (Kd.R_lt (rr_ HO573))) bls_); replace HO570 := aa_ (Kd.R_mono (Kd.R_told (Kd.R_told (Kd.R_old (rr_ HO570) hb) (Kd.R_base ho2)) (Kd.R_base ho3)) (fun _ h_ => h_.1)); replace HO573 := aa_ (Kd.R_mono (Kd.R_told (Kd.R_told (Kd.R_old (rr_ HO573) hb) (Kd.R_base ho2)) (Kd.R_base ho3)) (fun _ h_ => h_.1)); have HO599 := aa_ (Kd.R_lower (Kd.R_new' (Kd.R_new' (Kd.R_new' ho4 (Kd.R_lt (rr_ HO567))) (Kd.R_lt (rr_ HO576))) (Kd.R_lt (rr_ HO582))) bls_); replace HO576 := aa_ (Kd.R_mono (Kd.R_told (Kd.R_told (Kd.R_told (Kd.R_old (rr_ HO576) hb) (Kd.R_base ho1)) (Kd.R_base ho4)) (Kd.R_base ho6)) (fun _ h_ => h_.1)); have HO602 := aa_ (Kd.R_lower (Kd.R_new' ho5 (Kd.R_lt (rr_ HO579))) bls_); replace HO579 := aa_ (Kd.R_elder' (rr_ HO579) (Kd.R_base ho5) hb); have HO605 := aa_ (Kd.R_lower (Kd.R_new' (Kd.R_new' ho6 (Kd.R_lt (rr_ HO567))) (Kd.R_lt (rr_ HO582))) bls_); replace HO567 := aa_ (Kd.R_mono (Kd.R_told (Kd.R_told (Kd.R_old (rr_ HO567) hb) (Kd.R_base ho1)) (Kd.R_base ho6)) (fun _ h_ => h_.1)); replace HO582 := aa_ (Kd.R_mono (Kd.R_told (Kd.R_told (Kd.R_old (rr_ HO582) hb) (Kd.R_base ho1)) (Kd.R_base ho6)) (fun _ h_ => h_.1)); replace BK559 := bkb_ BK559 hb; replace HB := hbs_ hb; (try clear hb ho0 ho1 ho2 ho3 ho4 ho5 ho6)) | ((with_reducible refine gD_ 5 rfl ?_); refine bx_ (N := 5) (cs := #[.slice none 0 0, .int .i64 0, .slice none 0 0, .slice none 0 0, .slice none 0 0, .slice none 0 0, .slice none 0 0, .slice none 0 0]) (t := 40) ?_; intro gb606 hg w25 hbox hb; replace HO563 := hob_ HO563 hb; replace HO567 := hob_ HO567 hb; replace HO570 := hob_ HO570 hb; replace HO573 := hob_ HO573 hb; replace HO576 := hob_ HO576 hb; replace HO579 := hob_ HO579 hb; replace HO582 := hob_ HO582 hb; replace HO586 := hob_ HO586 hb; replace HO590 := hob_ HO590 hb; replace HO593 := hob_ HO593 hb; replace HO596 := hob_ HO596 hb; replace HO599 := hob_ HO599 hb; replace HO602 := hob_ HO602 hb; replace HO605 := hob_ HO605 hb; have BK606 := aa_ (hbox); have GW606 := gs_ hg; have GE606 := gs_ hg; replace HB := hbs_ hb; have NB559_606 := nl_ hg BK559; have NB606_559 := nr_ hg BK559; replace BK559 := bkb_ BK559 hb; clear hb hbox hg; obtain ⟨Ao26, co26, eo26⟩ := Kd.R_slice HO586.out; subst eo26; have hnb27 := NB606_559.out; have hnc27 := NB559_606.out; obtain ⟨hcz28, hfz28⟩ := bcf_ BK606; obtain ⟨Ao29, co29, eo29⟩ := Kd.R_slice HO590.out; subst eo29; obtain ⟨Ao30, co30, eo30⟩ := Kd.R_slice HO593.out; subst eo30; obtain ⟨Ao31, co31, eo31⟩ := Kd.R_slice HO596.out; subst eo31; obtain ⟨Ao32, co32, eo32⟩ := Kd.R_slice HO599.out; subst eo32; obtain ⟨Ao33, co33, eo33⟩ := Kd.R_slice HO602.out; subst eo33; obtain ⟨Ao34, co34, eo34⟩ := Kd.R_slice HO605.out; subst eo34) | ((with_reducible refine gC_ 7 rfl ?_); refine goesC_ (some 18) Try.func7 #[.agg #[.slice Ao26 t584.length co26, .int .i64 t587, .slice Ao29 t588.length co29, .slice Ao30 t591.length co30, .slice Ao31 t594.length co31, .slice Ao32 t597.length co32, .slice Ao33 t600.length co33, .slice Ao34 t603.length co34]] ?_; (with_reducible refine (impl_Sound.calls k _ _ t584 t587 _ _ t588 _ _ t591 _ _ t594 _ _ t597 _ _ t600 _ _ t603 t607 _ ?side1 ?side2 ?side3 ?side4 ?side5 ?side6 ?side7 ?side8 ?side9 ?side10 ?side11 ?side12 ?side13 ?side14 A11.out).mono ?_); (case side1 => refine (Kd.R_reads' (e := 107) (base := w.heap.size) (ok := fun k_ => ((((some k_ ≠ (.slice Ao29 t588.length co29 : Value).ownBlock ∧ some k_ ≠ (.slice Ao34 t603.length co34 : Value).ownBlock) ∧ some k_ ≠ (.slice Ao15 t561.length co15 : Value).ownBlock) ∧ some k_ ≠ (.slice Ao16 t565.length co16 : Value).ownBlock) ∧ some k_ ≠ (.slice Ao21 t580.length co21 : Value).ownBlock)) (n := t584.length) (c := co26) ?_).2.2; exact (by (with_reducible repeat (first | apply Kd.R_alloc | apply Kd.R_drewN | apply Kd.R_drew)); exact (Kd.R_mono (fr8_ (Kd.R_types HO586.out BK606.out (by decide)) (fun _ hk => hk.2)) (fun _ h_ => h_.1)))); (case side2 => exact (Kd.R_reads' HO586.out).2.1); (case side3 => refine (Kd.R_reads' (e := 3) (base := w.heap.size) (ok := fun k_ => ((some k_ ≠ (.slice Ao34 t603.length co34 : Value).ownBlock ∧ some k_ ≠ (.slice Ao16 t565.length co16 : Value).ownBlock) ∧ some k_ ≠ (.slice Ao21 t580.length co21 : Value).ownBlock)) (n := t588.length) (c := co29) ?_).2.2; exact (by (with_reducible repeat (first | apply Kd.R_alloc | apply Kd.R_drewN | apply Kd.R_drew)); exact (Kd.R_mono (fr8_ (Kd.R_types HO590.out BK606.out (by decide)) (fun _ hk => hk.2)) (fun _ h_ => h_.1)))); (case side4 => exact (Kd.R_reads' HO590.out).2.1); (case side5 => refine (Kd.R_reads' (e := 61) (base := w.heap.size) (ok := fun k_ => ((some k_ ≠ (.slice Ao31 t594.length co31 : Value).ownBlock ∧ some k_ ≠ (.slice Ao17 t568.length co17 : Value).ownBlock) ∧ some k_ ≠ (.slice Ao18 t571.length co18 : Value).ownBlock)) (n := t591.length) (c := co30) ?_).2.2; exact (by (with_reducible repeat (first | apply Kd.R_alloc | apply Kd.R_drewN | apply Kd.R_drew)); exact (Kd.R_mono (fr8_ (Kd.R_types HO593.out BK606.out (by decide)) (fun _ hk => hk.2)) (fun _ h_ => h_.1)))); (case side6 => exact (Kd.R_reads' HO593.out).2.1); (case side7 => refine (Kd.R_reads' (e := 61) (base := w.heap.size) (ok := fun k_ => ((some k_ ≠ (.slice Ao30 t591.length co30 : Value).ownBlock ∧ some k_ ≠ (.slice Ao17 t568.length co17 : Value).ownBlock) ∧ some k_ ≠ (.slice Ao18 t571.length co18 : Value).ownBlock)) (n := t594.length) (c := co31) ?_).2.2; exact (by (with_reducible repeat (first | apply Kd.R_alloc | apply Kd.R_drewN | apply Kd.R_drew)); exact (Kd.R_mono (fr8_ (Kd.R_types HO596.out BK606.out (by decide)) (fun _ hk => hk.2)) (fun _ h_ => h_.1)))); (case side8 => exact (Kd.R_reads' HO596.out).2.1); (case side9 => refine (Kd.R_reads' (e := 51) (base := w.heap.size) (ok := fun k_ => ((((some k_ ≠ (.slice Ao29 t588.length co29 : Value).ownBlock ∧ some k_ ≠ (.slice Ao34 t603.length co34 : Value).ownBlock) ∧ some k_ ≠ (.slice Ao16 t565.length co16 : Value).ownBlock) ∧ some k_ ≠ (.slice Ao19 t574.length co19 : Value).ownBlock) ∧ some k_ ≠ (.slice Ao21 t580.length co21 : Value).ownBlock)) (n := t597.length) (c := co32) ?_).2.2; exact (by (with_reducible repeat (first | apply Kd.R_alloc | apply Kd.R_drewN | apply Kd.R_drew)); exact (Kd.R_mono (fr8_ (Kd.R_types HO599.out BK606.out (by decide)) (fun _ hk => hk.2)) (fun _ h_ => h_.1)))); (case side10 => exact (Kd.R_reads' HO599.out).2.1); (case side11 => refine (Kd.R_reads' (e := 57) (base := w.heap.size) (ok := fun k_ => (True ∧ some k_ ≠ (.slice Ao20 t577.length co20 : Value).ownBlock)) (n := t600.length) (c := co33) ?_).2.2; exact (by (with_reducible repeat (first | apply Kd.R_alloc | apply Kd.R_drewN | apply Kd.R_drew)); exact (Kd.R_mono (fr8_ (Kd.R_types HO602.out BK606.out (by decide)) (fun _ hk => hk.2)) (fun _ h_ => h_.1)))); (case side12 => exact (Kd.R_reads' HO602.out).2.1); (case side13 => refine (Kd.R_reads' (e := 3) (base := w.heap.size) (ok := fun k_ => ((some k_ ≠ (.slice Ao29 t588.length co29 : Value).ownBlock ∧ some k_ ≠ (.slice Ao16 t565.length co16 : Value).ownBlock) ∧ some k_ ≠ (.slice Ao21 t580.length co21 : Value).ownBlock)) (n := t603.length) (c := co34) ?_).2.2; exact (by (with_reducible repeat (first | apply Kd.R_alloc | apply Kd.R_drewN | apply Kd.R_drew)); exact (Kd.R_mono (fr8_ (Kd.R_types HO605.out BK606.out (by decide)) (fun _ hk => hk.2)) (fun _ h_ => h_.1)))); (case side14 => exact (Kd.R_reads' HO605.out).2.1); rintro e w35 ⟨rfl, hb⟩; refine ⟨_, rfl, ?_⟩; replace HO563 := aa_ (Kd.R_below (by (with_reducible repeat (first | apply Kd.R_alloc | apply Kd.R_drewN | apply Kd.R_drew)); exact (Kd.R_mono (fr8_ (Kd.R_types HO563.out BK606.out (by decide)) (fun _ hk => hk.2)) (fun _ h_ => h_.1))) hb); replace HO567 := aa_ (Kd.R_below (by (with_reducible repeat (first | apply Kd.R_alloc | apply Kd.R_drewN | apply Kd.R_drew)); exact (Kd.R_mono (fr8_ (Kd.R_types HO567.out BK606.out (by decide)) (fun _ hk => hk.2)) (fun _ h_ => h_.1))) hb); replace HO570 := aa_ (Kd.R_below (by (with_reducible repeat (first | apply Kd.R_alloc | apply Kd.R_drewN | apply Kd.R_drew)); exact (Kd.R_mono (fr8_ (Kd.R_types HO570.out BK606.out (by decide)) (fun _ hk => hk.2)) (fun _ h_ => h_.1))) hb); replace HO573 := aa_ (Kd.R_below (by (with_reducible repeat (first | apply Kd.R_alloc | apply Kd.R_drewN | apply Kd.R_drew)); exact (Kd.R_mono (fr8_ (Kd.R_types HO573.out BK606.out (by decide)) (fun _ hk => hk.2)) (fun _ h_ => h_.1))) hb); replace HO576 := aa_ (Kd.R_below (by (with_reducible repeat (first | apply Kd.R_alloc | apply Kd.R_drewN | apply Kd.R_drew)); exact (Kd.R_mono (fr8_ (Kd.R_types HO576.out BK606.out (by decide)) (fun _ hk => hk.2)) (fun _ h_ => h_.1))) hb); replace HO579 := aa_ (Kd.R_below (by (with_reducible repeat (first | apply Kd.R_alloc | apply Kd.R_drewN | apply Kd.R_drew)); exact (Kd.R_mono (fr8_ (Kd.R_types HO579.out BK606.out (by decide)) (fun _ hk => hk.2)) (fun _ h_ => h_.1))) hb); replace HO582 := aa_ (Kd.R_below (by (with_reducible repeat (first | apply Kd.R_alloc | apply Kd.R_drewN | apply Kd.R_drew)); exact (Kd.R_mono (fr8_ (Kd.R_types HO582.out BK606.out (by decide)) (fun _ hk => hk.2)) (fun _ h_ => h_.1))) hb); replace HO586 := aa_ (Kd.R_below (by (with_reducible repeat (first | apply Kd.R_alloc | apply Kd.R_drewN | apply Kd.R_drew)); exact (Kd.R_mono (fr8_ (Kd.R_types HO586.out BK606.out (by decide)) (fun _ hk => hk.2)) (fun _ h_ => h_.1))) hb); replace HO590 := aa_ (Kd.R_below (by (with_reducible repeat (first | apply Kd.R_alloc | apply Kd.R_drewN | apply Kd.R_drew)); exact (Kd.R_mono (fr8_ (Kd.R_types HO590.out BK606.out (by decide)) (fun _ hk => hk.2)) (fun _ h_ => h_.1))) hb); replace HO593 := aa_ (Kd.R_below (by (with_reducible repeat (first | apply Kd.R_alloc | apply Kd.R_drewN | apply Kd.R_drew)); exact (Kd.R_mono (fr8_ (Kd.R_types HO593.out BK606.out (by decide)) (fun _ hk => hk.2)) (fun _ h_ => h_.1))) hb); replace HO596 := aa_ (Kd.R_below (by (with_reducible repeat (first | apply Kd.R_alloc | apply Kd.R_drewN | apply Kd.R_drew)); exact (Kd.R_mono (fr8_ (Kd.R_types HO596.out BK606.out (by decide)) (fun _ hk => hk.2)) (fun _ h_ => h_.1))) hb); replace HO599 := aa_ (Kd.R_below (by (with_reducible repeat (first | apply Kd.R_alloc | apply Kd.R_drewN | apply Kd.R_drew)); exact (Kd.R_mono (fr8_ (Kd.R_types HO599.out BK606.out (by decide)) (fun _ hk => hk.2)) (fun _ h_ => h_.1))) hb); replace HO602 := aa_ (Kd.R_below (by (with_reducible repeat (first | apply Kd.R_alloc | apply Kd.R_drewN | apply Kd.R_drew)); exact (Kd.R_mono (fr8_ (Kd.R_types HO602.out BK606.out (by decide)) (fun _ hk => hk.2)) (fun _ h_ => h_.1))) hb); replace HO605 := aa_ (Kd.R_below (by (with_reducible repeat (first | apply Kd.R_alloc | apply Kd.R_drewN | apply Kd.R_drew)); exact (Kd.R_mono (fr8_ (Kd.R_types HO605.out BK606.out (by decide)) (fun _ hk => hk.2)) (fun _ h_ => h_.1))) hb); replace BK559 := aa_ (blk_below (g := gb559) (o := .cells #[.slice A0_0 l0_0.length c0_0, .int .i64 a0_1, .slice A0_2 l0_2.length c0_2, .slice A0_3 l0_3.length c0_3, .slice A0_4 l0_4.length c0_4, .slice A0_5 l0_5.length c0_5, .slice A0_6 l0_6.length c0_6, .slice A0_7 l0_7.length c0_7] 30 (0, 0)) (bk_ BK559) hb); replace BK606 := aa_ (blk_below (g := gb606) (o := .cells #[.slice Ao26 t584.length co26, .int .i64 t587, .slice Ao29 t588.length co29, .slice Ao30 t591.length co30, .slice Ao31 t594.length co31, .slice Ao32 t597.length co32, .slice Ao33 t600.length co33, .slice Ao34 t603.length co34] 40 (0, 0)) (bk_ BK606) hb); replace HB := hbs_ hb; clear hb))
  (try simp only [Act.put, List.setIfInBounds_toArray, List.set_cons_zero, List.set_cons_succ])
  have H := HC12.out
  clear HC12
  by_cases c36 : (t607 != t583) = true
  ·rw [if_pos c36] at H
   have c36b0 : (t607 != t583) = true := c36
   (try (have c36b1 : decide (t607 = t583) = false := by simpa using c36))
   (try (have c36b2 : (t607 == t583) = false := by simpa using c36))
   (try (have c36b5 : (!(t607 == t583)) = true := by rw [c36b2]; rfl))
   (try (have c36b3 : ¬ (t607 = t583) := by simpa using c36))
   clear c36
   (first | rw [c36b5] | rw [c36b0] | (simp only [i64_w, i32_w]; rw [c36b0]) | skip)
   exact absurd (Option.some.inj (H.trans (congrArg some hr_))) (by decide)
  ·rw [if_neg c36] at H
   have c36b0 : (t607 != t583) = false := by simpa using c36
   (try (have c36b1 : decide (t607 = t583) = true := by simpa using c36))
   (try (have c36b2 : (t607 == t583) = true := by simpa using c36))
   (try (have c36b5 : (!(t607 == t583)) = false := by rw [c36b2]; rfl))
   clear c36
   (first | rw [c36b5] | rw [c36b0] | (simp only [i64_w, i32_w]; rw [c36b0]) | skip)
   obtain ⟨⟨t608, t611, t612, t615, t618, t621, t624, t627⟩, A37, H⟩ := bindE_ H
   (try dsimp only at H)
   obtain ⟨t630, A38, H⟩ := bindE_ H
   have HC39 := aa_ H
   clear H
   try go_wp2
   replace HO563 := aa_ (Kd.R_drew HO563.out)
   replace HO567 := aa_ (Kd.R_drew HO567.out)
   replace HO570 := aa_ (Kd.R_drew HO570.out)
   replace HO573 := aa_ (Kd.R_drew HO573.out)
   replace HO576 := aa_ (Kd.R_drew HO576.out)
   replace HO579 := aa_ (Kd.R_drew HO579.out)
   replace HO582 := aa_ (Kd.R_drew HO582.out)
   replace HO586 := aa_ (Kd.R_drew HO586.out)
   replace HO590 := aa_ (Kd.R_drew HO590.out)
   replace HO593 := aa_ (Kd.R_drew HO593.out)
   replace HO596 := aa_ (Kd.R_drew HO596.out)
   replace HO599 := aa_ (Kd.R_drew HO599.out)
   replace HO602 := aa_ (Kd.R_drew HO602.out)
   replace HO605 := aa_ (Kd.R_drew HO605.out)
   replace BK559 := aa_ (blk_drew BK559.out)
   replace BK606 := aa_ (blk_drew BK606.out)
   replace HB := aa_ (below_drew1 HB.out)
   refine start_ (n := 5) (S := fun w' => w'.cell? ⟨gb606, 0, none⟩ = some (.slice Ao26 t584.length co26) ∧ w'.cell? ⟨gb606, 1, none⟩ = some (.int .i64 t587) ∧ w'.cell? ⟨gb606, 2, none⟩ = some (.slice Ao29 t588.length co29) ∧ w'.cell? ⟨gb606, 3, none⟩ = some (.slice Ao30 t591.length co30) ∧ w'.cell? ⟨gb606, 4, none⟩ = some (.slice Ao31 t594.length co31) ∧ w'.cell? ⟨gb606, 5, none⟩ = some (.slice Ao32 t597.length co32) ∧ w'.cell? ⟨gb606, 6, none⟩ = some (.slice Ao33 t600.length co33) ∧ w'.cell? ⟨gb606, 7, none⟩ = some (.slice Ao34 t603.length co34) ∧ w'.cell? ⟨gb559, 0, none⟩ = some (.slice A0_0 l0_0.length c0_0) ∧ w'.cell? ⟨gb559, 1, none⟩ = some (.int .i64 a0_1) ∧ w'.cell? ⟨gb559, 2, none⟩ = some (.slice A0_2 l0_2.length c0_2) ∧ w'.cell? ⟨gb559, 3, none⟩ = some (.slice A0_3 l0_3.length c0_3) ∧ w'.cell? ⟨gb559, 4, none⟩ = some (.slice A0_4 l0_4.length c0_4) ∧ w'.cell? ⟨gb559, 5, none⟩ = some (.slice A0_5 l0_5.length c0_5) ∧ w'.cell? ⟨gb559, 6, none⟩ = some (.slice A0_6 l0_6.length c0_6) ∧ w'.cell? ⟨gb559, 7, none⟩ = some (.slice A0_7 l0_7.length c0_7)) (ds := []) (ba_ 5 0) (by kernel_rfl) rfl rfl ⟨(blk_cell BK606.out 0).trans rfl, (blk_cell BK606.out 1).trans rfl, (blk_cell BK606.out 2).trans rfl, (blk_cell BK606.out 3).trans rfl, (blk_cell BK606.out 4).trans rfl, (blk_cell BK606.out 5).trans rfl, (blk_cell BK606.out 6).trans rfl, (blk_cell BK606.out 7).trans rfl, (blk_cell BK559.out 0).trans rfl, (blk_cell BK559.out 1).trans rfl, (blk_cell BK559.out 2).trans rfl, (blk_cell BK559.out 3).trans rfl, (blk_cell BK559.out 4).trans rfl, (blk_cell BK559.out 5).trans rfl, (blk_cell BK559.out 6).trans rfl, (blk_cell BK559.out 7).trans rfl⟩ (fun hHeld => ?_)
   generalize w35.drew = w40 at HO563 HO567 HO570 HO573 HO576 HO579 HO582 HO586 HO590 HO593 HO596 HO599 HO602 HO605 BK559 BK606 HB hHeld ⊢
   refine take_ (i := 0) (N := some 22) (v := ?_) (a' := ?_) (ba_ 5 1) rfl rfl (by kernel_rfl) (fun _ _ _ h => h) (Or.inl ⟨by rfl, ?_⟩) hHeld ?_ ?_
   rotate_left
   ·rintro w' ⟨s0, s1, s2, s3, s4, s5, s6, s7, s8, s9, s10, s11, s12, s13, s14, s15⟩
    go_simp
    with_reducible rfl
   rotate_left
   ·simp only [Act.put, List.setIfInBounds_toArray, List.set_cons_zero, List.set_cons_succ, i64_w, i32_w]
    rfl
   refine take_ (i := 1) (N := some 23) (v := ?_) (a' := ?_) (ba_ 5 3) rfl rfl (by kernel_rfl) (fun _ _ _ h => h) (Or.inl ⟨by rfl, ?_⟩) hHeld ?_ ?_
   rotate_left
   ·rintro w' ⟨s0, s1, s2, s3, s4, s5, s6, s7, s8, s9, s10, s11, s12, s13, s14, s15⟩
    go_simp
    with_reducible rfl
   rotate_left
   ·simp only [Act.put, List.setIfInBounds_toArray, List.set_cons_zero, List.set_cons_succ, i64_w, i32_w]
    rfl
   refine one_ (i := 2) (N := some 24) (ba_ 5 7) rfl rfl (by kernel_rfl) (by decide) (fun K hK => ?_)
   refine goes_ Try.func6 (by kernel_rfl) rfl #[.agg #[.slice A0_0 l0_0.length c0_0, .int .i64 a0_1, .slice A0_2 l0_2.length c0_2, .slice A0_3 l0_3.length c0_3, .slice A0_4 l0_4.length c0_4, .slice A0_5 l0_5.length c0_5, .slice A0_6 l0_6.length c0_6, .slice A0_7 l0_7.length c0_7]] (by rfl) rfl rfl (by (try simp only [List.map_toArray, List.map_cons, List.map_nil]); first | done | rfl | (simp only [List.length_drop, List.length_take]; rfl)) ?_
   with_reducible refine (laws_toWorld.calls k _ _ l0_0 a0_1 _ _ l0_2 _ _ l0_3 _ _ l0_4 _ _ l0_5 _ _ l0_6 _ _ l0_7 t608 t611 t612 t615 t618 t621 t624 t627 _ ?side1 ?side2 ?side3 ?side4 ?side5 ?side6 ?side7 ?side8 ?side9 ?side10 ?side11 ?side12 ?side13 ?side14 A37.out).mono ?_
   (case side1 => repeat (first | exact (Kd.C_below HR0_0.out HB.out) | (with_reducible refine Kd.C_alloc ?_ _) | (with_reducible refine Kd.C_drewN ?_ _) | (with_reducible refine Kd.C_drew ?_)))
   (case side2 => exact HC0_0.out)
   (case side3 => repeat (first | exact (Kd.C_below HR0_2.out HB.out) | (with_reducible refine Kd.C_alloc ?_ _) | (with_reducible refine Kd.C_drewN ?_ _) | (with_reducible refine Kd.C_drew ?_)))
   (case side4 => exact HC0_2.out)
   (case side5 => repeat (first | exact (Kd.C_below HR0_3.out HB.out) | (with_reducible refine Kd.C_alloc ?_ _) | (with_reducible refine Kd.C_drewN ?_ _) | (with_reducible refine Kd.C_drew ?_)))
   (case side6 => exact HC0_3.out)
   (case side7 => repeat (first | exact (Kd.C_below HR0_4.out HB.out) | (with_reducible refine Kd.C_alloc ?_ _) | (with_reducible refine Kd.C_drewN ?_ _) | (with_reducible refine Kd.C_drew ?_)))
   (case side8 => exact HC0_4.out)
   (case side9 => repeat (first | exact (Kd.C_below HR0_5.out HB.out) | (with_reducible refine Kd.C_alloc ?_ _) | (with_reducible refine Kd.C_drewN ?_ _) | (with_reducible refine Kd.C_drew ?_)))
   (case side10 => exact HC0_5.out)
   (case side11 => repeat (first | exact (Kd.C_below HR0_6.out HB.out) | (with_reducible refine Kd.C_alloc ?_ _) | (with_reducible refine Kd.C_drewN ?_ _) | (with_reducible refine Kd.C_drew ?_)))
   (case side12 => exact HC0_6.out)
   (case side13 => repeat (first | exact (Kd.C_below HR0_7.out HB.out) | (with_reducible refine Kd.C_alloc ?_ _) | (with_reducible refine Kd.C_drewN ?_ _) | (with_reducible refine Kd.C_drew ?_)))
   (case side14 => exact HC0_7.out)
   rintro e w41 ⟨v609, v613, v616, v619, v622, v625, v628, rfl, ho0, ho1, ho2, ho3, ho4, ho5, ho6, hb⟩
   refine ⟨_, rfl, ?_⟩
   have HO610 := aa_ (Kd.R_lower (Kd.R_new' (Kd.R_new' (Kd.R_new' (Kd.R_new' (Kd.R_new' (Kd.R_new' ho0 (Kd.R_lt (rr_ HO563))) (Kd.R_lt (rr_ HO567))) (Kd.R_lt (rr_ HO582))) (Kd.R_lt (rr_ HO586))) (Kd.R_lt (rr_ HO590))) (Kd.R_lt (rr_ HO605))) bls_)
   replace HO563 := aa_ (Kd.R_mono (Kd.R_told (Kd.R_told (Kd.R_told (Kd.R_old (rr_ HO563) hb) (Kd.R_base ho0)) (Kd.R_base ho1)) (Kd.R_base ho6)) (fun _ h_ => h_.1))
   replace HO586 := aa_ (Kd.R_mono (Kd.R_told (Kd.R_told (Kd.R_told (Kd.R_old (rr_ HO586) hb) (Kd.R_base ho0)) (Kd.R_base ho1)) (Kd.R_base ho6)) (fun _ h_ => h_.1))
   have HO614 := aa_ (Kd.R_lower (Kd.R_new' (Kd.R_new' (Kd.R_new' (Kd.R_new' ho1 (Kd.R_lt (rr_ HO567))) (Kd.R_lt (rr_ HO582))) (Kd.R_lt (rr_ HO590))) (Kd.R_lt (rr_ HO605))) bls_)
   have HO617 := aa_ (Kd.R_lower (Kd.R_new' (Kd.R_new' (Kd.R_new' (Kd.R_new' ho2 (Kd.R_lt (rr_ HO570))) (Kd.R_lt (rr_ HO573))) (Kd.R_lt (rr_ HO593))) (Kd.R_lt (rr_ HO596))) bls_)
   have HO620 := aa_ (Kd.R_lower (Kd.R_new' (Kd.R_new' (Kd.R_new' (Kd.R_new' ho3 (Kd.R_lt (rr_ HO570))) (Kd.R_lt (rr_ HO573))) (Kd.R_lt (rr_ HO593))) (Kd.R_lt (rr_ HO596))) bls_)
   replace HO570 := aa_ (Kd.R_mono (Kd.R_told (Kd.R_told (Kd.R_old (rr_ HO570) hb) (Kd.R_base ho2)) (Kd.R_base ho3)) (fun _ h_ => h_.1))
   replace HO573 := aa_ (Kd.R_mono (Kd.R_told (Kd.R_told (Kd.R_old (rr_ HO573) hb) (Kd.R_base ho2)) (Kd.R_base ho3)) (fun _ h_ => h_.1))
   replace HO593 := aa_ (Kd.R_mono (Kd.R_told (Kd.R_told (Kd.R_old (rr_ HO593) hb) (Kd.R_base ho2)) (Kd.R_base ho3)) (fun _ h_ => h_.1))
   replace HO596 := aa_ (Kd.R_mono (Kd.R_told (Kd.R_told (Kd.R_old (rr_ HO596) hb) (Kd.R_base ho2)) (Kd.R_base ho3)) (fun _ h_ => h_.1))
   have HO623 := aa_ (Kd.R_lower (Kd.R_new' (Kd.R_new' (Kd.R_new' (Kd.R_new' (Kd.R_new' (Kd.R_new' ho4 (Kd.R_lt (rr_ HO567))) (Kd.R_lt (rr_ HO576))) (Kd.R_lt (rr_ HO582))) (Kd.R_lt (rr_ HO590))) (Kd.R_lt (rr_ HO599))) (Kd.R_lt (rr_ HO605))) bls_)
   replace HO576 := aa_ (Kd.R_mono (Kd.R_told (Kd.R_told (Kd.R_told (Kd.R_old (rr_ HO576) hb) (Kd.R_base ho1)) (Kd.R_base ho4)) (Kd.R_base ho6)) (fun _ h_ => h_.1))
   replace HO599 := aa_ (Kd.R_mono (Kd.R_told (Kd.R_told (Kd.R_told (Kd.R_old (rr_ HO599) hb) (Kd.R_base ho1)) (Kd.R_base ho4)) (Kd.R_base ho6)) (fun _ h_ => h_.1))
   have HO626 := aa_ (Kd.R_lower (Kd.R_new' (Kd.R_new' ho5 (Kd.R_lt (rr_ HO579))) (Kd.R_lt (rr_ HO602))) bls_)
   replace HO579 := aa_ (Kd.R_elder' (rr_ HO579) (Kd.R_base ho5) hb)
   replace HO602 := aa_ (Kd.R_elder' (rr_ HO602) (Kd.R_base ho5) hb)
   have HO629 := aa_ (Kd.R_lower (Kd.R_new' (Kd.R_new' (Kd.R_new' (Kd.R_new' ho6 (Kd.R_lt (rr_ HO567))) (Kd.R_lt (rr_ HO582))) (Kd.R_lt (rr_ HO590))) (Kd.R_lt (rr_ HO605))) bls_)
   replace HO567 := aa_ (Kd.R_mono (Kd.R_told (Kd.R_told (Kd.R_old (rr_ HO567) hb) (Kd.R_base ho1)) (Kd.R_base ho6)) (fun _ h_ => h_.1))
   replace HO582 := aa_ (Kd.R_mono (Kd.R_told (Kd.R_told (Kd.R_old (rr_ HO582) hb) (Kd.R_base ho1)) (Kd.R_base ho6)) (fun _ h_ => h_.1))
   replace HO590 := aa_ (Kd.R_mono (Kd.R_told (Kd.R_told (Kd.R_old (rr_ HO590) hb) (Kd.R_base ho1)) (Kd.R_base ho6)) (fun _ h_ => h_.1))
   replace HO605 := aa_ (Kd.R_mono (Kd.R_told (Kd.R_told (Kd.R_old (rr_ HO605) hb) (Kd.R_base ho1)) (Kd.R_base ho6)) (fun _ h_ => h_.1))
   replace BK559 := bkb_ BK559 hb
   replace BK606 := bkb_ BK606 hb
   replace HB := hbs_ hb
   (try clear hb)
   (try clear hb2)
   (try clear hk)
   (try clear hi)
   (try clear ho0)
   (try clear ho1)
   (try clear ho2)
   (try clear ho3)
   (try clear ho4)
   (try clear ho5)
   (try clear ho6)
   obtain ⟨Ao42, co42, eo42⟩ := Kd.R_slice HO610.out
   (first | subst eo42 | (injection eo42 with f1_ f2_ f3_; have f4_ := f1_.symm; have f5_ := f3_.symm; clear f1_ f2_ f3_; subst f4_; subst f5_))
   obtain ⟨Ao43, co43, eo43⟩ := Kd.R_slice HO614.out
   (first | subst eo43 | (injection eo43 with f1_ f2_ f3_; have f4_ := f1_.symm; have f5_ := f3_.symm; clear f1_ f2_ f3_; subst f4_; subst f5_))
   obtain ⟨Ao44, co44, eo44⟩ := Kd.R_slice HO617.out
   (first | subst eo44 | (injection eo44 with f1_ f2_ f3_; have f4_ := f1_.symm; have f5_ := f3_.symm; clear f1_ f2_ f3_; subst f4_; subst f5_))
   obtain ⟨Ao45, co45, eo45⟩ := Kd.R_slice HO620.out
   (first | subst eo45 | (injection eo45 with f1_ f2_ f3_; have f4_ := f1_.symm; have f5_ := f3_.symm; clear f1_ f2_ f3_; subst f4_; subst f5_))
   obtain ⟨Ao46, co46, eo46⟩ := Kd.R_slice HO623.out
   (first | subst eo46 | (injection eo46 with f1_ f2_ f3_; have f4_ := f1_.symm; have f5_ := f3_.symm; clear f1_ f2_ f3_; subst f4_; subst f5_))
   obtain ⟨Ao47, co47, eo47⟩ := Kd.R_slice HO626.out
   (first | subst eo47 | (injection eo47 with f1_ f2_ f3_; have f4_ := f1_.symm; have f5_ := f3_.symm; clear f1_ f2_ f3_; subst f4_; subst f5_))
   obtain ⟨Ao48, co48, eo48⟩ := Kd.R_slice HO629.out
   (first | subst eo48 | (injection eo48 with f1_ f2_ f3_; have f4_ := f1_.symm; have f5_ := f3_.symm; clear f1_ f2_ f3_; subst f4_; subst f5_))
   refine hK.out _ _ ⟨(blk_cell BK606.out 0).trans rfl, (blk_cell BK606.out 1).trans rfl, (blk_cell BK606.out 2).trans rfl, (blk_cell BK606.out 3).trans rfl, (blk_cell BK606.out 4).trans rfl, (blk_cell BK606.out 5).trans rfl, (blk_cell BK606.out 6).trans rfl, (blk_cell BK606.out 7).trans rfl, (blk_cell BK559.out 0).trans rfl, (blk_cell BK559.out 1).trans rfl, (blk_cell BK559.out 2).trans rfl, (blk_cell BK559.out 3).trans rfl, (blk_cell BK559.out 4).trans rfl, (blk_cell BK559.out 5).trans rfl, (blk_cell BK559.out 6).trans rfl, (blk_cell BK559.out 7).trans rfl⟩ (fun hHeld => ?_)
   clear hK K
   refine norm_ (a' := ?_) ?_ ?_
   rotate_left
   ·show Act.put _ (some 24) _ = _
    simp only [Act.put, List.setIfInBounds_toArray, List.set_cons_zero, List.set_cons_succ, i64_w, i32_w]
    rfl
   refine one_ (i := 3) (N := some 25) (ba_ 5 15) rfl rfl (by kernel_rfl) (by decide) (fun K hK => ?_)
   refine goes_ Try.func8 (by kernel_rfl) rfl #[.agg #[.slice Ao26 t584.length co26, .int .i64 t587, .slice Ao29 t588.length co29, .slice Ao30 t591.length co30, .slice Ao31 t594.length co31, .slice Ao32 t597.length co32, .slice Ao33 t600.length co33, .slice Ao34 t603.length co34], .agg #[.slice Ao42 t608.length co42, .int .i64 t611, .slice Ao43 t612.length co43, .slice Ao44 t615.length co44, .slice Ao45 t618.length co45, .slice Ao46 t621.length co46, .slice Ao47 t624.length co47, .slice Ao48 t627.length co48]] (by rfl) rfl rfl (by (try simp only [List.map_toArray, List.map_cons, List.map_nil]); first | done | rfl | (simp only [List.length_drop, List.length_take]; rfl)) ?_
   with_reducible refine (laws_eqWorld.calls k _ _ t584 t587 _ _ t588 _ _ t591 _ _ t594 _ _ t597 _ _ t600 _ _ t603 _ _ t608 t611 _ _ t612 _ _ t615 _ _ t618 _ _ t621 _ _ t624 _ _ t627 t630 _ ?side1 ?side2 ?side3 ?side4 ?side5 ?side6 ?side7 ?side8 ?side9 ?side10 ?side11 ?side12 ?side13 ?side14 ?side15 ?side16 ?side17 ?side18 ?side19 ?side20 ?side21 ?side22 ?side23 ?side24 ?side25 ?side26 ?side27 ?side28 A38.out).mono ?_
   (case side1 => repeat (first | exact (Kd.R_reads' HO586.out).2.2 | (with_reducible refine Kd.C_alloc ?_ _) | (with_reducible refine Kd.C_drewN ?_ _) | (with_reducible refine Kd.C_drew ?_)))
   (case side2 => exact (Kd.R_reads' HO586.out).2.1)
   (case side3 => repeat (first | exact (Kd.R_reads' HO590.out).2.2 | (with_reducible refine Kd.C_alloc ?_ _) | (with_reducible refine Kd.C_drewN ?_ _) | (with_reducible refine Kd.C_drew ?_)))
   (case side4 => exact (Kd.R_reads' HO590.out).2.1)
   (case side5 => repeat (first | exact (Kd.R_reads' HO593.out).2.2 | (with_reducible refine Kd.C_alloc ?_ _) | (with_reducible refine Kd.C_drewN ?_ _) | (with_reducible refine Kd.C_drew ?_)))
   (case side6 => exact (Kd.R_reads' HO593.out).2.1)
   (case side7 => repeat (first | exact (Kd.R_reads' HO596.out).2.2 | (with_reducible refine Kd.C_alloc ?_ _) | (with_reducible refine Kd.C_drewN ?_ _) | (with_reducible refine Kd.C_drew ?_)))
   (case side8 => exact (Kd.R_reads' HO596.out).2.1)
   (case side9 => repeat (first | exact (Kd.R_reads' HO599.out).2.2 | (with_reducible refine Kd.C_alloc ?_ _) | (with_reducible refine Kd.C_drewN ?_ _) | (with_reducible refine Kd.C_drew ?_)))
   (case side10 => exact (Kd.R_reads' HO599.out).2.1)
   (case side11 => repeat (first | exact (Kd.R_reads' HO602.out).2.2 | (with_reducible refine Kd.C_alloc ?_ _) | (with_reducible refine Kd.C_drewN ?_ _) | (with_reducible refine Kd.C_drew ?_)))
   (case side12 => exact (Kd.R_reads' HO602.out).2.1)
   (case side13 => repeat (first | exact (Kd.R_reads' HO605.out).2.2 | (with_reducible refine Kd.C_alloc ?_ _) | (with_reducible refine Kd.C_drewN ?_ _) | (with_reducible refine Kd.C_drew ?_)))
   (case side14 => exact (Kd.R_reads' HO605.out).2.1)
   (case side15 => repeat (first | exact (Kd.R_reads' HO610.out).2.2 | (with_reducible refine Kd.C_alloc ?_ _) | (with_reducible refine Kd.C_drewN ?_ _) | (with_reducible refine Kd.C_drew ?_)))
   (case side16 => exact (Kd.R_reads' HO610.out).2.1)
   (case side17 => repeat (first | exact (Kd.R_reads' HO614.out).2.2 | (with_reducible refine Kd.C_alloc ?_ _) | (with_reducible refine Kd.C_drewN ?_ _) | (with_reducible refine Kd.C_drew ?_)))
   (case side18 => exact (Kd.R_reads' HO614.out).2.1)
   (case side19 => repeat (first | exact (Kd.R_reads' HO617.out).2.2 | (with_reducible refine Kd.C_alloc ?_ _) | (with_reducible refine Kd.C_drewN ?_ _) | (with_reducible refine Kd.C_drew ?_)))
   (case side20 => exact (Kd.R_reads' HO617.out).2.1)
   (case side21 => repeat (first | exact (Kd.R_reads' HO620.out).2.2 | (with_reducible refine Kd.C_alloc ?_ _) | (with_reducible refine Kd.C_drewN ?_ _) | (with_reducible refine Kd.C_drew ?_)))
   (case side22 => exact (Kd.R_reads' HO620.out).2.1)
   (case side23 => repeat (first | exact (Kd.R_reads' HO623.out).2.2 | (with_reducible refine Kd.C_alloc ?_ _) | (with_reducible refine Kd.C_drewN ?_ _) | (with_reducible refine Kd.C_drew ?_)))
   (case side24 => exact (Kd.R_reads' HO623.out).2.1)
   (case side25 => repeat (first | exact (Kd.R_reads' HO626.out).2.2 | (with_reducible refine Kd.C_alloc ?_ _) | (with_reducible refine Kd.C_drewN ?_ _) | (with_reducible refine Kd.C_drew ?_)))
   (case side26 => exact (Kd.R_reads' HO626.out).2.1)
   (case side27 => repeat (first | exact (Kd.R_reads' HO629.out).2.2 | (with_reducible refine Kd.C_alloc ?_ _) | (with_reducible refine Kd.C_drewN ?_ _) | (with_reducible refine Kd.C_drew ?_)))
   (case side28 => exact (Kd.R_reads' HO629.out).2.1)
   rintro e w49 ⟨rfl, hb⟩
   refine ⟨_, rfl, ?_⟩
   replace HO563 := hob_ HO563 hb
   replace HO567 := hob_ HO567 hb
   replace HO570 := hob_ HO570 hb
   replace HO573 := hob_ HO573 hb
   replace HO576 := hob_ HO576 hb
   replace HO579 := hob_ HO579 hb
   replace HO582 := hob_ HO582 hb
   replace HO586 := hob_ HO586 hb
   replace HO590 := hob_ HO590 hb
   replace HO593 := hob_ HO593 hb
   replace HO596 := hob_ HO596 hb
   replace HO599 := hob_ HO599 hb
   replace HO602 := hob_ HO602 hb
   replace HO605 := hob_ HO605 hb
   replace HO610 := hob_ HO610 hb
   replace HO614 := hob_ HO614 hb
   replace HO617 := hob_ HO617 hb
   replace HO620 := hob_ HO620 hb
   replace HO623 := hob_ HO623 hb
   replace HO626 := hob_ HO626 hb
   replace HO629 := hob_ HO629 hb
   replace BK559 := bkb_ BK559 hb
   replace BK606 := bkb_ BK606 hb
   replace HB := hbs_ hb
   (try clear hb)
   (try clear hb2)
   (try clear hk)
   (try clear hi)
   refine hK.out _ _ ⟨(blk_cell BK606.out 0).trans rfl, (blk_cell BK606.out 1).trans rfl, (blk_cell BK606.out 2).trans rfl, (blk_cell BK606.out 3).trans rfl, (blk_cell BK606.out 4).trans rfl, (blk_cell BK606.out 5).trans rfl, (blk_cell BK606.out 6).trans rfl, (blk_cell BK606.out 7).trans rfl, (blk_cell BK559.out 0).trans rfl, (blk_cell BK559.out 1).trans rfl, (blk_cell BK559.out 2).trans rfl, (blk_cell BK559.out 3).trans rfl, (blk_cell BK559.out 4).trans rfl, (blk_cell BK559.out 5).trans rfl, (blk_cell BK559.out 6).trans rfl, (blk_cell BK559.out 7).trans rfl⟩ (fun hHeld => ?_)
   clear hK K
   refine norm_ (a' := ?_) ?_ ?_
   rotate_left
   ·show Act.put _ (some 25) _ = _
    simp only [Act.put, List.setIfInBounds_toArray, List.set_cons_zero, List.set_cons_succ, i64_w, i32_w]
    rfl
   refine pure_ (i := 4) (N := some 26) (v := ?_) (a' := ?_) (ba_ 5 31) rfl rfl (by kernel_rfl) (fun _ _ _ h => h) (Or.inl ⟨by rfl, ?_⟩) ?_ ?_
   rotate_left
   ·intro w'
    go_simp
    with_reducible rfl
   rotate_left
   ·simp only [Act.put, List.setIfInBounds_toArray, List.set_cons_zero, List.set_cons_succ, i64_w, i32_w]
    rfl
   refine done_ (by kernel_rfl) ?_
   go_upto_if 26 with (fail)
   have H := HC39.out
   clear HC39
   by_cases c50 : t630 = true
   ·subst c50
    replace H := ite_t_ H
    obtain rfl := Option.some.inj H
    go_wp2
    go_ret
    exact ⟨eq_, bl_⟩
   ·replace c50 := Bool.eq_false_iff.mpr c50
    subst c50
    replace H := ite_f_ H
    exact absurd (Option.some.inj (H.trans (congrArg some hr_))) (by decide)
end Go.Proofs.Ytcnjbkfnijnpnaa.PA
