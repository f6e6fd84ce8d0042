import Derived.Test.YtcgnegnljffkmaaKFnExactRisingPEx0
import Derived.Test.YtcgnegnljffkmaaKFnExactRisingPEx1
import Derived.Test.YtcgnegnljffkmaaKFnExactRisingPEx3
-- A text of this claim: written by the session's own program out of the translation (wip/tools). Lean checks it.
namespace Go.Proofs.Ytcgnegnljffkmaa.PE
open Go.RowKit Go.Proofs.YtcgnegnljffkmaaW.PrintWords Go.Proofs.YtcgnegnljffkmaaW.PrintLast Go.Proofs.YtcgnegnljffkmaaW.PrintMore
attribute [local go_sem] max2_int min2_int max_two min_two max_three min_three max_four min_four   -- for this text's walks alone
set_option linter.unusedVariables false
set_option linter.unusedSimpArgs false
attribute [local go_sem high] eqA27
def spec_Rising.l0 : Nat → List Bool → Int → List (S105) → Option (Bool)
 | 0, _, _, _ => none
 | k + 1, x3, x4, x163000 => if x4 < (x163000.length : Int) then (if 0 ≤ x4 then (if x4 < (x3.length : Int) then (if rdOf false x3 x4 = true then (if ((rd_T105 x163000 x4).f0) = 4 then (some false) else (spec_Rising.l0 k x3 (wrap64 (x4 + 1)) x163000)) else (spec_Rising.l0 k x3 (wrap64 (x4 + 1)) x163000)) else (none)) else (none)) else (some true)
def spec_Rising.f (k : Nat) (l0_0 : List (S105)) : Option (Bool) := (spec_PolicyOk.f k l0_0).bind fun t163 => (if t163 = true then ((spec_l21Below.f k l0_0).bind fun t164 => (spec_Rising.l0 k t164 0 l0_0)) else (some false))
set_option maxHeartbeats 8000000 in
set_option maxRecDepth 100000 in
theorem spec_Rising.calls (k : Nat) (A0_0 : Option Addr) (c0_0 : Nat) (l0_0 : List (S105)) (r : Bool) (w : World) (hr0_0 : Kd.C k105 w A0_0 l0_0.length l0_0) (hc0_0 : l0_0.length ≤ c0_0) (h : spec_Rising.f k l0_0 = some r) :
  Calls Try.prog 25 #[.agg #[.slice A0_0 l0_0.length c0_0]] w fun e w' => e = .returned (.bool r) ∧ Below w.heap.size w w' := by
 have hu39 := Try.underlying39
 have HR0_0 := Aside0.mk hr0_0
 have HC0_0 := Aside0.mk hc0_0
 clear hr0_0 hc0_0
 have HB := Aside0.mk (Below.refl w.heap.size w)
 have H : ((spec_PolicyOk.f k l0_0).bind fun t163 => (if t163 = true then ((spec_l21Below.f k l0_0).bind fun t164 => (spec_Rising.l0 k t164 0 l0_0)) else (some false))) = some r := h
 clear h
 obtain ⟨t163, A2, H⟩ := bindE_ H
 by_cases c3 : t163 = true
 ·subst c3
  replace H := ite_t_ H
  obtain ⟨t164, A4, H⟩ := bindE_ H
  have H' := Aside0.mk H
  clear H
  go_enter Try.func25, Try.ntmps25
  go_wp2_with (first | ((with_reducible refine gate_dst (N := 1) rfl ?_); refine box_event ?hg (N := 1) ?hd (cs := #[.slice A0_0 l0_0.length c0_0]) (t := 39) ?hr ?_; (case hd => rfl); (case hg => rfl); (case hr => first | (go_simp; done) | (go_simp; rfl)); intro gb162 hg w5 hbox hb; have BK162 := Aside0.mk (hbox); have GW162 := gs_ hg; have GE162 := gs_ hg; replace HB := hbs_ hb; clear hb hbox hg; have hcz6 := blk_cell BK162.out; have hfz6 := blk_frozen BK162.out) | ((with_reducible refine gate_callee (f := 19) rfl ?_); refine goesC_ (some 6) Try.func19 #[.agg #[.slice A0_0 l0_0.length c0_0]] ?_; (with_reducible refine (spec_PolicyOk.calls k _ _ l0_0 true _ ?side1 ?side2 A2.out).mono ?_); (case side1 => repeat (first | exact (Kd.C_below HR0_0.out HB.out) | (with_reducible refine Kd.C_alloc ?_ _) | (with_reducible refine Kd.C_drewN ?_ _) | (with_reducible refine Kd.C_drew ?_))); (case side2 => exact HC0_0.out); rintro e w7 ⟨rfl, hb⟩; refine ⟨_, rfl, ?_⟩; replace BK162 := bkb_ BK162 hb; replace HB := hbs_ hb; clear hb; have hcz8 := blk_cell BK162.out; have hfz8 := blk_frozen BK162.out) | ((with_reducible refine gate_callee (f := 84) rfl ?_); refine goesC_ (some 9) Try.func84 #[.agg #[.slice A0_0 l0_0.length c0_0]] ?_; (with_reducible refine (spec_l21Below.calls k _ _ l0_0 t164 _ ?side1 ?side2 A4.out).mono ?_); (case side1 => repeat (first | exact (Kd.C_below HR0_0.out HB.out) | (with_reducible refine Kd.C_alloc ?_ _) | (with_reducible refine Kd.C_drewN ?_ _) | (with_reducible refine Kd.C_drew ?_))); (case side2 => exact HC0_0.out); rintro e w9 ⟨v165, rfl, ho0, hb⟩; refine ⟨_, rfl, ?_⟩; have HO166 := Aside0.mk (Kd.R_lower ho0 bls_); replace BK162 := bkb_ BK162 hb; replace HB := hbs_ hb; (try clear hb); (try clear hb2); (try clear hk); (try clear hi); (try clear ho0)))
  go_loopg [4] k (fun kq v4 w' => ∃ (x4_1 : Int), v4 = .int .i64 x4_1 ∧ Aside0 (spec_Rising.l0 kq t164 x4_1 l0_0 = some r) ∧ Aside0 (kq ≤ k) ∧ Aside0 (Kd.R Kd.bool 4 w' w.heap.size (fun _ => True) v165 t164) ∧ Aside0 (w'.heap[gb162]? = some (.cells #[(.slice A0_0 l0_0.length c0_0)] 39 (0, 0))) ∧ Aside0 (Below w.heap.size w w'))
  case atStart => exact ⟨(0), (by first | rfl | (simp; done) | (simp [*]; done)), H', ⟨Nat.le_refl _⟩, ⟨by (with_reducible repeat (first | apply Kd.R_alloc | apply Kd.R_drewN | apply Kd.R_drew)); exact HO166.out⟩, ⟨bk_ BK162⟩, ⟨bl_⟩⟩
  case round =>
   clear H'
   try clear c1
   try clear c2
   try clear p2
   try clear c3
   try clear c8
   try clear hcz6
   try clear hcz8
   try clear hfz6
   try clear hfz8
   obtain ⟨x4_1, rfl, HA, HK1, HO_3, BK162, HB⟩ := hrel
   cases gk with
   | zero => exact absurd HA.out (by simp [spec_Rising.l0])
   | succ k1 =>
    have H := HA.out
    clear HA
    simp only [spec_Rising.l0] at H
    by_cases c10 : x4_1 < (l0_0.length : Int)
    ·rw [if_pos c10] at H
     have c10b0 : decide (x4_1 < (l0_0.length : Int)) = true := decide_eq_true c10
     clear c10
     by_cases c11 : 0 ≤ x4_1
     ·rw [if_pos c11] at H
      have c11b0 : decide (0 ≤ x4_1) = true := decide_eq_true c11
      clear c11
      by_cases c12 : x4_1 < (t164.length : Int)
      ·rw [if_pos c12] at H
       have c12b0 : decide (x4_1 < (t164.length : Int)) = true := decide_eq_true c12
       clear c12
       obtain ⟨bq13, hbq13⟩ : ∃ b_ : Bool, b_ = (rdOf false t164 x4_1) := ⟨_, rfl⟩
       replace H : (if bq13 = true then (if ((rd_T105 l0_0 x4_1).f0) = 4 then (some false) else (spec_Rising.l0 k1 t164 (wrap64 (x4_1 + 1)) l0_0)) else (spec_Rising.l0 k1 t164 (wrap64 (x4_1 + 1)) l0_0)) = some r := by rw [← hbq13] at H; exact H
       have Nbq13 := Aside0.mk hbq13
       clear hbq13
       by_cases c14 : bq13 = true
       ·subst c14
        replace H := ite_t_ H
        by_cases c15 : ((rd_T105 l0_0 x4_1).f0) = 4
        ·rw [if_pos c15] at H
         have c15b0 : (((rd_T105 l0_0 x4_1).f0) == 4) = true := beq_iff_eq.mpr c15
         have c15b1 : (((rd_T105 l0_0 x4_1).f0) != 4) = false := bne_eq_false_iff_eq.mpr c15
         clear c15
         obtain rfl := Option.some.inj H
         have hcz16 := blk_cell BK162.out
         have hfz16 := blk_frozen BK162.out
         obtain ⟨Ao17, co17, eo17⟩ := Kd.R_slice HO_3.out
         subst eo17
         have p167 : 0 ≤ (x4_1 : Int) := of_decide_eq_true (by first | (with_reducible assumption) | assumption)
         have q167 : x4_1 < (t164.length : Int) := of_decide_eq_true (by first | (with_reducible assumption) | assumption)
         obtain ⟨ad167, e167, hx167_0⟩ := Kd.at_bool (Kd.R_reads' HO_3.out).2.2 x4_1 p167 q167
         (try rw [← Nbq13.out] at hx167_0)
         cases e167
         replace p167 := eq_true p167
         replace q167 := eq_true q167
         have p168 : 0 ≤ (x4_1 : Int) := of_decide_eq_true (by first | (with_reducible assumption) | assumption)
         have q168 : x4_1 < (l0_0.length : Int) := of_decide_eq_true (by first | (with_reducible assumption) | assumption)
         obtain ⟨ad168, e168, hx168_0, hx168_1, hx168_2, hx168_3, hx168_4⟩ := at_T105 (Kd.C_below HR0_0.out HB.out) x4_1 p168 q168
         cases e168
         replace p168 := eq_true p168
         replace q168 := eq_true q168
         go_wp2
         go_ret
         exact ⟨eq_, bl_⟩
        ·rw [if_neg c15] at H
         have c15b0 : (((rd_T105 l0_0 x4_1).f0) == 4) = false := beq_eq_false_iff_ne.mpr c15
         have c15b1 : (((rd_T105 l0_0 x4_1).f0) != 4) = true := bne_iff_ne.mpr c15
         have H' := Aside0.mk H
         clear H
         have hcz18 := blk_cell BK162.out
         have hfz18 := blk_frozen BK162.out
         obtain ⟨Ao19, co19, eo19⟩ := Kd.R_slice HO_3.out
         subst eo19
         have p167 : 0 ≤ (x4_1 : Int) := of_decide_eq_true (by first | (with_reducible assumption) | assumption)
         have q167 : x4_1 < (t164.length : Int) := of_decide_eq_true (by first | (with_reducible assumption) | assumption)
         obtain ⟨ad167, e167, hx167_0⟩ := Kd.at_bool (Kd.R_reads' HO_3.out).2.2 x4_1 p167 q167
         (try rw [← Nbq13.out] at hx167_0)
         cases e167
         replace p167 := eq_true p167
         replace q167 := eq_true q167
         have p168 : 0 ≤ (x4_1 : Int) := of_decide_eq_true (by first | (with_reducible assumption) | assumption)
         have q168 : x4_1 < (l0_0.length : Int) := of_decide_eq_true (by first | (with_reducible assumption) | assumption)
         obtain ⟨ad168, e168, hx168_0, hx168_1, hx168_2, hx168_3, hx168_4⟩ := at_T105 (Kd.C_below HR0_0.out HB.out) x4_1 p168 q168
         cases e168
         replace p168 := eq_true p168
         replace q168 := eq_true q168
         go_wp2
         go_roundg k1
         case measure => have := HK1.out; omega
         case rel => exact ⟨(wrap64 (x4_1 + 1)), (by first | rfl | (simp; done) | (simp [*]; done)), H', ⟨by have := HK1.out; omega⟩, ⟨by (with_reducible repeat (first | apply Kd.R_alloc | apply Kd.R_drewN | apply Kd.R_drew)); exact HO_3.out⟩, ⟨bk_ BK162⟩, ⟨bl_⟩⟩
       ·replace c14 := Bool.eq_false_iff.mpr c14
        subst c14
        replace H := ite_f_ H
        have H' := Aside0.mk H
        clear H
        have hcz20 := blk_cell BK162.out
        have hfz20 := blk_frozen BK162.out
        obtain ⟨Ao21, co21, eo21⟩ := Kd.R_slice HO_3.out
        subst eo21
        have p167 : 0 ≤ (x4_1 : Int) := of_decide_eq_true (by first | (with_reducible assumption) | assumption)
        have q167 : x4_1 < (t164.length : Int) := of_decide_eq_true (by first | (with_reducible assumption) | assumption)
        obtain ⟨ad167, e167, hx167_0⟩ := Kd.at_bool (Kd.R_reads' HO_3.out).2.2 x4_1 p167 q167
        (try rw [← Nbq13.out] at hx167_0)
        cases e167
        replace p167 := eq_true p167
        replace q167 := eq_true q167
        go_wp2
        go_roundg k1
        case measure => have := HK1.out; omega
        case rel => exact ⟨(wrap64 (x4_1 + 1)), (by first | rfl | (simp; done) | (simp [*]; done)), H', ⟨by have := HK1.out; omega⟩, ⟨by (with_reducible repeat (first | apply Kd.R_alloc | apply Kd.R_drewN | apply Kd.R_drew)); exact HO_3.out⟩, ⟨bk_ BK162⟩, ⟨bl_⟩⟩
      ·rw [if_neg c12] at H
       exact absurd H (by simp)
     ·rw [if_neg c11] at H
      exact absurd H (by simp)
    ·rw [if_neg c10] at H
     have c10b0 : decide (x4_1 < (l0_0.length : Int)) = false := decide_eq_false c10
     clear c10
     obtain rfl := Option.some.inj H
     have hcz22 := blk_cell BK162.out
     have hfz22 := blk_frozen BK162.out
     go_wp2
     go_ret
     exact ⟨eq_, bl_⟩
 ·replace c3 := Bool.eq_false_iff.mpr c3
  subst c3
  replace H := ite_f_ H
  obtain rfl := Option.some.inj H
  go_enter Try.func25, Try.ntmps25
  go_wp2_with (first | ((with_reducible refine gate_dst (N := 1) rfl ?_); refine box_event ?hg (N := 1) ?hd (cs := #[.slice A0_0 l0_0.length c0_0]) (t := 39) ?hr ?_; (case hd => rfl); (case hg => rfl); (case hr => first | (go_simp; done) | (go_simp; rfl)); intro gb162 hg w23 hbox hb; have BK162 := Aside0.mk (hbox); have GW162 := gs_ hg; have GE162 := gs_ hg; replace HB := hbs_ hb; clear hb hbox hg; have hcz24 := blk_cell BK162.out; have hfz24 := blk_frozen BK162.out) | ((with_reducible refine gate_callee (f := 19) rfl ?_); refine goesC_ (some 6) Try.func19 #[.agg #[.slice A0_0 l0_0.length c0_0]] ?_; (with_reducible refine (spec_PolicyOk.calls k _ _ l0_0 false _ ?side1 ?side2 A2.out).mono ?_); (case side1 => repeat (first | exact (Kd.C_below HR0_0.out HB.out) | (with_reducible refine Kd.C_alloc ?_ _) | (with_reducible refine Kd.C_drewN ?_ _) | (with_reducible refine Kd.C_drew ?_))); (case side2 => exact HC0_0.out); rintro e w25 ⟨rfl, hb⟩; refine ⟨_, rfl, ?_⟩; replace BK162 := bkb_ BK162 hb; replace HB := hbs_ hb; clear hb))
  go_ret
  exact ⟨eq_, bl_⟩
def impl_in.f (a0 : Int) (a1 : Int) (a2 : Int) : Option (Bool) := if a0 ≥ a1 then (some (decide (a0 ≤ a2))) else (some false)
set_option maxHeartbeats 8000000 in
set_option maxRecDepth 100000 in
theorem impl_in.calls (a0 : Int) (a1 : Int) (a2 : Int) (r : Bool) (w : World) (h : impl_in.f a0 a1 a2 = some r) :
  Calls Try.prog 79 #[.int .i64 a0, .int .i64 a1, .int .i64 a2] w fun e w' => e = .returned (.bool r) ∧ Drawn0 w w' := by
 have H : (if a0 ≥ a1 then (some (decide (a0 ≤ a2))) else (some false)) = some r := h
 clear h
 by_cases c4 : a0 ≥ a1
 ·rw [if_pos c4] at H
  have c4b0 : decide (a1 ≤ a0) = true := decide_eq_true c4
  clear c4
  obtain rfl := Option.some.inj H
  go_enter Try.func79, Try.ntmps79
  go_wp2
  go_ret
  exact ⟨by first | rfl | (simp; done) | (simp [*]; done), by repeat (first | exact Drawn0.refl _ | apply Drawn0.step)⟩
 ·rw [if_neg c4] at H
  have c4b0 : decide (a1 ≤ a0) = false := decide_eq_false c4
  clear c4
  obtain rfl := Option.some.inj H
  go_enter Try.func79, Try.ntmps79
  go_wp2
  go_ret
  exact ⟨by first | rfl | (simp; done) | (simp [*]; done), by repeat (first | exact Drawn0.refl _ | apply Drawn0.step)⟩
def impl_RoleOk.f (a0_0 : Int) (a0_1 : Int) : Option (Bool) := (impl_in.f a0_0 0 5).bind fun t170 => (if t170 = true then ((impl_in.f a0_1 0 3).bind fun t171 => (some t171)) else (some false))
set_option maxHeartbeats 8000000 in
set_option maxRecDepth 100000 in
theorem impl_RoleOk.calls (a0_0 : Int) (a0_1 : Int) (r : Bool) (w : World) (h : impl_RoleOk.f a0_0 a0_1 = some r) :
  Calls Try.prog 80 #[.agg #[.int .i64 a0_0, .int .i64 a0_1]] w fun e w' => e = .returned (.bool r) ∧ Below w.heap.size w w' := by
 have hu27 := Try.underlying27
 have HB := Aside0.mk (Below.refl w.heap.size w)
 have H : ((impl_in.f a0_0 0 5).bind fun t170 => (if t170 = true then ((impl_in.f a0_1 0 3).bind fun t171 => (some t171)) else (some false))) = some r := h
 clear h
 obtain ⟨t170, A2, H⟩ := bindE_ H
 by_cases c3 : t170 = true
 ·subst c3
  replace H := ite_t_ H
  obtain ⟨t171, A4, H⟩ := bindE_ H
  obtain rfl := Option.some.inj H
  go_enter Try.func80, Try.ntmps80
  go_wp2_with (first | ((with_reducible refine gate_dst (N := 1) rfl ?_); refine box_event ?hg (N := 1) ?hd (cs := #[.int .i64 a0_0, .int .i64 a0_1]) (t := 27) ?hr ?_; (case hd => rfl); (case hg => rfl); (case hr => first | (go_simp; done) | (go_simp; rfl)); intro gb169 hg w5 hbox hb; have BK169 := Aside0.mk (hbox); have GW169 := gs_ hg; have GE169 := gs_ hg; replace HB := hbs_ hb; clear hb hbox hg; have hcz6 := blk_cell BK169.out; have hfz6 := blk_frozen BK169.out) | ((with_reducible refine gate_callee (f := 79) rfl ?_); refine goesC_ (some 5) Try.func79 #[.int .i64 a0_0, .int .i64 0, .int .i64 5] ?_; (with_reducible refine (impl_in.calls a0_0 0 5 true _ A2.out).mono ?_); rintro e w' ⟨rfl, ⟨nd, rfl⟩⟩; refine ⟨_, rfl, ?_⟩) | (go_at_call 79; (with_reducible refine (impl_in.calls a0_1 0 3 t171 _ A4.out).mono ?_); rintro e w' ⟨rfl, ⟨nd, rfl⟩⟩))
  go_ret
  exact ⟨eq_, bl_⟩
 ·replace c3 := Bool.eq_false_iff.mpr c3
  subst c3
  replace H := ite_f_ H
  obtain rfl := Option.some.inj H
  go_enter Try.func80, Try.ntmps80
  go_wp2_with (first | ((with_reducible refine gate_dst (N := 1) rfl ?_); refine box_event ?hg (N := 1) ?hd (cs := #[.int .i64 a0_0, .int .i64 a0_1]) (t := 27) ?hr ?_; (case hd => rfl); (case hg => rfl); (case hr => first | (go_simp; done) | (go_simp; rfl)); intro gb169 hg w7 hbox hb; have BK169 := Aside0.mk (hbox); have GW169 := gs_ hg; have GE169 := gs_ hg; replace HB := hbs_ hb; clear hb hbox hg; have hcz8 := blk_cell BK169.out; have hfz8 := blk_frozen BK169.out) | ((with_reducible refine gate_callee (f := 79) rfl ?_); refine goesC_ (some 5) Try.func79 #[.int .i64 a0_0, .int .i64 0, .int .i64 5] ?_; (with_reducible refine (impl_in.calls a0_0 0 5 false _ A2.out).mono ?_); rintro e w' ⟨rfl, ⟨nd, rfl⟩⟩; refine ⟨_, rfl, ?_⟩))
  go_ret
  exact ⟨eq_, bl_⟩
mutual
def impl_PolicyOk.l0 : Nat → List (S105) → Int → Int → Option (Bool)
 | 0, _, _, _ => none
 | k + 1, x13, x14, x15 => if x15 < x14 then (if 0 ≤ x15 then (if x15 < (x13.length : Int) then (if ((rd_T105 x13 x15).f0) = 1 then ((impl_RoleOk.f ((rd_T105 x13 x15).f1.f0) ((rd_T105 x13 x15).f1.f1)).bind fun t177 => (if t177 = true then (if ((rd_T105 x13 x15).f2) = 0 then (if (((rd_T105 x13 x15).f3) = 0) then (impl_PolicyOk.l0 k x13 x14 (wrap64 (x15 + 1))) else (some false)) else (some false)) else (some false))) else (if ((rd_T105 x13 x15).f0) = 2 then (impl_PolicyOk.j1 k x15 false x13 x14 x15 ((rd_T105 x13 x15).f0) (((rd_T105 x13 x15).f0) == 2) ((rd_T105 x13 x15).f0) ((rd_T105 x13 x15).f1.f0) ((rd_T105 x13 x15).f1.f1) ((rd_T105 x13 x15).f2) ((rd_T105 x13 x15).f3) 0 0) else (impl_PolicyOk.j1 k x15 false x13 x14 x15 ((rd_T105 x13 x15).f0) (((rd_T105 x13 x15).f0) == 3) ((rd_T105 x13 x15).f0) ((rd_T105 x13 x15).f1.f0) ((rd_T105 x13 x15).f1.f1) ((rd_T105 x13 x15).f2) ((rd_T105 x13 x15).f3) 0 0))) else (none)) else (none)) else (some true)
def impl_PolicyOk.j1 : Nat → Int → Bool → List (S105) → Int → Int → Int → Bool → Int → Int → Int → Int → Int → Int → Int → Option (Bool)
 | 0, _, _, _, _, _, _, _, _, _, _, _, _, _, _ => none
 | k + 1, x3, x6, x13, x14, x15, x22, x38, x176000, x176001, x176002, x176003, x176004, x177000, x177001 => if x38 = true then (if (x176001 == x177000 && (x176002 == x177001)) = true then ((impl_in.f x176003 0 (wrap64 (x3 - 1))).bind fun t178 => (if t178 = true then ((impl_in.f x176004 0 (wrap64 (x3 - 1))).bind fun t179 => (if t179 = true then (impl_PolicyOk.l0 k x13 x14 (wrap64 (x15 + 1))) else (some false))) else (some false))) else (some false)) else (if x22 = 4 then (if (x176001 == x177000 && (x176002 == x177001)) = true then ((impl_in.f x176003 0 (wrap64 (x3 - 1))).bind fun t180 => (if t180 = true then (if x176004 = 0 then (impl_PolicyOk.l0 k x13 x14 (wrap64 (x15 + 1))) else (some false)) else (some false))) else (some false)) else (if x6 = true then (impl_PolicyOk.l0 k x13 x14 (wrap64 (x15 + 1))) else (some false)))
end
def impl_PolicyOk.f (k : Nat) (l0_0 : List (S105)) : Option (Bool) := (impl_in.f (l0_0.length : Int) 1 40).bind fun t173 => (if t173 = true then (impl_PolicyOk.l0 k l0_0 (l0_0.length : Int) 0) else (some false))
set_option maxHeartbeats 8000000 in
set_option maxRecDepth 100000 in
theorem impl_PolicyOk.calls (k : Nat) (A0_0 : Option Addr) (c0_0 : Nat) (l0_0 : List (S105)) (r : Bool) (w : World) (hr0_0 : Kd.C k105 w A0_0 l0_0.length l0_0) (hc0_0 : l0_0.length ≤ c0_0) (h : impl_PolicyOk.f k l0_0 = some r) :
  Calls Try.prog 21 #[.agg #[.slice A0_0 l0_0.length c0_0]] w fun e w' => e = .returned (.bool r) ∧ Below w.heap.size w w' := by
 have hu39 := Try.underlying39
 have hu105 := Try.underlying105
 have hu27 := Try.underlying27
 have HR0_0 := Aside0.mk hr0_0
 have HC0_0 := Aside0.mk hc0_0
 clear hr0_0 hc0_0
 have HB := Aside0.mk (Below.refl w.heap.size w)
 have H : ((impl_in.f (l0_0.length : Int) 1 40).bind fun t173 => (if t173 = true then (impl_PolicyOk.l0 k l0_0 (l0_0.length : Int) 0) else (some false))) = some r := h
 clear h
 obtain ⟨t173, A2, H⟩ := bindE_ H
 by_cases c3 : t173 = true
 ·subst c3
  replace H := ite_t_ H
  have H' := Aside0.mk H
  clear H
  go_enter Try.func21, Try.ntmps21
  go_wp2_with (first | ((with_reducible refine gate_dst (N := 1) rfl ?_); refine box_event ?hg (N := 1) ?hd (cs := #[.slice A0_0 l0_0.length c0_0]) (t := 39) ?hr ?_; (case hd => rfl); (case hg => rfl); (case hr => first | (go_simp; done) | (go_simp; rfl)); intro gb172 hg w4 hbox hb; have BK172 := Aside0.mk (hbox); have GW172 := gs_ hg; have GE172 := gs_ hg; replace HB := hbs_ hb; clear hb hbox hg; have hcz5 := blk_cell BK172.out; have hfz5 := blk_frozen BK172.out) | ((with_reducible refine gate_callee (f := 79) rfl ?_); refine goesC_ (some 10) Try.func79 #[.int .i64 (l0_0.length : Int), .int .i64 1, .int .i64 40] ?_; (with_reducible refine (impl_in.calls (l0_0.length : Int) 1 40 true _ A2.out).mono ?_); rintro e w' ⟨rfl, ⟨nd, rfl⟩⟩; refine ⟨_, rfl, ?_⟩))
  go_loopg [15] k (fun kq v15 w' => ∃ (x15_1 : Int), v15 = .int .i64 x15_1 ∧ Aside0 (impl_PolicyOk.l0 kq l0_0 (l0_0.length : Int) x15_1 = some r) ∧ Aside0 (kq ≤ k) ∧ Aside0 (w'.heap[gb172]? = some (.cells #[(.slice A0_0 l0_0.length c0_0)] 39 (0, 0))) ∧ Aside0 (Below w.heap.size w w'))
  case atStart => exact ⟨(0), (by first | rfl | (simp; done) | (simp [*]; done)), H', ⟨Nat.le_refl _⟩, ⟨bk_ BK172⟩, ⟨bl_⟩⟩
  case round =>
   clear H'
   try clear c2
   try clear p2
   try clear c3
   try clear hcz5
   try clear hfz5
   obtain ⟨x15_1, rfl, HA, HK1, BK172, HB⟩ := hrel
   cases gk with
   | zero => exact absurd HA.out (by simp [impl_PolicyOk.l0])
   | succ k1 =>
    have H := HA.out
    clear HA
    simp only [impl_PolicyOk.l0] at H
    by_cases c6 : x15_1 < (l0_0.length : Int)
    ·rw [if_pos c6] at H
     have c6b0 : decide (x15_1 < (l0_0.length : Int)) = true := decide_eq_true c6
     clear c6
     by_cases c7 : 0 ≤ x15_1
     ·rw [if_pos c7] at H
      have c7b0 : decide (0 ≤ x15_1) = true := decide_eq_true c7
      clear c7
      by_cases c8 : x15_1 < (l0_0.length : Int)
      ·rw [if_pos c8] at H
       have c8b0 : decide (x15_1 < (l0_0.length : Int)) = true := decide_eq_true c8
       clear c8
       by_cases c9 : ((rd_T105 l0_0 x15_1).f0) = 1
       ·rw [if_pos c9] at H
        have c9b0 : (((rd_T105 l0_0 x15_1).f0) == 1) = true := beq_iff_eq.mpr c9
        have c9b1 : (((rd_T105 l0_0 x15_1).f0) != 1) = false := bne_eq_false_iff_eq.mpr c9
        clear c9
        obtain ⟨t177, A10, H⟩ := bindE_ H
        by_cases c11 : t177 = true
        ·subst c11
         replace H := ite_t_ H
         by_cases c12 : ((rd_T105 l0_0 x15_1).f2) = 0
         ·rw [if_pos c12] at H
          have c12b0 : (((rd_T105 l0_0 x15_1).f2) == 0) = true := beq_iff_eq.mpr c12
          have c12b1 : (((rd_T105 l0_0 x15_1).f2) != 0) = false := bne_eq_false_iff_eq.mpr c12
          clear c12
          by_cases c13 : (((rd_T105 l0_0 x15_1).f3) = 0)
          ·rw [if_pos c13] at H
           have c13b0 : (((rd_T105 l0_0 x15_1).f3) == 0) = true := beq_iff_eq.mpr c13
           have c13b1 : (((rd_T105 l0_0 x15_1).f3) != 0) = false := bne_eq_false_iff_eq.mpr c13
           clear c13
           have H' := Aside0.mk H
           clear H
           have p174 : 0 ≤ (x15_1 : Int) := of_decide_eq_true (by first | (with_reducible assumption) | assumption)
           have q174 : x15_1 < (l0_0.length : Int) := of_decide_eq_true (by first | (with_reducible assumption) | assumption)
           obtain ⟨ad174, e174, hx174_0, hx174_1, hx174_2, hx174_3, hx174_4⟩ := at_T105 (Kd.C_below HR0_0.out HB.out) x15_1 p174 q174
           cases e174
           replace p174 := eq_true p174
           replace q174 := eq_true q174
           go_wp2_with (first | ((with_reducible refine gate_dst (N := 4) rfl ?_); refine box_event ?hg (N := 4) ?hd (cs := #[.int .i64 0, .int .i64 0, .int .i64 0, .int .i64 0, .int .i64 0]) (t := 105) ?hr ?_; (case hd => rfl); (case hg => rfl); (case hr => first | (go_simp; done) | (go_simp; rfl)); intro gb175 hg w14 hbox hb; have BK175 := Aside0.mk (hbox); have GW175 := gs_ hg; have GE175 := gs_ hg; replace HB := hbs_ hb; have NB172_175 := Aside0.mk ((by rw [hg]; exact Nat.ne_of_lt (blk_lt (g := gb172) (o := .cells #[.slice (some ad174) l0_0.length c0_0] 39 (0, 0)) (bk_ BK172)) : gb172 ≠ gb175)); have NB175_172 := Aside0.mk ((by rw [hg]; exact Nat.ne_of_gt (blk_lt (g := gb172) (o := .cells #[.slice (some ad174) l0_0.length c0_0] 39 (0, 0)) (bk_ BK172)) : gb175 ≠ gb172)); replace BK172 := bkb_ BK172 hb; clear hb hbox hg; have hnb15 := NB175_172.out; have hnc15 := NB172_175.out; have hcz16 := blk_cell BK175.out; have hfz16 := blk_frozen BK175.out) | ((with_reducible refine gate_dst (N := 5) rfl ?_); refine box_event ?hg (N := 5) ?hd (cs := #[.int .i64 0, .int .i64 0]) (t := 27) ?hr ?_; (case hd => rfl); (case hg => rfl); (case hr => first | (go_simp; done) | (go_simp; rfl)); intro gb176 hg w17 hbox hb; have BK176 := Aside0.mk (hbox); have GW176 := gs_ hg; have GE176 := gs_ hg; replace HB := hbs_ hb; have NB172_176 := Aside0.mk ((by rw [hg]; exact Nat.ne_of_lt (blk_lt (g := gb172) (o := .cells #[.slice (some ad174) l0_0.length c0_0] 39 (0, 0)) (bk_ BK172)) : gb172 ≠ gb176)); have NB176_172 := Aside0.mk ((by rw [hg]; exact Nat.ne_of_gt (blk_lt (g := gb172) (o := .cells #[.slice (some ad174) l0_0.length c0_0] 39 (0, 0)) (bk_ BK172)) : gb176 ≠ gb172)); replace BK172 := Aside0.mk (blk_below (g := gb172) (o := .cells #[.slice (some ad174) l0_0.length c0_0] 39 (0, 0)) (bk_ BK172) hb); have NB175_176 := Aside0.mk ((by rw [hg]; exact Nat.ne_of_lt (blk_lt (g := gb175) (o := .cells #[.int .i64 ((rd_T105 l0_0 x15_1).f0), .int .i64 ((rd_T105 l0_0 x15_1).f1.f0), .int .i64 ((rd_T105 l0_0 x15_1).f1.f1), .int .i64 ((rd_T105 l0_0 x15_1).f2), .int .i64 ((rd_T105 l0_0 x15_1).f3)] 105 (0, 0)) (bk_ BK175)) : gb175 ≠ gb176)); have NB176_175 := Aside0.mk ((by rw [hg]; exact Nat.ne_of_gt (blk_lt (g := gb175) (o := .cells #[.int .i64 ((rd_T105 l0_0 x15_1).f0), .int .i64 ((rd_T105 l0_0 x15_1).f1.f0), .int .i64 ((rd_T105 l0_0 x15_1).f1.f1), .int .i64 ((rd_T105 l0_0 x15_1).f2), .int .i64 ((rd_T105 l0_0 x15_1).f3)] 105 (0, 0)) (bk_ BK175)) : gb176 ≠ gb175)); replace BK175 := Aside0.mk (blk_below (g := gb175) (o := .cells #[.int .i64 ((rd_T105 l0_0 x15_1).f0), .int .i64 ((rd_T105 l0_0 x15_1).f1.f0), .int .i64 ((rd_T105 l0_0 x15_1).f1.f1), .int .i64 ((rd_T105 l0_0 x15_1).f2), .int .i64 ((rd_T105 l0_0 x15_1).f3)] 105 (0, 0)) (bk_ BK175) hb); clear hb hbox hg; have hnb18 := NB176_172.out; have hnc18 := NB172_176.out; have hnb19 := NB176_175.out; have hnc19 := NB175_176.out; have hcz20 := blk_cell BK176.out; have hfz20 := blk_frozen BK176.out; have hcz21 := blk_cell BK175.out; have hfz21 := blk_frozen BK175.out) | ((with_reducible refine gate_callee (f := 80) rfl ?_); refine goesC_ (some 27) Try.func80 #[.agg #[.int .i64 ((rd_T105 l0_0 x15_1).f1.f0), .int .i64 ((rd_T105 l0_0 x15_1).f1.f1)]] ?_; (with_reducible refine (impl_RoleOk.calls ((rd_T105 l0_0 x15_1).f1.f0) ((rd_T105 l0_0 x15_1).f1.f1) true _ A10.out).mono ?_); rintro e w22 ⟨rfl, hb⟩; refine ⟨_, rfl, ?_⟩; replace BK172 := Aside0.mk (blk_below (g := gb172) (o := .cells #[.slice (some ad174) l0_0.length c0_0] 39 (0, 0)) (bk_ BK172) hb); replace BK175 := Aside0.mk (blk_below (g := gb175) (o := .cells #[.int .i64 ((rd_T105 l0_0 x15_1).f0), .int .i64 ((rd_T105 l0_0 x15_1).f1.f0), .int .i64 ((rd_T105 l0_0 x15_1).f1.f1), .int .i64 ((rd_T105 l0_0 x15_1).f2), .int .i64 ((rd_T105 l0_0 x15_1).f3)] 105 (0, 0)) (bk_ BK175) hb); replace BK176 := Aside0.mk (blk_below (g := gb176) (o := .cells #[.int .i64 0, .int .i64 0] 27 (0, 0)) (bk_ BK176) hb); replace HB := hbs_ hb; clear hb; have hcz23 := blk_cell BK175.out; have hfz23 := blk_frozen BK175.out))
           go_roundg k1
           case measure => have := HK1.out; omega
           case rel => exact ⟨(wrap64 (x15_1 + 1)), (by first | rfl | (simp; done) | (simp [*]; done)), H', ⟨by have := HK1.out; omega⟩, ⟨bk_ BK172⟩, ⟨bl_⟩⟩
          ·rw [if_neg c13] at H
           have c13b0 : (((rd_T105 l0_0 x15_1).f3) == 0) = false := beq_eq_false_iff_ne.mpr c13
           have c13b1 : (((rd_T105 l0_0 x15_1).f3) != 0) = true := bne_iff_ne.mpr c13
           obtain rfl := Option.some.inj H
           have p174 : 0 ≤ (x15_1 : Int) := of_decide_eq_true (by first | (with_reducible assumption) | assumption)
           have q174 : x15_1 < (l0_0.length : Int) := of_decide_eq_true (by first | (with_reducible assumption) | assumption)
           obtain ⟨ad174, e174, hx174_0, hx174_1, hx174_2, hx174_3, hx174_4⟩ := at_T105 (Kd.C_below HR0_0.out HB.out) x15_1 p174 q174
           cases e174
           replace p174 := eq_true p174
           replace q174 := eq_true q174
           go_wp2_with (first | ((with_reducible refine gate_dst (N := 4) rfl ?_); refine box_event ?hg (N := 4) ?hd (cs := #[.int .i64 0, .int .i64 0, .int .i64 0, .int .i64 0, .int .i64 0]) (t := 105) ?hr ?_; (case hd => rfl); (case hg => rfl); (case hr => first | (go_simp; done) | (go_simp; rfl)); intro gb175 hg w24 hbox hb; have BK175 := Aside0.mk (hbox); have GW175 := gs_ hg; have GE175 := gs_ hg; replace HB := hbs_ hb; have NB172_175 := Aside0.mk ((by rw [hg]; exact Nat.ne_of_lt (blk_lt (g := gb172) (o := .cells #[.slice (some ad174) l0_0.length c0_0] 39 (0, 0)) (bk_ BK172)) : gb172 ≠ gb175)); have NB175_172 := Aside0.mk ((by rw [hg]; exact Nat.ne_of_gt (blk_lt (g := gb172) (o := .cells #[.slice (some ad174) l0_0.length c0_0] 39 (0, 0)) (bk_ BK172)) : gb175 ≠ gb172)); replace BK172 := bkb_ BK172 hb; clear hb hbox hg; have hnb25 := NB175_172.out; have hnc25 := NB172_175.out; have hcz26 := blk_cell BK175.out; have hfz26 := blk_frozen BK175.out) | ((with_reducible refine gate_dst (N := 5) rfl ?_); refine box_event ?hg (N := 5) ?hd (cs := #[.int .i64 0, .int .i64 0]) (t := 27) ?hr ?_; (case hd => rfl); (case hg => rfl); (case hr => first | (go_simp; done) | (go_simp; rfl)); intro gb176 hg w27 hbox hb; have BK176 := Aside0.mk (hbox); have GW176 := gs_ hg; have GE176 := gs_ hg; replace HB := hbs_ hb; have NB172_176 := Aside0.mk ((by rw [hg]; exact Nat.ne_of_lt (blk_lt (g := gb172) (o := .cells #[.slice (some ad174) l0_0.length c0_0] 39 (0, 0)) (bk_ BK172)) : gb172 ≠ gb176)); have NB176_172 := Aside0.mk ((by rw [hg]; exact Nat.ne_of_gt (blk_lt (g := gb172) (o := .cells #[.slice (some ad174) l0_0.length c0_0] 39 (0, 0)) (bk_ BK172)) : gb176 ≠ gb172)); replace BK172 := Aside0.mk (blk_below (g := gb172) (o := .cells #[.slice (some ad174) l0_0.length c0_0] 39 (0, 0)) (bk_ BK172) hb); have NB175_176 := Aside0.mk ((by rw [hg]; exact Nat.ne_of_lt (blk_lt (g := gb175) (o := .cells #[.int .i64 ((rd_T105 l0_0 x15_1).f0), .int .i64 ((rd_T105 l0_0 x15_1).f1.f0), .int .i64 ((rd_T105 l0_0 x15_1).f1.f1), .int .i64 ((rd_T105 l0_0 x15_1).f2), .int .i64 ((rd_T105 l0_0 x15_1).f3)] 105 (0, 0)) (bk_ BK175)) : gb175 ≠ gb176)); have NB176_175 := Aside0.mk ((by rw [hg]; exact Nat.ne_of_gt (blk_lt (g := gb175) (o := .cells #[.int .i64 ((rd_T105 l0_0 x15_1).f0), .int .i64 ((rd_T105 l0_0 x15_1).f1.f0), .int .i64 ((rd_T105 l0_0 x15_1).f1.f1), .int .i64 ((rd_T105 l0_0 x15_1).f2), .int .i64 ((rd_T105 l0_0 x15_1).f3)] 105 (0, 0)) (bk_ BK175)) : gb176 ≠ gb175)); replace BK175 := Aside0.mk (blk_below (g := gb175) (o := .cells #[.int .i64 ((rd_T105 l0_0 x15_1).f0), .int .i64 ((rd_T105 l0_0 x15_1).f1.f0), .int .i64 ((rd_T105 l0_0 x15_1).f1.f1), .int .i64 ((rd_T105 l0_0 x15_1).f2), .int .i64 ((rd_T105 l0_0 x15_1).f3)] 105 (0, 0)) (bk_ BK175) hb); clear hb hbox hg; have hnb28 := NB176_172.out; have hnc28 := NB172_176.out; have hnb29 := NB176_175.out; have hnc29 := NB175_176.out; have hcz30 := blk_cell BK176.out; have hfz30 := blk_frozen BK176.out; have hcz31 := blk_cell BK175.out; have hfz31 := blk_frozen BK175.out) | ((with_reducible refine gate_callee (f := 80) rfl ?_); refine goesC_ (some 27) Try.func80 #[.agg #[.int .i64 ((rd_T105 l0_0 x15_1).f1.f0), .int .i64 ((rd_T105 l0_0 x15_1).f1.f1)]] ?_; (with_reducible refine (impl_RoleOk.calls ((rd_T105 l0_0 x15_1).f1.f0) ((rd_T105 l0_0 x15_1).f1.f1) true _ A10.out).mono ?_); rintro e w32 ⟨rfl, hb⟩; refine ⟨_, rfl, ?_⟩; replace BK172 := Aside0.mk (blk_below (g := gb172) (o := .cells #[.slice (some ad174) l0_0.length c0_0] 39 (0, 0)) (bk_ BK172) hb); replace BK175 := Aside0.mk (blk_below (g := gb175) (o := .cells #[.int .i64 ((rd_T105 l0_0 x15_1).f0), .int .i64 ((rd_T105 l0_0 x15_1).f1.f0), .int .i64 ((rd_T105 l0_0 x15_1).f1.f1), .int .i64 ((rd_T105 l0_0 x15_1).f2), .int .i64 ((rd_T105 l0_0 x15_1).f3)] 105 (0, 0)) (bk_ BK175) hb); replace BK176 := Aside0.mk (blk_below (g := gb176) (o := .cells #[.int .i64 0, .int .i64 0] 27 (0, 0)) (bk_ BK176) hb); replace HB := hbs_ hb; clear hb; have hcz33 := blk_cell BK175.out; have hfz33 := blk_frozen BK175.out))
           go_ret
           exact ⟨eq_, bl_⟩
         ·rw [if_neg c12] at H
          have c12b0 : (((rd_T105 l0_0 x15_1).f2) == 0) = false := beq_eq_false_iff_ne.mpr c12
          have c12b1 : (((rd_T105 l0_0 x15_1).f2) != 0) = true := bne_iff_ne.mpr c12
          obtain rfl := Option.some.inj H
          have p174 : 0 ≤ (x15_1 : Int) := of_decide_eq_true (by first | (with_reducible assumption) | assumption)
          have q174 : x15_1 < (l0_0.length : Int) := of_decide_eq_true (by first | (with_reducible assumption) | assumption)
          obtain ⟨ad174, e174, hx174_0, hx174_1, hx174_2, hx174_3, hx174_4⟩ := at_T105 (Kd.C_below HR0_0.out HB.out) x15_1 p174 q174
          cases e174
          replace p174 := eq_true p174
          replace q174 := eq_true q174
          go_wp2_with (first | ((with_reducible refine gate_dst (N := 4) rfl ?_); refine box_event ?hg (N := 4) ?hd (cs := #[.int .i64 0, .int .i64 0, .int .i64 0, .int .i64 0, .int .i64 0]) (t := 105) ?hr ?_; (case hd => rfl); (case hg => rfl); (case hr => first | (go_simp; done) | (go_simp; rfl)); intro gb175 hg w34 hbox hb; have BK175 := Aside0.mk (hbox); have GW175 := gs_ hg; have GE175 := gs_ hg; replace HB := hbs_ hb; have NB172_175 := Aside0.mk ((by rw [hg]; exact Nat.ne_of_lt (blk_lt (g := gb172) (o := .cells #[.slice (some ad174) l0_0.length c0_0] 39 (0, 0)) (bk_ BK172)) : gb172 ≠ gb175)); have NB175_172 := Aside0.mk ((by rw [hg]; exact Nat.ne_of_gt (blk_lt (g := gb172) (o := .cells #[.slice (some ad174) l0_0.length c0_0] 39 (0, 0)) (bk_ BK172)) : gb175 ≠ gb172)); replace BK172 := bkb_ BK172 hb; clear hb hbox hg; have hnb35 := NB175_172.out; have hnc35 := NB172_175.out; have hcz36 := blk_cell BK175.out; have hfz36 := blk_frozen BK175.out) | ((with_reducible refine gate_dst (N := 5) rfl ?_); refine box_event ?hg (N := 5) ?hd (cs := #[.int .i64 0, .int .i64 0]) (t := 27) ?hr ?_; (case hd => rfl); (case hg => rfl); (case hr => first | (go_simp; done) | (go_simp; rfl)); intro gb176 hg w37 hbox hb; have BK176 := Aside0.mk (hbox); have GW176 := gs_ hg; have GE176 := gs_ hg; replace HB := hbs_ hb; have NB172_176 := Aside0.mk ((by rw [hg]; exact Nat.ne_of_lt (blk_lt (g := gb172) (o := .cells #[.slice (some ad174) l0_0.length c0_0] 39 (0, 0)) (bk_ BK172)) : gb172 ≠ gb176)); have NB176_172 := Aside0.mk ((by rw [hg]; exact Nat.ne_of_gt (blk_lt (g := gb172) (o := .cells #[.slice (some ad174) l0_0.length c0_0] 39 (0, 0)) (bk_ BK172)) : gb176 ≠ gb172)); replace BK172 := Aside0.mk (blk_below (g := gb172) (o := .cells #[.slice (some ad174) l0_0.length c0_0] 39 (0, 0)) (bk_ BK172) hb); have NB175_176 := Aside0.mk ((by rw [hg]; exact Nat.ne_of_lt (blk_lt (g := gb175) (o := .cells #[.int .i64 ((rd_T105 l0_0 x15_1).f0), .int .i64 ((rd_T105 l0_0 x15_1).f1.f0), .int .i64 ((rd_T105 l0_0 x15_1).f1.f1), .int .i64 ((rd_T105 l0_0 x15_1).f2), .int .i64 ((rd_T105 l0_0 x15_1).f3)] 105 (0, 0)) (bk_ BK175)) : gb175 ≠ gb176)); have NB176_175 := Aside0.mk ((by rw [hg]; exact Nat.ne_of_gt (blk_lt (g := gb175) (o := .cells #[.int .i64 ((rd_T105 l0_0 x15_1).f0), .int .i64 ((rd_T105 l0_0 x15_1).f1.f0), .int .i64 ((rd_T105 l0_0 x15_1).f1.f1), .int .i64 ((rd_T105 l0_0 x15_1).f2), .int .i64 ((rd_T105 l0_0 x15_1).f3)] 105 (0, 0)) (bk_ BK175)) : gb176 ≠ gb175)); replace BK175 := Aside0.mk (blk_below (g := gb175) (o := .cells #[.int .i64 ((rd_T105 l0_0 x15_1).f0), .int .i64 ((rd_T105 l0_0 x15_1).f1.f0), .int .i64 ((rd_T105 l0_0 x15_1).f1.f1), .int .i64 ((rd_T105 l0_0 x15_1).f2), .int .i64 ((rd_T105 l0_0 x15_1).f3)] 105 (0, 0)) (bk_ BK175) hb); clear hb hbox hg; have hnb38 := NB176_172.out; have hnc38 := NB172_176.out; have hnb39 := NB176_175.out; have hnc39 := NB175_176.out; have hcz40 := blk_cell BK176.out; have hfz40 := blk_frozen BK176.out; have hcz41 := blk_cell BK175.out; have hfz41 := blk_frozen BK175.out) | ((with_reducible refine gate_callee (f := 80) rfl ?_); refine goesC_ (some 27) Try.func80 #[.agg #[.int .i64 ((rd_T105 l0_0 x15_1).f1.f0), .int .i64 ((rd_T105 l0_0 x15_1).f1.f1)]] ?_; (with_reducible refine (impl_RoleOk.calls ((rd_T105 l0_0 x15_1).f1.f0) ((rd_T105 l0_0 x15_1).f1.f1) true _ A10.out).mono ?_); rintro e w42 ⟨rfl, hb⟩; refine ⟨_, rfl, ?_⟩; replace BK172 := Aside0.mk (blk_below (g := gb172) (o := .cells #[.slice (some ad174) l0_0.length c0_0] 39 (0, 0)) (bk_ BK172) hb); replace BK175 := Aside0.mk (blk_below (g := gb175) (o := .cells #[.int .i64 ((rd_T105 l0_0 x15_1).f0), .int .i64 ((rd_T105 l0_0 x15_1).f1.f0), .int .i64 ((rd_T105 l0_0 x15_1).f1.f1), .int .i64 ((rd_T105 l0_0 x15_1).f2), .int .i64 ((rd_T105 l0_0 x15_1).f3)] 105 (0, 0)) (bk_ BK175) hb); replace BK176 := Aside0.mk (blk_below (g := gb176) (o := .cells #[.int .i64 0, .int .i64 0] 27 (0, 0)) (bk_ BK176) hb); replace HB := hbs_ hb; clear hb; have hcz43 := blk_cell BK175.out; have hfz43 := blk_frozen BK175.out))
          go_ret
          exact ⟨eq_, bl_⟩
        ·replace c11 := Bool.eq_false_iff.mpr c11
         subst c11
         replace H := ite_f_ H
         obtain rfl := Option.some.inj H
         have p174 : 0 ≤ (x15_1 : Int) := of_decide_eq_true (by first | (with_reducible assumption) | assumption)
         have q174 : x15_1 < (l0_0.length : Int) := of_decide_eq_true (by first | (with_reducible assumption) | assumption)
         obtain ⟨ad174, e174, hx174_0, hx174_1, hx174_2, hx174_3, hx174_4⟩ := at_T105 (Kd.C_below HR0_0.out HB.out) x15_1 p174 q174
         cases e174
         replace p174 := eq_true p174
         replace q174 := eq_true q174
         go_wp2_with (first | ((with_reducible refine gate_dst (N := 4) rfl ?_); refine box_event ?hg (N := 4) ?hd (cs := #[.int .i64 0, .int .i64 0, .int .i64 0, .int .i64 0, .int .i64 0]) (t := 105) ?hr ?_; (case hd => rfl); (case hg => rfl); (case hr => first | (go_simp; done) | (go_simp; rfl)); intro gb175 hg w44 hbox hb; have BK175 := Aside0.mk (hbox); have GW175 := gs_ hg; have GE175 := gs_ hg; replace HB := hbs_ hb; have NB172_175 := Aside0.mk ((by rw [hg]; exact Nat.ne_of_lt (blk_lt (g := gb172) (o := .cells #[.slice (some ad174) l0_0.length c0_0] 39 (0, 0)) (bk_ BK172)) : gb172 ≠ gb175)); have NB175_172 := Aside0.mk ((by rw [hg]; exact Nat.ne_of_gt (blk_lt (g := gb172) (o := .cells #[.slice (some ad174) l0_0.length c0_0] 39 (0, 0)) (bk_ BK172)) : gb175 ≠ gb172)); replace BK172 := bkb_ BK172 hb; clear hb hbox hg; have hnb45 := NB175_172.out; have hnc45 := NB172_175.out; have hcz46 := blk_cell BK175.out; have hfz46 := blk_frozen BK175.out) | ((with_reducible refine gate_dst (N := 5) rfl ?_); refine box_event ?hg (N := 5) ?hd (cs := #[.int .i64 0, .int .i64 0]) (t := 27) ?hr ?_; (case hd => rfl); (case hg => rfl); (case hr => first | (go_simp; done) | (go_simp; rfl)); intro gb176 hg w47 hbox hb; have BK176 := Aside0.mk (hbox); have GW176 := gs_ hg; have GE176 := gs_ hg; replace HB := hbs_ hb; have NB172_176 := Aside0.mk ((by rw [hg]; exact Nat.ne_of_lt (blk_lt (g := gb172) (o := .cells #[.slice (some ad174) l0_0.length c0_0] 39 (0, 0)) (bk_ BK172)) : gb172 ≠ gb176)); have NB176_172 := Aside0.mk ((by rw [hg]; exact Nat.ne_of_gt (blk_lt (g := gb172) (o := .cells #[.slice (some ad174) l0_0.length c0_0] 39 (0, 0)) (bk_ BK172)) : gb176 ≠ gb172)); replace BK172 := Aside0.mk (blk_below (g := gb172) (o := .cells #[.slice (some ad174) l0_0.length c0_0] 39 (0, 0)) (bk_ BK172) hb); have NB175_176 := Aside0.mk ((by rw [hg]; exact Nat.ne_of_lt (blk_lt (g := gb175) (o := .cells #[.int .i64 ((rd_T105 l0_0 x15_1).f0), .int .i64 ((rd_T105 l0_0 x15_1).f1.f0), .int .i64 ((rd_T105 l0_0 x15_1).f1.f1), .int .i64 ((rd_T105 l0_0 x15_1).f2), .int .i64 ((rd_T105 l0_0 x15_1).f3)] 105 (0, 0)) (bk_ BK175)) : gb175 ≠ gb176)); have NB176_175 := Aside0.mk ((by rw [hg]; exact Nat.ne_of_gt (blk_lt (g := gb175) (o := .cells #[.int .i64 ((rd_T105 l0_0 x15_1).f0), .int .i64 ((rd_T105 l0_0 x15_1).f1.f0), .int .i64 ((rd_T105 l0_0 x15_1).f1.f1), .int .i64 ((rd_T105 l0_0 x15_1).f2), .int .i64 ((rd_T105 l0_0 x15_1).f3)] 105 (0, 0)) (bk_ BK175)) : gb176 ≠ gb175)); replace BK175 := Aside0.mk (blk_below (g := gb175) (o := .cells #[.int .i64 ((rd_T105 l0_0 x15_1).f0), .int .i64 ((rd_T105 l0_0 x15_1).f1.f0), .int .i64 ((rd_T105 l0_0 x15_1).f1.f1), .int .i64 ((rd_T105 l0_0 x15_1).f2), .int .i64 ((rd_T105 l0_0 x15_1).f3)] 105 (0, 0)) (bk_ BK175) hb); clear hb hbox hg; have hnb48 := NB176_172.out; have hnc48 := NB172_176.out; have hnb49 := NB176_175.out; have hnc49 := NB175_176.out; have hcz50 := blk_cell BK176.out; have hfz50 := blk_frozen BK176.out; have hcz51 := blk_cell BK175.out; have hfz51 := blk_frozen BK175.out) | ((with_reducible refine gate_callee (f := 80) rfl ?_); refine goesC_ (some 27) Try.func80 #[.agg #[.int .i64 ((rd_T105 l0_0 x15_1).f1.f0), .int .i64 ((rd_T105 l0_0 x15_1).f1.f1)]] ?_; (with_reducible refine (impl_RoleOk.calls ((rd_T105 l0_0 x15_1).f1.f0) ((rd_T105 l0_0 x15_1).f1.f1) false _ A10.out).mono ?_); rintro e w52 ⟨rfl, hb⟩; refine ⟨_, rfl, ?_⟩; replace BK172 := Aside0.mk (blk_below (g := gb172) (o := .cells #[.slice (some ad174) l0_0.length c0_0] 39 (0, 0)) (bk_ BK172) hb); replace BK175 := Aside0.mk (blk_below (g := gb175) (o := .cells #[.int .i64 ((rd_T105 l0_0 x15_1).f0), .int .i64 ((rd_T105 l0_0 x15_1).f1.f0), .int .i64 ((rd_T105 l0_0 x15_1).f1.f1), .int .i64 ((rd_T105 l0_0 x15_1).f2), .int .i64 ((rd_T105 l0_0 x15_1).f3)] 105 (0, 0)) (bk_ BK175) hb); replace BK176 := Aside0.mk (blk_below (g := gb176) (o := .cells #[.int .i64 0, .int .i64 0] 27 (0, 0)) (bk_ BK176) hb); replace HB := hbs_ hb; clear hb))
         go_ret
         exact ⟨eq_, bl_⟩
       ·rw [if_neg c9] at H
        have c9b0 : (((rd_T105 l0_0 x15_1).f0) == 1) = false := beq_eq_false_iff_ne.mpr c9
        have c9b1 : (((rd_T105 l0_0 x15_1).f0) != 1) = true := bne_iff_ne.mpr c9
        have HC53 := Aside0.mk H
        clear H
        have p174 : 0 ≤ (x15_1 : Int) := of_decide_eq_true (by first | (with_reducible assumption) | assumption)
        have q174 : x15_1 < (l0_0.length : Int) := of_decide_eq_true (by first | (with_reducible assumption) | assumption)
        obtain ⟨ad174, e174, hx174_0, hx174_1, hx174_2, hx174_3, hx174_4⟩ := at_T105 (Kd.C_below HR0_0.out HB.out) x15_1 p174 q174
        cases e174
        replace p174 := eq_true p174
        replace q174 := eq_true q174
        go_upto_if 38 with (first | ((with_reducible refine gate_dst (N := 4) rfl ?_); refine box_event ?hg (N := 4) ?hd (cs := #[.int .i64 0, .int .i64 0, .int .i64 0, .int .i64 0, .int .i64 0]) (t := 105) ?hr ?_; (case hd => rfl); (case hg => rfl); (case hr => first | (go_simp; done) | (go_simp; rfl)); intro gb175 hg w54 hbox hb; have BK175 := Aside0.mk (hbox); have GW175 := gs_ hg; have GE175 := gs_ hg; replace HB := hbs_ hb; have NB172_175 := Aside0.mk ((by rw [hg]; exact Nat.ne_of_lt (blk_lt (g := gb172) (o := .cells #[.slice (some ad174) l0_0.length c0_0] 39 (0, 0)) (bk_ BK172)) : gb172 ≠ gb175)); have NB175_172 := Aside0.mk ((by rw [hg]; exact Nat.ne_of_gt (blk_lt (g := gb172) (o := .cells #[.slice (some ad174) l0_0.length c0_0] 39 (0, 0)) (bk_ BK172)) : gb175 ≠ gb172)); replace BK172 := bkb_ BK172 hb; clear hb hbox hg; have hnb55 := NB175_172.out; have hnc55 := NB172_175.out; have hcz56 := blk_cell BK175.out; have hfz56 := blk_frozen BK175.out) | ((with_reducible refine gate_dst (N := 5) rfl ?_); refine box_event ?hg (N := 5) ?hd (cs := #[.int .i64 0, .int .i64 0]) (t := 27) ?hr ?_; (case hd => rfl); (case hg => rfl); (case hr => first | (go_simp; done) | (go_simp; rfl)); intro gb176 hg w57 hbox hb; have BK176 := Aside0.mk (hbox); have GW176 := gs_ hg; have GE176 := gs_ hg; replace HB := hbs_ hb; have NB172_176 := Aside0.mk ((by rw [hg]; exact Nat.ne_of_lt (blk_lt (g := gb172) (o := .cells #[.slice (some ad174) l0_0.length c0_0] 39 (0, 0)) (bk_ BK172)) : gb172 ≠ gb176)); have NB176_172 := Aside0.mk ((by rw [hg]; exact Nat.ne_of_gt (blk_lt (g := gb172) (o := .cells #[.slice (some ad174) l0_0.length c0_0] 39 (0, 0)) (bk_ BK172)) : gb176 ≠ gb172)); replace BK172 := Aside0.mk (blk_below (g := gb172) (o := .cells #[.slice (some ad174) l0_0.length c0_0] 39 (0, 0)) (bk_ BK172) hb); have NB175_176 := Aside0.mk ((by rw [hg]; exact Nat.ne_of_lt (blk_lt (g := gb175) (o := .cells #[.int .i64 ((rd_T105 l0_0 x15_1).f0), .int .i64 ((rd_T105 l0_0 x15_1).f1.f0), .int .i64 ((rd_T105 l0_0 x15_1).f1.f1), .int .i64 ((rd_T105 l0_0 x15_1).f2), .int .i64 ((rd_T105 l0_0 x15_1).f3)] 105 (0, 0)) (bk_ BK175)) : gb175 ≠ gb176)); have NB176_175 := Aside0.mk ((by rw [hg]; exact Nat.ne_of_gt (blk_lt (g := gb175) (o := .cells #[.int .i64 ((rd_T105 l0_0 x15_1).f0), .int .i64 ((rd_T105 l0_0 x15_1).f1.f0), .int .i64 ((rd_T105 l0_0 x15_1).f1.f1), .int .i64 ((rd_T105 l0_0 x15_1).f2), .int .i64 ((rd_T105 l0_0 x15_1).f3)] 105 (0, 0)) (bk_ BK175)) : gb176 ≠ gb175)); replace BK175 := Aside0.mk (blk_below (g := gb175) (o := .cells #[.int .i64 ((rd_T105 l0_0 x15_1).f0), .int .i64 ((rd_T105 l0_0 x15_1).f1.f0), .int .i64 ((rd_T105 l0_0 x15_1).f1.f1), .int .i64 ((rd_T105 l0_0 x15_1).f2), .int .i64 ((rd_T105 l0_0 x15_1).f3)] 105 (0, 0)) (bk_ BK175) hb); clear hb hbox hg; have hnb58 := NB176_172.out; have hnc58 := NB172_176.out; have hnb59 := NB176_175.out; have hnc59 := NB175_176.out; have hcz60 := blk_cell BK176.out; have hfz60 := blk_frozen BK176.out; have hcz61 := blk_cell BK175.out; have hfz61 := blk_frozen BK175.out))
        (try simp only [Act.put, List.setIfInBounds_toArray, List.set_cons_zero, List.set_cons_succ])
        go_cut [38] (fun v38 wc => ∃ (kq : Nat) (x38_52 : Bool), v38 = .bool x38_52 ∧ Aside0 (impl_PolicyOk.j1 kq x15_1 false l0_0 (l0_0.length : Int) x15_1 ((rd_T105 l0_0 x15_1).f0) x38_52 ((rd_T105 l0_0 x15_1).f0) ((rd_T105 l0_0 x15_1).f1.f0) ((rd_T105 l0_0 x15_1).f1.f1) ((rd_T105 l0_0 x15_1).f2) ((rd_T105 l0_0 x15_1).f3) 0 0 = some r) ∧ Aside0 (kq ≤ k1) ∧ Aside0 (wc.heap[gb172]? = some (.cells #[(.slice (some ad174) l0_0.length c0_0)] 39 (0, 0))) ∧ Aside0 (wc.heap[gb175]? = some (.cells #[.int .i64 ((rd_T105 l0_0 x15_1).f0), .int .i64 ((rd_T105 l0_0 x15_1).f1.f0), .int .i64 ((rd_T105 l0_0 x15_1).f1.f1), .int .i64 ((rd_T105 l0_0 x15_1).f2), .int .i64 ((rd_T105 l0_0 x15_1).f3)] 105 (0, 0))) ∧ Aside0 (wc.heap[gb176]? = some (.cells #[.int .i64 0, .int .i64 0] 27 (0, 0))) ∧ Aside0 (Below w.heap.size w wc))
        case first =>
         have H := HC53.out
         clear HC53
         by_cases c62 : ((rd_T105 l0_0 x15_1).f0) = 2
         ·rw [if_pos c62] at H
          have c62b0 : (((rd_T105 l0_0 x15_1).f0) == 2) = true := beq_iff_eq.mpr c62
          have c62b1 : (((rd_T105 l0_0 x15_1).f0) != 2) = false := bne_eq_false_iff_eq.mpr c62
          clear c62
          (first | rw [c62b0] | (simp only [i64_w, i32_w]; rw [c62b0]) | skip)
          have H' := Aside0.mk H
          clear H
          go_wp2
          go_meet
          case rel => exact ⟨_, ((((rd_T105 l0_0 x15_1).f0) == 2)), (by first | rfl | (simp; done) | (simp [*]; done)), H', ⟨by have := HK1.out; first | omega | exact Nat.le_refl _⟩, ⟨bk_ BK172⟩, ⟨bk_ BK175⟩, ⟨bk_ BK176⟩, ⟨bl_⟩⟩
         ·rw [if_neg c62] at H
          have c62b0 : (((rd_T105 l0_0 x15_1).f0) == 2) = false := beq_eq_false_iff_ne.mpr c62
          have c62b1 : (((rd_T105 l0_0 x15_1).f0) != 2) = true := bne_iff_ne.mpr c62
          (first | rw [c62b0] | (simp only [i64_w, i32_w]; rw [c62b0]) | skip)
          have H' := Aside0.mk H
          clear H
          go_wp2
          go_meet
          case rel => exact ⟨_, ((((rd_T105 l0_0 x15_1).f0) == 3)), (by first | rfl | (simp; done) | (simp [*]; done)), H', ⟨by have := HK1.out; first | omega | exact Nat.le_refl _⟩, ⟨bk_ BK172⟩, ⟨bk_ BK175⟩, ⟨bk_ BK176⟩, ⟨bl_⟩⟩
        case rest =>
         clear HC53
         try clear c1
         try clear p1
         try clear q1
         try clear hx1
         try clear c2
         try clear p2
         try clear c3
         try clear c4
         try clear c5
         try clear c6
         try clear c6b0
         try clear p6
         try clear c7
         try clear c7b0
         try clear c8
         try clear c8b0
         try clear c9
         try clear c9b0
         try clear c9b1
         try clear c11
         try clear c12
         try clear c12b0
         try clear c12b1
         try clear c13
         try clear c13b0
         try clear c13b1
         try clear c15
         try clear p17
         try clear q17
         try clear hx17
         try clear c18
         try clear c19
         try clear c21
         try clear c25
         try clear c28
         try clear c29
         try clear c35
         try clear c38
         try clear c39
         try clear c45
         try clear c48
         try clear c49
         try clear c55
         try clear c58
         try clear c59
         try clear c62
         try clear c62b0
         try clear c62b1
         try clear hcz16
         try clear hcz20
         try clear hcz21
         try clear hcz23
         try clear hcz26
         try clear hcz30
         try clear hcz31
         try clear hcz33
         try clear hcz36
         try clear hcz40
         try clear hcz41
         try clear hcz43
         try clear hcz46
         try clear hcz50
         try clear hcz51
         try clear hcz56
         try clear hcz5
         try clear hcz60
         try clear hcz61
         try clear hfz16
         try clear hfz20
         try clear hfz21
         try clear hfz23
         try clear hfz26
         try clear hfz30
         try clear hfz31
         try clear hfz33
         try clear hfz36
         try clear hfz40
         try clear hfz41
         try clear hfz43
         try clear hfz46
         try clear hfz50
         try clear hfz51
         try clear hfz56
         try clear hfz5
         try clear hfz60
         try clear hfz61
         try clear hx174_0
         try clear hx174_1
         try clear hx174_2
         try clear hx174_3
         try clear hx174_4
         try clear p174
         try clear p2
         try clear q174
         obtain ⟨kq, x38_52, rfl, HA, HJ52, BK172, BK175, BK176, HB⟩ := hcut
         cases kq with
         | zero => exact absurd HA.out (by simp [impl_PolicyOk.j1])
         | succ kj52 =>
          have H := HA.out
          clear HA
          simp only [impl_PolicyOk.j1] at H
          by_cases c63 : x38_52 = true
          ·subst c63
           replace H := ite_t_ H
           by_cases c64 : (((rd_T105 l0_0 x15_1).f1.f0) == 0 && (((rd_T105 l0_0 x15_1).f1.f1) == 0)) = true
           ·rw [if_pos c64] at H
            have c64b0 : (((rd_T105 l0_0 x15_1).f1.f0) == 0 && (((rd_T105 l0_0 x15_1).f1.f1) == 0)) = true := c64
            (try (have c64b1 : decide (((rd_T105 l0_0 x15_1).f1.f0) = 0 && (((rd_T105 l0_0 x15_1).f1.f1) == 0)) = true := by simpa using c64))
            (try (have c64b2 : (((rd_T105 l0_0 x15_1).f1.f0) == 0 && (((rd_T105 l0_0 x15_1).f1.f1) == 0)) = true := by simpa using c64))
            clear c64
            obtain ⟨t178, A65, H⟩ := bindE_ H
            by_cases c66 : t178 = true
            ·subst c66
             replace H := ite_t_ H
             obtain ⟨t179, A67, H⟩ := bindE_ H
             by_cases c68 : t179 = true
             ·subst c68
              replace H := ite_t_ H
              have H' := Aside0.mk H
              clear H
              have hnb69 := NB175_172.out
              have hnc69 := NB172_175.out
              have hnb70 := NB175_176.out
              have hnc70 := NB176_175.out
              have hcz71 := blk_cell BK175.out
              have hfz71 := blk_frozen BK175.out
              have hnb72 := NB176_172.out
              have hnc72 := NB172_176.out
              have hcz73 := blk_cell BK176.out
              have hfz73 := blk_frozen BK176.out
              go_wp2_with (first | (go_at_call 79; (with_reducible refine (impl_in.calls ((rd_T105 l0_0 x15_1).f2) 0 (wrap64 (x15_1 - 1)) true _ A65.out).mono ?_); rintro e w' ⟨rfl, ⟨nd, rfl⟩⟩) | (go_at_call 79; (with_reducible refine (impl_in.calls ((rd_T105 l0_0 x15_1).f3) 0 (wrap64 (x15_1 - 1)) true _ A67.out).mono ?_); rintro e w' ⟨rfl, ⟨nd, rfl⟩⟩))
              go_roundg kj52
              case measure => have := HK1.out; have := HJ52.out; omega
              case rel => exact ⟨(wrap64 (x15_1 + 1)), (by first | rfl | (simp; done) | (simp [*]; done)), H', ⟨by have := HK1.out; have := HJ52.out; omega⟩, ⟨bk_ BK172⟩, ⟨bl_⟩⟩
             ·replace c68 := Bool.eq_false_iff.mpr c68
              subst c68
              replace H := ite_f_ H
              obtain rfl := Option.some.inj H
              have hnb74 := NB175_172.out
              have hnc74 := NB172_175.out
              have hnb75 := NB175_176.out
              have hnc75 := NB176_175.out
              have hcz76 := blk_cell BK175.out
              have hfz76 := blk_frozen BK175.out
              have hnb77 := NB176_172.out
              have hnc77 := NB172_176.out
              have hcz78 := blk_cell BK176.out
              have hfz78 := blk_frozen BK176.out
              go_wp2_with (first | (go_at_call 79; (with_reducible refine (impl_in.calls ((rd_T105 l0_0 x15_1).f2) 0 (wrap64 (x15_1 - 1)) true _ A65.out).mono ?_); rintro e w' ⟨rfl, ⟨nd, rfl⟩⟩) | (go_at_call 79; (with_reducible refine (impl_in.calls ((rd_T105 l0_0 x15_1).f3) 0 (wrap64 (x15_1 - 1)) false _ A67.out).mono ?_); rintro e w' ⟨rfl, ⟨nd, rfl⟩⟩))
              go_ret
              exact ⟨eq_, bl_⟩
            ·replace c66 := Bool.eq_false_iff.mpr c66
             subst c66
             replace H := ite_f_ H
             obtain rfl := Option.some.inj H
             have hnb79 := NB175_172.out
             have hnc79 := NB172_175.out
             have hnb80 := NB175_176.out
             have hnc80 := NB176_175.out
             have hcz81 := blk_cell BK175.out
             have hfz81 := blk_frozen BK175.out
             have hnb82 := NB176_172.out
             have hnc82 := NB172_176.out
             have hcz83 := blk_cell BK176.out
             have hfz83 := blk_frozen BK176.out
             go_wp2_with (first | (go_at_call 79; (with_reducible refine (impl_in.calls ((rd_T105 l0_0 x15_1).f2) 0 (wrap64 (x15_1 - 1)) false _ A65.out).mono ?_); rintro e w' ⟨rfl, ⟨nd, rfl⟩⟩))
             go_ret
             exact ⟨eq_, bl_⟩
           ·rw [if_neg c64] at H
            have c64b0 : (((rd_T105 l0_0 x15_1).f1.f0) == 0 && (((rd_T105 l0_0 x15_1).f1.f1) == 0)) = false := by simpa using c64
            (try (have c64b1 : decide (((rd_T105 l0_0 x15_1).f1.f0) = 0 && (((rd_T105 l0_0 x15_1).f1.f1) == 0)) = false := by simpa using c64))
            (try (have c64b2 : (((rd_T105 l0_0 x15_1).f1.f0) == 0 && (((rd_T105 l0_0 x15_1).f1.f1) == 0)) = false := by simpa using c64))
            (try (have c64b3 : ¬ (((rd_T105 l0_0 x15_1).f1.f0) = 0 && (((rd_T105 l0_0 x15_1).f1.f1) == 0)) := by simpa using c64))
            clear c64
            obtain rfl := Option.some.inj H
            have hnb84 := NB175_172.out
            have hnc84 := NB172_175.out
            have hnb85 := NB175_176.out
            have hnc85 := NB176_175.out
            have hcz86 := blk_cell BK175.out
            have hfz86 := blk_frozen BK175.out
            have hnb87 := NB176_172.out
            have hnc87 := NB172_176.out
            have hcz88 := blk_cell BK176.out
            have hfz88 := blk_frozen BK176.out
            go_wp2
            go_ret
            exact ⟨eq_, bl_⟩
          ·replace c63 := Bool.eq_false_iff.mpr c63
           subst c63
           replace H := ite_f_ H
           by_cases c89 : ((rd_T105 l0_0 x15_1).f0) = 4
           ·rw [if_pos c89] at H
            have c89b0 : (((rd_T105 l0_0 x15_1).f0) == 4) = true := beq_iff_eq.mpr c89
            have c89b1 : (((rd_T105 l0_0 x15_1).f0) != 4) = false := bne_eq_false_iff_eq.mpr c89
            clear c89
            by_cases c90 : (((rd_T105 l0_0 x15_1).f1.f0) == 0 && (((rd_T105 l0_0 x15_1).f1.f1) == 0)) = true
            ·rw [if_pos c90] at H
             have c90b0 : (((rd_T105 l0_0 x15_1).f1.f0) == 0 && (((rd_T105 l0_0 x15_1).f1.f1) == 0)) = true := c90
             (try (have c90b1 : decide (((rd_T105 l0_0 x15_1).f1.f0) = 0 && (((rd_T105 l0_0 x15_1).f1.f1) == 0)) = true := by simpa using c90))
             (try (have c90b2 : (((rd_T105 l0_0 x15_1).f1.f0) == 0 && (((rd_T105 l0_0 x15_1).f1.f1) == 0)) = true := by simpa using c90))
             clear c90
             obtain ⟨t180, A91, H⟩ := bindE_ H
             by_cases c92 : t180 = true
             ·subst c92
              replace H := ite_t_ H
              by_cases c93 : ((rd_T105 l0_0 x15_1).f3) = 0
              ·rw [if_pos c93] at H
               have c93b0 : (((rd_T105 l0_0 x15_1).f3) == 0) = true := beq_iff_eq.mpr c93
               have c93b1 : (((rd_T105 l0_0 x15_1).f3) != 0) = false := bne_eq_false_iff_eq.mpr c93
               clear c93
               have H' := Aside0.mk H
               clear H
               have hnb94 := NB175_172.out
               have hnc94 := NB172_175.out
               have hnb95 := NB175_176.out
               have hnc95 := NB176_175.out
               have hcz96 := blk_cell BK175.out
               have hfz96 := blk_frozen BK175.out
               have hnb97 := NB176_172.out
               have hnc97 := NB172_176.out
               have hcz98 := blk_cell BK176.out
               have hfz98 := blk_frozen BK176.out
               go_wp2_with (first | (go_at_call 79; (with_reducible refine (impl_in.calls ((rd_T105 l0_0 x15_1).f2) 0 (wrap64 (x15_1 - 1)) true _ A91.out).mono ?_); rintro e w' ⟨rfl, ⟨nd, rfl⟩⟩))
               go_roundg kj52
               case measure => have := HK1.out; have := HJ52.out; omega
               case rel => exact ⟨(wrap64 (x15_1 + 1)), (by first | rfl | (simp; done) | (simp [*]; done)), H', ⟨by have := HK1.out; have := HJ52.out; omega⟩, ⟨bk_ BK172⟩, ⟨bl_⟩⟩
              ·rw [if_neg c93] at H
               have c93b0 : (((rd_T105 l0_0 x15_1).f3) == 0) = false := beq_eq_false_iff_ne.mpr c93
               have c93b1 : (((rd_T105 l0_0 x15_1).f3) != 0) = true := bne_iff_ne.mpr c93
               obtain rfl := Option.some.inj H
               have hnb99 := NB175_172.out
               have hnc99 := NB172_175.out
               have hnb100 := NB175_176.out
               have hnc100 := NB176_175.out
               have hcz101 := blk_cell BK175.out
               have hfz101 := blk_frozen BK175.out
               have hnb102 := NB176_172.out
               have hnc102 := NB172_176.out
               have hcz103 := blk_cell BK176.out
               have hfz103 := blk_frozen BK176.out
               go_wp2_with (first | (go_at_call 79; (with_reducible refine (impl_in.calls ((rd_T105 l0_0 x15_1).f2) 0 (wrap64 (x15_1 - 1)) true _ A91.out).mono ?_); rintro e w' ⟨rfl, ⟨nd, rfl⟩⟩))
               go_ret
               exact ⟨eq_, bl_⟩
             ·replace c92 := Bool.eq_false_iff.mpr c92
              subst c92
              replace H := ite_f_ H
              obtain rfl := Option.some.inj H
              have hnb104 := NB175_172.out
              have hnc104 := NB172_175.out
              have hnb105 := NB175_176.out
              have hnc105 := NB176_175.out
              have hcz106 := blk_cell BK175.out
              have hfz106 := blk_frozen BK175.out
              have hnb107 := NB176_172.out
              have hnc107 := NB172_176.out
              have hcz108 := blk_cell BK176.out
              have hfz108 := blk_frozen BK176.out
              go_wp2_with (first | (go_at_call 79; (with_reducible refine (impl_in.calls ((rd_T105 l0_0 x15_1).f2) 0 (wrap64 (x15_1 - 1)) false _ A91.out).mono ?_); rintro e w' ⟨rfl, ⟨nd, rfl⟩⟩))
              go_ret
              exact ⟨eq_, bl_⟩
            ·rw [if_neg c90] at H
             have c90b0 : (((rd_T105 l0_0 x15_1).f1.f0) == 0 && (((rd_T105 l0_0 x15_1).f1.f1) == 0)) = false := by simpa using c90
             (try (have c90b1 : decide (((rd_T105 l0_0 x15_1).f1.f0) = 0 && (((rd_T105 l0_0 x15_1).f1.f1) == 0)) = false := by simpa using c90))
             (try (have c90b2 : (((rd_T105 l0_0 x15_1).f1.f0) == 0 && (((rd_T105 l0_0 x15_1).f1.f1) == 0)) = false := by simpa using c90))
             (try (have c90b3 : ¬ (((rd_T105 l0_0 x15_1).f1.f0) = 0 && (((rd_T105 l0_0 x15_1).f1.f1) == 0)) := by simpa using c90))
             clear c90
             obtain rfl := Option.some.inj H
             have hnb109 := NB175_172.out
             have hnc109 := NB172_175.out
             have hnb110 := NB175_176.out
             have hnc110 := NB176_175.out
             have hcz111 := blk_cell BK175.out
             have hfz111 := blk_frozen BK175.out
             have hnb112 := NB176_172.out
             have hnc112 := NB172_176.out
             have hcz113 := blk_cell BK176.out
             have hfz113 := blk_frozen BK176.out
             go_wp2
             go_ret
             exact ⟨eq_, bl_⟩
           ·rw [if_neg c89] at H
            have c89b0 : (((rd_T105 l0_0 x15_1).f0) == 4) = false := beq_eq_false_iff_ne.mpr c89
            have c89b1 : (((rd_T105 l0_0 x15_1).f0) != 4) = true := bne_iff_ne.mpr c89
            replace H := ite_f_ H
            obtain rfl := Option.some.inj H
            go_wp2
            go_ret
            exact ⟨eq_, bl_⟩
      ·rw [if_neg c8] at H
       exact absurd H (by simp)
     ·rw [if_neg c7] at H
      exact absurd H (by simp)
    ·rw [if_neg c6] at H
     have c6b0 : decide (x15_1 < (l0_0.length : Int)) = false := decide_eq_false c6
     clear c6
     obtain rfl := Option.some.inj H
     go_wp2
     go_ret
     exact ⟨eq_, bl_⟩
 ·replace c3 := Bool.eq_false_iff.mpr c3
  subst c3
  replace H := ite_f_ H
  obtain rfl := Option.some.inj H
  go_enter Try.func21, Try.ntmps21
  go_wp2_with (first | ((with_reducible refine gate_dst (N := 1) rfl ?_); refine box_event ?hg (N := 1) ?hd (cs := #[.slice A0_0 l0_0.length c0_0]) (t := 39) ?hr ?_; (case hd => rfl); (case hg => rfl); (case hr => first | (go_simp; done) | (go_simp; rfl)); intro gb172 hg w114 hbox hb; have BK172 := Aside0.mk (hbox); have GW172 := gs_ hg; have GE172 := gs_ hg; replace HB := hbs_ hb; clear hb hbox hg; have hcz115 := blk_cell BK172.out; have hfz115 := blk_frozen BK172.out) | ((with_reducible refine gate_callee (f := 79) rfl ?_); refine goesC_ (some 10) Try.func79 #[.int .i64 (l0_0.length : Int), .int .i64 1, .int .i64 40] ?_; (with_reducible refine (impl_in.calls (l0_0.length : Int) 1 40 false _ A2.out).mono ?_); rintro e w' ⟨rfl, ⟨nd, rfl⟩⟩; refine ⟨_, rfl, ?_⟩))
  go_ret
  exact ⟨eq_, bl_⟩
end Go.Proofs.Ytcgnegnljffkmaa.PE
