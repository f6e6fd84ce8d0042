import Derived.Test.YtcgnegnljffkmaaKFnExactProofTextPAx0
import Derived.Test.YtcgnegnljffkmaaKFnExactProofTextPAx2
import Derived.Test.YtcgnegnljffkmaaKFnExactProofTextPAx21
import Derived.Test.YtcgnegnljffkmaaKFnExactProofTextPAx22
-- A text of this claim: written by the session's own program out of the translation (wip/tools). Lean checks it.
namespace Go.Proofs.Ytcgnegnljffkmaa.PA
open Go.RowKit Go.Proofs.YtcgnegnljffkmaaW.PrintWords Go.Proofs.YtcgnegnljffkmaaW.PrintLast Go.Proofs.YtcgnegnljffkmaaW.PrintMore
attribute [local go_sem] max2_int min2_int max_two min_two max_three min_three max_four min_four   -- for this text's walks alone
set_option linter.unusedVariables false
set_option linter.unusedSimpArgs false
attribute [local go_sem high] eqA55
def laws_FnExactProofText.j0 : Nat → List (S72) → List (S77) → Bool → Option (Bool)
 | 0, _, _, _ => none
 | k + 1, x0, x6, x34 => if x34 = true then (some false) else ((laws_toStepS.f k x0).bind fun t759 => ((laws_eqStepS.f k x6 t759).bind fun t762 => (if t762 = true then (some true) else (some false))))
def laws_FnExactProofText.f (k : Nat) (l0 : List (S72)) : Option (Bool) := (laws_szStepS.f k l0 1048576).bind fun t748 => (if t748 < 0 then (some true) else ((laws_toStepS.f k l0).bind fun t749 => ((spec_ProofText.f k t749).bind fun bt752 => ((laws_toStepS.f k l0).bind fun t754 => ((impl_ProofText.f k t754).bind fun bt757 => (if bt757.1.toList = bt752.1.toList then (laws_FnExactProofText.j0 k l0 t754 (bt757.2 != bt752.2)) else (laws_FnExactProofText.j0 k l0 t754 true)))))))
set_option maxHeartbeats 8000000 in
set_option maxRecDepth 100000 in
theorem laws_FnExactProofText.calls (k : Nat) (A0 : Option Addr) (c0 : Nat) (l0 : List (S72)) (r : Bool) (w : World) (hr0 : Kd.C k72 w A0 l0.length l0) (hc0 : l0.length ≤ c0) (h : laws_FnExactProofText.f k l0 = some r) :
  Calls Try.prog 12 #[.slice A0 l0.length c0] w fun e w' => e = .returned (.bool r) ∧ Below w.heap.size w w' := by
 have HR0 := Aside0.mk hr0
 have HC0 := Aside0.mk hc0
 clear hr0 hc0
 have HB := Aside0.mk (Below.refl w.heap.size w)
 have H : ((laws_szStepS.f k l0 1048576).bind fun t748 => (if t748 < 0 then (some true) else ((laws_toStepS.f k l0).bind fun t749 => ((spec_ProofText.f k t749).bind fun bt752 => ((laws_toStepS.f k l0).bind fun t754 => ((impl_ProofText.f k t754).bind fun bt757 => (if bt757.1.toList = bt752.1.toList then (laws_FnExactProofText.j0 k l0 t754 (bt757.2 != bt752.2)) else (laws_FnExactProofText.j0 k l0 t754 true)))))))) = some r := h
 clear h
 obtain ⟨t748, A2, H⟩ := bindE_ H
 by_cases c3 : t748 < 0
 ·rw [if_pos c3] at H
  have c3b0 : decide (t748 < 0) = true := decide_eq_true c3
  clear c3
  obtain rfl := Option.some.inj H
  go_enter Try.func12, Try.ntmps12
  go_wp2_with (first | ((with_reducible refine gate_callee (f := 58) rfl ?_); refine goesC_ (some 11) Try.func58 #[.slice A0 l0.length c0, .int .i64 1048576] ?_; (with_reducible refine (laws_szStepS.calls k _ _ l0 1048576 t748 _ ?side1 ?side2 A2.out).mono ?_); (case side1 => repeat (first | exact HR0.out | (with_reducible refine Kd.C_alloc ?_ _) | (with_reducible refine Kd.C_drewN ?_ _) | (with_reducible refine Kd.C_drew ?_))); (case side2 => exact HC0.out); rintro e w4 ⟨rfl, hb⟩; refine ⟨_, rfl, ?_⟩; replace HB := hbs_ hb; clear hb))
  go_ret
  exact ⟨eq_, bl_⟩
 ·rw [if_neg c3] at H
  have c3b0 : decide (t748 < 0) = false := decide_eq_false c3
  clear c3
  obtain ⟨t749, A5, H⟩ := bindE_ H
  obtain ⟨⟨t752, t753⟩, A6, H⟩ := bindE_ H
  replace H : ((laws_toStepS.f k l0).bind fun t754 => ((impl_ProofText.f k t754).bind fun bt757 => (if bt757.1.toList = t752.toList then (laws_FnExactProofText.j0 k l0 t754 (bt757.2 != t753)) else (laws_FnExactProofText.j0 k l0 t754 true)))) = some r := H
  obtain ⟨t754, A7, H⟩ := bindE_ H
  obtain ⟨⟨t757, t758⟩, A8, H⟩ := bindE_ H
  replace H : (if t757.toList = t752.toList then (laws_FnExactProofText.j0 k l0 t754 (t758 != t753)) else (laws_FnExactProofText.j0 k l0 t754 true)) = some r := H
  have HC9 := Aside0.mk H
  clear H
  go_enter Try.func12, Try.ntmps12
  go_upto_region 8 with (first | ((with_reducible refine gate_callee (f := 58) rfl ?_); refine goesC_ (some 11) Try.func58 #[.slice A0 l0.length c0, .int .i64 1048576] ?_; (with_reducible refine (laws_szStepS.calls k _ _ l0 1048576 t748 _ ?side1 ?side2 A2.out).mono ?_); (case side1 => repeat (first | exact HR0.out | (with_reducible refine Kd.C_alloc ?_ _) | (with_reducible refine Kd.C_drewN ?_ _) | (with_reducible refine Kd.C_drew ?_))); (case side2 => exact HC0.out); rintro e w10 ⟨rfl, hb⟩; refine ⟨_, rfl, ?_⟩; replace HB := hbs_ hb; clear hb) | ((with_reducible refine gate_callee (f := 60) rfl ?_); refine goesC_ (some 16) Try.func60 #[.slice A0 l0.length c0] ?_; (with_reducible refine (laws_toStepS.calls k _ _ l0 t749 _ ?side1 ?side2 A5.out).mono ?_); (case side1 => repeat (first | exact (Kd.C_below HR0.out HB.out) | (with_reducible refine Kd.C_alloc ?_ _) | (with_reducible refine Kd.C_drewN ?_ _) | (with_reducible refine Kd.C_drew ?_))); (case side2 => exact HC0.out); rintro e w11 ⟨v750, rfl, ho0, hb⟩; refine ⟨_, rfl, ?_⟩; have HO751 := Aside0.mk (Kd.S_lower ho0 bls_); replace HB := hbs_ hb; (try clear hb); (try clear hb2); (try clear hk); (try clear hi); (try clear ho0); obtain ⟨Ao12, co12, eo12⟩ := Kd.S_slice HO751.out; subst eo12) | ((with_reducible refine gate_callee (f := 59) rfl ?_); refine goesC_ (some 17) Try.func59 #[.slice Ao12 t749.length co12] ?_; (with_reducible refine (spec_ProofText.calls k _ _ t749 t752 t753 _ ?side1 ?side2 A6.out).mono ?_); (case side1 => repeat (first | exact (Kd.S_reads' HO751.out).2.2 | (with_reducible refine Kd.C_alloc ?_ _) | (with_reducible refine Kd.C_drewN ?_ _) | (with_reducible refine Kd.C_drew ?_))); (case side2 => exact (Kd.S_reads' HO751.out).2.1); rintro e w13 ⟨rfl, hb⟩; refine ⟨_, rfl, ?_⟩; replace HO751 := Aside0.mk (Kd.S_below (by (with_reducible repeat (first | apply Kd.S_alloc | apply Kd.S_drewN | apply Kd.S_drew)); exact HO751.out) hb); replace HB := hbs_ hb; clear hb) | ((with_reducible refine gate_callee (f := 60) rfl ?_); refine goesC_ (some 21) Try.func60 #[.slice A0 l0.length c0] ?_; (with_reducible refine (laws_toStepS.calls k _ _ l0 t754 _ ?side1 ?side2 A7.out).mono ?_); (case side1 => repeat (first | exact (Kd.C_below HR0.out HB.out) | (with_reducible refine Kd.C_alloc ?_ _) | (with_reducible refine Kd.C_drewN ?_ _) | (with_reducible refine Kd.C_drew ?_))); (case side2 => exact HC0.out); rintro e w14 ⟨v755, rfl, ho0, hb⟩; refine ⟨_, rfl, ?_⟩; have HO756 := Aside0.mk (Kd.S_lower (Kd.S_new' ho0 (Kd.S_lt (by (with_reducible repeat (first | apply Kd.S_alloc | apply Kd.S_drewN | apply Kd.S_drew)); exact HO751.out))) bls_); replace HO751 := Aside0.mk (Kd.S_elder' (by (with_reducible repeat (first | apply Kd.S_alloc | apply Kd.S_drewN | apply Kd.S_drew)); exact HO751.out) (Kd.S_base ho0) hb); replace HB := hbs_ hb; (try clear hb); (try clear hb2); (try clear hk); (try clear hi); (try clear ho0); obtain ⟨Ao15, co15, eo15⟩ := Kd.S_slice HO756.out; subst eo15) | ((with_reducible refine gate_callee (f := 61) rfl ?_); refine goesC_ (some 24) Try.func61 #[.slice Ao15 t754.length co15] ?_; (with_reducible refine (impl_ProofText.calls k _ _ t754 t757 t758 _ ?side1 ?side2 A8.out).mono ?_); (case side1 => repeat (first | exact (Kd.S_reads' HO756.out).2.2 | (with_reducible refine Kd.C_alloc ?_ _) | (with_reducible refine Kd.C_drewN ?_ _) | (with_reducible refine Kd.C_drew ?_))); (case side2 => exact (Kd.S_reads' HO756.out).2.1); rintro e w16 ⟨rfl, hb⟩; refine ⟨_, rfl, ?_⟩; replace HO751 := Aside0.mk (Kd.S_below (by (with_reducible repeat (first | apply Kd.S_alloc | apply Kd.S_drewN | apply Kd.S_drew)); exact HO751.out) hb); replace HO756 := Aside0.mk (Kd.S_below (by (with_reducible repeat (first | apply Kd.S_alloc | apply Kd.S_drewN | apply Kd.S_drew)); exact HO756.out) hb); replace HB := hbs_ hb; clear hb))
  (try simp only [Act.put, List.setIfInBounds_toArray, List.set_cons_zero, List.set_cons_succ])
  go_cut [34] (fun v34 wc => ∃ (kq : Nat) (x34_8 : Bool), v34 = .bool x34_8 ∧ Aside0 (laws_FnExactProofText.j0 kq l0 t754 x34_8 = some r) ∧ Aside0 (kq ≤ k) ∧ Aside0 (Kd.S k77 77 wc w.heap.size (fun _ => True) (.slice Ao15 t754.length co15) t754) ∧ Aside0 (Below w.heap.size w wc))
  case first =>
   have H := HC9.out
   clear HC9
   by_cases c17 : t757.toList = t752.toList
   ·rw [if_pos c17] at H
    have c17b0 : (t757.toList == t752.toList) = true := beq_iff_eq.mpr c17
    have c17b1 : (t757.toList != t752.toList) = false := bne_eq_false_iff_eq.mpr c17
    clear c17
    (first | rw [c17b0] | (simp only [i64_w, i32_w]; rw [c17b0]) | skip)
    have H' := Aside0.mk H
    clear H
    go_wp2
    go_meet
    case rel => exact ⟨_, ((t758 != t753)), (by first | rfl | (simp; done) | (simp [*]; done)), H', ⟨by first | omega | exact Nat.le_refl _⟩, ⟨by (with_reducible repeat (first | apply Kd.S_alloc | apply Kd.S_drewN | apply Kd.S_drew)); exact Kd.S_mono HO756.out (fun _ hk => trivial)⟩, ⟨bl_⟩⟩
   ·rw [if_neg c17] at H
    have c17b0 : (t757.toList == t752.toList) = false := beq_eq_false_iff_ne.mpr c17
    have c17b1 : (t757.toList != t752.toList) = true := bne_iff_ne.mpr c17
    (first | rw [c17b0] | (simp only [i64_w, i32_w]; rw [c17b0]) | skip)
    have H' := Aside0.mk H
    clear H
    go_wp2
    go_meet
    case rel => exact ⟨_, (true), (by first | rfl | (simp; done) | (simp [*]; done)), H', ⟨by first | omega | exact Nat.le_refl _⟩, ⟨by (with_reducible repeat (first | apply Kd.S_alloc | apply Kd.S_drewN | apply Kd.S_drew)); exact Kd.S_mono HO756.out (fun _ hk => trivial)⟩, ⟨bl_⟩⟩
  case rest =>
   clear HC9
   try clear c1
   try clear p2
   try clear c3
   try clear c3b0
   try clear c5
   try clear c6
   try clear c12
   try clear c17
   try clear c17b0
   try clear c17b1
   obtain ⟨kq, x34_8, rfl, HA, HJ8, HO_6, HB⟩ := hcut
   cases kq with
   | zero => exact absurd HA.out (by simp [laws_FnExactProofText.j0])
   | succ kj8 =>
    have H := HA.out
    clear HA
    simp only [laws_FnExactProofText.j0] at H
    by_cases c18 : x34_8 = true
    ·subst c18
     replace H := ite_t_ H
     obtain rfl := Option.some.inj H
     go_wp2
     go_ret
     exact ⟨eq_, bl_⟩
    ·replace c18 := Bool.eq_false_iff.mpr c18
     subst c18
     replace H := ite_f_ H
     obtain ⟨t759, A19, H⟩ := bindE_ H
     obtain ⟨t762, A20, H⟩ := bindE_ H
     by_cases c21 : t762 = true
     ·subst c21
      replace H := ite_t_ H
      obtain rfl := Option.some.inj H
      go_wp2_with (first | ((with_reducible refine gate_callee (f := 60) rfl ?_); refine goesC_ (some 37) Try.func60 #[.slice A0 l0.length c0] ?_; (with_reducible refine (laws_toStepS.calls kj8 _ _ l0 t759 _ ?side1 ?side2 A19.out).mono ?_); (case side1 => repeat (first | exact (Kd.C_below HR0.out HB.out) | (with_reducible refine Kd.C_alloc ?_ _) | (with_reducible refine Kd.C_drewN ?_ _) | (with_reducible refine Kd.C_drew ?_))); (case side2 => exact HC0.out); rintro e w22 ⟨v760, rfl, ho0, hb⟩; refine ⟨_, rfl, ?_⟩; have HO761 := Aside0.mk (Kd.S_lower (Kd.S_new' ho0 (Kd.S_lt (by (with_reducible repeat (first | apply Kd.S_alloc | apply Kd.S_drewN | apply Kd.S_drew)); exact HO_6.out))) bls_); replace HO_6 := Aside0.mk (Kd.S_elder' (by (with_reducible repeat (first | apply Kd.S_alloc | apply Kd.S_drewN | apply Kd.S_drew)); exact HO_6.out) (Kd.S_base ho0) hb); replace HB := hbs_ hb; (try clear hb); (try clear hb2); (try clear hk); (try clear hi); (try clear ho0); obtain ⟨Ao23, co23, eo23⟩ := Kd.S_slice HO761.out; subst eo23) | ((with_reducible refine gate_callee (f := 62) rfl ?_); refine goesC_ (some 38) Try.func62 #[.slice Ao15 t754.length co15, .slice Ao23 t759.length co23] ?_; (with_reducible refine (laws_eqStepS.calls kj8 _ _ t754 _ _ t759 true _ ?side1 ?side2 ?side3 ?side4 A20.out).mono ?_); (case side1 => repeat (first | exact (Kd.S_reads' HO_6.out).2.2 | (with_reducible refine Kd.C_alloc ?_ _) | (with_reducible refine Kd.C_drewN ?_ _) | (with_reducible refine Kd.C_drew ?_))); (case side2 => exact (Kd.S_reads' HO_6.out).2.1); (case side3 => repeat (first | exact (Kd.S_reads' HO761.out).2.2 | (with_reducible refine Kd.C_alloc ?_ _) | (with_reducible refine Kd.C_drewN ?_ _) | (with_reducible refine Kd.C_drew ?_))); (case side4 => exact (Kd.S_reads' HO761.out).2.1); rintro e w24 ⟨rfl, hb⟩; refine ⟨_, rfl, ?_⟩; replace HO_6 := Aside0.mk (Kd.S_below (by (with_reducible repeat (first | apply Kd.S_alloc | apply Kd.S_drewN | apply Kd.S_drew)); exact HO_6.out) hb); replace HO761 := Aside0.mk (Kd.S_below (by (with_reducible repeat (first | apply Kd.S_alloc | apply Kd.S_drewN | apply Kd.S_drew)); exact HO761.out) hb); replace HB := hbs_ hb; clear hb))
      go_ret
      exact ⟨eq_, bl_⟩
     ·replace c21 := Bool.eq_false_iff.mpr c21
      subst c21
      replace H := ite_f_ H
      obtain rfl := Option.some.inj H
      go_wp2_with (first | ((with_reducible refine gate_callee (f := 60) rfl ?_); refine goesC_ (some 37) Try.func60 #[.slice A0 l0.length c0] ?_; (with_reducible refine (laws_toStepS.calls kj8 _ _ l0 t759 _ ?side1 ?side2 A19.out).mono ?_); (case side1 => repeat (first | exact (Kd.C_below HR0.out HB.out) | (with_reducible refine Kd.C_alloc ?_ _) | (with_reducible refine Kd.C_drewN ?_ _) | (with_reducible refine Kd.C_drew ?_))); (case side2 => exact HC0.out); rintro e w25 ⟨v760, rfl, ho0, hb⟩; refine ⟨_, rfl, ?_⟩; have HO761 := Aside0.mk (Kd.S_lower (Kd.S_new' ho0 (Kd.S_lt (by (with_reducible repeat (first | apply Kd.S_alloc | apply Kd.S_drewN | apply Kd.S_drew)); exact HO_6.out))) bls_); replace HO_6 := Aside0.mk (Kd.S_elder' (by (with_reducible repeat (first | apply Kd.S_alloc | apply Kd.S_drewN | apply Kd.S_drew)); exact HO_6.out) (Kd.S_base ho0) hb); replace HB := hbs_ hb; (try clear hb); (try clear hb2); (try clear hk); (try clear hi); (try clear ho0); obtain ⟨Ao26, co26, eo26⟩ := Kd.S_slice HO761.out; subst eo26) | ((with_reducible refine gate_callee (f := 62) rfl ?_); refine goesC_ (some 38) Try.func62 #[.slice Ao15 t754.length co15, .slice Ao26 t759.length co26] ?_; (with_reducible refine (laws_eqStepS.calls kj8 _ _ t754 _ _ t759 false _ ?side1 ?side2 ?side3 ?side4 A20.out).mono ?_); (case side1 => repeat (first | exact (Kd.S_reads' HO_6.out).2.2 | (with_reducible refine Kd.C_alloc ?_ _) | (with_reducible refine Kd.C_drewN ?_ _) | (with_reducible refine Kd.C_drew ?_))); (case side2 => exact (Kd.S_reads' HO_6.out).2.1); (case side3 => repeat (first | exact (Kd.S_reads' HO761.out).2.2 | (with_reducible refine Kd.C_alloc ?_ _) | (with_reducible refine Kd.C_drewN ?_ _) | (with_reducible refine Kd.C_drew ?_))); (case side4 => exact (Kd.S_reads' HO761.out).2.1); rintro e w27 ⟨rfl, hb⟩; refine ⟨_, rfl, ?_⟩; replace HO_6 := Aside0.mk (Kd.S_below (by (with_reducible repeat (first | apply Kd.S_alloc | apply Kd.S_drewN | apply Kd.S_drew)); exact HO_6.out) hb); replace HO761 := Aside0.mk (Kd.S_below (by (with_reducible repeat (first | apply Kd.S_alloc | apply Kd.S_drewN | apply Kd.S_drew)); exact HO761.out) hb); replace HB := hbs_ hb; clear hb))
      go_ret
      exact ⟨eq_, bl_⟩
end Go.Proofs.Ytcgnegnljffkmaa.PA
