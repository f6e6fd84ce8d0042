import Derived.Test.YtcgnegnljffkmaaKFnExactReadPolicyPAx0
import Derived.Test.YtcgnegnljffkmaaKFnExactReadPolicyPAx7
import Derived.Test.YtcgnegnljffkmaaKFnExactReadPolicyPAx1
import Derived.Test.YtcgnegnljffkmaaKFnExactReadPolicyPAx3
import Derived.Test.YtcgnegnljffkmaaKFnExactReadPolicyPAx17
import Derived.Test.YtcgnegnljffkmaaKFnExactReadPolicyPAx19
import Derived.Test.YtcgnegnljffkmaaKFnExactReadPolicyPAx20
-- A text of this claim: written by the session's own program out of the translation (wip/tools). Lean checks it.
namespace Go.Proofs.Ytcgnegnljffkmaa.PA
open Go.RowKit Go.Proofs.YtcgnegnljffkmaaW.PrintWords Go.Proofs.YtcgnegnljffkmaaW.PrintLast Go.Proofs.YtcgnegnljffkmaaW.PrintMore
attribute [local go_sem] max2_int min2_int max_two min_two max_three min_three max_four min_four   -- for this text's walks alone
set_option linter.unusedVariables false
set_option linter.unusedSimpArgs false
mutual
def laws_FnExactReadPolicy.j0 : Nat → ByteArray → Bool → Bool → List (S105) → List (S105) → Option (Bool)
 | 0, _, _, _, _, _ => none
 | k + 1, x0, x4, x32, x699000, x704000 => if x32 = true then (some false) else ((laws_markPolicy.f k x704000 1).bind fun bt705 => ((laws_heldPolicy.f k bt705.2 1).bind fun t707 => (if t707 < 0 then (some false) else (if t707 = bt705.1 then ((impl_ReadPolicy.f k x0).bind fun bt708 => ((laws_eqPolicy.f k bt708.1 x699000).bind fun t713 => (if t713 = true then (laws_FnExactReadPolicy.j1 k bt705.1 (bt708.2 != x4) bt705.2) else (laws_FnExactReadPolicy.j1 k bt705.1 true bt705.2)))) else (some false)))))
def laws_FnExactReadPolicy.j1 : Nat → Int → Bool → List (S105) → Option (Bool)
 | 0, _, _, _ => none
 | k + 1, x7, x57, x704000 => if x57 = true then (some false) else ((laws_heldPolicy.f k x704000 1).bind fun t714 => (if t714 < 0 then (some false) else (if t714 = x7 then (some true) else (some false))))
end
def laws_FnExactReadPolicy.f (k : Nat) (a0 : ByteArray) : Option (Bool) := if (a0.size : Int) > 1048576 then (some true) else ((spec_ReadPolicy.f k a0).bind fun bt694 => ((impl_ReadPolicy.f k a0).bind fun bt699 => ((laws_eqPolicy.f k bt699.1 bt694.1).bind fun t704 => (if t704 = true then (laws_FnExactReadPolicy.j0 k a0 bt694.2 (bt699.2 != bt694.2) bt694.1 bt699.1) else (laws_FnExactReadPolicy.j0 k a0 bt694.2 true bt694.1 bt699.1)))))
set_option maxHeartbeats 8000000 in
set_option maxRecDepth 100000 in
theorem laws_FnExactReadPolicy.calls (k : Nat) (a0 : ByteArray) (r : Bool) (w : World) (h : laws_FnExactReadPolicy.f k a0 = some r) :
  Calls Try.prog 11 #[.string a0] w fun e w' => e = .returned (.bool r) ∧ Below w.heap.size w w' := by
 have hu39 := Try.underlying39
 have HB := Aside0.mk (Below.refl w.heap.size w)
 have H : (if (a0.size : Int) > 1048576 then (some true) else ((spec_ReadPolicy.f k a0).bind fun bt694 => ((impl_ReadPolicy.f k a0).bind fun bt699 => ((laws_eqPolicy.f k bt699.1 bt694.1).bind fun t704 => (if t704 = true then (laws_FnExactReadPolicy.j0 k a0 bt694.2 (bt699.2 != bt694.2) bt694.1 bt699.1) else (laws_FnExactReadPolicy.j0 k a0 bt694.2 true bt694.1 bt699.1)))))) = some r := h
 clear h
 by_cases c2 : (a0.size : Int) > 1048576
 ·rw [if_pos c2] at H
  have c2b0 : decide (1048576 < (a0.size : Int)) = true := decide_eq_true c2
  have c2b1 : decide (1048576 < a0.size) = true := decide_eq_true (by omega)
  clear c2
  obtain rfl := Option.some.inj H
  go_enter Try.func11, Try.ntmps11
  go_wp2
  go_ret
  exact ⟨eq_, bl_⟩
 ·rw [if_neg c2] at H
  have c2b0 : decide (1048576 < (a0.size : Int)) = false := decide_eq_false c2
  have c2b1 : decide (1048576 < a0.size) = false := decide_eq_false (by omega)
  clear c2
  obtain ⟨⟨t694, t697⟩, A3, H⟩ := bindE_ H
  replace H : ((impl_ReadPolicy.f k a0).bind fun bt699 => ((laws_eqPolicy.f k bt699.1 t694).bind fun t704 => (if t704 = true then (laws_FnExactReadPolicy.j0 k a0 t697 (bt699.2 != t697) t694 bt699.1) else (laws_FnExactReadPolicy.j0 k a0 t697 true t694 bt699.1)))) = some r := H
  obtain ⟨⟨t699, t702⟩, A4, H⟩ := bindE_ H
  replace H : ((laws_eqPolicy.f k t699 t694).bind fun t704 => (if t704 = true then (laws_FnExactReadPolicy.j0 k a0 t697 (t702 != t697) t694 t699) else (laws_FnExactReadPolicy.j0 k a0 t697 true t694 t699))) = some r := H
  have HC5 := Aside0.mk H
  clear H
  go_enter Try.func11, Try.ntmps11
  go_upto_region 5 with (first | ((with_reducible refine gate_callee (f := 55) rfl ?_); refine goesC_ (some 16) Try.func55 #[.string a0] ?_; (with_reducible refine (spec_ReadPolicy.calls k a0 t694 t697 _ A3.out).mono ?_); rintro e w6 ⟨v695, rfl, ho0, hb⟩; refine ⟨_, rfl, ?_⟩; have HO696 := Aside0.mk (Kd.R_lower ho0 bls_); replace HB := hbs_ hb; (try clear hb); (try clear hb2); (try clear hk); (try clear hi); (try clear ho0)) | ((with_reducible refine gate_dst (N := 3) rfl ?_); refine box_event ?hg (N := 3) ?hd (cs := #[.slice none 0 0]) (t := 39) ?hr ?_; (case hd => rfl); (case hg => rfl); (case hr => first | (go_simp; done) | (go_simp; rfl)); intro gb698 hg w7 hbox hb; replace HO696 := Aside0.mk (Kd.R_below (by (with_reducible repeat (first | apply Kd.R_alloc | apply Kd.R_drewN | apply Kd.R_drew)); exact HO696.out) hb); have BK698 := Aside0.mk (hbox); have GW698 := gs_ hg; have GE698 := gs_ hg; replace HB := hbs_ hb; clear hb hbox hg; obtain ⟨Ao8, co8, eo8⟩ := Kd.R_slice HO696.out; subst eo8; have hcz9 := blk_cell BK698.out; have hfz9 := blk_frozen BK698.out) | ((with_reducible refine gate_callee (f := 56) rfl ?_); refine goesC_ (some 21) Try.func56 #[.string a0] ?_; (with_reducible refine (impl_ReadPolicy.calls k a0 t699 t702 _ A4.out).mono ?_); rintro e w10 ⟨v700, rfl, ho0, hb⟩; refine ⟨_, rfl, ?_⟩; have HO701 := Aside0.mk (Kd.R_lower (Kd.R_new' ho0 (Kd.R_lt (by (with_reducible repeat (first | apply Kd.R_alloc | apply Kd.R_drewN | apply Kd.R_drew)); exact (Kd.R_mono (Kd.R_far (p := ⟨gb698, 0, none⟩) (Kd.R_types HO696.out BK698.out (by decide)) (fun _ hk => hk.2) (.slice Ao8 t694.length co8)) (fun _ h_ => h_.1))))) bls_); replace HO696 := Aside0.mk (Kd.R_elder' (by (with_reducible repeat (first | apply Kd.R_alloc | apply Kd.R_drewN | apply Kd.R_drew)); exact (Kd.R_mono (Kd.R_far (p := ⟨gb698, 0, none⟩) (Kd.R_types HO696.out BK698.out (by decide)) (fun _ hk => hk.2) (.slice Ao8 t694.length co8)) (fun _ h_ => h_.1))) (Kd.R_base ho0) hb); replace BK698 := Aside0.mk (blk_below (g := gb698) (o := .cells #[.slice Ao8 t694.length co8] 39 (0, 0)) (bk_ BK698) hb); replace HB := hbs_ hb; (try clear hb); (try clear hb2); (try clear hk); (try clear hi); (try clear ho0)) | ((with_reducible refine gate_dst (N := 5) rfl ?_); refine box_event ?hg (N := 5) ?hd (cs := #[.slice none 0 0]) (t := 39) ?hr ?_; (case hd => rfl); (case hg => rfl); (case hr => first | (go_simp; done) | (go_simp; rfl)); intro gb703 hg w11 hbox hb; replace HO696 := Aside0.mk (Kd.R_below (by (with_reducible repeat (first | apply Kd.R_alloc | apply Kd.R_drewN | apply Kd.R_drew)); exact HO696.out) hb); replace HO701 := Aside0.mk (Kd.R_below (by (with_reducible repeat (first | apply Kd.R_alloc | apply Kd.R_drewN | apply Kd.R_drew)); exact HO701.out) hb); have BK703 := Aside0.mk (hbox); have GW703 := gs_ hg; have GE703 := gs_ hg; replace HB := hbs_ hb; have NB698_703 := Aside0.mk ((by rw [hg]; exact Nat.ne_of_lt (blk_lt (g := gb698) (o := .cells #[.slice Ao8 t694.length co8] 39 (0, 0)) (bk_ BK698)) : gb698 ≠ gb703)); have NB703_698 := Aside0.mk ((by rw [hg]; exact Nat.ne_of_gt (blk_lt (g := gb698) (o := .cells #[.slice Ao8 t694.length co8] 39 (0, 0)) (bk_ BK698)) : gb703 ≠ gb698)); replace BK698 := bkb_ BK698 hb; clear hb hbox hg; obtain ⟨Ao12, co12, eo12⟩ := Kd.R_slice HO701.out; subst eo12; have hnb13 := NB703_698.out; have hnc13 := NB698_703.out; have hcz14 := blk_cell BK703.out; have hfz14 := blk_frozen BK703.out))
  (try simp only [Act.put, List.setIfInBounds_toArray, List.set_cons_zero, List.set_cons_succ])
  go_cut [32] (fun v32 wc => ∃ (kq : Nat) (x32_4 : Bool), v32 = .bool x32_4 ∧ Aside0 (laws_FnExactReadPolicy.j0 kq a0 t697 x32_4 t694 t699 = some r) ∧ Aside0 (kq ≤ k) ∧ Aside0 (Kd.R k105 105 wc w.heap.size (fun k_ => some k_ ≠ ((.slice Ao12 t699.length co12) : Value).ownBlock) (.slice Ao8 t694.length co8) t694) ∧ Aside0 (Kd.R k105 105 wc w.heap.size (fun k_ => some k_ ≠ ((.slice Ao8 t694.length co8) : Value).ownBlock) (.slice Ao12 t699.length co12) t699) ∧ Aside0 (wc.heap[gb698]? = some (.cells #[(.slice Ao8 t694.length co8)] 39 (0, 0))) ∧ Aside0 (wc.heap[gb703]? = some (.cells #[(.slice Ao12 t699.length co12)] 39 (0, 0))) ∧ Aside0 (Below w.heap.size w wc))
  case first =>
   have H := HC5.out
   clear HC5
   obtain ⟨t704, A15, H⟩ := bindE_ H
   by_cases c16 : t704 = true
   ·subst c16
    replace H := ite_t_ H
    have H' := Aside0.mk H
    clear H
    have hnb17 := NB703_698.out
    have hnc17 := NB698_703.out
    have hcz18 := blk_cell BK703.out
    have hfz18 := blk_frozen BK703.out
    have hcz19 := blk_cell BK698.out
    have hfz19 := blk_frozen BK698.out
    go_wp2_with (first | ((with_reducible refine gate_callee (f := 22) rfl ?_); refine goesC_ (some 26) Try.func22 #[.agg #[.slice Ao12 t699.length co12], .agg #[.slice Ao8 t694.length co8]] ?_; (with_reducible refine (laws_eqPolicy.calls k _ _ t699 _ _ t694 true _ ?side1 ?side2 ?side3 ?side4 A15.out).mono ?_); (case side1 => refine (Kd.R_reads' (e := 105) (base := w.heap.size) (ok := fun k_ => (True ∧ some k_ ≠ (.slice Ao8 t694.length co8 : Value).ownBlock)) (n := t699.length) (c := co12) ?_).2.2; exact (by (with_reducible repeat (first | apply Kd.R_alloc | apply Kd.R_drewN | apply Kd.R_drew)); exact (Kd.R_mono (Kd.R_far (p := ⟨gb703, 0, none⟩) (Kd.R_types HO701.out BK703.out (by decide)) (fun _ hk => hk.2) (.slice Ao12 t699.length co12)) (fun _ h_ => h_.1)))); (case side2 => exact (Kd.R_reads' HO701.out).2.1); (case side3 => refine (Kd.R_reads' (e := 105) (base := w.heap.size) (ok := fun k_ => (True ∧ some k_ ≠ (.slice Ao12 t699.length co12 : Value).ownBlock)) (n := t694.length) (c := co8) ?_).2.2; exact (by (with_reducible repeat (first | apply Kd.R_alloc | apply Kd.R_drewN | apply Kd.R_drew)); exact (Kd.R_mono (Kd.R_far (p := ⟨gb703, 0, none⟩) (Kd.R_types HO696.out BK703.out (by decide)) (fun _ hk => hk.2) (.slice Ao12 t699.length co12)) (fun _ h_ => h_.1)))); (case side4 => exact (Kd.R_reads' HO696.out).2.1); rintro e w20 ⟨rfl, hb⟩; refine ⟨_, rfl, ?_⟩; replace HO696 := Aside0.mk (Kd.R_below (by (with_reducible repeat (first | apply Kd.R_alloc | apply Kd.R_drewN | apply Kd.R_drew)); exact (Kd.R_mono (Kd.R_far (p := ⟨gb703, 0, none⟩) (Kd.R_types HO696.out BK703.out (by decide)) (fun _ hk => hk.2) (.slice Ao12 t699.length co12)) (fun _ h_ => h_.1))) hb); replace HO701 := Aside0.mk (Kd.R_below (by (with_reducible repeat (first | apply Kd.R_alloc | apply Kd.R_drewN | apply Kd.R_drew)); exact (Kd.R_mono (Kd.R_far (p := ⟨gb703, 0, none⟩) (Kd.R_types HO701.out BK703.out (by decide)) (fun _ hk => hk.2) (.slice Ao12 t699.length co12)) (fun _ h_ => h_.1))) hb); replace BK698 := Aside0.mk (blk_below (g := gb698) (o := .cells #[.slice Ao8 t694.length co8] 39 (0, 0)) (bk_ BK698) hb); replace BK703 := Aside0.mk (blk_below (g := gb703) (o := .cells #[.slice Ao12 t699.length co12] 39 (0, 0)) (bk_ BK703) hb); replace HB := hbs_ hb; clear hb))
    go_meet
    case rel => exact ⟨_, ((t702 != t697)), (by first | rfl | (simp; done) | (simp [*]; done)), H', ⟨by first | omega | exact Nat.le_refl _⟩, ⟨by (with_reducible repeat (first | apply Kd.R_alloc | apply Kd.R_drewN | apply Kd.R_drew)); exact Kd.R_mono HO696.out (fun _ hk => hk.2)⟩, ⟨by (with_reducible repeat (first | apply Kd.R_alloc | apply Kd.R_drewN | apply Kd.R_drew)); exact Kd.R_mono HO701.out (fun _ hk => hk.2)⟩, ⟨bk_ BK698⟩, ⟨bk_ BK703⟩, ⟨bl_⟩⟩
   ·replace c16 := Bool.eq_false_iff.mpr c16
    subst c16
    replace H := ite_f_ H
    have H' := Aside0.mk H
    clear H
    have hnb21 := NB703_698.out
    have hnc21 := NB698_703.out
    have hcz22 := blk_cell BK703.out
    have hfz22 := blk_frozen BK703.out
    have hcz23 := blk_cell BK698.out
    have hfz23 := blk_frozen BK698.out
    go_wp2_with (first | ((with_reducible refine gate_callee (f := 22) rfl ?_); refine goesC_ (some 26) Try.func22 #[.agg #[.slice Ao12 t699.length co12], .agg #[.slice Ao8 t694.length co8]] ?_; (with_reducible refine (laws_eqPolicy.calls k _ _ t699 _ _ t694 false _ ?side1 ?side2 ?side3 ?side4 A15.out).mono ?_); (case side1 => refine (Kd.R_reads' (e := 105) (base := w.heap.size) (ok := fun k_ => (True ∧ some k_ ≠ (.slice Ao8 t694.length co8 : Value).ownBlock)) (n := t699.length) (c := co12) ?_).2.2; exact (by (with_reducible repeat (first | apply Kd.R_alloc | apply Kd.R_drewN | apply Kd.R_drew)); exact (Kd.R_mono (Kd.R_far (p := ⟨gb703, 0, none⟩) (Kd.R_types HO701.out BK703.out (by decide)) (fun _ hk => hk.2) (.slice Ao12 t699.length co12)) (fun _ h_ => h_.1)))); (case side2 => exact (Kd.R_reads' HO701.out).2.1); (case side3 => refine (Kd.R_reads' (e := 105) (base := w.heap.size) (ok := fun k_ => (True ∧ some k_ ≠ (.slice Ao12 t699.length co12 : Value).ownBlock)) (n := t694.length) (c := co8) ?_).2.2; exact (by (with_reducible repeat (first | apply Kd.R_alloc | apply Kd.R_drewN | apply Kd.R_drew)); exact (Kd.R_mono (Kd.R_far (p := ⟨gb703, 0, none⟩) (Kd.R_types HO696.out BK703.out (by decide)) (fun _ hk => hk.2) (.slice Ao12 t699.length co12)) (fun _ h_ => h_.1)))); (case side4 => exact (Kd.R_reads' HO696.out).2.1); rintro e w24 ⟨rfl, hb⟩; refine ⟨_, rfl, ?_⟩; replace HO696 := Aside0.mk (Kd.R_below (by (with_reducible repeat (first | apply Kd.R_alloc | apply Kd.R_drewN | apply Kd.R_drew)); exact (Kd.R_mono (Kd.R_far (p := ⟨gb703, 0, none⟩) (Kd.R_types HO696.out BK703.out (by decide)) (fun _ hk => hk.2) (.slice Ao12 t699.length co12)) (fun _ h_ => h_.1))) hb); replace HO701 := Aside0.mk (Kd.R_below (by (with_reducible repeat (first | apply Kd.R_alloc | apply Kd.R_drewN | apply Kd.R_drew)); exact (Kd.R_mono (Kd.R_far (p := ⟨gb703, 0, none⟩) (Kd.R_types HO701.out BK703.out (by decide)) (fun _ hk => hk.2) (.slice Ao12 t699.length co12)) (fun _ h_ => h_.1))) hb); replace BK698 := Aside0.mk (blk_below (g := gb698) (o := .cells #[.slice Ao8 t694.length co8] 39 (0, 0)) (bk_ BK698) hb); replace BK703 := Aside0.mk (blk_below (g := gb703) (o := .cells #[.slice Ao12 t699.length co12] 39 (0, 0)) (bk_ BK703) hb); replace HB := hbs_ hb; clear hb))
    go_meet
    case rel => exact ⟨_, (true), (by first | rfl | (simp; done) | (simp [*]; done)), H', ⟨by first | omega | exact Nat.le_refl _⟩, ⟨by (with_reducible repeat (first | apply Kd.R_alloc | apply Kd.R_drewN | apply Kd.R_drew)); exact Kd.R_mono HO696.out (fun _ hk => hk.2)⟩, ⟨by (with_reducible repeat (first | apply Kd.R_alloc | apply Kd.R_drewN | apply Kd.R_drew)); exact Kd.R_mono HO701.out (fun _ hk => hk.2)⟩, ⟨bk_ BK698⟩, ⟨bk_ BK703⟩, ⟨bl_⟩⟩
  case rest =>
   clear HC5
   try clear c1
   try clear c2
   try clear c2b0
   try clear c2b1
   try clear p2
   try clear c5
   try clear c11
   try clear c13
   try clear c16
   try clear c17
   try clear c21
   try clear c22
   try clear hcz14
   try clear hcz18
   try clear hcz19
   try clear hcz22
   try clear hcz23
   try clear hcz9
   try clear hfz14
   try clear hfz18
   try clear hfz19
   try clear hfz22
   try clear hfz23
   try clear hfz9
   obtain ⟨kq, x32_4, rfl, HA, HJ4, HO_699000, HO_704000, BK698, BK703, HB⟩ := hcut
   cases kq with
   | zero => exact absurd HA.out (by simp [laws_FnExactReadPolicy.j0])
   | succ kj4 =>
    have H := HA.out
    clear HA
    simp only [laws_FnExactReadPolicy.j0] at H
    by_cases c25 : x32_4 = true
    ·subst c25
     replace H := ite_t_ H
     obtain rfl := Option.some.inj H
     go_wp2
     go_ret
     exact ⟨eq_, bl_⟩
    ·replace c25 := Bool.eq_false_iff.mpr c25
     subst c25
     replace H := ite_f_ H
     obtain ⟨⟨t705, t706⟩, A26, H⟩ := bindE_ H
     replace H : ((laws_heldPolicy.f kj4 t706 1).bind fun t707 => (if t707 < 0 then (some false) else (if t707 = t705 then ((impl_ReadPolicy.f kj4 a0).bind fun bt708 => ((laws_eqPolicy.f kj4 bt708.1 t694).bind fun t713 => (if t713 = true then (laws_FnExactReadPolicy.j1 kj4 t705 (bt708.2 != t697) t706) else (laws_FnExactReadPolicy.j1 kj4 t705 true t706)))) else (some false)))) = some r := H
     obtain ⟨t707, A27, H⟩ := bindE_ H
     by_cases c28 : t707 < 0
     ·rw [if_pos c28] at H
      have c28b0 : decide (t707 < 0) = true := decide_eq_true c28
      clear c28
      obtain rfl := Option.some.inj H
      have hnb29 := NB703_698.out
      have hnc29 := NB698_703.out
      have hcz30 := blk_cell BK703.out
      have hfz30 := blk_frozen BK703.out
      go_wp2_with (first | ((with_reducible refine gate_callee (f := 52) rfl ?_); refine goesC_ (some 35) Try.func52 #[.agg #[.slice Ao12 t699.length co12], .int .i64 1] ?_; (with_reducible refine (laws_markPolicy.calls kj4 (fun k_ => some k_ = (.slice Ao12 t699.length co12 : Value).ownBlock) (.slice Ao12 t699.length co12) t699 1 t705 t706 w _ ?side1 ?side2 A26.out).mono ?_); (case side1 => repeat (first | (with_reducible first | exact HB.out | apply below_alloc | apply pw_below_drewN | apply below_drew1 | refine below_set ?_ GE698.out | refine below_set ?_ GE703.out) | exact HB.out)); (case side2 => exact Kd.R_tight rfl HO_704000.out); rintro e w31 ⟨rfl, hy0, hb, hkp⟩; refine ⟨_, rfl, ?_⟩; replace HO_699000 := Aside0.mk (Kd.R_mono (ok' := fun k_ => some k_ ≠ (.slice Ao12 t699.length co12 : Value).ownBlock) (Kd.R_keptB (HO_699000.out) hkp (fun k_ hk_ hs_ => (hk_) hs_)) (fun k_ hk_ => hk_.1)); replace BK698 := Aside0.mk (blk_kept (bk_ BK698) hkp (fun hs_ => (fun e_ => (Kd.R_ne HO_704000.out BK698.out (by decide)) e_) hs_)); replace BK703 := Aside0.mk (blk_kept (bk_ BK703) hkp (fun hs_ => (fun e_ => (Kd.R_ne HO_704000.out BK703.out (by decide)) e_) hs_)); replace HO_704000 := Aside0.mk (Kd.R_reok rfl hy0 (fun k_ e_ => HO_704000.out.1 k_ e_)); replace HB := Aside0.mk (hb); (try clear hb); (try clear hkp); (try clear hy0); have hcz32 := blk_cell BK703.out; have hfz32 := blk_frozen BK703.out) | ((with_reducible refine gate_callee (f := 57) rfl ?_); refine goesL_ (some 38) rfl rfl Try.func57 (by kernel_rfl) rfl #[.agg #[.slice Ao12 t706.length co12], .int .i64 1] rfl (by (try simp only [List.map_toArray, List.map_cons, List.map_nil]); first | done | (rw [show t706.length = t699.length from (Kd.R_reads' HO_704000.out).1.symm] <;> rfl) | rfl | (simp only [List.length_drop, List.length_take]; rfl)) ?_; (with_reducible refine (laws_heldPolicy.calls kj4 _ _ t706 1 t707 _ ?side1 ?side2 A27.out).mono ?_); (case side1 => repeat (first | exact (Kd.R_reads' HO_704000.out).2.2 | (with_reducible refine Kd.C_alloc ?_ _) | (with_reducible refine Kd.C_drewN ?_ _) | (with_reducible refine Kd.C_drew ?_))); (case side2 => rw [show t706.length = t699.length from (Kd.R_reads' HO_704000.out).1.symm]; exact (Kd.R_reads' HO_704000.out).2.1); rintro e w33 ⟨rfl, hb⟩; refine ⟨_, rfl, ?_⟩; replace HO_699000 := Aside0.mk (Kd.R_below (by (with_reducible repeat (first | apply Kd.R_alloc | apply Kd.R_drewN | apply Kd.R_drew)); exact HO_699000.out) hb); replace HO_704000 := Aside0.mk (Kd.R_below (by (with_reducible repeat (first | apply Kd.R_alloc | apply Kd.R_drewN | apply Kd.R_drew)); exact HO_704000.out) hb); replace BK698 := bkb_ BK698 hb; replace BK703 := bkb_ BK703 hb; replace HB := hbs_ hb; clear hb))
      go_ret
      exact ⟨eq_, bl_⟩
     ·rw [if_neg c28] at H
      have c28b0 : decide (t707 < 0) = false := decide_eq_false c28
      clear c28
      by_cases c34 : t707 = t705
      ·rw [if_pos c34] at H
       have c34b0 : (t707 == t705) = true := beq_iff_eq.mpr c34
       have c34b1 : (t707 != t705) = false := bne_eq_false_iff_eq.mpr c34
       clear c34
       obtain ⟨⟨t708, t711⟩, A35, H⟩ := bindE_ H
       replace H : ((laws_eqPolicy.f kj4 t708 t694).bind fun t713 => (if t713 = true then (laws_FnExactReadPolicy.j1 kj4 t705 (t711 != t697) t706) else (laws_FnExactReadPolicy.j1 kj4 t705 true t706))) = some r := H
       have HC36 := Aside0.mk H
       clear H
       have hnb37 := NB703_698.out
       have hnc37 := NB698_703.out
       have hcz38 := blk_cell BK703.out
       have hfz38 := blk_frozen BK703.out
       go_upto_region 16 with (first | ((with_reducible refine gate_callee (f := 52) rfl ?_); refine goesC_ (some 35) Try.func52 #[.agg #[.slice Ao12 t699.length co12], .int .i64 1] ?_; (with_reducible refine (laws_markPolicy.calls kj4 (fun k_ => some k_ = (.slice Ao12 t699.length co12 : Value).ownBlock) (.slice Ao12 t699.length co12) t699 1 t705 t706 w _ ?side1 ?side2 A26.out).mono ?_); (case side1 => repeat (first | (with_reducible first | exact HB.out | apply below_alloc | apply pw_below_drewN | apply below_drew1 | refine below_set ?_ GE698.out | refine below_set ?_ GE703.out) | exact HB.out)); (case side2 => exact Kd.R_tight rfl HO_704000.out); rintro e w39 ⟨rfl, hy0, hb, hkp⟩; refine ⟨_, rfl, ?_⟩; replace HO_699000 := Aside0.mk (Kd.R_mono (ok' := fun k_ => some k_ ≠ (.slice Ao12 t699.length co12 : Value).ownBlock) (Kd.R_keptB (HO_699000.out) hkp (fun k_ hk_ hs_ => (hk_) hs_)) (fun k_ hk_ => hk_.1)); replace BK698 := Aside0.mk (blk_kept (bk_ BK698) hkp (fun hs_ => (fun e_ => (Kd.R_ne HO_704000.out BK698.out (by decide)) e_) hs_)); replace BK703 := Aside0.mk (blk_kept (bk_ BK703) hkp (fun hs_ => (fun e_ => (Kd.R_ne HO_704000.out BK703.out (by decide)) e_) hs_)); replace HO_704000 := Aside0.mk (Kd.R_reok rfl hy0 (fun k_ e_ => HO_704000.out.1 k_ e_)); replace HB := Aside0.mk (hb); (try clear hb); (try clear hkp); (try clear hy0); have hcz40 := blk_cell BK703.out; have hfz40 := blk_frozen BK703.out) | ((with_reducible refine gate_callee (f := 57) rfl ?_); refine goesL_ (some 38) rfl rfl Try.func57 (by kernel_rfl) rfl #[.agg #[.slice Ao12 t706.length co12], .int .i64 1] rfl (by (try simp only [List.map_toArray, List.map_cons, List.map_nil]); first | done | (rw [show t706.length = t699.length from (Kd.R_reads' HO_704000.out).1.symm] <;> rfl) | rfl | (simp only [List.length_drop, List.length_take]; rfl)) ?_; (with_reducible refine (laws_heldPolicy.calls kj4 _ _ t706 1 t707 _ ?side1 ?side2 A27.out).mono ?_); (case side1 => repeat (first | exact (Kd.R_reads' HO_704000.out).2.2 | (with_reducible refine Kd.C_alloc ?_ _) | (with_reducible refine Kd.C_drewN ?_ _) | (with_reducible refine Kd.C_drew ?_))); (case side2 => rw [show t706.length = t699.length from (Kd.R_reads' HO_704000.out).1.symm]; exact (Kd.R_reads' HO_704000.out).2.1); rintro e w41 ⟨rfl, hb⟩; refine ⟨_, rfl, ?_⟩; replace HO_699000 := Aside0.mk (Kd.R_below (by (with_reducible repeat (first | apply Kd.R_alloc | apply Kd.R_drewN | apply Kd.R_drew)); exact HO_699000.out) hb); replace HO_704000 := Aside0.mk (Kd.R_below (by (with_reducible repeat (first | apply Kd.R_alloc | apply Kd.R_drewN | apply Kd.R_drew)); exact HO_704000.out) hb); replace BK698 := bkb_ BK698 hb; replace BK703 := bkb_ BK703 hb; replace HB := hbs_ hb; clear hb) | ((with_reducible refine gate_callee (f := 56) rfl ?_); refine goesC_ (some 46) Try.func56 #[.string a0] ?_; (with_reducible refine (impl_ReadPolicy.calls kj4 a0 t708 t711 _ A35.out).mono ?_); rintro e w42 ⟨v709, rfl, ho0, hb⟩; refine ⟨_, rfl, ?_⟩; have HO710 := Aside0.mk (Kd.R_lower (Kd.R_new' (Kd.R_new' ho0 (Kd.R_lt (by (with_reducible repeat (first | apply Kd.R_alloc | apply Kd.R_drewN | apply Kd.R_drew)); exact HO_699000.out))) (Kd.R_lt (by (with_reducible repeat (first | apply Kd.R_alloc | apply Kd.R_drewN | apply Kd.R_drew)); exact HO_704000.out))) bls_); replace HO_699000 := Aside0.mk (Kd.R_elder' (by (with_reducible repeat (first | apply Kd.R_alloc | apply Kd.R_drewN | apply Kd.R_drew)); exact HO_699000.out) (Kd.R_base ho0) hb); replace HO_704000 := Aside0.mk (Kd.R_elder' (by (with_reducible repeat (first | apply Kd.R_alloc | apply Kd.R_drewN | apply Kd.R_drew)); exact HO_704000.out) (Kd.R_base ho0) hb); replace BK698 := bkb_ BK698 hb; replace BK703 := bkb_ BK703 hb; replace HB := hbs_ hb; (try clear hb); (try clear hb2); (try clear hk); (try clear hi); (try clear ho0)) | ((with_reducible refine gate_dst (N := 9) rfl ?_); refine box_event ?hg (N := 9) ?hd (cs := #[.slice none 0 0]) (t := 39) ?hr ?_; (case hd => rfl); (case hg => rfl); (case hr => first | (go_simp; done) | (go_simp; rfl)); intro gb712 hg w43 hbox hb; replace HO_699000 := Aside0.mk (Kd.R_below (by (with_reducible repeat (first | apply Kd.R_alloc | apply Kd.R_drewN | apply Kd.R_drew)); exact HO_699000.out) hb); replace HO_704000 := Aside0.mk (Kd.R_below (by (with_reducible repeat (first | apply Kd.R_alloc | apply Kd.R_drewN | apply Kd.R_drew)); exact HO_704000.out) hb); replace HO710 := Aside0.mk (Kd.R_below (by (with_reducible repeat (first | apply Kd.R_alloc | apply Kd.R_drewN | apply Kd.R_drew)); exact HO710.out) hb); have BK712 := Aside0.mk (hbox); have GW712 := gs_ hg; have GE712 := gs_ hg; replace HB := hbs_ hb; have NB698_712 := Aside0.mk ((by rw [hg]; exact Nat.ne_of_lt (blk_lt (g := gb698) (o := .cells #[.slice Ao8 t694.length co8] 39 (0, 0)) (bk_ BK698)) : gb698 ≠ gb712)); have NB712_698 := Aside0.mk ((by rw [hg]; exact Nat.ne_of_gt (blk_lt (g := gb698) (o := .cells #[.slice Ao8 t694.length co8] 39 (0, 0)) (bk_ BK698)) : gb712 ≠ gb698)); replace BK698 := bkb_ BK698 hb; have NB703_712 := Aside0.mk ((by rw [hg]; exact Nat.ne_of_lt (blk_lt (g := gb703) (o := .cells #[.slice Ao12 t699.length co12] 39 (0, 0)) (bk_ BK703)) : gb703 ≠ gb712)); have NB712_703 := Aside0.mk ((by rw [hg]; exact Nat.ne_of_gt (blk_lt (g := gb703) (o := .cells #[.slice Ao12 t699.length co12] 39 (0, 0)) (bk_ BK703)) : gb712 ≠ gb703)); replace BK703 := bkb_ BK703 hb; clear hb hbox hg; obtain ⟨Ao44, co44, eo44⟩ := Kd.R_slice HO710.out; subst eo44; have hnb45 := NB712_698.out; have hnc45 := NB698_712.out; have hnb46 := NB712_703.out; have hnc46 := NB703_712.out; have hcz47 := blk_cell BK712.out; have hfz47 := blk_frozen BK712.out))
       (try simp only [Act.put, List.setIfInBounds_toArray, List.set_cons_zero, List.set_cons_succ])
       go_cut [57] (fun v57 wc => ∃ (kq : Nat) (x57_35 : Bool), v57 = .bool x57_35 ∧ Aside0 (laws_FnExactReadPolicy.j1 kq t705 x57_35 t706 = some r) ∧ Aside0 (kq ≤ kj4) ∧ Aside0 (Kd.R k105 105 wc w.heap.size (fun k_ => some k_ ≠ ((.slice Ao12 t699.length co12) : Value).ownBlock ∧ some k_ ≠ ((.slice Ao44 t708.length co44) : Value).ownBlock) (.slice Ao8 t694.length co8) t694) ∧ Aside0 (Kd.R k105 105 wc w.heap.size (fun k_ => some k_ ≠ ((.slice Ao8 t694.length co8) : Value).ownBlock ∧ some k_ ≠ ((.slice Ao44 t708.length co44) : Value).ownBlock) (.slice Ao12 t699.length co12) t706) ∧ Aside0 (Kd.R k105 105 wc w.heap.size (fun k_ => some k_ ≠ ((.slice Ao8 t694.length co8) : Value).ownBlock ∧ some k_ ≠ ((.slice Ao12 t699.length co12) : Value).ownBlock) (.slice Ao44 t708.length co44) t708) ∧ Aside0 (wc.heap[gb698]? = some (.cells #[(.slice Ao8 t694.length co8)] 39 (0, 0))) ∧ Aside0 (wc.heap[gb703]? = some (.cells #[(.slice Ao12 t699.length co12)] 39 (0, 0))) ∧ Aside0 (wc.heap[gb712]? = some (.cells #[(.slice Ao44 t708.length co44)] 39 (0, 0))) ∧ Aside0 (Below w.heap.size w wc))
       case first =>
        have H := HC36.out
        clear HC36
        obtain ⟨t713, A48, H⟩ := bindE_ H
        by_cases c49 : t713 = true
        ·subst c49
         replace H := ite_t_ H
         have H' := Aside0.mk H
         clear H
         have hnb50 := NB712_698.out
         have hnc50 := NB698_712.out
         have hnb51 := NB712_703.out
         have hnc51 := NB703_712.out
         have hcz52 := blk_cell BK712.out
         have hfz52 := blk_frozen BK712.out
         have hnb53 := NB698_703.out
         have hnc53 := NB703_698.out
         have hcz54 := blk_cell BK698.out
         have hfz54 := blk_frozen BK698.out
         go_wp2_with (first | ((with_reducible refine gate_callee (f := 22) rfl ?_); refine goesC_ (some 51) Try.func22 #[.agg #[.slice Ao44 t708.length co44], .agg #[.slice Ao8 t694.length co8]] ?_; (with_reducible refine (laws_eqPolicy.calls kj4 _ _ t708 _ _ t694 true _ ?side1 ?side2 ?side3 ?side4 A48.out).mono ?_); (case side1 => refine (Kd.R_reads' (e := 105) (base := w.heap.size) (ok := fun k_ => ((True ∧ some k_ ≠ (.slice Ao8 t694.length co8 : Value).ownBlock) ∧ some k_ ≠ (.slice Ao12 t699.length co12 : Value).ownBlock)) (n := t708.length) (c := co44) ?_).2.2; exact (by (with_reducible repeat (first | apply Kd.R_alloc | apply Kd.R_drewN | apply Kd.R_drew)); exact (Kd.R_mono (Kd.R_far (p := ⟨gb712, 0, none⟩) (Kd.R_types HO710.out BK712.out (by decide)) (fun _ hk => hk.2) (.slice Ao44 t708.length co44)) (fun _ h_ => h_.1)))); (case side2 => exact (Kd.R_reads' HO710.out).2.1); (case side3 => refine (Kd.R_reads' (e := 105) (base := w.heap.size) (ok := fun k_ => (some k_ ≠ (.slice Ao12 t699.length co12 : Value).ownBlock ∧ some k_ ≠ (.slice Ao44 t708.length co44 : Value).ownBlock)) (n := t694.length) (c := co8) ?_).2.2; exact (by (with_reducible repeat (first | apply Kd.R_alloc | apply Kd.R_drewN | apply Kd.R_drew)); exact (Kd.R_mono (Kd.R_far (p := ⟨gb712, 0, none⟩) (Kd.R_types HO_699000.out BK712.out (by decide)) (fun _ hk => hk.2) (.slice Ao44 t708.length co44)) (fun _ h_ => h_.1)))); (case side4 => exact (Kd.R_reads' HO_699000.out).2.1); rintro e w55 ⟨rfl, hb⟩; refine ⟨_, rfl, ?_⟩; replace HO_699000 := Aside0.mk (Kd.R_below (by (with_reducible repeat (first | apply Kd.R_alloc | apply Kd.R_drewN | apply Kd.R_drew)); exact (Kd.R_mono (Kd.R_far (p := ⟨gb712, 0, none⟩) (Kd.R_types HO_699000.out BK712.out (by decide)) (fun _ hk => hk.2) (.slice Ao44 t708.length co44)) (fun _ h_ => h_.1))) hb); replace HO_704000 := Aside0.mk (Kd.R_below (by (with_reducible repeat (first | apply Kd.R_alloc | apply Kd.R_drewN | apply Kd.R_drew)); exact (Kd.R_mono (Kd.R_far (p := ⟨gb712, 0, none⟩) (Kd.R_types HO_704000.out BK712.out (by decide)) (fun _ hk => hk.2) (.slice Ao44 t708.length co44)) (fun _ h_ => h_.1))) hb); replace HO710 := Aside0.mk (Kd.R_below (by (with_reducible repeat (first | apply Kd.R_alloc | apply Kd.R_drewN | apply Kd.R_drew)); exact (Kd.R_mono (Kd.R_far (p := ⟨gb712, 0, none⟩) (Kd.R_types HO710.out BK712.out (by decide)) (fun _ hk => hk.2) (.slice Ao44 t708.length co44)) (fun _ h_ => h_.1))) hb); replace BK698 := Aside0.mk (blk_below (g := gb698) (o := .cells #[.slice Ao8 t694.length co8] 39 (0, 0)) (bk_ BK698) hb); replace BK703 := Aside0.mk (blk_below (g := gb703) (o := .cells #[.slice Ao12 t699.length co12] 39 (0, 0)) (bk_ BK703) hb); replace BK712 := Aside0.mk (blk_below (g := gb712) (o := .cells #[.slice Ao44 t708.length co44] 39 (0, 0)) (bk_ BK712) hb); replace HB := hbs_ hb; clear hb))
         go_meet
         case rel => exact ⟨_, ((t711 != t697)), (by first | rfl | (simp; done) | (simp [*]; done)), H', ⟨by have := HJ4.out; first | omega | exact Nat.le_refl _⟩, ⟨by (with_reducible repeat (first | apply Kd.R_alloc | apply Kd.R_drewN | apply Kd.R_drew)); exact HO_699000.out⟩, ⟨by (with_reducible repeat (first | apply Kd.R_alloc | apply Kd.R_drewN | apply Kd.R_drew)); exact HO_704000.out⟩, ⟨by (with_reducible repeat (first | apply Kd.R_alloc | apply Kd.R_drewN | apply Kd.R_drew)); exact Kd.R_mono HO710.out (fun _ hk => ⟨hk.1.2, hk.2⟩)⟩, ⟨bk_ BK698⟩, ⟨bk_ BK703⟩, ⟨bk_ BK712⟩, ⟨bl_⟩⟩
        ·replace c49 := Bool.eq_false_iff.mpr c49
         subst c49
         replace H := ite_f_ H
         have H' := Aside0.mk H
         clear H
         have hnb56 := NB712_698.out
         have hnc56 := NB698_712.out
         have hnb57 := NB712_703.out
         have hnc57 := NB703_712.out
         have hcz58 := blk_cell BK712.out
         have hfz58 := blk_frozen BK712.out
         have hnb59 := NB698_703.out
         have hnc59 := NB703_698.out
         have hcz60 := blk_cell BK698.out
         have hfz60 := blk_frozen BK698.out
         go_wp2_with (first | ((with_reducible refine gate_callee (f := 22) rfl ?_); refine goesC_ (some 51) Try.func22 #[.agg #[.slice Ao44 t708.length co44], .agg #[.slice Ao8 t694.length co8]] ?_; (with_reducible refine (laws_eqPolicy.calls kj4 _ _ t708 _ _ t694 false _ ?side1 ?side2 ?side3 ?side4 A48.out).mono ?_); (case side1 => refine (Kd.R_reads' (e := 105) (base := w.heap.size) (ok := fun k_ => ((True ∧ some k_ ≠ (.slice Ao8 t694.length co8 : Value).ownBlock) ∧ some k_ ≠ (.slice Ao12 t699.length co12 : Value).ownBlock)) (n := t708.length) (c := co44) ?_).2.2; exact (by (with_reducible repeat (first | apply Kd.R_alloc | apply Kd.R_drewN | apply Kd.R_drew)); exact (Kd.R_mono (Kd.R_far (p := ⟨gb712, 0, none⟩) (Kd.R_types HO710.out BK712.out (by decide)) (fun _ hk => hk.2) (.slice Ao44 t708.length co44)) (fun _ h_ => h_.1)))); (case side2 => exact (Kd.R_reads' HO710.out).2.1); (case side3 => refine (Kd.R_reads' (e := 105) (base := w.heap.size) (ok := fun k_ => (some k_ ≠ (.slice Ao12 t699.length co12 : Value).ownBlock ∧ some k_ ≠ (.slice Ao44 t708.length co44 : Value).ownBlock)) (n := t694.length) (c := co8) ?_).2.2; exact (by (with_reducible repeat (first | apply Kd.R_alloc | apply Kd.R_drewN | apply Kd.R_drew)); exact (Kd.R_mono (Kd.R_far (p := ⟨gb712, 0, none⟩) (Kd.R_types HO_699000.out BK712.out (by decide)) (fun _ hk => hk.2) (.slice Ao44 t708.length co44)) (fun _ h_ => h_.1)))); (case side4 => exact (Kd.R_reads' HO_699000.out).2.1); rintro e w61 ⟨rfl, hb⟩; refine ⟨_, rfl, ?_⟩; replace HO_699000 := Aside0.mk (Kd.R_below (by (with_reducible repeat (first | apply Kd.R_alloc | apply Kd.R_drewN | apply Kd.R_drew)); exact (Kd.R_mono (Kd.R_far (p := ⟨gb712, 0, none⟩) (Kd.R_types HO_699000.out BK712.out (by decide)) (fun _ hk => hk.2) (.slice Ao44 t708.length co44)) (fun _ h_ => h_.1))) hb); replace HO_704000 := Aside0.mk (Kd.R_below (by (with_reducible repeat (first | apply Kd.R_alloc | apply Kd.R_drewN | apply Kd.R_drew)); exact (Kd.R_mono (Kd.R_far (p := ⟨gb712, 0, none⟩) (Kd.R_types HO_704000.out BK712.out (by decide)) (fun _ hk => hk.2) (.slice Ao44 t708.length co44)) (fun _ h_ => h_.1))) hb); replace HO710 := Aside0.mk (Kd.R_below (by (with_reducible repeat (first | apply Kd.R_alloc | apply Kd.R_drewN | apply Kd.R_drew)); exact (Kd.R_mono (Kd.R_far (p := ⟨gb712, 0, none⟩) (Kd.R_types HO710.out BK712.out (by decide)) (fun _ hk => hk.2) (.slice Ao44 t708.length co44)) (fun _ h_ => h_.1))) hb); replace BK698 := Aside0.mk (blk_below (g := gb698) (o := .cells #[.slice Ao8 t694.length co8] 39 (0, 0)) (bk_ BK698) hb); replace BK703 := Aside0.mk (blk_below (g := gb703) (o := .cells #[.slice Ao12 t699.length co12] 39 (0, 0)) (bk_ BK703) hb); replace BK712 := Aside0.mk (blk_below (g := gb712) (o := .cells #[.slice Ao44 t708.length co44] 39 (0, 0)) (bk_ BK712) hb); replace HB := hbs_ hb; clear hb))
         go_meet
         case rel => exact ⟨_, (true), (by first | rfl | (simp; done) | (simp [*]; done)), H', ⟨by have := HJ4.out; first | omega | exact Nat.le_refl _⟩, ⟨by (with_reducible repeat (first | apply Kd.R_alloc | apply Kd.R_drewN | apply Kd.R_drew)); exact HO_699000.out⟩, ⟨by (with_reducible repeat (first | apply Kd.R_alloc | apply Kd.R_drewN | apply Kd.R_drew)); exact HO_704000.out⟩, ⟨by (with_reducible repeat (first | apply Kd.R_alloc | apply Kd.R_drewN | apply Kd.R_drew)); exact Kd.R_mono HO710.out (fun _ hk => ⟨hk.1.2, hk.2⟩)⟩, ⟨bk_ BK698⟩, ⟨bk_ BK703⟩, ⟨bk_ BK712⟩, ⟨bl_⟩⟩
       case rest =>
        clear HC36
        try clear c1
        try clear c2
        try clear c2b0
        try clear c2b1
        try clear p2
        try clear c3
        try clear c4
        try clear c5
        try clear c11
        try clear c13
        try clear c16
        try clear c17
        try clear c21
        try clear c22
        try clear c25
        try clear c28
        try clear c28b0
        try clear c29
        try clear c34
        try clear c34b0
        try clear c34b1
        try clear c37
        try clear c45
        try clear c46
        try clear c49
        try clear c50
        try clear c51
        try clear c52
        try clear c53
        try clear c55
        try clear c56
        try clear c57
        try clear c59
        try clear hcz14
        try clear hcz18
        try clear hcz19
        try clear hcz22
        try clear hcz23
        try clear hcz30
        try clear hcz32
        try clear hcz38
        try clear hcz40
        try clear hcz47
        try clear hcz52
        try clear hcz54
        try clear hcz58
        try clear hcz60
        try clear hcz9
        try clear hfz14
        try clear hfz18
        try clear hfz19
        try clear hfz22
        try clear hfz23
        try clear hfz30
        try clear hfz32
        try clear hfz38
        try clear hfz40
        try clear hfz47
        try clear hfz52
        try clear hfz54
        try clear hfz58
        try clear hfz60
        try clear hfz9
        try clear p2
        obtain ⟨kq, x57_35, rfl, HA, HJ35, HO_699000, HO_704000, HO_713000, BK698, BK703, BK712, HB⟩ := hcut
        have hl704000_35 := (Kd.R_reads' HO_704000.out).1
        rw [hl704000_35] at HO_704000
        (try simp only [hl704000_35])
        (try simp only [hl704000_35] at BK698)
        (try simp only [hl704000_35] at BK703)
        (try simp only [hl704000_35] at BK712)
        (try simp only [hl704000_35] at HO_699000)
        (try simp only [hl704000_35] at HO_713000)
        cases kq with
        | zero => exact absurd HA.out (by simp [laws_FnExactReadPolicy.j1])
        | succ kj35 =>
         have H := HA.out
         clear HA
         simp only [laws_FnExactReadPolicy.j1] at H
         by_cases c62 : x57_35 = true
         ·subst c62
          replace H := ite_t_ H
          obtain rfl := Option.some.inj H
          go_wp2
          go_ret
          exact ⟨eq_, bl_⟩
         ·replace c62 := Bool.eq_false_iff.mpr c62
          subst c62
          replace H := ite_f_ H
          obtain ⟨t714, A63, H⟩ := bindE_ H
          by_cases c64 : t714 < 0
          ·rw [if_pos c64] at H
           have c64b0 : decide (t714 < 0) = true := decide_eq_true c64
           clear c64
           obtain rfl := Option.some.inj H
           have hnb65 := NB703_698.out
           have hnc65 := NB698_703.out
           have hnb66 := NB703_712.out
           have hnc66 := NB712_703.out
           have hcz67 := blk_cell BK703.out
           have hfz67 := blk_frozen BK703.out
           go_wp2_with (first | ((with_reducible refine gate_callee (f := 57) rfl ?_); refine goesC_ (some 60) Try.func57 #[.agg #[.slice Ao12 t706.length co12], .int .i64 1] ?_; (with_reducible refine (laws_heldPolicy.calls kj35 _ _ t706 1 t714 _ ?side1 ?side2 A63.out).mono ?_); (case side1 => repeat (first | exact (Kd.R_reads' HO_704000.out).2.2 | (with_reducible refine Kd.C_alloc ?_ _) | (with_reducible refine Kd.C_drewN ?_ _) | (with_reducible refine Kd.C_drew ?_))); (case side2 => exact (Kd.R_reads' HO_704000.out).2.1); rintro e w68 ⟨rfl, hb⟩; refine ⟨_, rfl, ?_⟩; replace HO_699000 := Aside0.mk (Kd.R_below (by (with_reducible repeat (first | apply Kd.R_alloc | apply Kd.R_drewN | apply Kd.R_drew)); exact HO_699000.out) hb); replace HO_704000 := Aside0.mk (Kd.R_below (by (with_reducible repeat (first | apply Kd.R_alloc | apply Kd.R_drewN | apply Kd.R_drew)); exact HO_704000.out) hb); replace HO_713000 := Aside0.mk (Kd.R_below (by (with_reducible repeat (first | apply Kd.R_alloc | apply Kd.R_drewN | apply Kd.R_drew)); exact HO_713000.out) hb); replace BK698 := bkb_ BK698 hb; replace BK703 := bkb_ BK703 hb; replace BK712 := bkb_ BK712 hb; replace HB := hbs_ hb; clear hb))
           go_ret
           exact ⟨eq_, bl_⟩
          ·rw [if_neg c64] at H
           have c64b0 : decide (t714 < 0) = false := decide_eq_false c64
           clear c64
           by_cases c69 : t714 = t705
           ·rw [if_pos c69] at H
            have c69b0 : (t714 == t705) = true := beq_iff_eq.mpr c69
            have c69b1 : (t714 != t705) = false := bne_eq_false_iff_eq.mpr c69
            clear c69
            obtain rfl := Option.some.inj H
            have hnb70 := NB703_698.out
            have hnc70 := NB698_703.out
            have hnb71 := NB703_712.out
            have hnc71 := NB712_703.out
            have hcz72 := blk_cell BK703.out
            have hfz72 := blk_frozen BK703.out
            go_wp2_with (first | ((with_reducible refine gate_callee (f := 57) rfl ?_); refine goesC_ (some 60) Try.func57 #[.agg #[.slice Ao12 t706.length co12], .int .i64 1] ?_; (with_reducible refine (laws_heldPolicy.calls kj35 _ _ t706 1 t714 _ ?side1 ?side2 A63.out).mono ?_); (case side1 => repeat (first | exact (Kd.R_reads' HO_704000.out).2.2 | (with_reducible refine Kd.C_alloc ?_ _) | (with_reducible refine Kd.C_drewN ?_ _) | (with_reducible refine Kd.C_drew ?_))); (case side2 => exact (Kd.R_reads' HO_704000.out).2.1); rintro e w73 ⟨rfl, hb⟩; refine ⟨_, rfl, ?_⟩; replace HO_699000 := Aside0.mk (Kd.R_below (by (with_reducible repeat (first | apply Kd.R_alloc | apply Kd.R_drewN | apply Kd.R_drew)); exact HO_699000.out) hb); replace HO_704000 := Aside0.mk (Kd.R_below (by (with_reducible repeat (first | apply Kd.R_alloc | apply Kd.R_drewN | apply Kd.R_drew)); exact HO_704000.out) hb); replace HO_713000 := Aside0.mk (Kd.R_below (by (with_reducible repeat (first | apply Kd.R_alloc | apply Kd.R_drewN | apply Kd.R_drew)); exact HO_713000.out) hb); replace BK698 := bkb_ BK698 hb; replace BK703 := bkb_ BK703 hb; replace BK712 := bkb_ BK712 hb; replace HB := hbs_ hb; clear hb))
            go_ret
            exact ⟨eq_, bl_⟩
           ·rw [if_neg c69] at H
            have c69b0 : (t714 == t705) = false := beq_eq_false_iff_ne.mpr c69
            have c69b1 : (t714 != t705) = true := bne_iff_ne.mpr c69
            obtain rfl := Option.some.inj H
            have hnb74 := NB703_698.out
            have hnc74 := NB698_703.out
            have hnb75 := NB703_712.out
            have hnc75 := NB712_703.out
            have hcz76 := blk_cell BK703.out
            have hfz76 := blk_frozen BK703.out
            go_wp2_with (first | ((with_reducible refine gate_callee (f := 57) rfl ?_); refine goesC_ (some 60) Try.func57 #[.agg #[.slice Ao12 t706.length co12], .int .i64 1] ?_; (with_reducible refine (laws_heldPolicy.calls kj35 _ _ t706 1 t714 _ ?side1 ?side2 A63.out).mono ?_); (case side1 => repeat (first | exact (Kd.R_reads' HO_704000.out).2.2 | (with_reducible refine Kd.C_alloc ?_ _) | (with_reducible refine Kd.C_drewN ?_ _) | (with_reducible refine Kd.C_drew ?_))); (case side2 => exact (Kd.R_reads' HO_704000.out).2.1); rintro e w77 ⟨rfl, hb⟩; refine ⟨_, rfl, ?_⟩; replace HO_699000 := Aside0.mk (Kd.R_below (by (with_reducible repeat (first | apply Kd.R_alloc | apply Kd.R_drewN | apply Kd.R_drew)); exact HO_699000.out) hb); replace HO_704000 := Aside0.mk (Kd.R_below (by (with_reducible repeat (first | apply Kd.R_alloc | apply Kd.R_drewN | apply Kd.R_drew)); exact HO_704000.out) hb); replace HO_713000 := Aside0.mk (Kd.R_below (by (with_reducible repeat (first | apply Kd.R_alloc | apply Kd.R_drewN | apply Kd.R_drew)); exact HO_713000.out) hb); replace BK698 := bkb_ BK698 hb; replace BK703 := bkb_ BK703 hb; replace BK712 := bkb_ BK712 hb; replace HB := hbs_ hb; clear hb))
            go_ret
            exact ⟨eq_, bl_⟩
      ·rw [if_neg c34] at H
       have c34b0 : (t707 == t705) = false := beq_eq_false_iff_ne.mpr c34
       have c34b1 : (t707 != t705) = true := bne_iff_ne.mpr c34
       obtain rfl := Option.some.inj H
       have hnb78 := NB703_698.out
       have hnc78 := NB698_703.out
       have hcz79 := blk_cell BK703.out
       have hfz79 := blk_frozen BK703.out
       go_wp2_with (first | ((with_reducible refine gate_callee (f := 52) rfl ?_); refine goesC_ (some 35) Try.func52 #[.agg #[.slice Ao12 t699.length co12], .int .i64 1] ?_; (with_reducible refine (laws_markPolicy.calls kj4 (fun k_ => some k_ = (.slice Ao12 t699.length co12 : Value).ownBlock) (.slice Ao12 t699.length co12) t699 1 t705 t706 w _ ?side1 ?side2 A26.out).mono ?_); (case side1 => repeat (first | (with_reducible first | exact HB.out | apply below_alloc | apply pw_below_drewN | apply below_drew1 | refine below_set ?_ GE698.out | refine below_set ?_ GE703.out) | exact HB.out)); (case side2 => exact Kd.R_tight rfl HO_704000.out); rintro e w80 ⟨rfl, hy0, hb, hkp⟩; refine ⟨_, rfl, ?_⟩; replace HO_699000 := Aside0.mk (Kd.R_mono (ok' := fun k_ => some k_ ≠ (.slice Ao12 t699.length co12 : Value).ownBlock) (Kd.R_keptB (HO_699000.out) hkp (fun k_ hk_ hs_ => (hk_) hs_)) (fun k_ hk_ => hk_.1)); replace BK698 := Aside0.mk (blk_kept (bk_ BK698) hkp (fun hs_ => (fun e_ => (Kd.R_ne HO_704000.out BK698.out (by decide)) e_) hs_)); replace BK703 := Aside0.mk (blk_kept (bk_ BK703) hkp (fun hs_ => (fun e_ => (Kd.R_ne HO_704000.out BK703.out (by decide)) e_) hs_)); replace HO_704000 := Aside0.mk (Kd.R_reok rfl hy0 (fun k_ e_ => HO_704000.out.1 k_ e_)); replace HB := Aside0.mk (hb); (try clear hb); (try clear hkp); (try clear hy0); have hcz81 := blk_cell BK703.out; have hfz81 := blk_frozen BK703.out) | ((with_reducible refine gate_callee (f := 57) rfl ?_); refine goesL_ (some 38) rfl rfl Try.func57 (by kernel_rfl) rfl #[.agg #[.slice Ao12 t706.length co12], .int .i64 1] rfl (by (try simp only [List.map_toArray, List.map_cons, List.map_nil]); first | done | (rw [show t706.length = t699.length from (Kd.R_reads' HO_704000.out).1.symm] <;> rfl) | rfl | (simp only [List.length_drop, List.length_take]; rfl)) ?_; (with_reducible refine (laws_heldPolicy.calls kj4 _ _ t706 1 t707 _ ?side1 ?side2 A27.out).mono ?_); (case side1 => repeat (first | exact (Kd.R_reads' HO_704000.out).2.2 | (with_reducible refine Kd.C_alloc ?_ _) | (with_reducible refine Kd.C_drewN ?_ _) | (with_reducible refine Kd.C_drew ?_))); (case side2 => rw [show t706.length = t699.length from (Kd.R_reads' HO_704000.out).1.symm]; exact (Kd.R_reads' HO_704000.out).2.1); rintro e w82 ⟨rfl, hb⟩; refine ⟨_, rfl, ?_⟩; replace HO_699000 := Aside0.mk (Kd.R_below (by (with_reducible repeat (first | apply Kd.R_alloc | apply Kd.R_drewN | apply Kd.R_drew)); exact HO_699000.out) hb); replace HO_704000 := Aside0.mk (Kd.R_below (by (with_reducible repeat (first | apply Kd.R_alloc | apply Kd.R_drewN | apply Kd.R_drew)); exact HO_704000.out) hb); replace BK698 := bkb_ BK698 hb; replace BK703 := bkb_ BK703 hb; replace HB := hbs_ hb; clear hb))
       go_ret
       exact ⟨eq_, bl_⟩
end Go.Proofs.Ytcgnegnljffkmaa.PA
