import Derived.Test.YtamhfnedknjjbaaKTPBx2
import Derived.Test.YtamhfnedknjjbaaKTPBx15
-- printed by wip/tools
namespace Go.Proofs.Ytamhfnedknjjbaa.PB
open Go.RowKit Go.Proofs.YtamhfnedknjjbaaW.PrintWords Go.Proofs.YtamhfnedknjjbaaW.PrintLast Go.Proofs.YtamhfnedknjjbaaW.PrintMore
attribute [local go_sem] max2_int min2_int max_two min_two max_three min_three max_four min_four
set_option linter.unusedVariables false
set_option linter.unusedSimpArgs false
attribute [local go_sem high] eqA49
mutual
def spec_ReachRoles.l0 : Nat → List (S49) → List (S26) → Int → Option ((List (S26)))
 | 0, _, _, _ => none
 | k + 1, x0, x5, x6 => if x6 < (x5.length : Int) then (if 0 ≤ x6 then ((spec_LeansOn.f k x0 ((rd_T26 x5 x6).f0) ((rd_T26 x5 x6).f1)).bind fun t607 => (spec_ReachRoles.l1 k x0 x5 x6 t607 0)) else (none)) else (some x5)
def spec_ReachRoles.l1 : Nat → List (S49) → List (S26) → Int → List (S26) → Int → Option ((List (S26)))
 | 0, _, _, _, _, _ => none
 | k + 1, x0, x5, x6, x7, x8 => if x8 < (x7.length : Int) then (if 0 ≤ x8 then ((spec_l18Add.f k x5 ((rd_T26 x7 x8).f0) ((rd_T26 x7 x8).f1)).bind fun t611 => (spec_ReachRoles.l1 k x0 t611 x6 x7 (wrap64 (x8 + 1)))) else (none)) else (spec_ReachRoles.l0 k x0 x5 (wrap64 (x6 + 1)))
end
def spec_ReachRoles.f (k : Nat) (l0 : List (S49)) (a1_0 : Int) (a1_1 : Int) : Option ((List (S26))) := (spec_LeansOn.f k l0 a1_0 a1_1).bind fun t603 => (spec_ReachRoles.l0 k l0 t603 0)
set_option maxHeartbeats 8000000 in
set_option maxRecDepth 100000 in
theorem spec_ReachRoles.calls (k : Nat) (A0 : Option Addr) (c0 : Nat) (l0 : List (S49)) (a1_0 : Int) (a1_1 : Int) (r : List (S26)) (w : World) (hr0 : Kd.C k49 w A0 l0.length l0) (hc0 : l0.length ≤ c0) (h : spec_ReachRoles.f k l0 a1_0 a1_1 = some r) :
  Calls Try.prog 13 #[.slice A0 l0.length c0, .agg #[.int .i64 a1_0, .int .i64 a1_1]] w fun e w' => ∃ v0_ : Value, e = .returned (v0_) ∧ Kd.R k26 26 w' w.heap.size (fun _ => True) v0_ r ∧ Below w.heap.size w w' := by
 have hu26 := Try.underlying26
 have HR0 := Aside0.mk hr0
 have HC0 := Aside0.mk hc0
 clear hr0 hc0
 have HB := Aside0.mk (Below.refl w.heap.size w)
 have H : ((spec_LeansOn.f k l0 a1_0 a1_1).bind fun t603 => (spec_ReachRoles.l0 k l0 t603 0)) = some r := h
 clear h
 obtain ⟨t603, A3, H⟩ := bindE_ H
 have H' := Aside0.mk H
 clear H
 go_enter Try.func13, Try.ntmps13
 go_wp2_with (first | ((with_reducible refine gate_dst (N := 3) rfl ?_); refine box_event ?hg (N := 3) ?hd (cs := #[.int .i64 a1_0, .int .i64 a1_1]) (t := 26) ?hr ?_; (case hd => rfl); (case hg => rfl); (case hr => first | (go_simp; done) | (go_simp; rfl)); intro gb602 hg w4 hbox hb; have BK602 := Aside0.mk (hbox); have GW602 := gs_ hg; have GE602 := gs_ hg; replace HB := hbs_ hb; clear hb hbox hg; obtain ⟨hcz5, hfz5⟩ := bcf_ BK602) | ((with_reducible refine gate_callee (f := 11) rfl ?_); refine goesC_ (some 11) Try.func11 #[.slice A0 l0.length c0, .agg #[.int .i64 a1_0, .int .i64 a1_1]] ?_; (with_reducible refine (spec_LeansOn.calls k _ _ l0 a1_0 a1_1 t603 _ ?side1 ?side2 A3.out).mono ?_); (case side1 => repeat (first | exact (Kd.C_below HR0.out HB.out) | (with_reducible refine Kd.C_alloc ?_ _) | (with_reducible refine Kd.C_drewN ?_ _) | (with_reducible refine Kd.C_drew ?_))); (case side2 => exact HC0.out); rintro e w6 ⟨v604, rfl, ho0, hb⟩; refine ⟨_, rfl, ?_⟩; have HO605 := Aside0.mk (Kd.R_lower (Kd.R_newB ho0 (g := gb602) (o := .cells #[.int .i64 a1_0, .int .i64 a1_1] 26 (0, 0)) (bk_ BK602)) bls_); replace BK602 := bkb_ BK602 hb; replace HB := hbs_ hb; (try clear hb ho0)))
 go_loopg [5, 6] k (fun kq v5 v6 w' => ∃ (x5_1 : List (S26)) (x6_1 : Int), v6 = .int .i64 x6_1 ∧ Aside0 (spec_ReachRoles.l0 kq l0 x5_1 x6_1 = some r) ∧ Aside0 (kq ≤ k) ∧ Aside0 (Kd.R k26 26 w' w.heap.size (fun k_ => k_ ≠ gb602) v5 x5_1) ∧ Aside0 (w'.heap[gb602]? = some (.cells #[.int .i64 a1_0, .int .i64 a1_1] 26 (0, 0))) ∧ Aside0 (Below w.heap.size w w'))
 case atStart => exact ⟨(t603), (0), rf_, H', ⟨Nat.le_refl _⟩, ⟨by (with_reducible repeat (first | apply Kd.R_alloc | apply Kd.R_drewN | apply Kd.R_drew)); exact Kd.R_mono HO605.out (fun _ hk => hk.2)⟩, ⟨bk_ BK602⟩, ⟨bl_⟩⟩
 case round =>
  clear H'
  try clear c1
  try clear p2
  try clear hcz5
  try clear hfz5
  obtain ⟨x5_1, x6_1, rfl, HA, HK1, HO_5, BK602, HB⟩ := hrel
  cases gk with
  | zero => exact absurd HA.out (by simp [spec_ReachRoles.l0])
  | succ k1 =>
   have H := HA.out
   clear HA
   simp only [spec_ReachRoles.l0] at H
   by_cases c7 : x6_1 < (x5_1.length : Int)
   ·rw [if_pos c7] at H
    have c7b0 : decide (x6_1 < (x5_1.length : Int)) = true := decide_eq_true c7
    clear c7
    obtain ⟨c8b0, H⟩ := ifd_ H
    obtain ⟨t607, A9, H⟩ := bindE_ H
    have H' := Aside0.mk H
    clear H
    obtain ⟨Ao10, co10, eo10⟩ := Kd.R_slice HO_5.out
    subst eo10
    have p606 : 0 ≤ (x6_1 : Int) := od_
    have q606 : x6_1 < (x5_1.length : Int) := od_
    obtain ⟨ad606, e606, hx606_0, hx606_1⟩ := at_T26 (Kd.R_reads' HO_5.out).2.2 x6_1 p606 q606
    cases e606
    replace p606 := eq_true p606
    replace q606 := eq_true q606
    go_wp2_with (first | ((with_reducible refine gate_callee (f := 11) rfl ?_); refine goesC_ (some 23) Try.func11 #[.slice A0 l0.length c0, .agg #[.int .i64 ((rd_T26 x5_1 x6_1).f0), .int .i64 ((rd_T26 x5_1 x6_1).f1)]] ?_; (with_reducible refine (spec_LeansOn.calls k1 _ _ l0 ((rd_T26 x5_1 x6_1).f0) ((rd_T26 x5_1 x6_1).f1) t607 _ ?side1 ?side2 A9.out).mono ?_); (case side1 => repeat (first | exact (Kd.C_below HR0.out HB.out) | (with_reducible refine Kd.C_alloc ?_ _) | (with_reducible refine Kd.C_drewN ?_ _) | (with_reducible refine Kd.C_drew ?_))); (case side2 => exact HC0.out); rintro e w11 ⟨v608, rfl, ho0, hb⟩; refine ⟨_, rfl, ?_⟩; have HO609 := Aside0.mk (Kd.R_lower (Kd.R_newB (Kd.R_new' ho0 (Kd.R_lt (rr_ HO_5))) (g := gb602) (o := .cells #[.int .i64 a1_0, .int .i64 a1_1] 26 (0, 0)) (bk_ BK602)) bls_); replace HO_5 := Aside0.mk (Kd.R_elder' (rr_ HO_5) (Kd.R_base ho0) hb); replace BK602 := bkb_ BK602 hb; replace HB := hbs_ hb; (try clear hb ho0)))
    go_loopg [5, 8] k1 (fun kq v5 v8 w' => ∃ (x5_2 : List (S26)) (x8_2 : Int), v8 = .int .i64 x8_2 ∧ Aside0 (spec_ReachRoles.l1 kq l0 x5_2 x6_1 t607 x8_2 = some r) ∧ Aside0 (kq ≤ k1) ∧ Aside0 (Kd.R k26 26 w' w.heap.size (fun k_ => some k_ ≠ (v608 : Value).ownBlock ∧ k_ ≠ gb602) v5 x5_2) ∧ Aside0 (Kd.R k26 26 w' w.heap.size (fun k_ => some k_ ≠ (v5 : Value).ownBlock ∧ k_ ≠ gb602) v608 t607) ∧ Aside0 (w'.heap[gb602]? = some (.cells #[.int .i64 a1_0, .int .i64 a1_1] 26 (0, 0))) ∧ Aside0 (Below w.heap.size w w'))
    case atStart => exact ⟨(x5_1), (0), rf_, H', ⟨Nat.le_refl _⟩, ⟨by (with_reducible repeat (first | apply Kd.R_alloc | apply Kd.R_drewN | apply Kd.R_drew)); exact Kd.R_mono HO_5.out (fun _ hk => ⟨hk.2, hk.1⟩)⟩, ⟨by (with_reducible repeat (first | apply Kd.R_alloc | apply Kd.R_drewN | apply Kd.R_drew)); exact Kd.R_mono HO609.out (fun _ hk => ⟨hk.1.2, hk.2⟩)⟩, ⟨bk_ BK602⟩, ⟨bl_⟩⟩
    case round =>
     clear H'
     try clear c1
     try clear p2
     try clear p6
     try clear q6
     try clear hx6
     try clear c7
     try clear c7b0
     try clear c8
     try clear c8b0
     try clear c11
     try clear hcz5
     try clear hfz5
     try clear hx606_0
     try clear hx606_1
     try clear p2
     try clear p606
     try clear q606
     obtain ⟨x5_2, x8_2, rfl, HA, HK2, HO_5, HO_7, BK602, HB⟩ := hrel
     cases gk with
     | zero => exact absurd HA.out (by simp [spec_ReachRoles.l1])
     | succ k2 =>
      have H := HA.out
      clear HA
      simp only [spec_ReachRoles.l1] at H
      by_cases c12 : x8_2 < (t607.length : Int)
      ·rw [if_pos c12] at H
       have c12b0 : decide (x8_2 < (t607.length : Int)) = true := decide_eq_true c12
       clear c12
       obtain ⟨c13b0, H⟩ := ifd_ H
       obtain ⟨t611, A14, H⟩ := bindE_ H
       have H' := Aside0.mk H
       clear H
       obtain ⟨Ao15, co15, eo15⟩ := Kd.R_slice HO_7.out
       subst eo15
       have p610 : 0 ≤ (x8_2 : Int) := od_
       have q610 : x8_2 < (t607.length : Int) := od_
       obtain ⟨ad610, e610, hx610_0, hx610_1⟩ := at_T26 (Kd.R_reads' HO_7.out).2.2 x8_2 p610 q610
       cases e610
       replace p610 := eq_true p610
       replace q610 := eq_true q610
       obtain ⟨Ao16, co16, eo16⟩ := Kd.R_slice HO_5.out
       subst eo16
       go_wp2_with (first | ((with_reducible refine gate_callee (f := 35) rfl ?_); refine goesC_ (some 35) Try.func35 #[.slice Ao16 x5_2.length co16, .agg #[.int .i64 ((rd_T26 t607 x8_2).f0), .int .i64 ((rd_T26 t607 x8_2).f1)]] ?_; (with_reducible refine (spec_l18Add.calls k2 (fun k_ => some k_ = (.slice Ao16 x5_2.length co16 : Value).ownBlock) (.slice Ao16 x5_2.length co16) x5_2 ((rd_T26 t607 x8_2).f0) ((rd_T26 t607 x8_2).f1) t611 w _ ?side1 ?side2 A14.out).mono ?_); (case side1 => repeat (first | (with_reducible first | exact HB.out | apply below_alloc | apply pw_below_drewN | apply below_drew1 | refine below_set ?_ GE602.out) | exact HB.out)); (case side2 => exact Kd.R_tight rfl HO_5.out); rintro e w17 ⟨v612, rfl, ho0, hb, hkp⟩; refine ⟨_, rfl, ?_⟩; have HO613 := Aside0.mk (Kd.R_mono (ok' := fun k_ => some k_ ≠ (.slice (some ad610) t607.length co15 : Value).ownBlock ∧ k_ ≠ gb602) ho0 (fun k_ hk_ => ⟨Or.elim hk_ (fun hs_ => fun e_ => (((HO_7.out).1 k_ e_.symm).1) hs_) (fun hn_ => (Kd.fresh' (Kd.R_lt (rr_ HO_7)) k_ hn_)), Or.elim hk_ (fun hs_ => fun e_ => (Kd.R_away HO_5.out (fun _ hk => hk.2)) (by rw [← e_]; exact hs_)) (fun hn_ => (Kd.freshB (g := gb602) (o := .cells #[.int .i64 a1_0, .int .i64 a1_1] 26 (0, 0)) (bk_ BK602) k_ hn_))⟩)); replace HO_7 := Aside0.mk (Kd.R_mono (ok' := fun k_ => k_ ≠ gb602 ∧ some k_ ≠ (v612 : Value).ownBlock) (Kd.R_keptB (HO_7.out) hkp (fun k_ hk_ hs_ => (hk_.1) hs_)) (fun k_ hk_ => ⟨hk_.1.2, fun e_ => Or.elim (ho0.1 k_ e_.symm) (fun hs_ => hk_.2.1 hs_) (fun hn_ => Nat.not_le.2 hk_.2.2 hn_)⟩)); replace BK602 := Aside0.mk (blk_kept (bk_ BK602) hkp (fun hs_ => (fun e_ => (Kd.R_away HO_5.out (fun _ hk => hk.2)) e_) hs_)); replace HB := Aside0.mk (hb); clear HO_5; (try clear hb hkp ho0)))
       go_roundg k2
       case measure => have := HK1.out; have := HK2.out; omega
       case rel => exact ⟨(t611), (wrap64 (x8_2 + 1)), rf_, H', ⟨by have := HK1.out; have := HK2.out; omega⟩, ⟨rr_ HO613⟩, ⟨by (with_reducible repeat (first | apply Kd.R_alloc | apply Kd.R_drewN | apply Kd.R_drew)); exact Kd.R_mono HO_7.out (fun _ hk => ⟨hk.2, hk.1⟩)⟩, ⟨bk_ BK602⟩, ⟨bl_⟩⟩
      ·rw [if_neg c12] at H
       have c12b0 : decide (x8_2 < (t607.length : Int)) = false := decide_eq_false c12
       clear c12
       have H' := Aside0.mk H
       clear H
       obtain ⟨Ao18, co18, eo18⟩ := Kd.R_slice HO_7.out
       subst eo18
       go_wp2
       go_roundg k2
       case measure => have := HK1.out; have := HK2.out; omega
       case rel => exact ⟨(x5_2), (wrap64 (x6_1 + 1)), rf_, H', ⟨by have := HK1.out; have := HK2.out; omega⟩, ⟨by (with_reducible repeat (first | apply Kd.R_alloc | apply Kd.R_drewN | apply Kd.R_drew)); exact Kd.R_mono HO_5.out (fun _ hk => hk.2)⟩, ⟨bk_ BK602⟩, ⟨bl_⟩⟩
   ·rw [if_neg c7] at H
    have c7b0 : decide (x6_1 < (x5_1.length : Int)) = false := decide_eq_false c7
    clear c7
    obtain rfl := Option.some.inj H
    obtain ⟨Ao19, co19, eo19⟩ := Kd.R_slice HO_5.out
    subst eo19
    go_wp2
    go_ret
    exact ⟨_, eq_, by (with_reducible repeat (first | apply Kd.R_alloc | apply Kd.R_drewN | apply Kd.R_drew)); exact Kd.R_mono HO_5.out (fun _ hk => trivial), bl_⟩
mutual
def impl_RoundRoles.l0 : Nat → List (S49) → List (S26) → Int → Option ((List (S26)))
 | 0, _, _, _ => none
 | k + 1, x0, x3, x8 => if x8 < 6 then (impl_RoundRoles.l1 k x0 x3 x8 x8 0) else (some x3)
def impl_RoundRoles.l1 : Nat → List (S49) → List (S26) → Int → Int → Int → Option ((List (S26)))
 | 0, _, _, _, _, _ => none
 | k + 1, x0, x3, x4, x8, x11 => if x11 < 4 then ((impl_ReachRoles.f k x0 x4 x11).bind fun t618 => ((impl_Role_32.f k t618 x4 x11).bind fun t621 => (if t621 = true then (if x3.length < 8796093022208 then (impl_RoundRoles.l1 k x0 (x3 ++ [(⟨x4, x11⟩ : S26)]) x4 x8 (wrap64 (x11 + 1))) else (none)) else (impl_RoundRoles.l1 k x0 x3 x4 x8 (wrap64 (x11 + 1)))))) else (impl_RoundRoles.l0 k x0 x3 (wrap64 (x8 + 1)))
end
def impl_RoundRoles.f (k : Nat) (l0 : List (S49)) : Option ((List (S26))) := impl_RoundRoles.l0 k l0 (([] : List (S26))) 0
set_option maxHeartbeats 8000000 in
set_option maxRecDepth 100000 in
theorem impl_RoundRoles.calls (k : Nat) (A0 : Option Addr) (c0 : Nat) (l0 : List (S49)) (r : List (S26)) (w : World) (hr0 : Kd.C k49 w A0 l0.length l0) (hc0 : l0.length ≤ c0) (h : impl_RoundRoles.f k l0 = some r) :
  Calls Try.prog 14 #[.slice A0 l0.length c0] w fun e w' => ∃ v0_ : Value, e = .returned (v0_) ∧ Kd.R k26 26 w' w.heap.size (fun _ => True) v0_ r ∧ Below w.heap.size w w' := by
 have hu26 := Try.underlying26
 have HR0 := Aside0.mk hr0
 have HC0 := Aside0.mk hc0
 clear hr0 hc0
 have HB := Aside0.mk (Below.refl w.heap.size w)
 have H : (impl_RoundRoles.l0 k l0 (([] : List (S26))) 0) = some r := h
 clear h
 obtain ⟨y614, hy614⟩ : ∃ y_ : List (S26), y_ = (([] : List (S26))) := ⟨_, rfl⟩
 replace H : (impl_RoundRoles.l0 k l0 y614 0) = some r := rh_ hy614 H
 have Ny614 := Aside0.mk hy614
 clear hy614
 have H' := Aside0.mk H
 clear H
 go_enter Try.func14, Try.ntmps14
 go_wp2_with (first | ((with_reducible refine gate_dst (N := 7) rfl ?_); refine Kd.R_lit k26 _ 26 ?hg (N := 7) ?hd (xs := ([] : List (S26))) (inner := []) (ok := fun _ => True) (okp := fun _ => True) ?hr ?hp (fun _ hk => hk) trivial (Below.refl _ _) (Nat.le_refl _) (by simp) ?_; (case hd => rfl); (case hg => rfl); (case hr => first | (go_simp; done) | (go_simp; rfl)); (case hp => exact (Reps.none _ _)); intro v615 w2 ho3 hb hg_ hnew_; clear hg_ hnew_; (first | rw [← Ny614.out] at ho3 | (simp only [Int.reduceToNat] at ho3; rw [← Ny614.out] at ho3)); have HO616 := Aside0.mk (Kd.R_lower ho3 bls_); replace HB := hbs_ hb; clear hb ho3))
 go_loopg [3, 8] k (fun kq v3 v8 w' => ∃ (x3_1 : List (S26)) (x8_1 : Int), v8 = .int .i64 x8_1 ∧ Aside0 (impl_RoundRoles.l0 kq l0 x3_1 x8_1 = some r) ∧ Aside0 (kq ≤ k) ∧ Aside0 (Kd.R k26 26 w' w.heap.size (fun _ => True) v3 x3_1) ∧ Aside0 (Below w.heap.size w w'))
 case atStart => exact ⟨(y614), (0), rf_, H', ⟨Nat.le_refl _⟩, ⟨rr_ HO616⟩, ⟨bl_⟩⟩
 case round =>
  clear H'
  try clear c1
  try clear p2
  obtain ⟨x3_1, x8_1, rfl, HA, HK1, HO_3, HB⟩ := hrel
  cases gk with
  | zero => exact absurd HA.out (by simp [impl_RoundRoles.l0])
  | succ k1 =>
   have H := HA.out
   clear HA
   simp only [impl_RoundRoles.l0] at H
   by_cases c4 : x8_1 < 6
   ·rw [if_pos c4] at H
    have c4b0 : decide (x8_1 < 6) = true := decide_eq_true c4
    clear c4
    have H' := Aside0.mk H
    clear H
    go_wp2
    go_loopg [3, 11] k1 (fun kq v3 v11 w' => ∃ (x3_2 : List (S26)) (x11_2 : Int), v11 = .int .i64 x11_2 ∧ Aside0 (impl_RoundRoles.l1 kq l0 x3_2 x8_1 x8_1 x11_2 = some r) ∧ Aside0 (kq ≤ k1) ∧ Aside0 (Kd.R k26 26 w' w.heap.size (fun _ => True) v3 x3_2) ∧ Aside0 (Below w.heap.size w w'))
    case atStart => exact ⟨(x3_1), (0), rf_, H', ⟨Nat.le_refl _⟩, ⟨rr_ HO_3⟩, ⟨bl_⟩⟩
    case round =>
     clear H'
     try clear c1
     try clear p2
     try clear c4
     try clear c4b0
     try clear p2
     obtain ⟨x3_2, x11_2, rfl, HA, HK2, HO_3, HB⟩ := hrel
     cases gk with
     | zero => exact absurd HA.out (by simp [impl_RoundRoles.l1])
     | succ k2 =>
      have H := HA.out
      clear HA
      simp only [impl_RoundRoles.l1] at H
      by_cases c5 : x11_2 < 4
      ·rw [if_pos c5] at H
       have c5b0 : decide (x11_2 < 4) = true := decide_eq_true c5
       clear c5
       obtain ⟨t618, A6, H⟩ := bindE_ H
       obtain ⟨t621, A7, H⟩ := bindE_ H
       have HC8 := Aside0.mk H
       clear H
       try go_wp2_with (first | ((with_reducible refine gate_dst (N := 6) rfl ?_); refine box_event ?hg (N := 6) ?hd (cs := #[.int .i64 0, .int .i64 0]) (t := 26) ?hr ?_; (case hd => rfl); (case hg => rfl); (case hr => first | (go_simp; done) | (go_simp; rfl)); intro gb617 hg w9 hbox hb; replace HO_3 := Aside0.mk (Kd.R_below (Kd.R_elderB (rr_ HO_3) gb617 (Nat.le_of_eq hg.symm)) hb); have BK617 := Aside0.mk (hbox); have GW617 := gs_ hg; have GE617 := gs_ hg; replace HB := hbs_ hb; clear hb hbox hg; obtain ⟨hcz10, hfz10⟩ := bcf_ BK617))
       have n0_ : Aside0 (Kd.R k26 26 ((w9.setCell ⟨gb617, 0, none⟩ (.int .i64 x8_1)).setCell ⟨gb617, 1, none⟩ (.int .i64 x11_2)) w.heap.size (fun k_ => k_ ≠ gb617) u3 x3_2) := ⟨by (with_reducible repeat (first | apply Kd.R_alloc | apply Kd.R_drewN | apply Kd.R_drew)); exact Kd.R_mono (fr2_ (Kd.R_mono HO_3.out (fun k_ hk => (⟨hk, hk.2⟩ : _ ∧ k_ ≠ gb617))) (fun _ hk => hk.2)) (fun _ hk => hk.1.2)⟩
       have n1_ : Aside0 (((w9.setCell ⟨gb617, 0, none⟩ (.int .i64 x8_1)).setCell ⟨gb617, 1, none⟩ (.int .i64 x11_2)).heap[gb617]? = some (.cells #[.int .i64 x8_1, .int .i64 x11_2] 26 (0, 0))) := ⟨bk_ BK617⟩
       have n2_ : Aside0 (Below w.heap.size w ((w9.setCell ⟨gb617, 0, none⟩ (.int .i64 x8_1)).setCell ⟨gb617, 1, none⟩ (.int .i64 x11_2))) := ⟨bl_⟩
       (try clear HO_3)
       (try clear BK617)
       (try clear HB)
       generalize ((w9.setCell ⟨gb617, 0, none⟩ (.int .i64 x8_1)).setCell ⟨gb617, 1, none⟩ (.int .i64 x11_2)) = w11 at n0_ n1_ n2_ ⊢
       have HO_3 := n0_
       have BK617 := n1_
       have HB := n2_
       clear n0_ n1_ n2_
       replace HO_3 := Aside0.mk (Kd.R_drew HO_3.out)
       replace BK617 := Aside0.mk (blk_drew BK617.out)
       replace HB := Aside0.mk (below_drew1 HB.out)
       refine start_ (n := 5) (S := fun w' => w'.cell? ⟨gb617, 0, none⟩ = some (.int .i64 x8_1) ∧ w'.cell? ⟨gb617, 1, none⟩ = some (.int .i64 x11_2)) (ds := []) #[false, false, false, false, false] (by kernel_rfl) rfl rfl ⟨(blk_cell BK617.out 0).trans rfl, (blk_cell BK617.out 1).trans rfl⟩ (fun hHeld => ?_)
       generalize w11.drew = w12 at HO_3 BK617 HB hHeld ⊢
       refine pure_ (i := 0) (N := some 17) (v := ?_) (a' := ?_) #[true, false, false, false, false] rfl rfl (by kernel_rfl) (fun _ _ _ h => h) (Or.inl ⟨by rfl, ?_⟩) ?_ ?_
       rotate_left
       ·intro w'
        go_simp
        with_reducible rfl
       rotate_left
       ·simp only [Act.put, List.setIfInBounds_toArray, List.set_cons_zero, List.set_cons_succ, i64_w, i32_w]
        rfl
       refine take_ (i := 1) (N := some 18) (v := ?_) (a' := ?_) #[true, true, false, false, false] rfl rfl (by kernel_rfl) (fun _ _ _ h => h) (Or.inl ⟨by rfl, ?_⟩) hHeld ?_ ?_
       rotate_left
       ·rintro w' ⟨s0, s1⟩
        go_simp
        with_reducible rfl
       rotate_left
       ·simp only [Act.put, List.setIfInBounds_toArray, List.set_cons_zero, List.set_cons_succ, i64_w, i32_w]
        rfl
       refine take_ (i := 3) (N := some 20) (v := ?_) (a' := ?_) #[true, true, false, true, false] rfl rfl (by kernel_rfl) (fun _ _ _ h => h) (Or.inl ⟨by rfl, ?_⟩) hHeld ?_ ?_
       rotate_left
       ·rintro w' ⟨s0, s1⟩
        go_simp
        with_reducible rfl
       rotate_left
       ·simp only [Act.put, List.setIfInBounds_toArray, List.set_cons_zero, List.set_cons_succ, i64_w, i32_w]
        rfl
       refine one_ (i := 2) (N := some 19) #[true, true, true, true, false] rfl rfl (by kernel_rfl) (by decide) (fun K hK => ?_)
       refine goes_ Try.func12 (by kernel_rfl) rfl #[.slice A0 l0.length c0, .agg #[.int .i64 x8_1, .int .i64 x11_2]] (by rfl) rfl rfl (by (try simp only [List.map_toArray, List.map_cons, List.map_nil]); first | done | rfl | (simp only [List.length_drop, List.length_take]; rfl)) ?_
       with_reducible refine (impl_ReachRoles.calls k2 _ _ l0 x8_1 x11_2 t618 _ ?side1 ?side2 A6.out).mono ?_
       (case side1 => repeat (first | exact (Kd.C_below HR0.out HB.out) | (with_reducible refine Kd.C_alloc ?_ _) | (with_reducible refine Kd.C_drewN ?_ _) | (with_reducible refine Kd.C_drew ?_)))
       (case side2 => exact HC0.out)
       rintro e w13 ⟨v619, rfl, ho0, hb⟩
       refine ⟨_, rfl, ?_⟩
       have HO620 := Aside0.mk (Kd.R_lower (Kd.R_newB (Kd.R_new' ho0 (Kd.R_lt (rr_ HO_3))) (g := gb617) (o := .cells #[.int .i64 x8_1, .int .i64 x11_2] 26 (0, 0)) (bk_ BK617)) bls_)
       replace HO_3 := Aside0.mk (Kd.R_elder' (rr_ HO_3) (Kd.R_base ho0) hb)
       replace BK617 := bkb_ BK617 hb
       replace HB := hbs_ hb
       (try clear hb)
       (try clear hb2)
       (try clear hk)
       (try clear hi)
       (try clear ho0)
       obtain ⟨Ao14, co14, eo14⟩ := Kd.R_slice HO620.out
       (first | subst eo14 | (injection eo14 with f1_ f2_ f3_; have f4_ := f1_.symm; have f5_ := f3_.symm; clear f1_ f2_ f3_; subst f4_; subst f5_))
       refine hK.out _ _ ⟨(blk_cell BK617.out 0).trans rfl, (blk_cell BK617.out 1).trans rfl⟩ (fun hHeld => ?_)
       clear hK K
       refine norm_ (a' := ?_) ?_ ?_
       rotate_left
       ·show Act.put _ (some 19) _ = _
        simp only [Act.put, List.setIfInBounds_toArray, List.set_cons_zero, List.set_cons_succ, i64_w, i32_w]
        rfl
       refine one_ (i := 4) (N := some 21) #[true, true, true, true, true] rfl rfl (by kernel_rfl) (by decide) (fun K hK => ?_)
       refine goes_ Try.func32 (by kernel_rfl) rfl #[.slice Ao14 t618.length co14, .agg #[.int .i64 x8_1, .int .i64 x11_2]] (by rfl) rfl rfl (by (try simp only [List.map_toArray, List.map_cons, List.map_nil]); first | done | rfl | (simp only [List.length_drop, List.length_take]; rfl)) ?_
       with_reducible refine (impl_Role_32.calls k2 _ _ t618 x8_1 x11_2 t621 _ ?side1 ?side2 A7.out).mono ?_
       (case side1 => repeat (first | exact (Kd.R_reads' HO620.out).2.2 | (with_reducible refine Kd.C_alloc ?_ _) | (with_reducible refine Kd.C_drewN ?_ _) | (with_reducible refine Kd.C_drew ?_)))
       (case side2 => exact (Kd.R_reads' HO620.out).2.1)
       rintro e w15 ⟨rfl, hb⟩
       refine ⟨_, rfl, ?_⟩
       replace HO_3 := hob_ HO_3 hb
       replace HO620 := hob_ HO620 hb
       replace BK617 := bkb_ BK617 hb
       replace HB := hbs_ hb
       (try clear hb)
       (try clear hb2)
       (try clear hk)
       (try clear hi)
       refine hK.out _ _ ⟨(blk_cell BK617.out 0).trans rfl, (blk_cell BK617.out 1).trans rfl⟩ (fun hHeld => ?_)
       clear hK K
       refine norm_ (a' := ?_) ?_ ?_
       rotate_left
       ·show Act.put _ (some 21) _ = _
        simp only [Act.put, List.setIfInBounds_toArray, List.set_cons_zero, List.set_cons_succ, i64_w, i32_w]
        rfl
       refine done_ (by kernel_rfl) ?_
       go_upto_if 21 with (fail)
       have H := HC8.out
       clear HC8
       by_cases c16 : t621 = true
       ·subst c16
        replace H := ite_t_ H
        obtain ⟨c17, H⟩ := ifn_ H
        have LMc17 := Aside0.mk c17
        clear c17
        obtain ⟨y622, hy622⟩ : ∃ y_ : List (S26), y_ = (x3_2 ++ [(⟨x8_1, x11_2⟩ : S26)]) := ⟨_, rfl⟩
        replace H : (impl_RoundRoles.l1 k2 l0 y622 x8_1 x8_1 (wrap64 (x11_2 + 1))) = some r := rh_ hy622 H
        have Ny622 := Aside0.mk hy622
        clear hy622
        have H' := Aside0.mk H
        clear H
        have hcz18 := blk_cell BK617.out
        have hfz18 := blk_frozen BK617.out
        go_wp2_with (first | ((with_reducible refine gate_builtin (b := .append) (xs := #[.tmp 22, .tmp 24]) rfl ?_); at_builtin; refine Kd.R_append k26 (w0 := w) w.heap.size rfl (.tmp 22) (.tmp 24) 35 26 (.agg #[(.int .i64 0), (.int .i64 0)]) 16 rfl Try.underlying35 info26 rfl (by decide) (by omega) u3 x3_2 (⟨x8_1, x11_2⟩ : S26) [.int .i64 x8_1, .int .i64 x11_2] (fun k_ => some k_ ≠ (.slice Ao14 t618.length co14 : Value).ownBlock ∧ k_ ≠ gb617) (fun _ => False) rfl rfl ?aP (fun _ hk => hk.elim) ?aF ?aO ?aB ?aS ?aL ?_; (case aP => exact k26_mkM _ _ _ (⟨x8_1, x11_2⟩ : S26)); (case aB => exact bl_); (case aF => exact (fun k_ hk => ⟨Kd.fresh' (Kd.R_lt (rr_ HO620)) k_ hk, Kd.freshB (g := gb617) (o := .cells #[.int .i64 x8_1, .int .i64 x11_2] 26 (0, 0)) (bk_ BK617) k_ hk⟩)); (case aO => exact (by (with_reducible repeat (first | apply Kd.R_alloc | apply Kd.R_drewN | apply Kd.R_drew)); exact Kd.R_mono HO_3.out (fun _ hk => ⟨hk.2, hk.1⟩))); (case aS => exact bls_); (case aL => have := LMc17.out; omega); intro v623 w19 ho hb hg hat; rw [← Ny622.out] at ho; replace BK617 := Aside0.mk (blk_grown (g := gb617) (o := .cells #[.int .i64 x8_1, .int .i64 x11_2] 26 (0, 0)) (bk_ BK617) hg (Kd.R_away HO_3.out (fun _ hk => hk.1))); replace HO620 := Aside0.mk (Kd.R_after (ok := (fun k_ => k_ ≠ gb617)) (by (with_reducible repeat (first | apply Kd.R_alloc | apply Kd.R_drewN | apply Kd.R_drew)); exact Kd.R_mono HO620.out (fun _ hk => ⟨hk.2, hk.1.2⟩)) hg hat); replace HB := Aside0.mk (hb); have HO624 := Aside0.mk (ho); clear HO_3; clear ho hb hg hat))
        go_roundg k2
        case measure => have := HK1.out; have := HK2.out; omega
        case rel => exact ⟨(y622), (wrap64 (x11_2 + 1)), rf_, H', ⟨by have := HK1.out; have := HK2.out; omega⟩, ⟨by (with_reducible repeat (first | apply Kd.R_alloc | apply Kd.R_drewN | apply Kd.R_drew)); exact Kd.R_mono HO624.out (fun _ hk => trivial)⟩, ⟨bl_⟩⟩
       ·replace c16 := Bool.eq_false_iff.mpr c16
        subst c16
        replace H := ite_f_ H
        have H' := Aside0.mk H
        clear H
        go_wp2
        go_roundg k2
        case measure => have := HK1.out; have := HK2.out; omega
        case rel => exact ⟨(x3_2), (wrap64 (x11_2 + 1)), rf_, H', ⟨by have := HK1.out; have := HK2.out; omega⟩, ⟨by (with_reducible repeat (first | apply Kd.R_alloc | apply Kd.R_drewN | apply Kd.R_drew)); exact Kd.R_mono HO_3.out (fun _ hk => trivial)⟩, ⟨bl_⟩⟩
      ·rw [if_neg c5] at H
       have c5b0 : decide (x11_2 < 4) = false := decide_eq_false c5
       clear c5
       have H' := Aside0.mk H
       clear H
       go_wp2
       go_roundg k2
       case measure => have := HK1.out; have := HK2.out; omega
       case rel => exact ⟨(x3_2), (wrap64 (x8_1 + 1)), rf_, H', ⟨by have := HK1.out; have := HK2.out; omega⟩, ⟨rr_ HO_3⟩, ⟨bl_⟩⟩
   ·rw [if_neg c4] at H
    have c4b0 : decide (x8_1 < 6) = false := decide_eq_false c4
    clear c4
    obtain rfl := Option.some.inj H
    go_wp2
    go_ret
    exact ⟨_, eq_, by (with_reducible repeat (first | apply Kd.R_alloc | apply Kd.R_drewN | apply Kd.R_drew)); exact HO_3.out, bl_⟩
mutual
def spec_RoundRoles.l0 : Nat → List (S49) → List (S26) → Int → Option ((List (S26)))
 | 0, _, _, _ => none
 | k + 1, x0, x3, x4 => if x4 < 6 then (spec_RoundRoles.l1 k x0 x3 x4 0) else (some x3)
def spec_RoundRoles.l1 : Nat → List (S49) → List (S26) → Int → Int → Option ((List (S26)))
 | 0, _, _, _, _ => none
 | k + 1, x0, x3, x4, x5 => if x5 < 4 then ((spec_ReachRoles.f k x0 x4 x5).bind fun t629 => ((spec_l13Done.f k t629 x4 x5).bind fun t632 => (if t632 = true then (if x3.length < 8796093022208 then (spec_RoundRoles.l1 k x0 (x3 ++ [(⟨x4, x5⟩ : S26)]) x4 (wrap64 (x5 + 1))) else (none)) else (spec_RoundRoles.l1 k x0 x3 x4 (wrap64 (x5 + 1)))))) else (spec_RoundRoles.l0 k x0 x3 (wrap64 (x4 + 1)))
end
def spec_RoundRoles.f (k : Nat) (l0 : List (S49)) : Option ((List (S26))) := spec_RoundRoles.l0 k l0 (([] : List (S26))) 0
set_option maxHeartbeats 8000000 in
set_option maxRecDepth 100000 in
theorem spec_RoundRoles.calls (k : Nat) (A0 : Option Addr) (c0 : Nat) (l0 : List (S49)) (r : List (S26)) (w : World) (hr0 : Kd.C k49 w A0 l0.length l0) (hc0 : l0.length ≤ c0) (h : spec_RoundRoles.f k l0 = some r) :
  Calls Try.prog 15 #[.slice A0 l0.length c0] w fun e w' => ∃ v0_ : Value, e = .returned (v0_) ∧ Kd.R k26 26 w' w.heap.size (fun _ => True) v0_ r ∧ Below w.heap.size w w' := by
 have hu26 := Try.underlying26
 have HR0 := Aside0.mk hr0
 have HC0 := Aside0.mk hc0
 clear hr0 hc0
 have HB := Aside0.mk (Below.refl w.heap.size w)
 have H : (spec_RoundRoles.l0 k l0 (([] : List (S26))) 0) = some r := h
 clear h
 obtain ⟨y625, hy625⟩ : ∃ y_ : List (S26), y_ = (([] : List (S26))) := ⟨_, rfl⟩
 replace H : (spec_RoundRoles.l0 k l0 y625 0) = some r := rh_ hy625 H
 have Ny625 := Aside0.mk hy625
 clear hy625
 have H' := Aside0.mk H
 clear H
 go_enter Try.func15, Try.ntmps15
 go_wp2_with (first | ((with_reducible refine gate_dst (N := 7) rfl ?_); refine Kd.R_lit k26 _ 26 ?hg (N := 7) ?hd (xs := ([] : List (S26))) (inner := []) (ok := fun _ => True) (okp := fun _ => True) ?hr ?hp (fun _ hk => hk) trivial (Below.refl _ _) (Nat.le_refl _) (by simp) ?_; (case hd => rfl); (case hg => rfl); (case hr => first | (go_simp; done) | (go_simp; rfl)); (case hp => exact (Reps.none _ _)); intro v626 w2 ho3 hb hg_ hnew_; clear hg_ hnew_; (first | rw [← Ny625.out] at ho3 | (simp only [Int.reduceToNat] at ho3; rw [← Ny625.out] at ho3)); have HO627 := Aside0.mk (Kd.R_lower ho3 bls_); replace HB := hbs_ hb; clear hb ho3))
 go_loopg [3, 4] k (fun kq v3 v4 w' => ∃ (x3_1 : List (S26)) (x4_1 : Int), v4 = .int .i64 x4_1 ∧ Aside0 (spec_RoundRoles.l0 kq l0 x3_1 x4_1 = some r) ∧ Aside0 (kq ≤ k) ∧ Aside0 (Kd.R k26 26 w' w.heap.size (fun _ => True) v3 x3_1) ∧ Aside0 (Below w.heap.size w w'))
 case atStart => exact ⟨(y625), (0), rf_, H', ⟨Nat.le_refl _⟩, ⟨rr_ HO627⟩, ⟨bl_⟩⟩
 case round =>
  clear H'
  try clear c1
  try clear p2
  obtain ⟨x3_1, x4_1, rfl, HA, HK1, HO_3, HB⟩ := hrel
  cases gk with
  | zero => exact absurd HA.out (by simp [spec_RoundRoles.l0])
  | succ k1 =>
   have H := HA.out
   clear HA
   simp only [spec_RoundRoles.l0] at H
   by_cases c4 : x4_1 < 6
   ·rw [if_pos c4] at H
    have c4b0 : decide (x4_1 < 6) = true := decide_eq_true c4
    clear c4
    have H' := Aside0.mk H
    clear H
    go_wp2
    go_loopg [3, 5] k1 (fun kq v3 v5 w' => ∃ (x3_2 : List (S26)) (x5_2 : Int), v5 = .int .i64 x5_2 ∧ Aside0 (spec_RoundRoles.l1 kq l0 x3_2 x4_1 x5_2 = some r) ∧ Aside0 (kq ≤ k1) ∧ Aside0 (Kd.R k26 26 w' w.heap.size (fun _ => True) v3 x3_2) ∧ Aside0 (Below w.heap.size w w'))
    case atStart => exact ⟨(x3_1), (0), rf_, H', ⟨Nat.le_refl _⟩, ⟨rr_ HO_3⟩, ⟨bl_⟩⟩
    case round =>
     clear H'
     try clear c1
     try clear p2
     try clear c4
     try clear c4b0
     try clear p2
     obtain ⟨x3_2, x5_2, rfl, HA, HK2, HO_3, HB⟩ := hrel
     cases gk with
     | zero => exact absurd HA.out (by simp [spec_RoundRoles.l1])
     | succ k2 =>
      have H := HA.out
      clear HA
      simp only [spec_RoundRoles.l1] at H
      by_cases c5 : x5_2 < 4
      ·rw [if_pos c5] at H
       have c5b0 : decide (x5_2 < 4) = true := decide_eq_true c5
       clear c5
       obtain ⟨t629, A6, H⟩ := bindE_ H
       obtain ⟨t632, A7, H⟩ := bindE_ H
       have HC8 := Aside0.mk H
       clear H
       try go_wp2_with (first | ((with_reducible refine gate_dst (N := 6) rfl ?_); refine box_event ?hg (N := 6) ?hd (cs := #[.int .i64 0, .int .i64 0]) (t := 26) ?hr ?_; (case hd => rfl); (case hg => rfl); (case hr => first | (go_simp; done) | (go_simp; rfl)); intro gb628 hg w9 hbox hb; replace HO_3 := Aside0.mk (Kd.R_below (Kd.R_elderB (rr_ HO_3) gb628 (Nat.le_of_eq hg.symm)) hb); have BK628 := Aside0.mk (hbox); have GW628 := gs_ hg; have GE628 := gs_ hg; replace HB := hbs_ hb; clear hb hbox hg; obtain ⟨hcz10, hfz10⟩ := bcf_ BK628))
       have n0_ : Aside0 (Kd.R k26 26 ((w9.setCell ⟨gb628, 0, none⟩ (.int .i64 x4_1)).setCell ⟨gb628, 1, none⟩ (.int .i64 x5_2)) w.heap.size (fun k_ => k_ ≠ gb628) u3 x3_2) := ⟨by (with_reducible repeat (first | apply Kd.R_alloc | apply Kd.R_drewN | apply Kd.R_drew)); exact Kd.R_mono (fr2_ (Kd.R_mono HO_3.out (fun k_ hk => (⟨hk, hk.2⟩ : _ ∧ k_ ≠ gb628))) (fun _ hk => hk.2)) (fun _ hk => hk.1.2)⟩
       have n1_ : Aside0 (((w9.setCell ⟨gb628, 0, none⟩ (.int .i64 x4_1)).setCell ⟨gb628, 1, none⟩ (.int .i64 x5_2)).heap[gb628]? = some (.cells #[.int .i64 x4_1, .int .i64 x5_2] 26 (0, 0))) := ⟨bk_ BK628⟩
       have n2_ : Aside0 (Below w.heap.size w ((w9.setCell ⟨gb628, 0, none⟩ (.int .i64 x4_1)).setCell ⟨gb628, 1, none⟩ (.int .i64 x5_2))) := ⟨bl_⟩
       (try clear HO_3)
       (try clear BK628)
       (try clear HB)
       generalize ((w9.setCell ⟨gb628, 0, none⟩ (.int .i64 x4_1)).setCell ⟨gb628, 1, none⟩ (.int .i64 x5_2)) = w11 at n0_ n1_ n2_ ⊢
       have HO_3 := n0_
       have BK628 := n1_
       have HB := n2_
       clear n0_ n1_ n2_
       replace HO_3 := Aside0.mk (Kd.R_drew HO_3.out)
       replace BK628 := Aside0.mk (blk_drew BK628.out)
       replace HB := Aside0.mk (below_drew1 HB.out)
       refine start_ (n := 5) (S := fun w' => w'.cell? ⟨gb628, 0, none⟩ = some (.int .i64 x4_1) ∧ w'.cell? ⟨gb628, 1, none⟩ = some (.int .i64 x5_2)) (ds := []) #[false, false, false, false, false] (by kernel_rfl) rfl rfl ⟨(blk_cell BK628.out 0).trans rfl, (blk_cell BK628.out 1).trans rfl⟩ (fun hHeld => ?_)
       generalize w11.drew = w12 at HO_3 BK628 HB hHeld ⊢
       refine pure_ (i := 0) (N := some 19) (v := ?_) (a' := ?_) #[true, false, false, false, false] rfl rfl (by kernel_rfl) (fun _ _ _ h => h) (Or.inl ⟨by rfl, ?_⟩) ?_ ?_
       rotate_left
       ·intro w'
        go_simp
        with_reducible rfl
       rotate_left
       ·simp only [Act.put, List.setIfInBounds_toArray, List.set_cons_zero, List.set_cons_succ, i64_w, i32_w]
        rfl
       refine take_ (i := 1) (N := some 20) (v := ?_) (a' := ?_) #[true, true, false, false, false] rfl rfl (by kernel_rfl) (fun _ _ _ h => h) (Or.inl ⟨by rfl, ?_⟩) hHeld ?_ ?_
       rotate_left
       ·rintro w' ⟨s0, s1⟩
        go_simp
        with_reducible rfl
       rotate_left
       ·simp only [Act.put, List.setIfInBounds_toArray, List.set_cons_zero, List.set_cons_succ, i64_w, i32_w]
        rfl
       refine take_ (i := 3) (N := some 22) (v := ?_) (a' := ?_) #[true, true, false, true, false] rfl rfl (by kernel_rfl) (fun _ _ _ h => h) (Or.inl ⟨by rfl, ?_⟩) hHeld ?_ ?_
       rotate_left
       ·rintro w' ⟨s0, s1⟩
        go_simp
        with_reducible rfl
       rotate_left
       ·simp only [Act.put, List.setIfInBounds_toArray, List.set_cons_zero, List.set_cons_succ, i64_w, i32_w]
        rfl
       refine one_ (i := 2) (N := some 21) #[true, true, true, true, false] rfl rfl (by kernel_rfl) (by decide) (fun K hK => ?_)
       refine goes_ Try.func13 (by kernel_rfl) rfl #[.slice A0 l0.length c0, .agg #[.int .i64 x4_1, .int .i64 x5_2]] (by rfl) rfl rfl (by (try simp only [List.map_toArray, List.map_cons, List.map_nil]); first | done | rfl | (simp only [List.length_drop, List.length_take]; rfl)) ?_
       with_reducible refine (spec_ReachRoles.calls k2 _ _ l0 x4_1 x5_2 t629 _ ?side1 ?side2 A6.out).mono ?_
       (case side1 => repeat (first | exact (Kd.C_below HR0.out HB.out) | (with_reducible refine Kd.C_alloc ?_ _) | (with_reducible refine Kd.C_drewN ?_ _) | (with_reducible refine Kd.C_drew ?_)))
       (case side2 => exact HC0.out)
       rintro e w13 ⟨v630, rfl, ho0, hb⟩
       refine ⟨_, rfl, ?_⟩
       have HO631 := Aside0.mk (Kd.R_lower (Kd.R_newB (Kd.R_new' ho0 (Kd.R_lt (rr_ HO_3))) (g := gb628) (o := .cells #[.int .i64 x4_1, .int .i64 x5_2] 26 (0, 0)) (bk_ BK628)) bls_)
       replace HO_3 := Aside0.mk (Kd.R_elder' (rr_ HO_3) (Kd.R_base ho0) hb)
       replace BK628 := bkb_ BK628 hb
       replace HB := hbs_ hb
       (try clear hb)
       (try clear hb2)
       (try clear hk)
       (try clear hi)
       (try clear ho0)
       obtain ⟨Ao14, co14, eo14⟩ := Kd.R_slice HO631.out
       (first | subst eo14 | (injection eo14 with f1_ f2_ f3_; have f4_ := f1_.symm; have f5_ := f3_.symm; clear f1_ f2_ f3_; subst f4_; subst f5_))
       refine hK.out _ _ ⟨(blk_cell BK628.out 0).trans rfl, (blk_cell BK628.out 1).trans rfl⟩ (fun hHeld => ?_)
       clear hK K
       refine norm_ (a' := ?_) ?_ ?_
       rotate_left
       ·show Act.put _ (some 21) _ = _
        simp only [Act.put, List.setIfInBounds_toArray, List.set_cons_zero, List.set_cons_succ, i64_w, i32_w]
        rfl
       refine one_ (i := 4) (N := some 23) #[true, true, true, true, true] rfl rfl (by kernel_rfl) (by decide) (fun K hK => ?_)
       refine goes_ Try.func37 (by kernel_rfl) rfl #[.slice Ao14 t629.length co14, .agg #[.int .i64 x4_1, .int .i64 x5_2]] (by rfl) rfl rfl (by (try simp only [List.map_toArray, List.map_cons, List.map_nil]); first | done | rfl | (simp only [List.length_drop, List.length_take]; rfl)) ?_
       with_reducible refine (spec_l13Done.calls k2 _ _ t629 x4_1 x5_2 t632 _ ?side1 ?side2 A7.out).mono ?_
       (case side1 => repeat (first | exact (Kd.R_reads' HO631.out).2.2 | (with_reducible refine Kd.C_alloc ?_ _) | (with_reducible refine Kd.C_drewN ?_ _) | (with_reducible refine Kd.C_drew ?_)))
       (case side2 => exact (Kd.R_reads' HO631.out).2.1)
       rintro e w15 ⟨rfl, hb⟩
       refine ⟨_, rfl, ?_⟩
       replace HO_3 := hob_ HO_3 hb
       replace HO631 := hob_ HO631 hb
       replace BK628 := bkb_ BK628 hb
       replace HB := hbs_ hb
       (try clear hb)
       (try clear hb2)
       (try clear hk)
       (try clear hi)
       refine hK.out _ _ ⟨(blk_cell BK628.out 0).trans rfl, (blk_cell BK628.out 1).trans rfl⟩ (fun hHeld => ?_)
       clear hK K
       refine norm_ (a' := ?_) ?_ ?_
       rotate_left
       ·show Act.put _ (some 23) _ = _
        simp only [Act.put, List.setIfInBounds_toArray, List.set_cons_zero, List.set_cons_succ, i64_w, i32_w]
        rfl
       refine done_ (by kernel_rfl) ?_
       go_upto_if 23 with (fail)
       have H := HC8.out
       clear HC8
       by_cases c16 : t632 = true
       ·subst c16
        replace H := ite_t_ H
        obtain ⟨c17, H⟩ := ifn_ H
        have LMc17 := Aside0.mk c17
        clear c17
        obtain ⟨y633, hy633⟩ : ∃ y_ : List (S26), y_ = (x3_2 ++ [(⟨x4_1, x5_2⟩ : S26)]) := ⟨_, rfl⟩
        replace H : (spec_RoundRoles.l1 k2 l0 y633 x4_1 (wrap64 (x5_2 + 1))) = some r := rh_ hy633 H
        have Ny633 := Aside0.mk hy633
        clear hy633
        have H' := Aside0.mk H
        clear H
        have hcz18 := blk_cell BK628.out
        have hfz18 := blk_frozen BK628.out
        go_wp2_with (first | ((with_reducible refine gate_builtin (b := .append) (xs := #[.tmp 24, .tmp 26]) rfl ?_); at_builtin; refine Kd.R_append k26 (w0 := w) w.heap.size rfl (.tmp 24) (.tmp 26) 35 26 (.agg #[(.int .i64 0), (.int .i64 0)]) 16 rfl Try.underlying35 info26 rfl (by decide) (by omega) u3 x3_2 (⟨x4_1, x5_2⟩ : S26) [.int .i64 x4_1, .int .i64 x5_2] (fun k_ => some k_ ≠ (.slice Ao14 t629.length co14 : Value).ownBlock ∧ k_ ≠ gb628) (fun _ => False) rfl rfl ?aP (fun _ hk => hk.elim) ?aF ?aO ?aB ?aS ?aL ?_; (case aP => exact k26_mkM _ _ _ (⟨x4_1, x5_2⟩ : S26)); (case aB => exact bl_); (case aF => exact (fun k_ hk => ⟨Kd.fresh' (Kd.R_lt (rr_ HO631)) k_ hk, Kd.freshB (g := gb628) (o := .cells #[.int .i64 x4_1, .int .i64 x5_2] 26 (0, 0)) (bk_ BK628) k_ hk⟩)); (case aO => exact (by (with_reducible repeat (first | apply Kd.R_alloc | apply Kd.R_drewN | apply Kd.R_drew)); exact Kd.R_mono HO_3.out (fun _ hk => ⟨hk.2, hk.1⟩))); (case aS => exact bls_); (case aL => have := LMc17.out; omega); intro v634 w19 ho hb hg hat; rw [← Ny633.out] at ho; replace BK628 := Aside0.mk (blk_grown (g := gb628) (o := .cells #[.int .i64 x4_1, .int .i64 x5_2] 26 (0, 0)) (bk_ BK628) hg (Kd.R_away HO_3.out (fun _ hk => hk.1))); replace HO631 := Aside0.mk (Kd.R_after (ok := (fun k_ => k_ ≠ gb628)) (by (with_reducible repeat (first | apply Kd.R_alloc | apply Kd.R_drewN | apply Kd.R_drew)); exact Kd.R_mono HO631.out (fun _ hk => ⟨hk.2, hk.1.2⟩)) hg hat); replace HB := Aside0.mk (hb); have HO635 := Aside0.mk (ho); clear HO_3; clear ho hb hg hat))
        go_roundg k2
        case measure => have := HK1.out; have := HK2.out; omega
        case rel => exact ⟨(y633), (wrap64 (x5_2 + 1)), rf_, H', ⟨by have := HK1.out; have := HK2.out; omega⟩, ⟨by (with_reducible repeat (first | apply Kd.R_alloc | apply Kd.R_drewN | apply Kd.R_drew)); exact Kd.R_mono HO635.out (fun _ hk => trivial)⟩, ⟨bl_⟩⟩
       ·replace c16 := Bool.eq_false_iff.mpr c16
        subst c16
        replace H := ite_f_ H
        have H' := Aside0.mk H
        clear H
        go_wp2
        go_roundg k2
        case measure => have := HK1.out; have := HK2.out; omega
        case rel => exact ⟨(x3_2), (wrap64 (x5_2 + 1)), rf_, H', ⟨by have := HK1.out; have := HK2.out; omega⟩, ⟨by (with_reducible repeat (first | apply Kd.R_alloc | apply Kd.R_drewN | apply Kd.R_drew)); exact Kd.R_mono HO_3.out (fun _ hk => trivial)⟩, ⟨bl_⟩⟩
      ·rw [if_neg c5] at H
       have c5b0 : decide (x5_2 < 4) = false := decide_eq_false c5
       clear c5
       have H' := Aside0.mk H
       clear H
       go_wp2
       go_roundg k2
       case measure => have := HK1.out; have := HK2.out; omega
       case rel => exact ⟨(x3_2), (wrap64 (x4_1 + 1)), rf_, H', ⟨by have := HK1.out; have := HK2.out; omega⟩, ⟨rr_ HO_3⟩, ⟨bl_⟩⟩
   ·rw [if_neg c4] at H
    have c4b0 : decide (x4_1 < 6) = false := decide_eq_false c4
    clear c4
    obtain rfl := Option.some.inj H
    go_wp2
    go_ret
    exact ⟨_, eq_, by (with_reducible repeat (first | apply Kd.R_alloc | apply Kd.R_drewN | apply Kd.R_drew)); exact HO_3.out, bl_⟩
def laws_sameCreds.l0 : Nat → List (S49) → List (S49) → Int → Option (Bool)
 | 0, _, _, _ => none
 | k + 1, x0, x1, x5 => if x5 < (x0.length : Int) then (if 0 ≤ x5 then (if x5 < (x1.length : Int) then (if (!(((rd_T49 x0 x5).f0) == ((rd_T49 x1 x5).f0)) || ((!(((rd_T49 x0 x5).f1.f0) == ((rd_T49 x1 x5).f1.f0)) || (!(((rd_T49 x0 x5).f1.f1) == ((rd_T49 x1 x5).f1.f1)))) || (!(((rd_T49 x0 x5).f2) == ((rd_T49 x1 x5).f2)) || ((!(((rd_T49 x0 x5).f3.f0) == ((rd_T49 x1 x5).f3.f0)) || (!(((rd_T49 x0 x5).f3.f1) == ((rd_T49 x1 x5).f3.f1)))) || ((!(((rd_T49 x0 x5).f4.f0) == ((rd_T49 x1 x5).f4.f0)) || (!(((rd_T49 x0 x5).f4.f1) == ((rd_T49 x1 x5).f4.f1)))) || (!(((rd_T49 x0 x5).f5) == ((rd_T49 x1 x5).f5)) || (!(((rd_T49 x0 x5).f6) == ((rd_T49 x1 x5).f6))))))))) = true then (some false) else (laws_sameCreds.l0 k x0 x1 (wrap64 (x5 + 1)))) else (none)) else (none)) else (some true)
def laws_sameCreds.f (k : Nat) (l0 : List (S49)) (l1 : List (S49)) : Option (Bool) := if (l0.length : Int) = (l1.length : Int) then (laws_sameCreds.l0 k l0 l1 0) else (some false)
set_option maxHeartbeats 8000000 in
set_option maxRecDepth 100000 in
theorem laws_sameCreds.calls (k : Nat) (A0 : Option Addr) (c0 : Nat) (l0 : List (S49)) (A1 : Option Addr) (c1 : Nat) (l1 : List (S49)) (r : Bool) (w : World) (hr0 : Kd.C k49 w A0 l0.length l0) (hc0 : l0.length ≤ c0) (hr1 : Kd.C k49 w A1 l1.length l1) (hc1 : l1.length ≤ c1) (h : laws_sameCreds.f k l0 l1 = some r) :
  Calls Try.prog 16 #[.slice A0 l0.length c0, .slice A1 l1.length c1] w fun e w' => e = .returned (.bool r) ∧ Drawn0 w w' := by
 have hu49 := Try.underlying49
 have HR0 := Aside0.mk hr0
 have HC0 := Aside0.mk hc0
 clear hr0 hc0
 have HR1 := Aside0.mk hr1
 have HC1 := Aside0.mk hc1
 clear hr1 hc1
 have H : (if (l0.length : Int) = (l1.length : Int) then (laws_sameCreds.l0 k l0 l1 0) else (some false)) = some r := h
 clear h
 by_cases c3 : (l0.length : Int) = (l1.length : Int)
 ·rw [if_pos c3] at H
  have c3b0 : ((l0.length : Int) == (l1.length : Int)) = true := beq_iff_eq.mpr c3
  have c3b1 : ((l0.length : Int) != (l1.length : Int)) = false := bne_eq_false_iff_eq.mpr c3
  have c3b2 : (l0.length == l1.length) = true := by first | simpa using c3 | (simp at c3 ⊢; omega)
  clear c3
  have H' := Aside0.mk H
  clear H
  go_enter Try.func16, Try.ntmps16
  go_wp2
  repeat (go_quiet (fail); try go_wp2)
  go_loopg [5] k (fun kq v5 w' => ∃ (x5_1 : Int), v5 = .int .i64 x5_1 ∧ Aside0 (laws_sameCreds.l0 kq l0 l1 x5_1 = some r) ∧ Aside0 (kq ≤ k) ∧ Drawn0 w w')
  case atStart => exact ⟨(0), rf_, H', ⟨Nat.le_refl _⟩, by repeat (first | exact Drawn0.refl _ | apply Drawn0.step)⟩
  case round =>
   clear H'
   try clear c1
   try clear p2
   try clear c3
   try clear c3b0
   try clear c3b1
   try clear c3b2
   obtain ⟨x5_1, rfl, HA, HK1, ⟨m1, rfl⟩⟩ := hrel
   cases gk with
   | zero => exact absurd HA.out (by simp [laws_sameCreds.l0])
   | succ k1 =>
    have H := HA.out
    clear HA
    simp only [laws_sameCreds.l0] at H
    by_cases c4 : x5_1 < (l0.length : Int)
    ·rw [if_pos c4] at H
     have c4b0 : decide (x5_1 < (l0.length : Int)) = true := decide_eq_true c4
     clear c4
     obtain ⟨c5b0, H⟩ := ifd_ H
     obtain ⟨c6b0, H⟩ := ifd_ H
     have HC7 := Aside0.mk H
     clear H
     have p636 : 0 ≤ (x5_1 : Int) := od_
     have q636 : x5_1 < (l0.length : Int) := od_
     obtain ⟨ad636, e636, hx636_0, hx636_1, hx636_2, hx636_3, hx636_4, hx636_5, hx636_6, hx636_7, hx636_8, hx636_9⟩ := at_T49 HR0.out x5_1 p636 q636
     cases e636
     replace p636 := eq_true p636
     replace q636 := eq_true q636
     have p637 : 0 ≤ (x5_1 : Int) := od_
     have q637 : x5_1 < (l1.length : Int) := od_
     obtain ⟨ad637, e637, hx637_0, hx637_1, hx637_2, hx637_3, hx637_4, hx637_5, hx637_6, hx637_7, hx637_8, hx637_9⟩ := at_T49 HR1.out x5_1 p637 q637
     cases e637
     replace p637 := eq_true p637
     replace q637 := eq_true q637
     go_upto_if 25 with (fail)
     repeat (go_quiet (fail); go_upto_if 25 with (fail))
     have H := HC7.out
     clear HC7
     by_cases c8 : (!(((rd_T49 l0 x5_1).f0) == ((rd_T49 l1 x5_1).f0)) || ((!(((rd_T49 l0 x5_1).f1.f0) == ((rd_T49 l1 x5_1).f1.f0)) || (!(((rd_T49 l0 x5_1).f1.f1) == ((rd_T49 l1 x5_1).f1.f1)))) || (!(((rd_T49 l0 x5_1).f2) == ((rd_T49 l1 x5_1).f2)) || ((!(((rd_T49 l0 x5_1).f3.f0) == ((rd_T49 l1 x5_1).f3.f0)) || (!(((rd_T49 l0 x5_1).f3.f1) == ((rd_T49 l1 x5_1).f3.f1)))) || ((!(((rd_T49 l0 x5_1).f4.f0) == ((rd_T49 l1 x5_1).f4.f0)) || (!(((rd_T49 l0 x5_1).f4.f1) == ((rd_T49 l1 x5_1).f4.f1)))) || (!(((rd_T49 l0 x5_1).f5) == ((rd_T49 l1 x5_1).f5)) || (!(((rd_T49 l0 x5_1).f6) == ((rd_T49 l1 x5_1).f6))))))))) = true
     ·rw [if_pos c8] at H
      have c8b0 : (!(((rd_T49 l0 x5_1).f0) == ((rd_T49 l1 x5_1).f0)) || ((!(((rd_T49 l0 x5_1).f1.f0) == ((rd_T49 l1 x5_1).f1.f0)) || (!(((rd_T49 l0 x5_1).f1.f1) == ((rd_T49 l1 x5_1).f1.f1)))) || (!(((rd_T49 l0 x5_1).f2) == ((rd_T49 l1 x5_1).f2)) || ((!(((rd_T49 l0 x5_1).f3.f0) == ((rd_T49 l1 x5_1).f3.f0)) || (!(((rd_T49 l0 x5_1).f3.f1) == ((rd_T49 l1 x5_1).f3.f1)))) || ((!(((rd_T49 l0 x5_1).f4.f0) == ((rd_T49 l1 x5_1).f4.f0)) || (!(((rd_T49 l0 x5_1).f4.f1) == ((rd_T49 l1 x5_1).f4.f1)))) || (!(((rd_T49 l0 x5_1).f5) == ((rd_T49 l1 x5_1).f5)) || (!(((rd_T49 l0 x5_1).f6) == ((rd_T49 l1 x5_1).f6))))))))) = true := c8
      clear c8
      (first | rw [c8b0] | (simp only [i64_w, i32_w]; rw [c8b0]) | skip)
      obtain rfl := Option.some.inj H
      go_wp2
      repeat (go_quiet (fail); try go_wp2)
      go_ret
      exact ⟨by first | rfl | (simp; done) | (simp [*]; done), by repeat (first | exact Drawn0.refl _ | apply Drawn0.step)⟩
     ·rw [if_neg c8] at H
      have c8b0 : (!(((rd_T49 l0 x5_1).f0) == ((rd_T49 l1 x5_1).f0)) || ((!(((rd_T49 l0 x5_1).f1.f0) == ((rd_T49 l1 x5_1).f1.f0)) || (!(((rd_T49 l0 x5_1).f1.f1) == ((rd_T49 l1 x5_1).f1.f1)))) || (!(((rd_T49 l0 x5_1).f2) == ((rd_T49 l1 x5_1).f2)) || ((!(((rd_T49 l0 x5_1).f3.f0) == ((rd_T49 l1 x5_1).f3.f0)) || (!(((rd_T49 l0 x5_1).f3.f1) == ((rd_T49 l1 x5_1).f3.f1)))) || ((!(((rd_T49 l0 x5_1).f4.f0) == ((rd_T49 l1 x5_1).f4.f0)) || (!(((rd_T49 l0 x5_1).f4.f1) == ((rd_T49 l1 x5_1).f4.f1)))) || (!(((rd_T49 l0 x5_1).f5) == ((rd_T49 l1 x5_1).f5)) || (!(((rd_T49 l0 x5_1).f6) == ((rd_T49 l1 x5_1).f6))))))))) = false := by simpa using c8
      clear c8
      (first | rw [c8b0] | (simp only [i64_w, i32_w]; rw [c8b0]) | skip)
      have H' := Aside0.mk H
      clear H
      go_wp2
      repeat (go_quiet (fail); try go_wp2)
      go_roundg k1
      case measure => have := HK1.out; omega
      case rel => exact ⟨(wrap64 (x5_1 + 1)), rf_, H', ⟨by have := HK1.out; omega⟩, by repeat (first | exact Drawn0.refl _ | apply Drawn0.step)⟩
    ·rw [if_neg c4] at H
     have c4b0 : decide (x5_1 < (l0.length : Int)) = false := decide_eq_false c4
     clear c4
     obtain rfl := Option.some.inj H
     go_wp2
     repeat (go_quiet (fail); try go_wp2)
     go_ret
     exact ⟨by first | rfl | (simp; done) | (simp [*]; done), by repeat (first | exact Drawn0.refl _ | apply Drawn0.step)⟩
 ·rw [if_neg c3] at H
  have c3b0 : ((l0.length : Int) == (l1.length : Int)) = false := beq_eq_false_iff_ne.mpr c3
  have c3b1 : ((l0.length : Int) != (l1.length : Int)) = true := bne_iff_ne.mpr c3
  have c3b2 : (l0.length == l1.length) = false := by first | simpa using c3 | (simp at c3 ⊢; omega)
  obtain rfl := Option.some.inj H
  go_enter Try.func16, Try.ntmps16
  go_wp2
  repeat (go_quiet (fail); try go_wp2)
  go_ret
  exact ⟨by first | rfl | (simp; done) | (simp [*]; done), by repeat (first | exact Drawn0.refl _ | apply Drawn0.step)⟩
end Go.Proofs.Ytamhfnedknjjbaa.PB
