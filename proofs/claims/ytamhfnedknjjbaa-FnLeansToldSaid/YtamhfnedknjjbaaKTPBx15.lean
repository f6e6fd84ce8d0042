import Derived.Test.YtamhfnedknjjbaaKTPBx14
-- printed by wip/tools
namespace Go.Proofs.Ytamhfnedknjjbaa.PB
open Go.RowKit Go.Proofs.YtamhfnedknjjbaaW.PrintWords Go.Proofs.YtamhfnedknjjbaaW.PrintLast Go.Proofs.YtamhfnedknjjbaaW.PrintMore
attribute [local go_sem] max2_int min2_int max_two min_two max_three min_three max_four min_four
set_option linter.unusedVariables false
set_option linter.unusedSimpArgs false
attribute [local go_sem high] eqA26
mutual
def spec_LeansOn.l0 : Nat → List (S49) → List (S26) → List (S58) → Int → Int → Int → Option ((List (S26)))
 | 0, _, _, _, _, _, _ => none
 | k + 1, x0, x5, x6, x7, x569000, x569001 => if x7 < (x0.length : Int) then (if 0 ≤ x7 then (if (!(((rd_T49 x0 x7).f1.f0) == x569000) || (!(((rd_T49 x0 x7).f1.f1) == x569001))) = true then (spec_LeansOn.j1 k x0 x5 x6 x7 true x569000 x569001 ((rd_T49 x0 x7).f0) ((rd_T49 x0 x7).f1.f0) ((rd_T49 x0 x7).f1.f1) ((rd_T49 x0 x7).f2) ((rd_T49 x0 x7).f3.f0) ((rd_T49 x0 x7).f3.f1) ((rd_T49 x0 x7).f4.f0) ((rd_T49 x0 x7).f4.f1) ((rd_T49 x0 x7).f5) ((rd_T49 x0 x7).f6)) else ((spec_CredOk.f k ((rd_T49 x0 x7).f0) ((rd_T49 x0 x7).f1.f0) ((rd_T49 x0 x7).f1.f1) ((rd_T49 x0 x7).f2) ((rd_T49 x0 x7).f3.f0) ((rd_T49 x0 x7).f3.f1) ((rd_T49 x0 x7).f4.f0) ((rd_T49 x0 x7).f4.f1) ((rd_T49 x0 x7).f5) ((rd_T49 x0 x7).f6)).bind fun t577 => (if t577 = true then (spec_LeansOn.j1 k x0 x5 x6 x7 (((rd_T49 x0 x7).f0) == 1) x569000 x569001 ((rd_T49 x0 x7).f0) ((rd_T49 x0 x7).f1.f0) ((rd_T49 x0 x7).f1.f1) ((rd_T49 x0 x7).f2) ((rd_T49 x0 x7).f3.f0) ((rd_T49 x0 x7).f3.f1) ((rd_T49 x0 x7).f4.f0) ((rd_T49 x0 x7).f4.f1) ((rd_T49 x0 x7).f5) ((rd_T49 x0 x7).f6)) else (spec_LeansOn.j1 k x0 x5 x6 x7 true x569000 x569001 ((rd_T49 x0 x7).f0) ((rd_T49 x0 x7).f1.f0) ((rd_T49 x0 x7).f1.f1) ((rd_T49 x0 x7).f2) ((rd_T49 x0 x7).f3.f0) ((rd_T49 x0 x7).f3.f1) ((rd_T49 x0 x7).f4.f0) ((rd_T49 x0 x7).f4.f1) ((rd_T49 x0 x7).f5) ((rd_T49 x0 x7).f6))))) else (none)) else (some x5)
def spec_LeansOn.j1 : Nat → List (S49) → List (S26) → List (S58) → Int → Bool → Int → Int → Int → Int → Int → Int → Int → Int → Int → Int → Int → Int → Option ((List (S26)))
 | 0, _, _, _, _, _, _, _, _, _, _, _, _, _, _, _, _, _ => none
 | k + 1, x0, x5, x6, x7, x36, x569000, x569001, x577000, x577001, x577002, x577003, x577004, x577005, x577006, x577007, x577008, x577009 => if x36 = true then (spec_LeansOn.l0 k x0 x5 x6 (wrap64 (x7 + 1)) x569000 x569001) else ((spec_l18Add.f k x5 x577004 x577005).bind fun t578 => (if x577000 = 4 then ((spec_l18Add.f k t578 x577006 x577007).bind fun t581 => (spec_LeansOn.j2 k x0 t581 x6 x7 x569000 x569001 x577000 x577001 x577002 x577003 x577004 x577005 x577006 x577007 x577008 x577009)) else (spec_LeansOn.j2 k x0 t578 x6 x7 x569000 x569001 x577000 x577001 x577002 x577003 x577004 x577005 x577006 x577007 x577008 x577009)))
def spec_LeansOn.j2 : Nat → List (S49) → List (S26) → List (S58) → Int → Int → Int → Int → Int → Int → Int → Int → Int → Int → Int → Int → Int → Option ((List (S26)))
 | 0, _, _, _, _, _, _, _, _, _, _, _, _, _, _, _, _ => none
 | k + 1, x0, x5, x6, x7, x569000, x569001, x577000, x577001, x577002, x577003, x577004, x577005, x577006, x577007, x577008, x577009 => spec_LeansOn.l1 k x0 x5 x6 x7 0 x569000 x569001 x577000 x577001 x577002 x577003 x577004 x577005 x577006 x577007 x577008 x577009
def spec_LeansOn.l1 : Nat → List (S49) → List (S26) → List (S58) → Int → Int → Int → Int → Int → Int → Int → Int → Int → Int → Int → Int → Int → Int → Option ((List (S26)))
 | 0, _, _, _, _, _, _, _, _, _, _, _, _, _, _, _, _, _ => none
 | k + 1, x0, x5, x6, x7, x9, x569000, x569001, x577000, x577001, x577002, x577003, x577004, x577005, x577006, x577007, x577008, x577009 => if x9 < 6 then (spec_LeansOn.j4 k x0 x5 x6 x7 x9 (x577000 == 3) x569000 x569001 x577000 x577001 x577002 x577003 x577004 x577005 x577006 x577007 x577008 x577009) else (spec_LeansOn.j4 k x0 x5 x6 x7 x9 false x569000 x569001 x577000 x577001 x577002 x577003 x577004 x577005 x577006 x577007 x577008 x577009)
def spec_LeansOn.j4 : Nat → List (S49) → List (S26) → List (S58) → Int → Int → Bool → Int → Int → Int → Int → Int → Int → Int → Int → Int → Int → Int → Int → Option ((List (S26)))
 | 0, _, _, _, _, _, _, _, _, _, _, _, _, _, _, _, _, _, _ => none
 | k + 1, x0, x5, x6, x7, x9, x54, x569000, x569001, x577000, x577001, x577002, x577003, x577004, x577005, x577006, x577007, x577008, x577009 => if x54 = true then ((spec_l06Has.f k x6 x577004 x577005 x9).bind fun t584 => (if t584 = true then ((spec_l18Add.f k x5 x9 x577007).bind fun t585 => (spec_LeansOn.l1 k x0 t585 x6 x7 (wrap64 (x9 + 1)) x569000 x569001 x577000 x577001 x577002 x577003 x577004 x577005 x577006 x577007 x577008 x577009)) else (spec_LeansOn.l1 k x0 x5 x6 x7 (wrap64 (x9 + 1)) x569000 x569001 x577000 x577001 x577002 x577003 x577004 x577005 x577006 x577007 x577008 x577009))) else (spec_LeansOn.l0 k x0 x5 x6 (wrap64 (x7 + 1)) x569000 x569001)
end
def spec_LeansOn.f (k : Nat) (l0 : List (S49)) (a1_0 : Int) (a1_1 : Int) : Option ((List (S26))) := (spec_FactsOf.f k l0).bind fun t572 => (spec_LeansOn.l0 k l0 (([] : List (S26))) t572 0 a1_0 a1_1)
set_option maxHeartbeats 8000000 in
set_option maxRecDepth 100000 in
theorem spec_LeansOn.calls (k : Nat) (A0 : Option Addr) (c0 : Nat) (l0 : List (S49)) (a1_0 : Int) (a1_1 : Int) (r : List (S26)) (w : World) (hr0 : Kd.C k49 w A0 l0.length l0) (hc0 : l0.length ≤ c0) (h : spec_LeansOn.f k l0 a1_0 a1_1 = some r) :
  Calls Try.prog 11 #[.slice A0 l0.length c0, .agg #[.int .i64 a1_0, .int .i64 a1_1]] w fun e w' => ∃ v0_ : Value, e = .returned (v0_) ∧ Kd.R k26 26 w' w.heap.size (fun _ => True) v0_ r ∧ Below w.heap.size w w' := by
 have hu26 := Try.underlying26
 have hu49 := Try.underlying49
 have hu58 := Try.underlying58
 have HR0 := Aside0.mk hr0
 have HC0 := Aside0.mk hc0
 clear hr0 hc0
 have HB := Aside0.mk (Below.refl w.heap.size w)
 have H : ((spec_FactsOf.f k l0).bind fun t572 => (spec_LeansOn.l0 k l0 (([] : List (S26))) t572 0 a1_0 a1_1)) = some r := h
 clear h
 obtain ⟨y569, hy569⟩ : ∃ y_ : List (S26), y_ = (([] : List (S26))) := ⟨_, rfl⟩
 replace H : ((spec_FactsOf.f k l0).bind fun t572 => (spec_LeansOn.l0 k l0 y569 t572 0 a1_0 a1_1)) = some r := rh_ hy569 H
 have Ny569 := Aside0.mk hy569
 clear hy569
 obtain ⟨t572, A3, H⟩ := bindE_ H
 have H' := Aside0.mk H
 clear H
 go_enter Try.func11, Try.ntmps11
 go_wp2_with (first | ((with_reducible refine gate_dst (N := 3) rfl ?_); refine box_event ?hg (N := 3) ?hd (cs := #[.int .i64 a1_0, .int .i64 a1_1]) (t := 26) ?hr ?_; (case hd => rfl); (case hg => rfl); (case hr => first | (go_simp; done) | (go_simp; rfl)); intro gb568 hg w4 hbox hb; have BK568 := Aside0.mk (hbox); have GW568 := gs_ hg; have GE568 := gs_ hg; replace HB := hbs_ hb; clear hb hbox hg) | ((with_reducible refine gate_dst (N := 10) rfl ?_); refine Kd.R_lit k26 _ 26 ?hg (N := 10) ?hd (xs := ([] : List (S26))) (inner := []) (ok := fun _ => True) (okp := fun _ => True) ?hr ?hp (fun _ hk => hk) trivial (Below.refl _ _) (Nat.le_refl _) (by simp) ?_; (case hd => rfl); (case hg => rfl); (case hr => first | (go_simp; done) | (go_simp; rfl)); (case hp => exact (Reps.none _ _)); intro v570 w5 ho6 hb hg_ hnew_; clear hg_ hnew_; (first | rw [← Ny569.out] at ho6 | (simp only [Int.reduceToNat] at ho6; rw [← Ny569.out] at ho6)); have HO571 := Aside0.mk (Kd.R_lower (Kd.R_newB ho6 (g := gb568) (o := .cells #[.int .i64 a1_0, .int .i64 a1_1] 26 (0, 0)) (bk_ BK568)) bls_); replace BK568 := bkb_ BK568 hb; replace HB := hbs_ hb; clear hb ho6) | ((with_reducible refine gate_callee (f := 33) rfl ?_); refine goesC_ (some 12) Try.func33 #[.slice A0 l0.length c0] ?_; (with_reducible refine (spec_FactsOf.calls k _ _ l0 t572 _ ?side1 ?side2 A3.out).mono ?_); (case side1 => repeat (first | exact (Kd.C_below HR0.out HB.out) | (with_reducible refine Kd.C_alloc ?_ _) | (with_reducible refine Kd.C_drewN ?_ _) | (with_reducible refine Kd.C_drew ?_))); (case side2 => exact HC0.out); rintro e w7 ⟨v573, rfl, ho0, hb⟩; refine ⟨_, rfl, ?_⟩; replace HO571 := hob_ HO571 hb; have HO574 := Aside0.mk (Kd.R_lower ho0 bls_); replace BK568 := bkb_ BK568 hb; replace HB := hbs_ hb; (try clear hb ho0)))
 go_loopg [5, 7] k (fun kq v5 v7 w' => ∃ (x5_1 : List (S26)) (x7_1 : Int), v7 = .int .i64 x7_1 ∧ Aside0 (spec_LeansOn.l0 kq l0 x5_1 t572 x7_1 a1_0 a1_1 = some r) ∧ Aside0 (kq ≤ k) ∧ Aside0 (Kd.R k26 26 w' w.heap.size (fun k_ => k_ ≠ gb568) v5 x5_1) ∧ Aside0 (Kd.R k58 58 w' w.heap.size (fun _ => True) v573 t572) ∧ Aside0 (w'.heap[gb568]? = some (.cells #[.int .i64 a1_0, .int .i64 a1_1] 26 (0, 0))) ∧ Aside0 (Below w.heap.size w w'))
 case atStart => exact ⟨(y569), (0), rf_, H', ⟨Nat.le_refl _⟩, ⟨by (with_reducible repeat (first | apply Kd.R_alloc | apply Kd.R_drewN | apply Kd.R_drew)); exact Kd.R_mono HO571.out (fun _ hk => hk.2)⟩, ⟨rr_ HO574⟩, ⟨bk_ BK568⟩, ⟨bl_⟩⟩
 case round =>
  clear H'
  try clear c1
  try clear p2
  try clear c3
  obtain ⟨x5_1, x7_1, rfl, HA, HK1, HO_5, HO_6, BK568, HB⟩ := hrel
  cases gk with
  | zero => exact absurd HA.out (by simp [spec_LeansOn.l0])
  | succ k1 =>
   have H := HA.out
   clear HA
   simp only [spec_LeansOn.l0] at H
   by_cases c8 : x7_1 < (l0.length : Int)
   ·rw [if_pos c8] at H
    have c8b0 : decide (x7_1 < (l0.length : Int)) = true := decide_eq_true c8
    clear c8
    obtain ⟨c9b0, H⟩ := ifd_ H
    have HC10 := Aside0.mk H
    clear H
    have p575 : 0 ≤ (x7_1 : Int) := od_
    have q575 : x7_1 < (l0.length : Int) := od_
    obtain ⟨ad575, e575, hx575_0, hx575_1, hx575_2, hx575_3, hx575_4, hx575_5, hx575_6, hx575_7, hx575_8, hx575_9⟩ := at_T49 (Kd.C_below HR0.out HB.out) x7_1 p575 q575
    cases e575
    replace p575 := eq_true p575
    replace q575 := eq_true q575
    go_upto_region 7 with (first | ((with_reducible refine gate_dst (N := 8) rfl ?_); refine box_event ?hg (N := 8) ?hd (cs := #[.int .i64 0, .int .i64 0, .int .i64 0, .int .i64 0, .int .i64 0, .int .i64 0, .int .i64 0, .int .i64 0, .int .i64 0, .int .i64 0]) (t := 49) ?hr ?_; (case hd => rfl); (case hg => rfl); (case hr => first | (go_simp; done) | (go_simp; rfl)); intro gb576 hg w11 hbox hb; replace HO_5 := hob_ HO_5 hb; replace HO_6 := hob_ HO_6 hb; have BK576 := Aside0.mk (hbox); have GW576 := gs_ hg; have GE576 := gs_ hg; replace HB := hbs_ hb; have NB568_576 := nl_ hg BK568; have NB576_568 := nr_ hg BK568; replace BK568 := bkb_ BK568 hb; clear hb hbox hg; have hnb12 := NB576_568.out; have hnc12 := NB568_576.out; obtain ⟨hcz13, hfz13⟩ := bcf_ BK576))
    (try simp only [Act.put, List.setIfInBounds_toArray, List.set_cons_zero, List.set_cons_succ])
    go_cut [36] (fun v36 wc => ∃ (kq : Nat) (x36_9 : Bool), v36 = .bool x36_9 ∧ Aside0 (spec_LeansOn.j1 kq l0 x5_1 t572 x7_1 x36_9 a1_0 a1_1 ((rd_T49 l0 x7_1).f0) ((rd_T49 l0 x7_1).f1.f0) ((rd_T49 l0 x7_1).f1.f1) ((rd_T49 l0 x7_1).f2) ((rd_T49 l0 x7_1).f3.f0) ((rd_T49 l0 x7_1).f3.f1) ((rd_T49 l0 x7_1).f4.f0) ((rd_T49 l0 x7_1).f4.f1) ((rd_T49 l0 x7_1).f5) ((rd_T49 l0 x7_1).f6) = some r) ∧ Aside0 (kq ≤ k1) ∧ Aside0 (Kd.R k26 26 wc w.heap.size (fun k_ => k_ ≠ gb568) u5 x5_1) ∧ Aside0 (Kd.R k58 58 wc w.heap.size (fun _ => True) v573 t572) ∧ Aside0 (wc.heap[gb568]? = some (.cells #[.int .i64 a1_0, .int .i64 a1_1] 26 (0, 0))) ∧ Aside0 (wc.heap[gb576]? = some (.cells #[.int .i64 ((rd_T49 l0 x7_1).f0), .int .i64 ((rd_T49 l0 x7_1).f1.f0), .int .i64 ((rd_T49 l0 x7_1).f1.f1), .int .i64 ((rd_T49 l0 x7_1).f2), .int .i64 ((rd_T49 l0 x7_1).f3.f0), .int .i64 ((rd_T49 l0 x7_1).f3.f1), .int .i64 ((rd_T49 l0 x7_1).f4.f0), .int .i64 ((rd_T49 l0 x7_1).f4.f1), .int .i64 ((rd_T49 l0 x7_1).f5), .int .i64 ((rd_T49 l0 x7_1).f6)] 49 (0, 0))) ∧ Aside0 (Below w.heap.size w wc))
    case first =>
     have H := HC10.out
     clear HC10
     by_cases c14 : (!(((rd_T49 l0 x7_1).f1.f0) == a1_0) || (!(((rd_T49 l0 x7_1).f1.f1) == a1_1))) = true
     ·rw [if_pos c14] at H
      have c14b0 : (!(((rd_T49 l0 x7_1).f1.f0) == a1_0) || (!(((rd_T49 l0 x7_1).f1.f1) == a1_1))) = true := c14
      clear c14
      (first | rw [c14b0] | (simp only [i64_w, i32_w]; rw [c14b0]) | skip)
      have H' := Aside0.mk H
      clear H
      have hnb15 := NB576_568.out
      have hnc15 := NB568_576.out
      have hcz16 := blk_cell BK576.out
      have hfz16 := blk_frozen BK576.out
      have hcz17 := blk_cell BK568.out
      have hfz17 := blk_frozen BK568.out
      go_wp2
      go_meet
      case rel => exact ⟨_, (true), rf_, H', ⟨by have := HK1.out; first | omega | exact Nat.le_refl _⟩, ⟨by (with_reducible repeat (first | apply Kd.R_alloc | apply Kd.R_drewN | apply Kd.R_drew)); exact Kd.R_mono (fr10_ (Kd.R_types HO_5.out BK576.out (by decide)) (fun _ hk => hk.2)) (fun _ hk => hk.1)⟩, ⟨by (with_reducible repeat (first | apply Kd.R_alloc | apply Kd.R_drewN | apply Kd.R_drew)); exact Kd.R_mono (fr10_ (Kd.R_types HO_6.out BK576.out (by decide)) (fun _ hk => hk.2)) (fun _ hk => trivial)⟩, ⟨bk_ BK568⟩, ⟨bk_ BK576⟩, ⟨bl_⟩⟩
     ·rw [if_neg c14] at H
      have c14b0 : (!(((rd_T49 l0 x7_1).f1.f0) == a1_0) || (!(((rd_T49 l0 x7_1).f1.f1) == a1_1))) = false := by simpa using c14
      clear c14
      (first | rw [c14b0] | (simp only [i64_w, i32_w]; rw [c14b0]) | skip)
      obtain ⟨t577, A18, H⟩ := bindE_ H
      by_cases c19 : t577 = true
      ·subst c19
       replace H := ite_t_ H
       have H' := Aside0.mk H
       clear H
       have hnb20 := NB576_568.out
       have hnc20 := NB568_576.out
       have hcz21 := blk_cell BK576.out
       have hfz21 := blk_frozen BK576.out
       have hcz22 := blk_cell BK568.out
       have hfz22 := blk_frozen BK568.out
       go_wp2_with (first | (go_at_call 34; (with_reducible refine (spec_CredOk.calls k1 ((rd_T49 l0 x7_1).f0) ((rd_T49 l0 x7_1).f1.f0) ((rd_T49 l0 x7_1).f1.f1) ((rd_T49 l0 x7_1).f2) ((rd_T49 l0 x7_1).f3.f0) ((rd_T49 l0 x7_1).f3.f1) ((rd_T49 l0 x7_1).f4.f0) ((rd_T49 l0 x7_1).f4.f1) ((rd_T49 l0 x7_1).f5) ((rd_T49 l0 x7_1).f6) true _ A18.out).mono ?_); rintro e w23 ⟨rfl, hb⟩; replace HO_5 := Aside0.mk (Kd.R_below (by (with_reducible repeat (first | apply Kd.R_alloc | apply Kd.R_drewN | apply Kd.R_drew)); exact (Kd.R_mono (fr10_ (Kd.R_types HO_5.out BK576.out (by decide)) (fun _ hk => hk.2)) (fun _ h_ => h_.1))) hb); replace HO_6 := Aside0.mk (Kd.R_below (by (with_reducible repeat (first | apply Kd.R_alloc | apply Kd.R_drewN | apply Kd.R_drew)); exact (Kd.R_mono (fr10_ (Kd.R_types HO_6.out BK576.out (by decide)) (fun _ hk => hk.2)) (fun _ h_ => h_.1))) hb); replace BK568 := Aside0.mk (blk_below (g := gb568) (o := .cells #[.int .i64 a1_0, .int .i64 a1_1] 26 (0, 0)) (bk_ BK568) hb); replace BK576 := Aside0.mk (blk_below (g := gb576) (o := .cells #[.int .i64 ((rd_T49 l0 x7_1).f0), .int .i64 ((rd_T49 l0 x7_1).f1.f0), .int .i64 ((rd_T49 l0 x7_1).f1.f1), .int .i64 ((rd_T49 l0 x7_1).f2), .int .i64 ((rd_T49 l0 x7_1).f3.f0), .int .i64 ((rd_T49 l0 x7_1).f3.f1), .int .i64 ((rd_T49 l0 x7_1).f4.f0), .int .i64 ((rd_T49 l0 x7_1).f4.f1), .int .i64 ((rd_T49 l0 x7_1).f5), .int .i64 ((rd_T49 l0 x7_1).f6)] 49 (0, 0)) (bk_ BK576) hb); replace HB := hbs_ hb; clear hb; obtain ⟨hcz24, hfz24⟩ := bcf_ BK576))
       go_meet
       case rel => exact ⟨_, ((((rd_T49 l0 x7_1).f0) == 1)), rf_, H', ⟨by have := HK1.out; first | omega | exact Nat.le_refl _⟩, ⟨rr_ HO_5⟩, ⟨rr_ HO_6⟩, ⟨bk_ BK568⟩, ⟨bk_ BK576⟩, ⟨bl_⟩⟩
      ·replace c19 := Bool.eq_false_iff.mpr c19
       subst c19
       replace H := ite_f_ H
       have H' := Aside0.mk H
       clear H
       have hnb25 := NB576_568.out
       have hnc25 := NB568_576.out
       have hcz26 := blk_cell BK576.out
       have hfz26 := blk_frozen BK576.out
       have hcz27 := blk_cell BK568.out
       have hfz27 := blk_frozen BK568.out
       go_wp2_with (first | (go_at_call 34; (with_reducible refine (spec_CredOk.calls k1 ((rd_T49 l0 x7_1).f0) ((rd_T49 l0 x7_1).f1.f0) ((rd_T49 l0 x7_1).f1.f1) ((rd_T49 l0 x7_1).f2) ((rd_T49 l0 x7_1).f3.f0) ((rd_T49 l0 x7_1).f3.f1) ((rd_T49 l0 x7_1).f4.f0) ((rd_T49 l0 x7_1).f4.f1) ((rd_T49 l0 x7_1).f5) ((rd_T49 l0 x7_1).f6) false _ A18.out).mono ?_); rintro e w28 ⟨rfl, hb⟩; replace HO_5 := Aside0.mk (Kd.R_below (by (with_reducible repeat (first | apply Kd.R_alloc | apply Kd.R_drewN | apply Kd.R_drew)); exact (Kd.R_mono (fr10_ (Kd.R_types HO_5.out BK576.out (by decide)) (fun _ hk => hk.2)) (fun _ h_ => h_.1))) hb); replace HO_6 := Aside0.mk (Kd.R_below (by (with_reducible repeat (first | apply Kd.R_alloc | apply Kd.R_drewN | apply Kd.R_drew)); exact (Kd.R_mono (fr10_ (Kd.R_types HO_6.out BK576.out (by decide)) (fun _ hk => hk.2)) (fun _ h_ => h_.1))) hb); replace BK568 := Aside0.mk (blk_below (g := gb568) (o := .cells #[.int .i64 a1_0, .int .i64 a1_1] 26 (0, 0)) (bk_ BK568) hb); replace BK576 := Aside0.mk (blk_below (g := gb576) (o := .cells #[.int .i64 ((rd_T49 l0 x7_1).f0), .int .i64 ((rd_T49 l0 x7_1).f1.f0), .int .i64 ((rd_T49 l0 x7_1).f1.f1), .int .i64 ((rd_T49 l0 x7_1).f2), .int .i64 ((rd_T49 l0 x7_1).f3.f0), .int .i64 ((rd_T49 l0 x7_1).f3.f1), .int .i64 ((rd_T49 l0 x7_1).f4.f0), .int .i64 ((rd_T49 l0 x7_1).f4.f1), .int .i64 ((rd_T49 l0 x7_1).f5), .int .i64 ((rd_T49 l0 x7_1).f6)] 49 (0, 0)) (bk_ BK576) hb); replace HB := hbs_ hb; clear hb))
       go_meet
       case rel => exact ⟨_, (true), rf_, H', ⟨by have := HK1.out; first | omega | exact Nat.le_refl _⟩, ⟨rr_ HO_5⟩, ⟨rr_ HO_6⟩, ⟨bk_ BK568⟩, ⟨bk_ BK576⟩, ⟨bl_⟩⟩
    case rest =>
     clear HC10
     try clear c1
     try clear c2
     try clear p2
     try clear c3
     try clear p5
     try clear q5
     try clear hx5
     try clear c8
     try clear c8b0
     try clear c9
     try clear c9b0
     try clear c11
     try clear c12
     try clear c14
     try clear c14b0
     try clear c15
     try clear c19
     try clear c20
     try clear c25
     try clear hcz13
     try clear hcz16
     try clear hcz17
     try clear hcz21
     try clear hcz22
     try clear hcz24
     try clear hcz26
     try clear hcz27
     try clear hfz13
     try clear hfz16
     try clear hfz17
     try clear hfz21
     try clear hfz22
     try clear hfz24
     try clear hfz26
     try clear hfz27
     try clear hx575_0
     try clear hx575_1
     try clear hx575_2
     try clear hx575_3
     try clear hx575_4
     try clear hx575_5
     try clear hx575_6
     try clear hx575_7
     try clear hx575_8
     try clear hx575_9
     try clear p2
     try clear p575
     try clear q575
     obtain ⟨kq, x36_9, rfl, HA, HJ9, HO_5, HO_6, BK568, BK576, HB⟩ := hcut
     cases kq with
     | zero => exact absurd HA.out (by simp [spec_LeansOn.j1])
     | succ kj9 =>
      have H := HA.out
      clear HA
      simp only [spec_LeansOn.j1] at H
      by_cases c29 : x36_9 = true
      ·subst c29
       replace H := ite_t_ H
       have H' := Aside0.mk H
       clear H
       go_wp2
       go_roundg kj9
       case measure => have := HK1.out; have := HJ9.out; omega
       case rel => exact ⟨(x5_1), (wrap64 (x7_1 + 1)), rf_, H', ⟨by have := HK1.out; have := HJ9.out; omega⟩, ⟨rr_ HO_5⟩, ⟨rr_ HO_6⟩, ⟨bk_ BK568⟩, ⟨bl_⟩⟩
      ·replace c29 := Bool.eq_false_iff.mpr c29
       subst c29
       replace H := ite_f_ H
       obtain ⟨t578, A30, H⟩ := bindE_ H
       have HC31 := Aside0.mk H
       clear H
       have hnb32 := NB576_568.out
       have hnc32 := NB568_576.out
       have hcz33 := blk_cell BK576.out
       have hfz33 := blk_frozen BK576.out
       obtain ⟨Ao34, co34, eo34⟩ := Kd.R_slice HO_5.out
       subst eo34
       go_upto_if 43 with (first | ((with_reducible refine gate_callee (f := 35) rfl ?_); refine goesC_ (some 40) Try.func35 #[.slice Ao34 x5_1.length co34, .agg #[.int .i64 ((rd_T49 l0 x7_1).f3.f0), .int .i64 ((rd_T49 l0 x7_1).f3.f1)]] ?_; (with_reducible refine (spec_l18Add.calls kj9 (fun k_ => some k_ = (.slice Ao34 x5_1.length co34 : Value).ownBlock) (.slice Ao34 x5_1.length co34) x5_1 ((rd_T49 l0 x7_1).f3.f0) ((rd_T49 l0 x7_1).f3.f1) t578 w _ ?side1 ?side2 A30.out).mono ?_); (case side1 => repeat (first | (with_reducible first | exact HB.out | apply below_alloc | apply pw_below_drewN | apply below_drew1 | refine below_set ?_ GE568.out | refine below_set ?_ GE576.out) | exact HB.out)); (case side2 => exact Kd.R_tight rfl HO_5.out); rintro e w35 ⟨v579, rfl, ho0, hb, hkp⟩; refine ⟨_, rfl, ?_⟩; replace HO_6 := Aside0.mk (Kd.R_mono (ok' := fun k_ => True) (Kd.R_keptB ((Kd.R_apart' HO_6.out (Kd.R_typed HO_5.out) (by decide))) hkp (fun k_ hk_ hs_ => (hk_.2) hs_)) (fun k_ hk_ => trivial)); replace BK576 := Aside0.mk (blk_kept (bk_ BK576) hkp (fun hs_ => (fun e_ => (Kd.R_ne HO_5.out BK576.out (by decide)) e_) hs_)); have HO580 := Aside0.mk (Kd.R_mono (ok' := fun k_ => k_ ≠ gb568) ho0 (fun k_ hk_ => Or.elim hk_ (fun hs_ => fun e_ => (Kd.R_away HO_5.out (fun _ hk => hk)) (by rw [← e_]; exact hs_)) (fun hn_ => (Kd.freshB (g := gb568) (o := .cells #[.int .i64 a1_0, .int .i64 a1_1] 26 (0, 0)) (bk_ BK568) k_ hn_)))); replace BK568 := Aside0.mk (blk_kept (bk_ BK568) hkp (fun hs_ => (fun e_ => (Kd.R_away HO_5.out (fun _ hk => hk)) e_) hs_)); replace HB := Aside0.mk (hb); clear HO_5; (try clear hb hkp ho0); obtain ⟨hcz36, hfz36⟩ := bcf_ BK576))
       (try simp only [Act.put, List.setIfInBounds_toArray, List.set_cons_zero, List.set_cons_succ])
       go_cut [5] (fun v5 wc => ∃ (kq : Nat) (x5_30 : List (S26)), Aside0 (spec_LeansOn.j2 kq l0 x5_30 t572 x7_1 a1_0 a1_1 ((rd_T49 l0 x7_1).f0) ((rd_T49 l0 x7_1).f1.f0) ((rd_T49 l0 x7_1).f1.f1) ((rd_T49 l0 x7_1).f2) ((rd_T49 l0 x7_1).f3.f0) ((rd_T49 l0 x7_1).f3.f1) ((rd_T49 l0 x7_1).f4.f0) ((rd_T49 l0 x7_1).f4.f1) ((rd_T49 l0 x7_1).f5) ((rd_T49 l0 x7_1).f6) = some r) ∧ Aside0 (kq ≤ kj9) ∧ Aside0 (Kd.R k26 26 wc w.heap.size (fun k_ => k_ ≠ gb568) v5 x5_30) ∧ Aside0 (Kd.R k58 58 wc w.heap.size (fun _ => True) v573 t572) ∧ Aside0 (wc.heap[gb568]? = some (.cells #[.int .i64 a1_0, .int .i64 a1_1] 26 (0, 0))) ∧ Aside0 (wc.heap[gb576]? = some (.cells #[.int .i64 ((rd_T49 l0 x7_1).f0), .int .i64 ((rd_T49 l0 x7_1).f1.f0), .int .i64 ((rd_T49 l0 x7_1).f1.f1), .int .i64 ((rd_T49 l0 x7_1).f2), .int .i64 ((rd_T49 l0 x7_1).f3.f0), .int .i64 ((rd_T49 l0 x7_1).f3.f1), .int .i64 ((rd_T49 l0 x7_1).f4.f0), .int .i64 ((rd_T49 l0 x7_1).f4.f1), .int .i64 ((rd_T49 l0 x7_1).f5), .int .i64 ((rd_T49 l0 x7_1).f6)] 49 (0, 0))) ∧ Aside0 (Below w.heap.size w wc))
       case first =>
        have H := HC31.out
        clear HC31
        by_cases c37 : ((rd_T49 l0 x7_1).f0) = 4
        ·rw [if_pos c37] at H
         have c37b0 : (((rd_T49 l0 x7_1).f0) == 4) = true := beq_iff_eq.mpr c37
         have c37b1 : (((rd_T49 l0 x7_1).f0) != 4) = false := bne_eq_false_iff_eq.mpr c37
         clear c37
         (first | rw [c37b0] | (simp only [i64_w, i32_w]; rw [c37b0]) | skip)
         obtain ⟨t581, A38, H⟩ := bindE_ H
         have H' := Aside0.mk H
         clear H
         have hnb39 := NB576_568.out
         have hnc39 := NB568_576.out
         have hcz40 := blk_cell BK576.out
         have hfz40 := blk_frozen BK576.out
         obtain ⟨Ao41, co41, eo41⟩ := Kd.R_slice HO580.out
         subst eo41
         go_wp2_with (first | ((with_reducible refine gate_callee (f := 35) rfl ?_); refine goesC_ (some 47) Try.func35 #[.slice Ao41 t578.length co41, .agg #[.int .i64 ((rd_T49 l0 x7_1).f4.f0), .int .i64 ((rd_T49 l0 x7_1).f4.f1)]] ?_; (with_reducible refine (spec_l18Add.calls kj9 (fun k_ => some k_ = (.slice Ao41 t578.length co41 : Value).ownBlock) (.slice Ao41 t578.length co41) t578 ((rd_T49 l0 x7_1).f4.f0) ((rd_T49 l0 x7_1).f4.f1) t581 w _ ?side1 ?side2 A38.out).mono ?_); (case side1 => repeat (first | (with_reducible first | exact HB.out | apply below_alloc | apply pw_below_drewN | apply below_drew1 | refine below_set ?_ GE568.out | refine below_set ?_ GE576.out) | exact HB.out)); (case side2 => exact Kd.R_tight rfl HO580.out); rintro e w42 ⟨v582, rfl, ho0, hb, hkp⟩; refine ⟨_, rfl, ?_⟩; replace HO_6 := Aside0.mk (Kd.R_mono (ok' := fun k_ => True) (Kd.R_keptB ((Kd.R_apart' HO_6.out (Kd.R_typed HO580.out) (by decide))) hkp (fun k_ hk_ hs_ => (hk_.2) hs_)) (fun k_ hk_ => trivial)); replace BK576 := Aside0.mk (blk_kept (bk_ BK576) hkp (fun hs_ => (fun e_ => (Kd.R_ne HO580.out BK576.out (by decide)) e_) hs_)); have HO583 := Aside0.mk (Kd.R_mono (ok' := fun k_ => k_ ≠ gb568) ho0 (fun k_ hk_ => Or.elim hk_ (fun hs_ => fun e_ => (Kd.R_away HO580.out (fun _ hk => hk)) (by rw [← e_]; exact hs_)) (fun hn_ => (Kd.freshB (g := gb568) (o := .cells #[.int .i64 a1_0, .int .i64 a1_1] 26 (0, 0)) (bk_ BK568) k_ hn_)))); replace BK568 := Aside0.mk (blk_kept (bk_ BK568) hkp (fun hs_ => (fun e_ => (Kd.R_away HO580.out (fun _ hk => hk)) e_) hs_)); replace HB := Aside0.mk (hb); clear HO580; (try clear hb hkp ho0)))
         go_meet
         case rel => exact ⟨_, (t581), H', ⟨by have := HK1.out; have := HJ9.out; first | omega | exact Nat.le_refl _⟩, ⟨rr_ HO583⟩, ⟨rr_ HO_6⟩, ⟨bk_ BK568⟩, ⟨bk_ BK576⟩, ⟨bl_⟩⟩
        ·rw [if_neg c37] at H
         have c37b0 : (((rd_T49 l0 x7_1).f0) == 4) = false := beq_eq_false_iff_ne.mpr c37
         have c37b1 : (((rd_T49 l0 x7_1).f0) != 4) = true := bne_iff_ne.mpr c37
         (first | rw [c37b0] | (simp only [i64_w, i32_w]; rw [c37b0]) | skip)
         have H' := Aside0.mk H
         clear H
         go_wp2
         go_meet
         case rel => exact ⟨_, (t578), H', ⟨by have := HK1.out; have := HJ9.out; first | omega | exact Nat.le_refl _⟩, ⟨rr_ HO580⟩, ⟨rr_ HO_6⟩, ⟨bk_ BK568⟩, ⟨bk_ BK576⟩, ⟨bl_⟩⟩
       case rest =>
        clear HC31
        try clear c1
        try clear c2
        try clear p2
        try clear c3
        try clear p5
        try clear q5
        try clear hx5
        try clear p6
        try clear c8
        try clear c8b0
        try clear c9
        try clear c9b0
        try clear c11
        try clear c12
        try clear c14
        try clear c14b0
        try clear c15
        try clear c19
        try clear c20
        try clear c25
        try clear c29
        try clear c32
        try clear c33
        try clear c35
        try clear c37
        try clear c37b0
        try clear c37b1
        try clear c39
        try clear hcz13
        try clear hcz16
        try clear hcz17
        try clear hcz21
        try clear hcz22
        try clear hcz24
        try clear hcz26
        try clear hcz27
        try clear hcz33
        try clear hcz36
        try clear hcz40
        try clear hfz13
        try clear hfz16
        try clear hfz17
        try clear hfz21
        try clear hfz22
        try clear hfz24
        try clear hfz26
        try clear hfz27
        try clear hfz33
        try clear hfz36
        try clear hfz40
        try clear hx575_0
        try clear hx575_1
        try clear hx575_2
        try clear hx575_3
        try clear hx575_4
        try clear hx575_5
        try clear hx575_6
        try clear hx575_7
        try clear hx575_8
        try clear hx575_9
        try clear p2
        try clear p5
        try clear p575
        try clear q5
        try clear q575
        obtain ⟨kq, x5_30, HA, HJ30, HO_5, HO_6, BK568, BK576, HB⟩ := hcut
        cases kq with
        | zero => exact absurd HA.out (by simp [spec_LeansOn.j2])
        | succ kj30 =>
         have H := HA.out
         clear HA
         simp only [spec_LeansOn.j2] at H
         have H' := Aside0.mk H
         clear H
         go_wp2
         go_loopg [5, 9] kj30 (fun kq v5 v9 w' => ∃ (x5_4 : List (S26)) (x9_4 : Int), v9 = .int .i64 x9_4 ∧ Aside0 (spec_LeansOn.l1 kq l0 x5_4 t572 x7_1 x9_4 a1_0 a1_1 ((rd_T49 l0 x7_1).f0) ((rd_T49 l0 x7_1).f1.f0) ((rd_T49 l0 x7_1).f1.f1) ((rd_T49 l0 x7_1).f2) ((rd_T49 l0 x7_1).f3.f0) ((rd_T49 l0 x7_1).f3.f1) ((rd_T49 l0 x7_1).f4.f0) ((rd_T49 l0 x7_1).f4.f1) ((rd_T49 l0 x7_1).f5) ((rd_T49 l0 x7_1).f6) = some r) ∧ Aside0 (kq ≤ kj30) ∧ Aside0 (Kd.R k26 26 w' w.heap.size (fun k_ => k_ ≠ gb568) v5 x5_4) ∧ Aside0 (Kd.R k58 58 w' w.heap.size (fun _ => True) v573 t572) ∧ Aside0 (w'.heap[gb568]? = some (.cells #[.int .i64 a1_0, .int .i64 a1_1] 26 (0, 0))) ∧ Aside0 (w'.heap[gb576]? = some (.cells #[.int .i64 ((rd_T49 l0 x7_1).f0), .int .i64 ((rd_T49 l0 x7_1).f1.f0), .int .i64 ((rd_T49 l0 x7_1).f1.f1), .int .i64 ((rd_T49 l0 x7_1).f2), .int .i64 ((rd_T49 l0 x7_1).f3.f0), .int .i64 ((rd_T49 l0 x7_1).f3.f1), .int .i64 ((rd_T49 l0 x7_1).f4.f0), .int .i64 ((rd_T49 l0 x7_1).f4.f1), .int .i64 ((rd_T49 l0 x7_1).f5), .int .i64 ((rd_T49 l0 x7_1).f6)] 49 (0, 0))) ∧ Aside0 (Below w.heap.size w w'))
         case atStart => exact ⟨(x5_30), (0), rf_, H', ⟨Nat.le_refl _⟩, ⟨rr_ HO_5⟩, ⟨rr_ HO_6⟩, ⟨bk_ BK568⟩, ⟨bk_ BK576⟩, ⟨bl_⟩⟩
         case round =>
          clear H'
          try clear c1
          try clear c2
          try clear p2
          try clear c3
          try clear p5
          try clear q5
          try clear hx5
          try clear p6
          try clear c8
          try clear c8b0
          try clear c9
          try clear c9b0
          try clear c11
          try clear c12
          try clear c14
          try clear c14b0
          try clear c15
          try clear c19
          try clear c20
          try clear c25
          try clear c29
          try clear c32
          try clear c33
          try clear c35
          try clear c37
          try clear c37b0
          try clear c37b1
          try clear c39
          try clear hcz13
          try clear hcz16
          try clear hcz17
          try clear hcz21
          try clear hcz22
          try clear hcz24
          try clear hcz26
          try clear hcz27
          try clear hcz33
          try clear hcz36
          try clear hcz40
          try clear hfz13
          try clear hfz16
          try clear hfz17
          try clear hfz21
          try clear hfz22
          try clear hfz24
          try clear hfz26
          try clear hfz27
          try clear hfz33
          try clear hfz36
          try clear hfz40
          try clear hx575_0
          try clear hx575_1
          try clear hx575_2
          try clear hx575_3
          try clear hx575_4
          try clear hx575_5
          try clear hx575_6
          try clear hx575_7
          try clear hx575_8
          try clear hx575_9
          try clear p2
          try clear p5
          try clear p575
          try clear p6
          try clear q5
          try clear q575
          obtain ⟨x5_4, x9_4, rfl, HA, HK4, HO_5, HO_6, BK568, BK576, HB⟩ := hrel
          cases gk with
          | zero => exact absurd HA.out (by simp [spec_LeansOn.l1])
          | succ k4 =>
           have H := HA.out
           clear HA
           simp only [spec_LeansOn.l1] at H
           have HC43 := Aside0.mk H
           clear H
           go_upto_region 12 with (fail)
           go_cut [54] (fun v54 wc => ∃ (kq : Nat) (x54_42 : Bool), v54 = .bool x54_42 ∧ Aside0 (spec_LeansOn.j4 kq l0 x5_4 t572 x7_1 x9_4 x54_42 a1_0 a1_1 ((rd_T49 l0 x7_1).f0) ((rd_T49 l0 x7_1).f1.f0) ((rd_T49 l0 x7_1).f1.f1) ((rd_T49 l0 x7_1).f2) ((rd_T49 l0 x7_1).f3.f0) ((rd_T49 l0 x7_1).f3.f1) ((rd_T49 l0 x7_1).f4.f0) ((rd_T49 l0 x7_1).f4.f1) ((rd_T49 l0 x7_1).f5) ((rd_T49 l0 x7_1).f6) = some r) ∧ Aside0 (kq ≤ k4) ∧ Aside0 (Kd.R k26 26 wc w.heap.size (fun k_ => k_ ≠ gb568) u5 x5_4) ∧ Aside0 (Kd.R k58 58 wc w.heap.size (fun _ => True) v573 t572) ∧ Aside0 (wc.heap[gb568]? = some (.cells #[.int .i64 a1_0, .int .i64 a1_1] 26 (0, 0))) ∧ Aside0 (wc.heap[gb576]? = some (.cells #[.int .i64 ((rd_T49 l0 x7_1).f0), .int .i64 ((rd_T49 l0 x7_1).f1.f0), .int .i64 ((rd_T49 l0 x7_1).f1.f1), .int .i64 ((rd_T49 l0 x7_1).f2), .int .i64 ((rd_T49 l0 x7_1).f3.f0), .int .i64 ((rd_T49 l0 x7_1).f3.f1), .int .i64 ((rd_T49 l0 x7_1).f4.f0), .int .i64 ((rd_T49 l0 x7_1).f4.f1), .int .i64 ((rd_T49 l0 x7_1).f5), .int .i64 ((rd_T49 l0 x7_1).f6)] 49 (0, 0))) ∧ Aside0 (Below w.heap.size w wc))
           case first =>
            have H := HC43.out
            clear HC43
            by_cases c44 : x9_4 < 6
            ·rw [if_pos c44] at H
             have c44b0 : decide (x9_4 < 6) = true := decide_eq_true c44
             clear c44
             (first | rw [c44b0] | (simp only [i64_w, i32_w]; rw [c44b0]) | skip)
             have H' := Aside0.mk H
             clear H
             have hnb45 := NB576_568.out
             have hnc45 := NB568_576.out
             have hcz46 := blk_cell BK576.out
             have hfz46 := blk_frozen BK576.out
             go_wp2
             go_meet
             case rel => exact ⟨_, ((((rd_T49 l0 x7_1).f0) == 3)), rf_, H', ⟨by have := HK1.out; have := HJ9.out; have := HJ30.out; have := HK4.out; first | omega | exact Nat.le_refl _⟩, ⟨rr_ HO_5⟩, ⟨rr_ HO_6⟩, ⟨bk_ BK568⟩, ⟨bk_ BK576⟩, ⟨bl_⟩⟩
            ·rw [if_neg c44] at H
             have c44b0 : decide (x9_4 < 6) = false := decide_eq_false c44
             clear c44
             (first | rw [c44b0] | (simp only [i64_w, i32_w]; rw [c44b0]) | skip)
             have H' := Aside0.mk H
             clear H
             go_wp2
             go_meet
             case rel => exact ⟨_, (false), rf_, H', ⟨by have := HK1.out; have := HJ9.out; have := HJ30.out; have := HK4.out; first | omega | exact Nat.le_refl _⟩, ⟨rr_ HO_5⟩, ⟨rr_ HO_6⟩, ⟨bk_ BK568⟩, ⟨bk_ BK576⟩, ⟨bl_⟩⟩
           case rest =>
            clear HC43
            try clear c1
            try clear c2
            try clear p2
            try clear c3
            try clear c4
            try clear p5
            try clear q5
            try clear hx5
            try clear p6
            try clear c8
            try clear c8b0
            try clear c9
            try clear c9b0
            try clear c11
            try clear c12
            try clear c14
            try clear c14b0
            try clear c15
            try clear c19
            try clear c20
            try clear c25
            try clear c29
            try clear c32
            try clear c33
            try clear c35
            try clear c37
            try clear c37b0
            try clear c37b1
            try clear c39
            try clear c44
            try clear c44b0
            try clear c45
            try clear hcz13
            try clear hcz16
            try clear hcz17
            try clear hcz21
            try clear hcz22
            try clear hcz24
            try clear hcz26
            try clear hcz27
            try clear hcz33
            try clear hcz36
            try clear hcz40
            try clear hcz46
            try clear hfz13
            try clear hfz16
            try clear hfz17
            try clear hfz21
            try clear hfz22
            try clear hfz24
            try clear hfz26
            try clear hfz27
            try clear hfz33
            try clear hfz36
            try clear hfz40
            try clear hfz46
            try clear hx575_0
            try clear hx575_1
            try clear hx575_2
            try clear hx575_3
            try clear hx575_4
            try clear hx575_5
            try clear hx575_6
            try clear hx575_7
            try clear hx575_8
            try clear hx575_9
            try clear p2
            try clear p5
            try clear p575
            try clear p6
            try clear q5
            try clear q575
            obtain ⟨kq, x54_42, rfl, HA, HJ42, HO_5, HO_6, BK568, BK576, HB⟩ := hcut
            cases kq with
            | zero => exact absurd HA.out (by simp [spec_LeansOn.j4])
            | succ kj42 =>
             have H := HA.out
             clear HA
             simp only [spec_LeansOn.j4] at H
             by_cases c47 : x54_42 = true
             ·subst c47
              replace H := ite_t_ H
              obtain ⟨t584, A48, H⟩ := bindE_ H
              have HC49 := Aside0.mk H
              clear H
              have hnb50 := NB576_568.out
              have hnc50 := NB568_576.out
              have hcz51 := blk_cell BK576.out
              have hfz51 := blk_frozen BK576.out
              obtain ⟨Ao52, co52, eo52⟩ := Kd.R_slice HO_6.out
              subst eo52
              go_upto_if 62 with (first | ((with_reducible refine gate_callee (f := 36) rfl ?_); refine goesC_ (some 62) Try.func36 #[.slice Ao52 t572.length co52, .agg #[.int .i64 ((rd_T49 l0 x7_1).f3.f0), .int .i64 ((rd_T49 l0 x7_1).f3.f1), .int .i64 x9_4]] ?_; (with_reducible refine (spec_l06Has.calls kj42 _ _ t572 ((rd_T49 l0 x7_1).f3.f0) ((rd_T49 l0 x7_1).f3.f1) x9_4 t584 _ ?side1 ?side2 A48.out).mono ?_); (case side1 => repeat (first | exact (Kd.R_reads' HO_6.out).2.2 | (with_reducible refine Kd.C_alloc ?_ _) | (with_reducible refine Kd.C_drewN ?_ _) | (with_reducible refine Kd.C_drew ?_))); (case side2 => exact (Kd.R_reads' HO_6.out).2.1); rintro e w53 ⟨rfl, hb⟩; refine ⟨_, rfl, ?_⟩; replace HO_5 := hob_ HO_5 hb; replace HO_6 := hob_ HO_6 hb; replace BK568 := bkb_ BK568 hb; replace BK576 := bkb_ BK576 hb; replace HB := hbs_ hb; clear hb))
              (try simp only [Act.put, List.setIfInBounds_toArray, List.set_cons_zero, List.set_cons_succ])
              have H := HC49.out
              clear HC49
              by_cases c54 : t584 = true
              ·subst c54
               replace H := ite_t_ H
               obtain ⟨t585, A55, H⟩ := bindE_ H
               have H' := Aside0.mk H
               clear H
               have hnb56 := NB576_568.out
               have hnc56 := NB568_576.out
               have hcz57 := blk_cell BK576.out
               have hfz57 := blk_frozen BK576.out
               obtain ⟨Ao58, co58, eo58⟩ := Kd.R_slice HO_5.out
               subst eo58
               go_wp2_with (first | ((with_reducible refine gate_callee (f := 35) rfl ?_); refine goesC_ (some 69) Try.func35 #[.slice Ao58 x5_4.length co58, .agg #[.int .i64 x9_4, .int .i64 ((rd_T49 l0 x7_1).f4.f1)]] ?_; (with_reducible refine (spec_l18Add.calls kj42 (fun k_ => some k_ = (.slice Ao58 x5_4.length co58 : Value).ownBlock) (.slice Ao58 x5_4.length co58) x5_4 x9_4 ((rd_T49 l0 x7_1).f4.f1) t585 w _ ?side1 ?side2 A55.out).mono ?_); (case side1 => repeat (first | (with_reducible first | exact HB.out | apply below_alloc | apply pw_below_drewN | apply below_drew1 | refine below_set ?_ GE568.out | refine below_set ?_ GE576.out) | exact HB.out)); (case side2 => exact Kd.R_tight rfl HO_5.out); rintro e w59 ⟨v586, rfl, ho0, hb, hkp⟩; refine ⟨_, rfl, ?_⟩; replace HO_6 := Aside0.mk (Kd.R_mono (ok' := fun k_ => True) (Kd.R_keptB ((Kd.R_apart' HO_6.out (Kd.R_typed HO_5.out) (by decide))) hkp (fun k_ hk_ hs_ => (hk_.2) hs_)) (fun k_ hk_ => trivial)); replace BK576 := Aside0.mk (blk_kept (bk_ BK576) hkp (fun hs_ => (fun e_ => (Kd.R_ne HO_5.out BK576.out (by decide)) e_) hs_)); have HO587 := Aside0.mk (Kd.R_mono (ok' := fun k_ => k_ ≠ gb568) ho0 (fun k_ hk_ => Or.elim hk_ (fun hs_ => fun e_ => (Kd.R_away HO_5.out (fun _ hk => hk)) (by rw [← e_]; exact hs_)) (fun hn_ => (Kd.freshB (g := gb568) (o := .cells #[.int .i64 a1_0, .int .i64 a1_1] 26 (0, 0)) (bk_ BK568) k_ hn_)))); replace BK568 := Aside0.mk (blk_kept (bk_ BK568) hkp (fun hs_ => (fun e_ => (Kd.R_away HO_5.out (fun _ hk => hk)) e_) hs_)); replace HB := Aside0.mk (hb); clear HO_5; (try clear hb hkp ho0)))
               go_roundg kj42
               case measure => have := HK1.out; have := HJ9.out; have := HJ30.out; have := HK4.out; have := HJ42.out; omega
               case rel => exact ⟨(t585), (wrap64 (x9_4 + 1)), rf_, H', ⟨by have := HK1.out; have := HJ9.out; have := HJ30.out; have := HK4.out; have := HJ42.out; omega⟩, ⟨rr_ HO587⟩, ⟨rr_ HO_6⟩, ⟨bk_ BK568⟩, ⟨bk_ BK576⟩, ⟨bl_⟩⟩
              ·replace c54 := Bool.eq_false_iff.mpr c54
               subst c54
               replace H := ite_f_ H
               have H' := Aside0.mk H
               clear H
               go_wp2
               go_roundg kj42
               case measure => have := HK1.out; have := HJ9.out; have := HJ30.out; have := HK4.out; have := HJ42.out; omega
               case rel => exact ⟨(x5_4), (wrap64 (x9_4 + 1)), rf_, H', ⟨by have := HK1.out; have := HJ9.out; have := HJ30.out; have := HK4.out; have := HJ42.out; omega⟩, ⟨rr_ HO_5⟩, ⟨rr_ HO_6⟩, ⟨bk_ BK568⟩, ⟨bk_ BK576⟩, ⟨bl_⟩⟩
             ·replace c47 := Bool.eq_false_iff.mpr c47
              subst c47
              replace H := ite_f_ H
              have H' := Aside0.mk H
              clear H
              go_wp2
              go_roundg kj42
              case measure => have := HK1.out; have := HJ9.out; have := HJ30.out; have := HK4.out; have := HJ42.out; omega
              case rel => exact ⟨(x5_4), (wrap64 (x7_1 + 1)), rf_, H', ⟨by have := HK1.out; have := HJ9.out; have := HJ30.out; have := HK4.out; have := HJ42.out; omega⟩, ⟨rr_ HO_5⟩, ⟨rr_ HO_6⟩, ⟨bk_ BK568⟩, ⟨bl_⟩⟩
   ·rw [if_neg c8] at H
    have c8b0 : decide (x7_1 < (l0.length : Int)) = false := decide_eq_false c8
    clear c8
    obtain rfl := Option.some.inj H
    go_wp2
    go_ret
    exact ⟨_, eq_, by (with_reducible repeat (first | apply Kd.R_alloc | apply Kd.R_drewN | apply Kd.R_drew)); exact Kd.R_mono HO_5.out (fun _ hk => trivial), bl_⟩
mutual
def impl_ReachRoles.l0 : Nat → List (S49) → List (S26) → Int → Option ((List (S26)))
 | 0, _, _, _ => none
 | k + 1, x0, x5, x6 => if x6 < (x5.length : Int) then (if 0 ≤ x6 then ((impl_LeansOn.f k x0 ((rd_T26 x5 x6).f0) ((rd_T26 x5 x6).f1)).bind fun t593 => (impl_ReachRoles.l1 k x0 x5 x6 t593 (t593.length : Int) 0)) else (none)) else (some x5)
def impl_ReachRoles.l1 : Nat → List (S49) → List (S26) → Int → List (S26) → Int → Int → Option ((List (S26)))
 | 0, _, _, _, _, _, _ => none
 | k + 1, x0, x5, x6, x23, x24, x25 => if x25 < x24 then (if 0 ≤ x25 then (if x25 < (x23.length : Int) then ((impl_Role_32.f k x5 ((rd_T26 x23 x25).f0) ((rd_T26 x23 x25).f1)).bind fun t598 => (if t598 = true then (impl_ReachRoles.l1 k x0 x5 x6 x23 x24 (wrap64 (x25 + 1))) else (if x5.length < 8796093022208 then (impl_ReachRoles.l1 k x0 (x5 ++ [(⟨(rd_T26 x23 x25).f0, (rd_T26 x23 x25).f1⟩ : S26)]) x6 x23 x24 (wrap64 (x25 + 1))) else (none)))) else (none)) else (none)) else (impl_ReachRoles.l0 k x0 x5 (wrap64 (x6 + 1)))
end
def impl_ReachRoles.f (k : Nat) (l0 : List (S49)) (a1_0 : Int) (a1_1 : Int) : Option ((List (S26))) := (impl_LeansOn.f k l0 a1_0 a1_1).bind fun t589 => (impl_ReachRoles.l0 k l0 t589 0)
set_option maxHeartbeats 8000000 in
set_option maxRecDepth 100000 in
theorem impl_ReachRoles.calls (k : Nat) (A0 : Option Addr) (c0 : Nat) (l0 : List (S49)) (a1_0 : Int) (a1_1 : Int) (r : List (S26)) (w : World) (hr0 : Kd.C k49 w A0 l0.length l0) (hc0 : l0.length ≤ c0) (h : impl_ReachRoles.f k l0 a1_0 a1_1 = some r) :
  Calls Try.prog 12 #[.slice A0 l0.length c0, .agg #[.int .i64 a1_0, .int .i64 a1_1]] w fun e w' => ∃ v0_ : Value, e = .returned (v0_) ∧ Kd.R k26 26 w' w.heap.size (fun _ => True) v0_ r ∧ Below w.heap.size w w' := by
 have hu26 := Try.underlying26
 have HR0 := Aside0.mk hr0
 have HC0 := Aside0.mk hc0
 clear hr0 hc0
 have HB := Aside0.mk (Below.refl w.heap.size w)
 have H : ((impl_LeansOn.f k l0 a1_0 a1_1).bind fun t589 => (impl_ReachRoles.l0 k l0 t589 0)) = some r := h
 clear h
 obtain ⟨t589, A3, H⟩ := bindE_ H
 have H' := Aside0.mk H
 clear H
 go_enter Try.func12, Try.ntmps12
 go_wp2_with (first | ((with_reducible refine gate_dst (N := 3) rfl ?_); refine box_event ?hg (N := 3) ?hd (cs := #[.int .i64 a1_0, .int .i64 a1_1]) (t := 26) ?hr ?_; (case hd => rfl); (case hg => rfl); (case hr => first | (go_simp; done) | (go_simp; rfl)); intro gb588 hg w4 hbox hb; have BK588 := Aside0.mk (hbox); have GW588 := gs_ hg; have GE588 := gs_ hg; replace HB := hbs_ hb; clear hb hbox hg; obtain ⟨hcz5, hfz5⟩ := bcf_ BK588) | ((with_reducible refine gate_callee (f := 10) rfl ?_); refine goesC_ (some 11) Try.func10 #[.slice A0 l0.length c0, .agg #[.int .i64 a1_0, .int .i64 a1_1]] ?_; (with_reducible refine (impl_LeansOn.calls k _ _ l0 a1_0 a1_1 t589 _ ?side1 ?side2 A3.out).mono ?_); (case side1 => repeat (first | exact (Kd.C_below HR0.out HB.out) | (with_reducible refine Kd.C_alloc ?_ _) | (with_reducible refine Kd.C_drewN ?_ _) | (with_reducible refine Kd.C_drew ?_))); (case side2 => exact HC0.out); rintro e w6 ⟨v590, rfl, ho0, hb⟩; refine ⟨_, rfl, ?_⟩; have HO591 := Aside0.mk (Kd.R_lower (Kd.R_newB ho0 (g := gb588) (o := .cells #[.int .i64 a1_0, .int .i64 a1_1] 26 (0, 0)) (bk_ BK588)) bls_); replace BK588 := bkb_ BK588 hb; replace HB := hbs_ hb; (try clear hb ho0)))
 go_loopg [5, 6] k (fun kq v5 v6 w' => ∃ (x5_1 : List (S26)) (x6_1 : Int), v6 = .int .i64 x6_1 ∧ Aside0 (impl_ReachRoles.l0 kq l0 x5_1 x6_1 = some r) ∧ Aside0 (kq ≤ k) ∧ Aside0 (Kd.R k26 26 w' w.heap.size (fun k_ => k_ ≠ gb588) v5 x5_1) ∧ Aside0 (w'.heap[gb588]? = some (.cells #[.int .i64 a1_0, .int .i64 a1_1] 26 (0, 0))) ∧ Aside0 (Below w.heap.size w w'))
 case atStart => exact ⟨(t589), (0), rf_, H', ⟨Nat.le_refl _⟩, ⟨by (with_reducible repeat (first | apply Kd.R_alloc | apply Kd.R_drewN | apply Kd.R_drew)); exact Kd.R_mono HO591.out (fun _ hk => hk.2)⟩, ⟨bk_ BK588⟩, ⟨bl_⟩⟩
 case round =>
  clear H'
  try clear c1
  try clear p2
  try clear hcz5
  try clear hfz5
  obtain ⟨x5_1, x6_1, rfl, HA, HK1, HO_5, BK588, HB⟩ := hrel
  cases gk with
  | zero => exact absurd HA.out (by simp [impl_ReachRoles.l0])
  | succ k1 =>
   have H := HA.out
   clear HA
   simp only [impl_ReachRoles.l0] at H
   by_cases c7 : x6_1 < (x5_1.length : Int)
   ·rw [if_pos c7] at H
    have c7b0 : decide (x6_1 < (x5_1.length : Int)) = true := decide_eq_true c7
    clear c7
    obtain ⟨c8b0, H⟩ := ifd_ H
    obtain ⟨t593, A9, H⟩ := bindE_ H
    have H' := Aside0.mk H
    clear H
    obtain ⟨Ao10, co10, eo10⟩ := Kd.R_slice HO_5.out
    subst eo10
    have p592 : 0 ≤ (x6_1 : Int) := od_
    have q592 : x6_1 < (x5_1.length : Int) := od_
    obtain ⟨ad592, e592, hx592_0, hx592_1⟩ := at_T26 (Kd.R_reads' HO_5.out).2.2 x6_1 p592 q592
    cases e592
    replace p592 := eq_true p592
    replace q592 := eq_true q592
    go_wp2_with (first | ((with_reducible refine gate_callee (f := 10) rfl ?_); refine goesC_ (some 23) Try.func10 #[.slice A0 l0.length c0, .agg #[.int .i64 ((rd_T26 x5_1 x6_1).f0), .int .i64 ((rd_T26 x5_1 x6_1).f1)]] ?_; (with_reducible refine (impl_LeansOn.calls k1 _ _ l0 ((rd_T26 x5_1 x6_1).f0) ((rd_T26 x5_1 x6_1).f1) t593 _ ?side1 ?side2 A9.out).mono ?_); (case side1 => repeat (first | exact (Kd.C_below HR0.out HB.out) | (with_reducible refine Kd.C_alloc ?_ _) | (with_reducible refine Kd.C_drewN ?_ _) | (with_reducible refine Kd.C_drew ?_))); (case side2 => exact HC0.out); rintro e w11 ⟨v594, rfl, ho0, hb⟩; refine ⟨_, rfl, ?_⟩; have HO595 := Aside0.mk (Kd.R_lower (Kd.R_newB (Kd.R_new' ho0 (Kd.R_lt (rr_ HO_5))) (g := gb588) (o := .cells #[.int .i64 a1_0, .int .i64 a1_1] 26 (0, 0)) (bk_ BK588)) bls_); replace HO_5 := Aside0.mk (Kd.R_elder' (rr_ HO_5) (Kd.R_base ho0) hb); replace BK588 := bkb_ BK588 hb; replace HB := hbs_ hb; (try clear hb ho0); obtain ⟨Ao12, co12, eo12⟩ := Kd.R_slice HO595.out; subst eo12))
    go_loopg [5, 25] k1 (fun kq v5 v25 w' => ∃ (x5_2 : List (S26)) (x25_2 : Int), v25 = .int .i64 x25_2 ∧ Aside0 (impl_ReachRoles.l1 kq l0 x5_2 x6_1 t593 (t593.length : Int) x25_2 = some r) ∧ Aside0 (kq ≤ k1) ∧ Aside0 (Kd.R k26 26 w' w.heap.size (fun k_ => some k_ ≠ ((.slice Ao12 t593.length co12) : Value).ownBlock ∧ k_ ≠ gb588) v5 x5_2) ∧ Aside0 (Kd.R k26 26 w' w.heap.size (fun k_ => some k_ ≠ (v5 : Value).ownBlock ∧ k_ ≠ gb588) (.slice Ao12 t593.length co12) t593) ∧ Aside0 (w'.heap[gb588]? = some (.cells #[.int .i64 a1_0, .int .i64 a1_1] 26 (0, 0))) ∧ Aside0 (Below w.heap.size w w'))
    case atStart => exact ⟨(x5_1), (0), rf_, H', ⟨Nat.le_refl _⟩, ⟨by (with_reducible repeat (first | apply Kd.R_alloc | apply Kd.R_drewN | apply Kd.R_drew)); exact Kd.R_mono HO_5.out (fun _ hk => ⟨hk.2, hk.1⟩)⟩, ⟨by (with_reducible repeat (first | apply Kd.R_alloc | apply Kd.R_drewN | apply Kd.R_drew)); exact Kd.R_mono HO595.out (fun _ hk => ⟨hk.1.2, hk.2⟩)⟩, ⟨bk_ BK588⟩, ⟨bl_⟩⟩
    case round =>
     clear H'
     try clear c1
     try clear p2
     try clear p5
     try clear q5
     try clear hx5
     try clear c7
     try clear c7b0
     try clear c8
     try clear c8b0
     try clear c10
     try clear c12
     try clear hcz5
     try clear hfz5
     try clear hx592_0
     try clear hx592_1
     try clear p2
     try clear p592
     try clear q592
     obtain ⟨x5_2, x25_2, rfl, HA, HK2, HO_5, HO_23, BK588, HB⟩ := hrel
     cases gk with
     | zero => exact absurd HA.out (by simp [impl_ReachRoles.l1])
     | succ k2 =>
      have H := HA.out
      clear HA
      simp only [impl_ReachRoles.l1] at H
      by_cases c13 : x25_2 < (t593.length : Int)
      ·rw [if_pos c13] at H
       have c13b0 : decide (x25_2 < (t593.length : Int)) = true := decide_eq_true c13
       clear c13
       obtain ⟨c14b0, H⟩ := ifd_ H
       obtain ⟨c15b0, H⟩ := ifd_ H
       obtain ⟨t598, A16, H⟩ := bindE_ H
       have HC17 := Aside0.mk H
       clear H
       have p596 : 0 ≤ (x25_2 : Int) := od_
       have q596 : x25_2 < (t593.length : Int) := od_
       obtain ⟨ad596, e596, hx596_0, hx596_1⟩ := at_T26 (Kd.R_reads' HO_23.out).2.2 x25_2 p596 q596
       cases e596
       replace p596 := eq_true p596
       replace q596 := eq_true q596
       go_upto_if 32 with (first | ((with_reducible refine gate_dst (N := 8) rfl ?_); refine box_event ?hg (N := 8) ?hd (cs := #[.int .i64 0, .int .i64 0]) (t := 26) ?hr ?_; (case hd => rfl); (case hg => rfl); (case hr => first | (go_simp; done) | (go_simp; rfl)); intro gb597 hg w18 hbox hb; replace HO_5 := Aside0.mk (Kd.R_below (Kd.R_elderB (rr_ HO_5) gb597 (Nat.le_of_eq hg.symm)) hb); replace HO_23 := Aside0.mk (Kd.R_below (Kd.R_elderB (rr_ HO_23) gb597 (Nat.le_of_eq hg.symm)) hb); have BK597 := Aside0.mk (hbox); have GW597 := gs_ hg; have GE597 := gs_ hg; replace HB := hbs_ hb; have NB588_597 := nl_ hg BK588; have NB597_588 := nr_ hg BK588; replace BK588 := bkb_ BK588 hb; clear hb hbox hg; have hnb19 := NB597_588.out; have hnc19 := NB588_597.out; obtain ⟨hcz20, hfz20⟩ := bcf_ BK597; obtain ⟨Ao21, co21, eo21⟩ := Kd.R_slice HO_5.out; subst eo21) | ((with_reducible refine gate_callee (f := 32) rfl ?_); refine goesC_ (some 31) Try.func32 #[.slice Ao21 x5_2.length co21, .agg #[.int .i64 ((rd_T26 t593 x25_2).f0), .int .i64 ((rd_T26 t593 x25_2).f1)]] ?_; (with_reducible refine (impl_Role_32.calls k2 _ _ x5_2 ((rd_T26 t593 x25_2).f0) ((rd_T26 t593 x25_2).f1) t598 _ ?side1 ?side2 A16.out).mono ?_); (case side1 => refine (Kd.R_reads' (e := 26) (base := w.heap.size) (ok := fun k_ => ((some k_ ≠ (.slice (some ad596) t593.length co12 : Value).ownBlock ∧ k_ ≠ gb588) ∧ k_ ≠ gb597)) (n := x5_2.length) (c := co21) ?_).2.2; exact (by (with_reducible repeat (first | apply Kd.R_alloc | apply Kd.R_drewN | apply Kd.R_drew)); exact (Kd.R_mono (fr2_ (Kd.R_mono HO_5.out (fun k_ hk => (⟨hk, hk.2⟩ : _ ∧ k_ ≠ gb597))) (fun _ hk => hk.2)) (fun _ h_ => h_.1)))); (case side2 => exact (Kd.R_reads' HO_5.out).2.1); rintro e w22 ⟨rfl, hb⟩; refine ⟨_, rfl, ?_⟩; replace HO_5 := Aside0.mk (Kd.R_below (by (with_reducible repeat (first | apply Kd.R_alloc | apply Kd.R_drewN | apply Kd.R_drew)); exact (Kd.R_mono (fr2_ (Kd.R_mono HO_5.out (fun k_ hk => (⟨hk, hk.2⟩ : _ ∧ k_ ≠ gb597))) (fun _ hk => hk.2)) (fun _ h_ => h_.1))) hb); replace HO_23 := Aside0.mk (Kd.R_below (by (with_reducible repeat (first | apply Kd.R_alloc | apply Kd.R_drewN | apply Kd.R_drew)); exact (Kd.R_mono (fr2_ (Kd.R_mono HO_23.out (fun k_ hk => (⟨hk, hk.2⟩ : _ ∧ k_ ≠ gb597))) (fun _ hk => hk.2)) (fun _ h_ => h_.1))) hb); replace BK588 := Aside0.mk (blk_below (g := gb588) (o := .cells #[.int .i64 a1_0, .int .i64 a1_1] 26 (0, 0)) (bk_ BK588) hb); replace BK597 := Aside0.mk (blk_below (g := gb597) (o := .cells #[.int .i64 ((rd_T26 t593 x25_2).f0), .int .i64 ((rd_T26 t593 x25_2).f1)] 26 (0, 0)) (bk_ BK597) hb); replace HB := hbs_ hb; clear hb))
       (try simp only [Act.put, List.setIfInBounds_toArray, List.set_cons_zero, List.set_cons_succ])
       have H := HC17.out
       clear HC17
       by_cases c23 : t598 = true
       ·subst c23
        replace H := ite_t_ H
        have H' := Aside0.mk H
        clear H
        go_wp2
        go_roundg k2
        case measure => have := HK1.out; have := HK2.out; omega
        case rel => exact ⟨(x5_2), (wrap64 (x25_2 + 1)), rf_, H', ⟨by have := HK1.out; have := HK2.out; omega⟩, ⟨by (with_reducible repeat (first | apply Kd.R_alloc | apply Kd.R_drewN | apply Kd.R_drew)); exact Kd.R_mono HO_5.out (fun _ hk => ⟨hk.1.1, hk.1.2⟩)⟩, ⟨by (with_reducible repeat (first | apply Kd.R_alloc | apply Kd.R_drewN | apply Kd.R_drew)); exact Kd.R_mono HO_23.out (fun _ hk => ⟨hk.1.1, hk.1.2⟩)⟩, ⟨bk_ BK588⟩, ⟨bl_⟩⟩
       ·replace c23 := Bool.eq_false_iff.mpr c23
        subst c23
        replace H := ite_f_ H
        obtain ⟨c24, H⟩ := ifn_ H
        have LMc24 := Aside0.mk c24
        clear c24
        obtain ⟨y599, hy599⟩ : ∃ y_ : List (S26), y_ = (x5_2 ++ [(⟨(rd_T26 t593 x25_2).f0, (rd_T26 t593 x25_2).f1⟩ : S26)]) := ⟨_, rfl⟩
        replace H : (impl_ReachRoles.l1 k2 l0 y599 x6_1 t593 (t593.length : Int) (wrap64 (x25_2 + 1))) = some r := rh_ hy599 H
        have Ny599 := Aside0.mk hy599
        clear hy599
        have H' := Aside0.mk H
        clear H
        have hnb25 := NB597_588.out
        have hnc25 := NB588_597.out
        have hcz26 := blk_cell BK597.out
        have hfz26 := blk_frozen BK597.out
        go_wp2_with (first | ((with_reducible refine gate_builtin (b := .append) (xs := #[.tmp 33, .tmp 35]) rfl ?_); at_builtin; refine Kd.R_append k26 (w0 := w) w.heap.size rfl (.tmp 33) (.tmp 35) 35 26 (.agg #[(.int .i64 0), (.int .i64 0)]) 16 rfl Try.underlying35 info26 rfl (by decide) (by omega) (.slice Ao21 x5_2.length co21) x5_2 (⟨(rd_T26 t593 x25_2).f0, (rd_T26 t593 x25_2).f1⟩ : S26) [.int .i64 ((rd_T26 t593 x25_2).f0), .int .i64 ((rd_T26 t593 x25_2).f1)] (fun k_ => some k_ ≠ (.slice (some ad596) t593.length co12 : Value).ownBlock ∧ k_ ≠ gb588 ∧ k_ ≠ gb597) (fun _ => False) rfl rfl ?aP (fun _ hk => hk.elim) ?aF ?aO ?aB ?aS ?aL ?_; (case aP => exact k26_mkM _ _ _ (⟨(rd_T26 t593 x25_2).f0, (rd_T26 t593 x25_2).f1⟩ : S26)); (case aB => exact bl_); (case aF => exact (fun k_ hk => ⟨Kd.fresh' (Kd.R_lt (rr_ HO_23)) k_ hk, Kd.freshB (g := gb588) (o := .cells #[.int .i64 a1_0, .int .i64 a1_1] 26 (0, 0)) (bk_ BK588) k_ hk, Kd.freshB (g := gb597) (o := .cells #[.int .i64 ((rd_T26 t593 x25_2).f0), .int .i64 ((rd_T26 t593 x25_2).f1)] 26 (0, 0)) (bk_ BK597) k_ hk⟩)); (case aO => exact (by (with_reducible repeat (first | apply Kd.R_alloc | apply Kd.R_drewN | apply Kd.R_drew)); exact Kd.R_mono HO_5.out (fun _ hk => ⟨hk.1.1, ⟨hk.1.2, hk.2⟩⟩))); (case aS => exact bls_); (case aL => have := LMc24.out; omega); intro v600 w27 ho hb hg hat; rw [← Ny599.out] at ho; replace HO_23 := Aside0.mk (Kd.R_after (ok := (fun k_ => k_ ≠ gb588 ∧ k_ ≠ gb597)) (by (with_reducible repeat (first | apply Kd.R_alloc | apply Kd.R_drewN | apply Kd.R_drew)); exact Kd.R_mono HO_23.out (fun _ hk => ⟨⟨hk.1.2, hk.2⟩, hk.1.1⟩)) hg hat); replace BK588 := Aside0.mk (blk_grown (g := gb588) (o := .cells #[.int .i64 a1_0, .int .i64 a1_1] 26 (0, 0)) (bk_ BK588) hg (Kd.R_away HO_5.out (fun _ hk => hk.1.2))); replace BK597 := Aside0.mk (blk_grown (g := gb597) (o := .cells #[.int .i64 ((rd_T26 t593 x25_2).f0), .int .i64 ((rd_T26 t593 x25_2).f1)] 26 (0, 0)) (bk_ BK597) hg (Kd.R_away HO_5.out (fun _ hk => hk.2))); replace HB := Aside0.mk (hb); have HO601 := Aside0.mk (ho); clear HO_5; clear ho hb hg hat))
        go_roundg k2
        case measure => have := HK1.out; have := HK2.out; omega
        case rel => exact ⟨(y599), (wrap64 (x25_2 + 1)), rf_, H', ⟨by have := HK1.out; have := HK2.out; omega⟩, ⟨by (with_reducible repeat (first | apply Kd.R_alloc | apply Kd.R_drewN | apply Kd.R_drew)); exact Kd.R_mono HO601.out (fun _ hk => ⟨hk.1, hk.2.1⟩)⟩, ⟨by (with_reducible repeat (first | apply Kd.R_alloc | apply Kd.R_drewN | apply Kd.R_drew)); exact Kd.R_mono HO_23.out (fun _ hk => ⟨hk.2, hk.1.1⟩)⟩, ⟨bk_ BK588⟩, ⟨bl_⟩⟩
      ·rw [if_neg c13] at H
       have c13b0 : decide (x25_2 < (t593.length : Int)) = false := decide_eq_false c13
       clear c13
       have H' := Aside0.mk H
       clear H
       go_wp2
       go_roundg k2
       case measure => have := HK1.out; have := HK2.out; omega
       case rel => exact ⟨(x5_2), (wrap64 (x6_1 + 1)), rf_, H', ⟨by have := HK1.out; have := HK2.out; omega⟩, ⟨by (with_reducible repeat (first | apply Kd.R_alloc | apply Kd.R_drewN | apply Kd.R_drew)); exact Kd.R_mono HO_5.out (fun _ hk => hk.2)⟩, ⟨bk_ BK588⟩, ⟨bl_⟩⟩
   ·rw [if_neg c7] at H
    have c7b0 : decide (x6_1 < (x5_1.length : Int)) = false := decide_eq_false c7
    clear c7
    obtain rfl := Option.some.inj H
    obtain ⟨Ao28, co28, eo28⟩ := Kd.R_slice HO_5.out
    subst eo28
    go_wp2
    go_ret
    exact ⟨_, eq_, by (with_reducible repeat (first | apply Kd.R_alloc | apply Kd.R_drewN | apply Kd.R_drew)); exact Kd.R_mono HO_5.out (fun _ hk => trivial), bl_⟩
end Go.Proofs.Ytamhfnedknjjbaa.PB
