import Derived.Test.YtppdmcimddhbaaaKNPEx21
-- printed by wip/tools
namespace Go.Proofs.Ytppdmcimddhbaaa.PE
open Go.RowKit Go.Proofs.YtppdmcimddhbaaaW.PrintWords Go.Proofs.YtppdmcimddhbaaaW.PrintLast Go.Proofs.YtppdmcimddhbaaaW.PrintMore
attribute [local go_sem] max2_int min2_int max_two min_two max_three min_three max_four min_four
set_option linter.unusedVariables false
set_option linter.unusedSimpArgs false
attribute [local go_sem high] eqA27
mutual
def spec_LeansOn.l0 : Nat → List (S46) → List (S27) → List (S29) → Int → Int → Int → Option ((List (S27)))
 | 0, _, _, _, _, _, _ => none
 | k + 1, x0, x5, x6, x7, x682000, x682001 => if x7 < (x0.length : Int) then (if 0 ≤ x7 then (if (!(((rd_T46 x0 x7).f1.f0) == x682000) || (!(((rd_T46 x0 x7).f1.f1) == x682001))) = true then (spec_LeansOn.j1 k x0 x5 x6 x7 true x682000 x682001 ((rd_T46 x0 x7).f0) ((rd_T46 x0 x7).f1.f0) ((rd_T46 x0 x7).f1.f1) ((rd_T46 x0 x7).f2) ((rd_T46 x0 x7).f3.f0) ((rd_T46 x0 x7).f3.f1) ((rd_T46 x0 x7).f4.f0) ((rd_T46 x0 x7).f4.f1) ((rd_T46 x0 x7).f5) ((rd_T46 x0 x7).f6)) else ((spec_CredOk.f k ((rd_T46 x0 x7).f0) ((rd_T46 x0 x7).f1.f0) ((rd_T46 x0 x7).f1.f1) ((rd_T46 x0 x7).f2) ((rd_T46 x0 x7).f3.f0) ((rd_T46 x0 x7).f3.f1) ((rd_T46 x0 x7).f4.f0) ((rd_T46 x0 x7).f4.f1) ((rd_T46 x0 x7).f5) ((rd_T46 x0 x7).f6)).bind fun t690 => (if t690 = true then (spec_LeansOn.j1 k x0 x5 x6 x7 (((rd_T46 x0 x7).f0) == 1) x682000 x682001 ((rd_T46 x0 x7).f0) ((rd_T46 x0 x7).f1.f0) ((rd_T46 x0 x7).f1.f1) ((rd_T46 x0 x7).f2) ((rd_T46 x0 x7).f3.f0) ((rd_T46 x0 x7).f3.f1) ((rd_T46 x0 x7).f4.f0) ((rd_T46 x0 x7).f4.f1) ((rd_T46 x0 x7).f5) ((rd_T46 x0 x7).f6)) else (spec_LeansOn.j1 k x0 x5 x6 x7 true x682000 x682001 ((rd_T46 x0 x7).f0) ((rd_T46 x0 x7).f1.f0) ((rd_T46 x0 x7).f1.f1) ((rd_T46 x0 x7).f2) ((rd_T46 x0 x7).f3.f0) ((rd_T46 x0 x7).f3.f1) ((rd_T46 x0 x7).f4.f0) ((rd_T46 x0 x7).f4.f1) ((rd_T46 x0 x7).f5) ((rd_T46 x0 x7).f6))))) else (none)) else (some x5)
def spec_LeansOn.j1 : Nat → List (S46) → List (S27) → List (S29) → Int → Bool → Int → Int → Int → Int → Int → Int → Int → Int → Int → Int → Int → Int → Option ((List (S27)))
 | 0, _, _, _, _, _, _, _, _, _, _, _, _, _, _, _, _, _ => none
 | k + 1, x0, x5, x6, x7, x36, x682000, x682001, x690000, x690001, x690002, x690003, x690004, x690005, x690006, x690007, x690008, x690009 => if x36 = true then (spec_LeansOn.l0 k x0 x5 x6 (wrap64 (x7 + 1)) x682000 x682001) else ((spec_l18Add.f k x5 x690004 x690005).bind fun t691 => (if x690000 = 4 then ((spec_l18Add.f k t691 x690006 x690007).bind fun t694 => (spec_LeansOn.j2 k x0 t694 x6 x7 x682000 x682001 x690000 x690001 x690002 x690003 x690004 x690005 x690006 x690007 x690008 x690009)) else (spec_LeansOn.j2 k x0 t691 x6 x7 x682000 x682001 x690000 x690001 x690002 x690003 x690004 x690005 x690006 x690007 x690008 x690009)))
def spec_LeansOn.j2 : Nat → List (S46) → List (S27) → List (S29) → Int → Int → Int → Int → Int → Int → Int → Int → Int → Int → Int → Int → Int → Option ((List (S27)))
 | 0, _, _, _, _, _, _, _, _, _, _, _, _, _, _, _, _ => none
 | k + 1, x0, x5, x6, x7, x682000, x682001, x690000, x690001, x690002, x690003, x690004, x690005, x690006, x690007, x690008, x690009 => spec_LeansOn.l1 k x0 x5 x6 x7 0 x682000 x682001 x690000 x690001 x690002 x690003 x690004 x690005 x690006 x690007 x690008 x690009
def spec_LeansOn.l1 : Nat → List (S46) → List (S27) → List (S29) → Int → Int → Int → Int → Int → Int → Int → Int → Int → Int → Int → Int → Int → Int → Option ((List (S27)))
 | 0, _, _, _, _, _, _, _, _, _, _, _, _, _, _, _, _, _ => none
 | k + 1, x0, x5, x6, x7, x9, x682000, x682001, x690000, x690001, x690002, x690003, x690004, x690005, x690006, x690007, x690008, x690009 => if x9 < 6 then (spec_LeansOn.j4 k x0 x5 x6 x7 x9 (x690000 == 3) x682000 x682001 x690000 x690001 x690002 x690003 x690004 x690005 x690006 x690007 x690008 x690009) else (spec_LeansOn.j4 k x0 x5 x6 x7 x9 false x682000 x682001 x690000 x690001 x690002 x690003 x690004 x690005 x690006 x690007 x690008 x690009)
def spec_LeansOn.j4 : Nat → List (S46) → List (S27) → List (S29) → Int → Int → Bool → Int → Int → Int → Int → Int → Int → Int → Int → Int → Int → Int → Int → Option ((List (S27)))
 | 0, _, _, _, _, _, _, _, _, _, _, _, _, _, _, _, _, _, _ => none
 | k + 1, x0, x5, x6, x7, x9, x54, x682000, x682001, x690000, x690001, x690002, x690003, x690004, x690005, x690006, x690007, x690008, x690009 => if x54 = true then ((spec_l06Has.f k x6 x690004 x690005 x9).bind fun t697 => (if t697 = true then ((spec_l18Add.f k x5 x9 x690007).bind fun t698 => (spec_LeansOn.l1 k x0 t698 x6 x7 (wrap64 (x9 + 1)) x682000 x682001 x690000 x690001 x690002 x690003 x690004 x690005 x690006 x690007 x690008 x690009)) else (spec_LeansOn.l1 k x0 x5 x6 x7 (wrap64 (x9 + 1)) x682000 x682001 x690000 x690001 x690002 x690003 x690004 x690005 x690006 x690007 x690008 x690009))) else (spec_LeansOn.l0 k x0 x5 x6 (wrap64 (x7 + 1)) x682000 x682001)
end
def spec_LeansOn.f (k : Nat) (l0 : List (S46)) (a1_0 : Int) (a1_1 : Int) : Option ((List (S27))) := (spec_FactsOf.f k l0).bind fun t685 => (spec_LeansOn.l0 k l0 (([] : List (S27))) t685 0 a1_0 a1_1)
set_option maxHeartbeats 8000000 in
set_option maxRecDepth 100000 in
theorem spec_LeansOn.calls (k : Nat) (A0 : Option Addr) (c0 : Nat) (l0 : List (S46)) (a1_0 : Int) (a1_1 : Int) (r : List (S27)) (w : World) (hr0 : Kd.C k46 w A0 l0.length l0) (hc0 : l0.length ≤ c0) (h : spec_LeansOn.f k l0 a1_0 a1_1 = some r) :
  Calls Try.prog 140 #[.slice A0 l0.length c0, .agg #[.int .i64 a1_0, .int .i64 a1_1]] w fun e w' => ∃ v0_ : Value, e = .returned (v0_) ∧ Kd.R k27 27 w' w.heap.size (fun _ => True) v0_ r ∧ Below w.heap.size w w' := by
 have hu27 := Try.underlying27
 have hu46 := Try.underlying46
 have hu29 := Try.underlying29
 have HR0 := Aside0.mk hr0
 have HC0 := Aside0.mk hc0
 clear hr0 hc0
 have HB := Aside0.mk (Below.refl w.heap.size w)
 have H : ((spec_FactsOf.f k l0).bind fun t685 => (spec_LeansOn.l0 k l0 (([] : List (S27))) t685 0 a1_0 a1_1)) = some r := h
 clear h
 obtain ⟨y682, hy682⟩ : ∃ y_ : List (S27), y_ = (([] : List (S27))) := ⟨_, rfl⟩
 replace H : ((spec_FactsOf.f k l0).bind fun t685 => (spec_LeansOn.l0 k l0 y682 t685 0 a1_0 a1_1)) = some r := by first | (rw [hy682]; with_reducible exact H) | (have H2_ := (Option.bind_some _ _).symm.trans H; rw [hy682]; with_reducible exact H2_) | (have H2_ := (Option.bind_some _ _).symm.trans H; with_reducible exact H2_) | with_reducible exact H | (rw [hy682]; exact H) | exact H
 have Ny682 := Aside0.mk hy682
 clear hy682
 obtain ⟨t685, A3, H⟩ := bindE_ H
 have H' := Aside0.mk H
 clear H
 go_enter Try.func140, Try.ntmps140
 go_wp2_with (first | ((with_reducible refine gate_dst (N := 3) rfl ?_); refine box_event ?hg (N := 3) ?hd (cs := #[.int .i64 a1_0, .int .i64 a1_1]) (t := 27) ?hr ?_; (case hd => rfl); (case hg => rfl); (case hr => first | (go_simp; done) | (go_simp; rfl)); intro gb681 hg w4 hbox hb; have BK681 := Aside0.mk (hbox); have GW681 := gs_ hg; have GE681 := gs_ hg; replace HB := hbs_ hb; clear hb hbox hg) | ((with_reducible refine gate_dst (N := 10) rfl ?_); refine Kd.R_lit k27 _ 27 ?hg (N := 10) ?hd (xs := ([] : List (S27))) (inner := []) (ok := fun _ => True) (okp := fun _ => True) ?hr ?hp (fun _ hk => hk) trivial (Below.refl _ _) (Nat.le_refl _) (by simp) ?_; (case hd => rfl); (case hg => rfl); (case hr => first | (go_simp; done) | (go_simp; rfl)); (case hp => exact (Reps.none _ _)); intro v683 w5 ho6 hb hg_ hnew_; clear hg_ hnew_; (first | rw [← Ny682.out] at ho6 | (simp only [Int.reduceToNat] at ho6; rw [← Ny682.out] at ho6)); have HO684 := Aside0.mk (Kd.R_lower (Kd.R_newB ho6 (g := gb681) (o := .cells #[.int .i64 a1_0, .int .i64 a1_1] 27 (0, 0)) (bk_ BK681)) bls_); replace BK681 := bkb_ BK681 hb; replace HB := hbs_ hb; clear hb ho6) | ((with_reducible refine gate_callee (f := 73) rfl ?_); refine goesC_ (some 12) Try.func73 #[.slice A0 l0.length c0] ?_; (with_reducible refine (spec_FactsOf.calls k _ _ l0 t685 _ ?side1 ?side2 A3.out).mono ?_); (case side1 => repeat (first | exact (Kd.C_below HR0.out HB.out) | (with_reducible refine Kd.C_alloc ?_ _) | (with_reducible refine Kd.C_drewN ?_ _) | (with_reducible refine Kd.C_drew ?_))); (case side2 => exact HC0.out); rintro e w7 ⟨v686, rfl, ho0, hb⟩; refine ⟨_, rfl, ?_⟩; replace HO684 := hob_ HO684 hb; have HO687 := Aside0.mk (Kd.R_lower ho0 bls_); replace BK681 := bkb_ BK681 hb; replace HB := hbs_ hb; (try clear hb); (try clear hb2); (try clear hk); (try clear hi); (try clear ho0)))
 go_loopg [5, 7] k (fun kq v5 v7 w' => ∃ (x5_1 : List (S27)) (x7_1 : Int), v7 = .int .i64 x7_1 ∧ Aside0 (spec_LeansOn.l0 kq l0 x5_1 t685 x7_1 a1_0 a1_1 = some r) ∧ Aside0 (kq ≤ k) ∧ Aside0 (Kd.R k27 27 w' w.heap.size (fun k_ => k_ ≠ gb681) v5 x5_1) ∧ Aside0 (Kd.R k29 29 w' w.heap.size (fun _ => True) v686 t685) ∧ Aside0 (w'.heap[gb681]? = some (.cells #[.int .i64 a1_0, .int .i64 a1_1] 27 (0, 0))) ∧ Aside0 (Below w.heap.size w w'))
 case atStart => exact ⟨(y682), (0), rf_, H', ⟨Nat.le_refl _⟩, ⟨by (with_reducible repeat (first | apply Kd.R_alloc | apply Kd.R_drewN | apply Kd.R_drew)); exact Kd.R_mono HO684.out (fun _ hk => hk.2)⟩, ⟨by (with_reducible repeat (first | apply Kd.R_alloc | apply Kd.R_drewN | apply Kd.R_drew)); exact HO687.out⟩, ⟨bk_ BK681⟩, ⟨bl_⟩⟩
 case round =>
  clear H'
  try clear c1
  try clear p2
  try clear c7
  obtain ⟨x5_1, x7_1, rfl, HA, HK1, HO_5, HO_6, BK681, HB⟩ := hrel
  cases gk with
  | zero => exact absurd HA.out (by simp [spec_LeansOn.l0])
  | succ k1 =>
   have H := HA.out
   clear HA
   simp only [spec_LeansOn.l0] at H
   by_cases c8 : x7_1 < (l0.length : Int)
   ·rw [if_pos c8] at H
    have c8b0 : decide (x7_1 < (l0.length : Int)) = true := decide_eq_true c8
    clear c8
    obtain ⟨c9b0, H⟩ := ifd_ H
    have HC10 := Aside0.mk H
    clear H
    have p688 : 0 ≤ (x7_1 : Int) := od_
    have q688 : x7_1 < (l0.length : Int) := od_
    obtain ⟨ad688, e688, hx688_0, hx688_1, hx688_2, hx688_3, hx688_4, hx688_5, hx688_6, hx688_7, hx688_8, hx688_9⟩ := at_T46 (Kd.C_below HR0.out HB.out) x7_1 p688 q688
    cases e688
    replace p688 := eq_true p688
    replace q688 := eq_true q688
    go_upto_region 7 with (first | ((with_reducible refine gate_dst (N := 8) rfl ?_); refine box_event ?hg (N := 8) ?hd (cs := #[.int .i64 0, .int .i64 0, .int .i64 0, .int .i64 0, .int .i64 0, .int .i64 0, .int .i64 0, .int .i64 0, .int .i64 0, .int .i64 0]) (t := 46) ?hr ?_; (case hd => rfl); (case hg => rfl); (case hr => first | (go_simp; done) | (go_simp; rfl)); intro gb689 hg w11 hbox hb; replace HO_5 := hob_ HO_5 hb; replace HO_6 := hob_ HO_6 hb; have BK689 := Aside0.mk (hbox); have GW689 := gs_ hg; have GE689 := gs_ hg; replace HB := hbs_ hb; have NB681_689 := nl_ hg BK681; have NB689_681 := nr_ hg BK681; replace BK681 := bkb_ BK681 hb; clear hb hbox hg; have hnb12 := NB689_681.out; have hnc12 := NB681_689.out; have hcz13 := blk_cell BK689.out; have hfz13 := blk_frozen BK689.out))
    (try simp only [Act.put, List.setIfInBounds_toArray, List.set_cons_zero, List.set_cons_succ])
    go_cut [36] (fun v36 wc => ∃ (kq : Nat) (x36_9 : Bool), v36 = .bool x36_9 ∧ Aside0 (spec_LeansOn.j1 kq l0 x5_1 t685 x7_1 x36_9 a1_0 a1_1 ((rd_T46 l0 x7_1).f0) ((rd_T46 l0 x7_1).f1.f0) ((rd_T46 l0 x7_1).f1.f1) ((rd_T46 l0 x7_1).f2) ((rd_T46 l0 x7_1).f3.f0) ((rd_T46 l0 x7_1).f3.f1) ((rd_T46 l0 x7_1).f4.f0) ((rd_T46 l0 x7_1).f4.f1) ((rd_T46 l0 x7_1).f5) ((rd_T46 l0 x7_1).f6) = some r) ∧ Aside0 (kq ≤ k1) ∧ Aside0 (Kd.R k27 27 wc w.heap.size (fun k_ => k_ ≠ gb681) u5 x5_1) ∧ Aside0 (Kd.R k29 29 wc w.heap.size (fun _ => True) v686 t685) ∧ Aside0 (wc.heap[gb681]? = some (.cells #[.int .i64 a1_0, .int .i64 a1_1] 27 (0, 0))) ∧ Aside0 (wc.heap[gb689]? = some (.cells #[.int .i64 ((rd_T46 l0 x7_1).f0), .int .i64 ((rd_T46 l0 x7_1).f1.f0), .int .i64 ((rd_T46 l0 x7_1).f1.f1), .int .i64 ((rd_T46 l0 x7_1).f2), .int .i64 ((rd_T46 l0 x7_1).f3.f0), .int .i64 ((rd_T46 l0 x7_1).f3.f1), .int .i64 ((rd_T46 l0 x7_1).f4.f0), .int .i64 ((rd_T46 l0 x7_1).f4.f1), .int .i64 ((rd_T46 l0 x7_1).f5), .int .i64 ((rd_T46 l0 x7_1).f6)] 46 (0, 0))) ∧ Aside0 (Below w.heap.size w wc))
    case first =>
     have H := HC10.out
     clear HC10
     by_cases c14 : (!(((rd_T46 l0 x7_1).f1.f0) == a1_0) || (!(((rd_T46 l0 x7_1).f1.f1) == a1_1))) = true
     ·rw [if_pos c14] at H
      have c14b0 : (!(((rd_T46 l0 x7_1).f1.f0) == a1_0) || (!(((rd_T46 l0 x7_1).f1.f1) == a1_1))) = true := c14
      clear c14
      (first | rw [c14b0] | (simp only [i64_w, i32_w]; rw [c14b0]) | skip)
      have H' := Aside0.mk H
      clear H
      have hnb15 := NB689_681.out
      have hnc15 := NB681_689.out
      have hcz16 := blk_cell BK689.out
      have hfz16 := blk_frozen BK689.out
      have hcz17 := blk_cell BK681.out
      have hfz17 := blk_frozen BK681.out
      go_wp2
      go_meet
      case rel => exact ⟨_, (true), rf_, H', ⟨by have := HK1.out; first | omega | exact Nat.le_refl _⟩, ⟨by (with_reducible repeat (first | apply Kd.R_alloc | apply Kd.R_drewN | apply Kd.R_drew)); exact Kd.R_mono (Kd.R_far (p := ⟨gb689, 9, none⟩) (Kd.R_far (p := ⟨gb689, 8, none⟩) (Kd.R_far (p := ⟨gb689, 7, none⟩) (Kd.R_far (p := ⟨gb689, 6, none⟩) (Kd.R_far (p := ⟨gb689, 5, none⟩) (Kd.R_far (p := ⟨gb689, 4, none⟩) (Kd.R_far (p := ⟨gb689, 3, none⟩) (Kd.R_far (p := ⟨gb689, 2, none⟩) (Kd.R_far (p := ⟨gb689, 1, none⟩) (Kd.R_far (p := ⟨gb689, 0, none⟩) (Kd.R_types HO_5.out BK689.out (by decide)) (fun _ hk => hk.2) (.int .i64 ((rd_T46 l0 x7_1).f0))) (fun _ hk => hk.2) (.int .i64 ((rd_T46 l0 x7_1).f1.f0))) (fun _ hk => hk.2) (.int .i64 ((rd_T46 l0 x7_1).f1.f1))) (fun _ hk => hk.2) (.int .i64 ((rd_T46 l0 x7_1).f2))) (fun _ hk => hk.2) (.int .i64 ((rd_T46 l0 x7_1).f3.f0))) (fun _ hk => hk.2) (.int .i64 ((rd_T46 l0 x7_1).f3.f1))) (fun _ hk => hk.2) (.int .i64 ((rd_T46 l0 x7_1).f4.f0))) (fun _ hk => hk.2) (.int .i64 ((rd_T46 l0 x7_1).f4.f1))) (fun _ hk => hk.2) (.int .i64 ((rd_T46 l0 x7_1).f5))) (fun _ hk => hk.2) (.int .i64 ((rd_T46 l0 x7_1).f6))) (fun _ hk => hk.1)⟩, ⟨by (with_reducible repeat (first | apply Kd.R_alloc | apply Kd.R_drewN | apply Kd.R_drew)); exact Kd.R_mono (Kd.R_far (p := ⟨gb689, 9, none⟩) (Kd.R_far (p := ⟨gb689, 8, none⟩) (Kd.R_far (p := ⟨gb689, 7, none⟩) (Kd.R_far (p := ⟨gb689, 6, none⟩) (Kd.R_far (p := ⟨gb689, 5, none⟩) (Kd.R_far (p := ⟨gb689, 4, none⟩) (Kd.R_far (p := ⟨gb689, 3, none⟩) (Kd.R_far (p := ⟨gb689, 2, none⟩) (Kd.R_far (p := ⟨gb689, 1, none⟩) (Kd.R_far (p := ⟨gb689, 0, none⟩) (Kd.R_types HO_6.out BK689.out (by decide)) (fun _ hk => hk.2) (.int .i64 ((rd_T46 l0 x7_1).f0))) (fun _ hk => hk.2) (.int .i64 ((rd_T46 l0 x7_1).f1.f0))) (fun _ hk => hk.2) (.int .i64 ((rd_T46 l0 x7_1).f1.f1))) (fun _ hk => hk.2) (.int .i64 ((rd_T46 l0 x7_1).f2))) (fun _ hk => hk.2) (.int .i64 ((rd_T46 l0 x7_1).f3.f0))) (fun _ hk => hk.2) (.int .i64 ((rd_T46 l0 x7_1).f3.f1))) (fun _ hk => hk.2) (.int .i64 ((rd_T46 l0 x7_1).f4.f0))) (fun _ hk => hk.2) (.int .i64 ((rd_T46 l0 x7_1).f4.f1))) (fun _ hk => hk.2) (.int .i64 ((rd_T46 l0 x7_1).f5))) (fun _ hk => hk.2) (.int .i64 ((rd_T46 l0 x7_1).f6))) (fun _ hk => trivial)⟩, ⟨bk_ BK681⟩, ⟨bk_ BK689⟩, ⟨bl_⟩⟩
     ·rw [if_neg c14] at H
      have c14b0 : (!(((rd_T46 l0 x7_1).f1.f0) == a1_0) || (!(((rd_T46 l0 x7_1).f1.f1) == a1_1))) = false := by simpa using c14
      clear c14
      (first | rw [c14b0] | (simp only [i64_w, i32_w]; rw [c14b0]) | skip)
      obtain ⟨t690, A18, H⟩ := bindE_ H
      by_cases c19 : t690 = true
      ·subst c19
       replace H := ite_t_ H
       have H' := Aside0.mk H
       clear H
       have hnb20 := NB689_681.out
       have hnc20 := NB681_689.out
       have hcz21 := blk_cell BK689.out
       have hfz21 := blk_frozen BK689.out
       have hcz22 := blk_cell BK681.out
       have hfz22 := blk_frozen BK681.out
       go_wp2_with (first | (go_at_call 115; (with_reducible refine (spec_CredOk.calls k1 ((rd_T46 l0 x7_1).f0) ((rd_T46 l0 x7_1).f1.f0) ((rd_T46 l0 x7_1).f1.f1) ((rd_T46 l0 x7_1).f2) ((rd_T46 l0 x7_1).f3.f0) ((rd_T46 l0 x7_1).f3.f1) ((rd_T46 l0 x7_1).f4.f0) ((rd_T46 l0 x7_1).f4.f1) ((rd_T46 l0 x7_1).f5) ((rd_T46 l0 x7_1).f6) true _ A18.out).mono ?_); rintro e w23 ⟨rfl, hb⟩; replace HO_5 := Aside0.mk (Kd.R_below (by (with_reducible repeat (first | apply Kd.R_alloc | apply Kd.R_drewN | apply Kd.R_drew)); exact (Kd.R_mono (Kd.R_far (p := ⟨gb689, 9, none⟩) (Kd.R_far (p := ⟨gb689, 8, none⟩) (Kd.R_far (p := ⟨gb689, 7, none⟩) (Kd.R_far (p := ⟨gb689, 6, none⟩) (Kd.R_far (p := ⟨gb689, 5, none⟩) (Kd.R_far (p := ⟨gb689, 4, none⟩) (Kd.R_far (p := ⟨gb689, 3, none⟩) (Kd.R_far (p := ⟨gb689, 2, none⟩) (Kd.R_far (p := ⟨gb689, 1, none⟩) (Kd.R_far (p := ⟨gb689, 0, none⟩) (Kd.R_types HO_5.out BK689.out (by decide)) (fun _ hk => hk.2) (.int .i64 ((rd_T46 l0 x7_1).f0))) (fun _ hk => hk.2) (.int .i64 ((rd_T46 l0 x7_1).f1.f0))) (fun _ hk => hk.2) (.int .i64 ((rd_T46 l0 x7_1).f1.f1))) (fun _ hk => hk.2) (.int .i64 ((rd_T46 l0 x7_1).f2))) (fun _ hk => hk.2) (.int .i64 ((rd_T46 l0 x7_1).f3.f0))) (fun _ hk => hk.2) (.int .i64 ((rd_T46 l0 x7_1).f3.f1))) (fun _ hk => hk.2) (.int .i64 ((rd_T46 l0 x7_1).f4.f0))) (fun _ hk => hk.2) (.int .i64 ((rd_T46 l0 x7_1).f4.f1))) (fun _ hk => hk.2) (.int .i64 ((rd_T46 l0 x7_1).f5))) (fun _ hk => hk.2) (.int .i64 ((rd_T46 l0 x7_1).f6))) (fun _ h_ => h_.1))) hb); replace HO_6 := Aside0.mk (Kd.R_below (by (with_reducible repeat (first | apply Kd.R_alloc | apply Kd.R_drewN | apply Kd.R_drew)); exact (Kd.R_mono (Kd.R_far (p := ⟨gb689, 9, none⟩) (Kd.R_far (p := ⟨gb689, 8, none⟩) (Kd.R_far (p := ⟨gb689, 7, none⟩) (Kd.R_far (p := ⟨gb689, 6, none⟩) (Kd.R_far (p := ⟨gb689, 5, none⟩) (Kd.R_far (p := ⟨gb689, 4, none⟩) (Kd.R_far (p := ⟨gb689, 3, none⟩) (Kd.R_far (p := ⟨gb689, 2, none⟩) (Kd.R_far (p := ⟨gb689, 1, none⟩) (Kd.R_far (p := ⟨gb689, 0, none⟩) (Kd.R_types HO_6.out BK689.out (by decide)) (fun _ hk => hk.2) (.int .i64 ((rd_T46 l0 x7_1).f0))) (fun _ hk => hk.2) (.int .i64 ((rd_T46 l0 x7_1).f1.f0))) (fun _ hk => hk.2) (.int .i64 ((rd_T46 l0 x7_1).f1.f1))) (fun _ hk => hk.2) (.int .i64 ((rd_T46 l0 x7_1).f2))) (fun _ hk => hk.2) (.int .i64 ((rd_T46 l0 x7_1).f3.f0))) (fun _ hk => hk.2) (.int .i64 ((rd_T46 l0 x7_1).f3.f1))) (fun _ hk => hk.2) (.int .i64 ((rd_T46 l0 x7_1).f4.f0))) (fun _ hk => hk.2) (.int .i64 ((rd_T46 l0 x7_1).f4.f1))) (fun _ hk => hk.2) (.int .i64 ((rd_T46 l0 x7_1).f5))) (fun _ hk => hk.2) (.int .i64 ((rd_T46 l0 x7_1).f6))) (fun _ h_ => h_.1))) hb); replace BK681 := Aside0.mk (blk_below (g := gb681) (o := .cells #[.int .i64 a1_0, .int .i64 a1_1] 27 (0, 0)) (bk_ BK681) hb); replace BK689 := Aside0.mk (blk_below (g := gb689) (o := .cells #[.int .i64 ((rd_T46 l0 x7_1).f0), .int .i64 ((rd_T46 l0 x7_1).f1.f0), .int .i64 ((rd_T46 l0 x7_1).f1.f1), .int .i64 ((rd_T46 l0 x7_1).f2), .int .i64 ((rd_T46 l0 x7_1).f3.f0), .int .i64 ((rd_T46 l0 x7_1).f3.f1), .int .i64 ((rd_T46 l0 x7_1).f4.f0), .int .i64 ((rd_T46 l0 x7_1).f4.f1), .int .i64 ((rd_T46 l0 x7_1).f5), .int .i64 ((rd_T46 l0 x7_1).f6)] 46 (0, 0)) (bk_ BK689) hb); replace HB := hbs_ hb; clear hb; have hcz24 := blk_cell BK689.out; have hfz24 := blk_frozen BK689.out))
       go_meet
       case rel => exact ⟨_, ((((rd_T46 l0 x7_1).f0) == 1)), rf_, H', ⟨by have := HK1.out; first | omega | exact Nat.le_refl _⟩, ⟨by (with_reducible repeat (first | apply Kd.R_alloc | apply Kd.R_drewN | apply Kd.R_drew)); exact HO_5.out⟩, ⟨by (with_reducible repeat (first | apply Kd.R_alloc | apply Kd.R_drewN | apply Kd.R_drew)); exact HO_6.out⟩, ⟨bk_ BK681⟩, ⟨bk_ BK689⟩, ⟨bl_⟩⟩
      ·replace c19 := Bool.eq_false_iff.mpr c19
       subst c19
       replace H := ite_f_ H
       have H' := Aside0.mk H
       clear H
       have hnb25 := NB689_681.out
       have hnc25 := NB681_689.out
       have hcz26 := blk_cell BK689.out
       have hfz26 := blk_frozen BK689.out
       have hcz27 := blk_cell BK681.out
       have hfz27 := blk_frozen BK681.out
       go_wp2_with (first | (go_at_call 115; (with_reducible refine (spec_CredOk.calls k1 ((rd_T46 l0 x7_1).f0) ((rd_T46 l0 x7_1).f1.f0) ((rd_T46 l0 x7_1).f1.f1) ((rd_T46 l0 x7_1).f2) ((rd_T46 l0 x7_1).f3.f0) ((rd_T46 l0 x7_1).f3.f1) ((rd_T46 l0 x7_1).f4.f0) ((rd_T46 l0 x7_1).f4.f1) ((rd_T46 l0 x7_1).f5) ((rd_T46 l0 x7_1).f6) false _ A18.out).mono ?_); rintro e w28 ⟨rfl, hb⟩; replace HO_5 := Aside0.mk (Kd.R_below (by (with_reducible repeat (first | apply Kd.R_alloc | apply Kd.R_drewN | apply Kd.R_drew)); exact (Kd.R_mono (Kd.R_far (p := ⟨gb689, 9, none⟩) (Kd.R_far (p := ⟨gb689, 8, none⟩) (Kd.R_far (p := ⟨gb689, 7, none⟩) (Kd.R_far (p := ⟨gb689, 6, none⟩) (Kd.R_far (p := ⟨gb689, 5, none⟩) (Kd.R_far (p := ⟨gb689, 4, none⟩) (Kd.R_far (p := ⟨gb689, 3, none⟩) (Kd.R_far (p := ⟨gb689, 2, none⟩) (Kd.R_far (p := ⟨gb689, 1, none⟩) (Kd.R_far (p := ⟨gb689, 0, none⟩) (Kd.R_types HO_5.out BK689.out (by decide)) (fun _ hk => hk.2) (.int .i64 ((rd_T46 l0 x7_1).f0))) (fun _ hk => hk.2) (.int .i64 ((rd_T46 l0 x7_1).f1.f0))) (fun _ hk => hk.2) (.int .i64 ((rd_T46 l0 x7_1).f1.f1))) (fun _ hk => hk.2) (.int .i64 ((rd_T46 l0 x7_1).f2))) (fun _ hk => hk.2) (.int .i64 ((rd_T46 l0 x7_1).f3.f0))) (fun _ hk => hk.2) (.int .i64 ((rd_T46 l0 x7_1).f3.f1))) (fun _ hk => hk.2) (.int .i64 ((rd_T46 l0 x7_1).f4.f0))) (fun _ hk => hk.2) (.int .i64 ((rd_T46 l0 x7_1).f4.f1))) (fun _ hk => hk.2) (.int .i64 ((rd_T46 l0 x7_1).f5))) (fun _ hk => hk.2) (.int .i64 ((rd_T46 l0 x7_1).f6))) (fun _ h_ => h_.1))) hb); replace HO_6 := Aside0.mk (Kd.R_below (by (with_reducible repeat (first | apply Kd.R_alloc | apply Kd.R_drewN | apply Kd.R_drew)); exact (Kd.R_mono (Kd.R_far (p := ⟨gb689, 9, none⟩) (Kd.R_far (p := ⟨gb689, 8, none⟩) (Kd.R_far (p := ⟨gb689, 7, none⟩) (Kd.R_far (p := ⟨gb689, 6, none⟩) (Kd.R_far (p := ⟨gb689, 5, none⟩) (Kd.R_far (p := ⟨gb689, 4, none⟩) (Kd.R_far (p := ⟨gb689, 3, none⟩) (Kd.R_far (p := ⟨gb689, 2, none⟩) (Kd.R_far (p := ⟨gb689, 1, none⟩) (Kd.R_far (p := ⟨gb689, 0, none⟩) (Kd.R_types HO_6.out BK689.out (by decide)) (fun _ hk => hk.2) (.int .i64 ((rd_T46 l0 x7_1).f0))) (fun _ hk => hk.2) (.int .i64 ((rd_T46 l0 x7_1).f1.f0))) (fun _ hk => hk.2) (.int .i64 ((rd_T46 l0 x7_1).f1.f1))) (fun _ hk => hk.2) (.int .i64 ((rd_T46 l0 x7_1).f2))) (fun _ hk => hk.2) (.int .i64 ((rd_T46 l0 x7_1).f3.f0))) (fun _ hk => hk.2) (.int .i64 ((rd_T46 l0 x7_1).f3.f1))) (fun _ hk => hk.2) (.int .i64 ((rd_T46 l0 x7_1).f4.f0))) (fun _ hk => hk.2) (.int .i64 ((rd_T46 l0 x7_1).f4.f1))) (fun _ hk => hk.2) (.int .i64 ((rd_T46 l0 x7_1).f5))) (fun _ hk => hk.2) (.int .i64 ((rd_T46 l0 x7_1).f6))) (fun _ h_ => h_.1))) hb); replace BK681 := Aside0.mk (blk_below (g := gb681) (o := .cells #[.int .i64 a1_0, .int .i64 a1_1] 27 (0, 0)) (bk_ BK681) hb); replace BK689 := Aside0.mk (blk_below (g := gb689) (o := .cells #[.int .i64 ((rd_T46 l0 x7_1).f0), .int .i64 ((rd_T46 l0 x7_1).f1.f0), .int .i64 ((rd_T46 l0 x7_1).f1.f1), .int .i64 ((rd_T46 l0 x7_1).f2), .int .i64 ((rd_T46 l0 x7_1).f3.f0), .int .i64 ((rd_T46 l0 x7_1).f3.f1), .int .i64 ((rd_T46 l0 x7_1).f4.f0), .int .i64 ((rd_T46 l0 x7_1).f4.f1), .int .i64 ((rd_T46 l0 x7_1).f5), .int .i64 ((rd_T46 l0 x7_1).f6)] 46 (0, 0)) (bk_ BK689) hb); replace HB := hbs_ hb; clear hb))
       go_meet
       case rel => exact ⟨_, (true), rf_, H', ⟨by have := HK1.out; first | omega | exact Nat.le_refl _⟩, ⟨by (with_reducible repeat (first | apply Kd.R_alloc | apply Kd.R_drewN | apply Kd.R_drew)); exact HO_5.out⟩, ⟨by (with_reducible repeat (first | apply Kd.R_alloc | apply Kd.R_drewN | apply Kd.R_drew)); exact HO_6.out⟩, ⟨bk_ BK681⟩, ⟨bk_ BK689⟩, ⟨bl_⟩⟩
    case rest =>
     clear HC10
     try clear c1
     try clear c2
     try clear p2
     try clear p6
     try clear q6
     try clear hx6
     try clear c7
     try clear c8
     try clear c8b0
     try clear c9
     try clear c9b0
     try clear c12
     try clear c14
     try clear c14b0
     try clear c15
     try clear c19
     try clear c20
     try clear c25
     try clear hcz13
     try clear hcz16
     try clear hcz17
     try clear hcz21
     try clear hcz22
     try clear hcz24
     try clear hcz26
     try clear hcz27
     try clear hfz13
     try clear hfz16
     try clear hfz17
     try clear hfz21
     try clear hfz22
     try clear hfz24
     try clear hfz26
     try clear hfz27
     try clear hx688_0
     try clear hx688_1
     try clear hx688_2
     try clear hx688_3
     try clear hx688_4
     try clear hx688_5
     try clear hx688_6
     try clear hx688_7
     try clear hx688_8
     try clear hx688_9
     try clear p2
     try clear p688
     try clear q688
     obtain ⟨kq, x36_9, rfl, HA, HJ9, HO_5, HO_6, BK681, BK689, HB⟩ := hcut
     cases kq with
     | zero => exact absurd HA.out (by simp [spec_LeansOn.j1])
     | succ kj9 =>
      have H := HA.out
      clear HA
      simp only [spec_LeansOn.j1] at H
      by_cases c29 : x36_9 = true
      ·subst c29
       replace H := ite_t_ H
       have H' := Aside0.mk H
       clear H
       go_wp2
       go_roundg kj9
       case measure => have := HK1.out; have := HJ9.out; omega
       case rel => exact ⟨(x5_1), (wrap64 (x7_1 + 1)), rf_, H', ⟨by have := HK1.out; have := HJ9.out; omega⟩, ⟨by (with_reducible repeat (first | apply Kd.R_alloc | apply Kd.R_drewN | apply Kd.R_drew)); exact HO_5.out⟩, ⟨by (with_reducible repeat (first | apply Kd.R_alloc | apply Kd.R_drewN | apply Kd.R_drew)); exact HO_6.out⟩, ⟨bk_ BK681⟩, ⟨bl_⟩⟩
      ·replace c29 := Bool.eq_false_iff.mpr c29
       subst c29
       replace H := ite_f_ H
       obtain ⟨t691, A30, H⟩ := bindE_ H
       have HC31 := Aside0.mk H
       clear H
       have hnb32 := NB689_681.out
       have hnc32 := NB681_689.out
       have hcz33 := blk_cell BK689.out
       have hfz33 := blk_frozen BK689.out
       obtain ⟨Ao34, co34, eo34⟩ := Kd.R_slice HO_5.out
       subst eo34
       go_upto_if 43 with (first | ((with_reducible refine gate_callee (f := 141) rfl ?_); refine goesC_ (some 40) Try.func141 #[.slice Ao34 x5_1.length co34, .agg #[.int .i64 ((rd_T46 l0 x7_1).f3.f0), .int .i64 ((rd_T46 l0 x7_1).f3.f1)]] ?_; (with_reducible refine (spec_l18Add.calls kj9 (fun k_ => some k_ = (.slice Ao34 x5_1.length co34 : Value).ownBlock) (.slice Ao34 x5_1.length co34) x5_1 ((rd_T46 l0 x7_1).f3.f0) ((rd_T46 l0 x7_1).f3.f1) t691 w _ ?side1 ?side2 A30.out).mono ?_); (case side1 => repeat (first | (with_reducible first | exact HB.out | apply below_alloc | apply pw_below_drewN | apply below_drew1 | refine below_set ?_ GE681.out | refine below_set ?_ GE689.out) | exact HB.out)); (case side2 => exact Kd.R_tight rfl HO_5.out); rintro e w35 ⟨v692, rfl, ho0, hb, hkp⟩; refine ⟨_, rfl, ?_⟩; replace HO_6 := Aside0.mk (Kd.R_mono (ok' := fun k_ => True) (Kd.R_keptB ((Kd.R_apart' HO_6.out (Kd.R_typed HO_5.out) (by decide))) hkp (fun k_ hk_ hs_ => (hk_.2) hs_)) (fun k_ hk_ => trivial)); replace BK689 := Aside0.mk (blk_kept (bk_ BK689) hkp (fun hs_ => (fun e_ => (Kd.R_ne HO_5.out BK689.out (by decide)) e_) hs_)); have HO693 := Aside0.mk (Kd.R_mono (ok' := fun k_ => k_ ≠ gb681) ho0 (fun k_ hk_ => Or.elim hk_ (fun hs_ => fun e_ => (Kd.R_away HO_5.out (fun _ hk => hk)) (by rw [← e_]; exact hs_)) (fun hn_ => (Kd.freshB (g := gb681) (o := .cells #[.int .i64 a1_0, .int .i64 a1_1] 27 (0, 0)) (bk_ BK681) k_ hn_)))); replace BK681 := Aside0.mk (blk_kept (bk_ BK681) hkp (fun hs_ => (fun e_ => (Kd.R_away HO_5.out (fun _ hk => hk)) e_) hs_)); replace HB := Aside0.mk (hb); clear HO_5; (try clear hb); (try clear hkp); (try clear ho0); have hcz36 := blk_cell BK689.out; have hfz36 := blk_frozen BK689.out))
       (try simp only [Act.put, List.setIfInBounds_toArray, List.set_cons_zero, List.set_cons_succ])
       go_cut [5] (fun v5 wc => ∃ (kq : Nat) (x5_30 : List (S27)), Aside0 (spec_LeansOn.j2 kq l0 x5_30 t685 x7_1 a1_0 a1_1 ((rd_T46 l0 x7_1).f0) ((rd_T46 l0 x7_1).f1.f0) ((rd_T46 l0 x7_1).f1.f1) ((rd_T46 l0 x7_1).f2) ((rd_T46 l0 x7_1).f3.f0) ((rd_T46 l0 x7_1).f3.f1) ((rd_T46 l0 x7_1).f4.f0) ((rd_T46 l0 x7_1).f4.f1) ((rd_T46 l0 x7_1).f5) ((rd_T46 l0 x7_1).f6) = some r) ∧ Aside0 (kq ≤ kj9) ∧ Aside0 (Kd.R k27 27 wc w.heap.size (fun k_ => k_ ≠ gb681) v5 x5_30) ∧ Aside0 (Kd.R k29 29 wc w.heap.size (fun _ => True) v686 t685) ∧ Aside0 (wc.heap[gb681]? = some (.cells #[.int .i64 a1_0, .int .i64 a1_1] 27 (0, 0))) ∧ Aside0 (wc.heap[gb689]? = some (.cells #[.int .i64 ((rd_T46 l0 x7_1).f0), .int .i64 ((rd_T46 l0 x7_1).f1.f0), .int .i64 ((rd_T46 l0 x7_1).f1.f1), .int .i64 ((rd_T46 l0 x7_1).f2), .int .i64 ((rd_T46 l0 x7_1).f3.f0), .int .i64 ((rd_T46 l0 x7_1).f3.f1), .int .i64 ((rd_T46 l0 x7_1).f4.f0), .int .i64 ((rd_T46 l0 x7_1).f4.f1), .int .i64 ((rd_T46 l0 x7_1).f5), .int .i64 ((rd_T46 l0 x7_1).f6)] 46 (0, 0))) ∧ Aside0 (Below w.heap.size w wc))
       case first =>
        have H := HC31.out
        clear HC31
        by_cases c37 : ((rd_T46 l0 x7_1).f0) = 4
        ·rw [if_pos c37] at H
         have c37b0 : (((rd_T46 l0 x7_1).f0) == 4) = true := beq_iff_eq.mpr c37
         have c37b1 : (((rd_T46 l0 x7_1).f0) != 4) = false := bne_eq_false_iff_eq.mpr c37
         clear c37
         (first | rw [c37b0] | (simp only [i64_w, i32_w]; rw [c37b0]) | skip)
         obtain ⟨t694, A38, H⟩ := bindE_ H
         have H' := Aside0.mk H
         clear H
         have hnb39 := NB689_681.out
         have hnc39 := NB681_689.out
         have hcz40 := blk_cell BK689.out
         have hfz40 := blk_frozen BK689.out
         obtain ⟨Ao41, co41, eo41⟩ := Kd.R_slice HO693.out
         subst eo41
         go_wp2_with (first | ((with_reducible refine gate_callee (f := 141) rfl ?_); refine goesC_ (some 47) Try.func141 #[.slice Ao41 t691.length co41, .agg #[.int .i64 ((rd_T46 l0 x7_1).f4.f0), .int .i64 ((rd_T46 l0 x7_1).f4.f1)]] ?_; (with_reducible refine (spec_l18Add.calls kj9 (fun k_ => some k_ = (.slice Ao41 t691.length co41 : Value).ownBlock) (.slice Ao41 t691.length co41) t691 ((rd_T46 l0 x7_1).f4.f0) ((rd_T46 l0 x7_1).f4.f1) t694 w _ ?side1 ?side2 A38.out).mono ?_); (case side1 => repeat (first | (with_reducible first | exact HB.out | apply below_alloc | apply pw_below_drewN | apply below_drew1 | refine below_set ?_ GE681.out | refine below_set ?_ GE689.out) | exact HB.out)); (case side2 => exact Kd.R_tight rfl HO693.out); rintro e w42 ⟨v695, rfl, ho0, hb, hkp⟩; refine ⟨_, rfl, ?_⟩; replace HO_6 := Aside0.mk (Kd.R_mono (ok' := fun k_ => True) (Kd.R_keptB ((Kd.R_apart' HO_6.out (Kd.R_typed HO693.out) (by decide))) hkp (fun k_ hk_ hs_ => (hk_.2) hs_)) (fun k_ hk_ => trivial)); replace BK689 := Aside0.mk (blk_kept (bk_ BK689) hkp (fun hs_ => (fun e_ => (Kd.R_ne HO693.out BK689.out (by decide)) e_) hs_)); have HO696 := Aside0.mk (Kd.R_mono (ok' := fun k_ => k_ ≠ gb681) ho0 (fun k_ hk_ => Or.elim hk_ (fun hs_ => fun e_ => (Kd.R_away HO693.out (fun _ hk => hk)) (by rw [← e_]; exact hs_)) (fun hn_ => (Kd.freshB (g := gb681) (o := .cells #[.int .i64 a1_0, .int .i64 a1_1] 27 (0, 0)) (bk_ BK681) k_ hn_)))); replace BK681 := Aside0.mk (blk_kept (bk_ BK681) hkp (fun hs_ => (fun e_ => (Kd.R_away HO693.out (fun _ hk => hk)) e_) hs_)); replace HB := Aside0.mk (hb); clear HO693; (try clear hb); (try clear hkp); (try clear ho0)))
         go_meet
         case rel => exact ⟨_, (t694), H', ⟨by have := HK1.out; have := HJ9.out; first | omega | exact Nat.le_refl _⟩, ⟨by (with_reducible repeat (first | apply Kd.R_alloc | apply Kd.R_drewN | apply Kd.R_drew)); exact HO696.out⟩, ⟨by (with_reducible repeat (first | apply Kd.R_alloc | apply Kd.R_drewN | apply Kd.R_drew)); exact HO_6.out⟩, ⟨bk_ BK681⟩, ⟨bk_ BK689⟩, ⟨bl_⟩⟩
        ·rw [if_neg c37] at H
         have c37b0 : (((rd_T46 l0 x7_1).f0) == 4) = false := beq_eq_false_iff_ne.mpr c37
         have c37b1 : (((rd_T46 l0 x7_1).f0) != 4) = true := bne_iff_ne.mpr c37
         (first | rw [c37b0] | (simp only [i64_w, i32_w]; rw [c37b0]) | skip)
         have H' := Aside0.mk H
         clear H
         go_wp2
         go_meet
         case rel => exact ⟨_, (t691), H', ⟨by have := HK1.out; have := HJ9.out; first | omega | exact Nat.le_refl _⟩, ⟨by (with_reducible repeat (first | apply Kd.R_alloc | apply Kd.R_drewN | apply Kd.R_drew)); exact HO693.out⟩, ⟨by (with_reducible repeat (first | apply Kd.R_alloc | apply Kd.R_drewN | apply Kd.R_drew)); exact HO_6.out⟩, ⟨bk_ BK681⟩, ⟨bk_ BK689⟩, ⟨bl_⟩⟩
       case rest =>
        clear HC31
        try clear c1
        try clear c2
        try clear p2
        try clear c3
        try clear p6
        try clear q6
        try clear hx6
        try clear c7
        try clear c8
        try clear c8b0
        try clear c9
        try clear c9b0
        try clear c12
        try clear c14
        try clear c14b0
        try clear c15
        try clear c19
        try clear c20
        try clear c25
        try clear c29
        try clear c32
        try clear c37
        try clear c37b0
        try clear c37b1
        try clear c39
        try clear hcz13
        try clear hcz16
        try clear hcz17
        try clear hcz21
        try clear hcz22
        try clear hcz24
        try clear hcz26
        try clear hcz27
        try clear hcz33
        try clear hcz36
        try clear hcz40
        try clear hfz13
        try clear hfz16
        try clear hfz17
        try clear hfz21
        try clear hfz22
        try clear hfz24
        try clear hfz26
        try clear hfz27
        try clear hfz33
        try clear hfz36
        try clear hfz40
        try clear hx688_0
        try clear hx688_1
        try clear hx688_2
        try clear hx688_3
        try clear hx688_4
        try clear hx688_5
        try clear hx688_6
        try clear hx688_7
        try clear hx688_8
        try clear hx688_9
        try clear p2
        try clear p6
        try clear p688
        try clear q6
        try clear q688
        obtain ⟨kq, x5_30, HA, HJ30, HO_5, HO_6, BK681, BK689, HB⟩ := hcut
        cases kq with
        | zero => exact absurd HA.out (by simp [spec_LeansOn.j2])
        | succ kj30 =>
         have H := HA.out
         clear HA
         simp only [spec_LeansOn.j2] at H
         have H' := Aside0.mk H
         clear H
         go_wp2
         go_loopg [5, 9] kj30 (fun kq v5 v9 w' => ∃ (x5_4 : List (S27)) (x9_4 : Int), v9 = .int .i64 x9_4 ∧ Aside0 (spec_LeansOn.l1 kq l0 x5_4 t685 x7_1 x9_4 a1_0 a1_1 ((rd_T46 l0 x7_1).f0) ((rd_T46 l0 x7_1).f1.f0) ((rd_T46 l0 x7_1).f1.f1) ((rd_T46 l0 x7_1).f2) ((rd_T46 l0 x7_1).f3.f0) ((rd_T46 l0 x7_1).f3.f1) ((rd_T46 l0 x7_1).f4.f0) ((rd_T46 l0 x7_1).f4.f1) ((rd_T46 l0 x7_1).f5) ((rd_T46 l0 x7_1).f6) = some r) ∧ Aside0 (kq ≤ kj30) ∧ Aside0 (Kd.R k27 27 w' w.heap.size (fun k_ => k_ ≠ gb681) v5 x5_4) ∧ Aside0 (Kd.R k29 29 w' w.heap.size (fun _ => True) v686 t685) ∧ Aside0 (w'.heap[gb681]? = some (.cells #[.int .i64 a1_0, .int .i64 a1_1] 27 (0, 0))) ∧ Aside0 (w'.heap[gb689]? = some (.cells #[.int .i64 ((rd_T46 l0 x7_1).f0), .int .i64 ((rd_T46 l0 x7_1).f1.f0), .int .i64 ((rd_T46 l0 x7_1).f1.f1), .int .i64 ((rd_T46 l0 x7_1).f2), .int .i64 ((rd_T46 l0 x7_1).f3.f0), .int .i64 ((rd_T46 l0 x7_1).f3.f1), .int .i64 ((rd_T46 l0 x7_1).f4.f0), .int .i64 ((rd_T46 l0 x7_1).f4.f1), .int .i64 ((rd_T46 l0 x7_1).f5), .int .i64 ((rd_T46 l0 x7_1).f6)] 46 (0, 0))) ∧ Aside0 (Below w.heap.size w w'))
         case atStart => exact ⟨(x5_30), (0), rf_, H', ⟨Nat.le_refl _⟩, ⟨by (with_reducible repeat (first | apply Kd.R_alloc | apply Kd.R_drewN | apply Kd.R_drew)); exact HO_5.out⟩, ⟨by (with_reducible repeat (first | apply Kd.R_alloc | apply Kd.R_drewN | apply Kd.R_drew)); exact HO_6.out⟩, ⟨bk_ BK681⟩, ⟨bk_ BK689⟩, ⟨bl_⟩⟩
         case round =>
          clear H'
          try clear c1
          try clear c2
          try clear p2
          try clear c3
          try clear p6
          try clear q6
          try clear hx6
          try clear c7
          try clear c8
          try clear c8b0
          try clear c9
          try clear c9b0
          try clear c12
          try clear c14
          try clear c14b0
          try clear c15
          try clear c19
          try clear c20
          try clear c25
          try clear c29
          try clear c32
          try clear c37
          try clear c37b0
          try clear c37b1
          try clear c39
          try clear hcz13
          try clear hcz16
          try clear hcz17
          try clear hcz21
          try clear hcz22
          try clear hcz24
          try clear hcz26
          try clear hcz27
          try clear hcz33
          try clear hcz36
          try clear hcz40
          try clear hfz13
          try clear hfz16
          try clear hfz17
          try clear hfz21
          try clear hfz22
          try clear hfz24
          try clear hfz26
          try clear hfz27
          try clear hfz33
          try clear hfz36
          try clear hfz40
          try clear hx688_0
          try clear hx688_1
          try clear hx688_2
          try clear hx688_3
          try clear hx688_4
          try clear hx688_5
          try clear hx688_6
          try clear hx688_7
          try clear hx688_8
          try clear hx688_9
          try clear p2
          try clear p6
          try clear p688
          try clear q6
          try clear q688
          obtain ⟨x5_4, x9_4, rfl, HA, HK4, HO_5, HO_6, BK681, BK689, HB⟩ := hrel
          cases gk with
          | zero => exact absurd HA.out (by simp [spec_LeansOn.l1])
          | succ k4 =>
           have H := HA.out
           clear HA
           simp only [spec_LeansOn.l1] at H
           have HC43 := Aside0.mk H
           clear H
           go_upto_region 12 with (fail)
           go_cut [54] (fun v54 wc => ∃ (kq : Nat) (x54_42 : Bool), v54 = .bool x54_42 ∧ Aside0 (spec_LeansOn.j4 kq l0 x5_4 t685 x7_1 x9_4 x54_42 a1_0 a1_1 ((rd_T46 l0 x7_1).f0) ((rd_T46 l0 x7_1).f1.f0) ((rd_T46 l0 x7_1).f1.f1) ((rd_T46 l0 x7_1).f2) ((rd_T46 l0 x7_1).f3.f0) ((rd_T46 l0 x7_1).f3.f1) ((rd_T46 l0 x7_1).f4.f0) ((rd_T46 l0 x7_1).f4.f1) ((rd_T46 l0 x7_1).f5) ((rd_T46 l0 x7_1).f6) = some r) ∧ Aside0 (kq ≤ k4) ∧ Aside0 (Kd.R k27 27 wc w.heap.size (fun k_ => k_ ≠ gb681) u5 x5_4) ∧ Aside0 (Kd.R k29 29 wc w.heap.size (fun _ => True) v686 t685) ∧ Aside0 (wc.heap[gb681]? = some (.cells #[.int .i64 a1_0, .int .i64 a1_1] 27 (0, 0))) ∧ Aside0 (wc.heap[gb689]? = some (.cells #[.int .i64 ((rd_T46 l0 x7_1).f0), .int .i64 ((rd_T46 l0 x7_1).f1.f0), .int .i64 ((rd_T46 l0 x7_1).f1.f1), .int .i64 ((rd_T46 l0 x7_1).f2), .int .i64 ((rd_T46 l0 x7_1).f3.f0), .int .i64 ((rd_T46 l0 x7_1).f3.f1), .int .i64 ((rd_T46 l0 x7_1).f4.f0), .int .i64 ((rd_T46 l0 x7_1).f4.f1), .int .i64 ((rd_T46 l0 x7_1).f5), .int .i64 ((rd_T46 l0 x7_1).f6)] 46 (0, 0))) ∧ Aside0 (Below w.heap.size w wc))
           case first =>
            have H := HC43.out
            clear HC43
            by_cases c44 : x9_4 < 6
            ·rw [if_pos c44] at H
             have c44b0 : decide (x9_4 < 6) = true := decide_eq_true c44
             clear c44
             (first | rw [c44b0] | (simp only [i64_w, i32_w]; rw [c44b0]) | skip)
             have H' := Aside0.mk H
             clear H
             have hnb45 := NB689_681.out
             have hnc45 := NB681_689.out
             have hcz46 := blk_cell BK689.out
             have hfz46 := blk_frozen BK689.out
             go_wp2
             go_meet
             case rel => exact ⟨_, ((((rd_T46 l0 x7_1).f0) == 3)), rf_, H', ⟨by have := HK1.out; have := HJ9.out; have := HJ30.out; have := HK4.out; first | omega | exact Nat.le_refl _⟩, ⟨by (with_reducible repeat (first | apply Kd.R_alloc | apply Kd.R_drewN | apply Kd.R_drew)); exact HO_5.out⟩, ⟨by (with_reducible repeat (first | apply Kd.R_alloc | apply Kd.R_drewN | apply Kd.R_drew)); exact HO_6.out⟩, ⟨bk_ BK681⟩, ⟨bk_ BK689⟩, ⟨bl_⟩⟩
            ·rw [if_neg c44] at H
             have c44b0 : decide (x9_4 < 6) = false := decide_eq_false c44
             clear c44
             (first | rw [c44b0] | (simp only [i64_w, i32_w]; rw [c44b0]) | skip)
             have H' := Aside0.mk H
             clear H
             go_wp2
             go_meet
             case rel => exact ⟨_, (false), rf_, H', ⟨by have := HK1.out; have := HJ9.out; have := HJ30.out; have := HK4.out; first | omega | exact Nat.le_refl _⟩, ⟨by (with_reducible repeat (first | apply Kd.R_alloc | apply Kd.R_drewN | apply Kd.R_drew)); exact HO_5.out⟩, ⟨by (with_reducible repeat (first | apply Kd.R_alloc | apply Kd.R_drewN | apply Kd.R_drew)); exact HO_6.out⟩, ⟨bk_ BK681⟩, ⟨bk_ BK689⟩, ⟨bl_⟩⟩
           case rest =>
            clear HC43
            try clear c1
            try clear c2
            try clear p2
            try clear c3
            try clear c4
            try clear p6
            try clear q6
            try clear hx6
            try clear c7
            try clear c8
            try clear c8b0
            try clear c9
            try clear c9b0
            try clear c12
            try clear c14
            try clear c14b0
            try clear c15
            try clear c19
            try clear c20
            try clear c25
            try clear c29
            try clear c32
            try clear c37
            try clear c37b0
            try clear c37b1
            try clear c39
            try clear c44
            try clear c44b0
            try clear c45
            try clear hcz13
            try clear hcz16
            try clear hcz17
            try clear hcz21
            try clear hcz22
            try clear hcz24
            try clear hcz26
            try clear hcz27
            try clear hcz33
            try clear hcz36
            try clear hcz40
            try clear hcz46
            try clear hfz13
            try clear hfz16
            try clear hfz17
            try clear hfz21
            try clear hfz22
            try clear hfz24
            try clear hfz26
            try clear hfz27
            try clear hfz33
            try clear hfz36
            try clear hfz40
            try clear hfz46
            try clear hx688_0
            try clear hx688_1
            try clear hx688_2
            try clear hx688_3
            try clear hx688_4
            try clear hx688_5
            try clear hx688_6
            try clear hx688_7
            try clear hx688_8
            try clear hx688_9
            try clear p2
            try clear p6
            try clear p688
            try clear q6
            try clear q688
            obtain ⟨kq, x54_42, rfl, HA, HJ42, HO_5, HO_6, BK681, BK689, HB⟩ := hcut
            cases kq with
            | zero => exact absurd HA.out (by simp [spec_LeansOn.j4])
            | succ kj42 =>
             have H := HA.out
             clear HA
             simp only [spec_LeansOn.j4] at H
             by_cases c47 : x54_42 = true
             ·subst c47
              replace H := ite_t_ H
              obtain ⟨t697, A48, H⟩ := bindE_ H
              by_cases c49 : t697 = true
              ·subst c49
               replace H := ite_t_ H
               obtain ⟨t698, A50, H⟩ := bindE_ H
               have H' := Aside0.mk H
               clear H
               have hnb51 := NB689_681.out
               have hnc51 := NB681_689.out
               have hcz52 := blk_cell BK689.out
               have hfz52 := blk_frozen BK689.out
               obtain ⟨Ao53, co53, eo53⟩ := Kd.R_slice HO_6.out
               subst eo53
               go_wp2_with (first | ((with_reducible refine gate_callee (f := 77) rfl ?_); refine goesC_ (some 62) Try.func77 #[.slice Ao53 t685.length co53, .agg #[.int .i64 ((rd_T46 l0 x7_1).f3.f0), .int .i64 ((rd_T46 l0 x7_1).f3.f1), .int .i64 x9_4]] ?_; (with_reducible refine (spec_l06Has.calls kj42 _ _ t685 ((rd_T46 l0 x7_1).f3.f0) ((rd_T46 l0 x7_1).f3.f1) x9_4 true _ ?side1 ?side2 A48.out).mono ?_); (case side1 => repeat (first | exact (Kd.R_reads' HO_6.out).2.2 | (with_reducible refine Kd.C_alloc ?_ _) | (with_reducible refine Kd.C_drewN ?_ _) | (with_reducible refine Kd.C_drew ?_))); (case side2 => exact (Kd.R_reads' HO_6.out).2.1); rintro e w54 ⟨rfl, hb⟩; refine ⟨_, rfl, ?_⟩; replace HO_5 := hob_ HO_5 hb; replace HO_6 := hob_ HO_6 hb; replace BK681 := bkb_ BK681 hb; replace BK689 := bkb_ BK689 hb; replace HB := hbs_ hb; clear hb; have hcz55 := blk_cell BK689.out; have hfz55 := blk_frozen BK689.out; obtain ⟨Ao56, co56, eo56⟩ := Kd.R_slice HO_5.out; subst eo56) | ((with_reducible refine gate_callee (f := 141) rfl ?_); refine goesC_ (some 69) Try.func141 #[.slice Ao56 x5_4.length co56, .agg #[.int .i64 x9_4, .int .i64 ((rd_T46 l0 x7_1).f4.f1)]] ?_; (with_reducible refine (spec_l18Add.calls kj42 (fun k_ => some k_ = (.slice Ao56 x5_4.length co56 : Value).ownBlock) (.slice Ao56 x5_4.length co56) x5_4 x9_4 ((rd_T46 l0 x7_1).f4.f1) t698 w _ ?side1 ?side2 A50.out).mono ?_); (case side1 => repeat (first | (with_reducible first | exact HB.out | apply below_alloc | apply pw_below_drewN | apply below_drew1 | refine below_set ?_ GE681.out | refine below_set ?_ GE689.out) | exact HB.out)); (case side2 => exact Kd.R_tight rfl HO_5.out); rintro e w57 ⟨v699, rfl, ho0, hb, hkp⟩; refine ⟨_, rfl, ?_⟩; replace HO_6 := Aside0.mk (Kd.R_mono (ok' := fun k_ => True) (Kd.R_keptB ((Kd.R_apart' HO_6.out (Kd.R_typed HO_5.out) (by decide))) hkp (fun k_ hk_ hs_ => (hk_.2) hs_)) (fun k_ hk_ => trivial)); replace BK689 := Aside0.mk (blk_kept (bk_ BK689) hkp (fun hs_ => (fun e_ => (Kd.R_ne HO_5.out BK689.out (by decide)) e_) hs_)); have HO700 := Aside0.mk (Kd.R_mono (ok' := fun k_ => k_ ≠ gb681) ho0 (fun k_ hk_ => Or.elim hk_ (fun hs_ => fun e_ => (Kd.R_away HO_5.out (fun _ hk => hk)) (by rw [← e_]; exact hs_)) (fun hn_ => (Kd.freshB (g := gb681) (o := .cells #[.int .i64 a1_0, .int .i64 a1_1] 27 (0, 0)) (bk_ BK681) k_ hn_)))); replace BK681 := Aside0.mk (blk_kept (bk_ BK681) hkp (fun hs_ => (fun e_ => (Kd.R_away HO_5.out (fun _ hk => hk)) e_) hs_)); replace HB := Aside0.mk (hb); clear HO_5; (try clear hb); (try clear hkp); (try clear ho0)))
               go_roundg kj42
               case measure => have := HK1.out; have := HJ9.out; have := HJ30.out; have := HK4.out; have := HJ42.out; omega
               case rel => exact ⟨(t698), (wrap64 (x9_4 + 1)), rf_, H', ⟨by have := HK1.out; have := HJ9.out; have := HJ30.out; have := HK4.out; have := HJ42.out; omega⟩, ⟨by (with_reducible repeat (first | apply Kd.R_alloc | apply Kd.R_drewN | apply Kd.R_drew)); exact HO700.out⟩, ⟨by (with_reducible repeat (first | apply Kd.R_alloc | apply Kd.R_drewN | apply Kd.R_drew)); exact HO_6.out⟩, ⟨bk_ BK681⟩, ⟨bk_ BK689⟩, ⟨bl_⟩⟩
              ·replace c49 := Bool.eq_false_iff.mpr c49
               subst c49
               replace H := ite_f_ H
               have H' := Aside0.mk H
               clear H
               have hnb58 := NB689_681.out
               have hnc58 := NB681_689.out
               have hcz59 := blk_cell BK689.out
               have hfz59 := blk_frozen BK689.out
               obtain ⟨Ao60, co60, eo60⟩ := Kd.R_slice HO_6.out
               subst eo60
               go_wp2_with (first | ((with_reducible refine gate_callee (f := 77) rfl ?_); refine goesC_ (some 62) Try.func77 #[.slice Ao60 t685.length co60, .agg #[.int .i64 ((rd_T46 l0 x7_1).f3.f0), .int .i64 ((rd_T46 l0 x7_1).f3.f1), .int .i64 x9_4]] ?_; (with_reducible refine (spec_l06Has.calls kj42 _ _ t685 ((rd_T46 l0 x7_1).f3.f0) ((rd_T46 l0 x7_1).f3.f1) x9_4 false _ ?side1 ?side2 A48.out).mono ?_); (case side1 => repeat (first | exact (Kd.R_reads' HO_6.out).2.2 | (with_reducible refine Kd.C_alloc ?_ _) | (with_reducible refine Kd.C_drewN ?_ _) | (with_reducible refine Kd.C_drew ?_))); (case side2 => exact (Kd.R_reads' HO_6.out).2.1); rintro e w61 ⟨rfl, hb⟩; refine ⟨_, rfl, ?_⟩; replace HO_5 := hob_ HO_5 hb; replace HO_6 := hob_ HO_6 hb; replace BK681 := bkb_ BK681 hb; replace BK689 := bkb_ BK689 hb; replace HB := hbs_ hb; clear hb))
               go_roundg kj42
               case measure => have := HK1.out; have := HJ9.out; have := HJ30.out; have := HK4.out; have := HJ42.out; omega
               case rel => exact ⟨(x5_4), (wrap64 (x9_4 + 1)), rf_, H', ⟨by have := HK1.out; have := HJ9.out; have := HJ30.out; have := HK4.out; have := HJ42.out; omega⟩, ⟨by (with_reducible repeat (first | apply Kd.R_alloc | apply Kd.R_drewN | apply Kd.R_drew)); exact HO_5.out⟩, ⟨by (with_reducible repeat (first | apply Kd.R_alloc | apply Kd.R_drewN | apply Kd.R_drew)); exact HO_6.out⟩, ⟨bk_ BK681⟩, ⟨bk_ BK689⟩, ⟨bl_⟩⟩
             ·replace c47 := Bool.eq_false_iff.mpr c47
              subst c47
              replace H := ite_f_ H
              have H' := Aside0.mk H
              clear H
              go_wp2
              go_roundg kj42
              case measure => have := HK1.out; have := HJ9.out; have := HJ30.out; have := HK4.out; have := HJ42.out; omega
              case rel => exact ⟨(x5_4), (wrap64 (x7_1 + 1)), rf_, H', ⟨by have := HK1.out; have := HJ9.out; have := HJ30.out; have := HK4.out; have := HJ42.out; omega⟩, ⟨by (with_reducible repeat (first | apply Kd.R_alloc | apply Kd.R_drewN | apply Kd.R_drew)); exact HO_5.out⟩, ⟨by (with_reducible repeat (first | apply Kd.R_alloc | apply Kd.R_drewN | apply Kd.R_drew)); exact HO_6.out⟩, ⟨bk_ BK681⟩, ⟨bl_⟩⟩
   ·rw [if_neg c8] at H
    have c8b0 : decide (x7_1 < (l0.length : Int)) = false := decide_eq_false c8
    clear c8
    obtain rfl := Option.some.inj H
    go_wp2
    go_ret
    exact ⟨_, eq_, by (with_reducible repeat (first | apply Kd.R_alloc | apply Kd.R_drewN | apply Kd.R_drew)); exact Kd.R_mono HO_5.out (fun _ hk => trivial), bl_⟩
mutual
def spec_ReachRoles.l0 : Nat → List (S46) → List (S27) → Int → Option ((List (S27)))
 | 0, _, _, _ => none
 | k + 1, x0, x5, x6 => if x6 < (x5.length : Int) then (if 0 ≤ x6 then ((spec_LeansOn.f k x0 ((rd_T27 x5 x6).f0) ((rd_T27 x5 x6).f1)).bind fun t706 => (spec_ReachRoles.l1 k x0 x5 x6 t706 0)) else (none)) else (some x5)
def spec_ReachRoles.l1 : Nat → List (S46) → List (S27) → Int → List (S27) → Int → Option ((List (S27)))
 | 0, _, _, _, _, _ => none
 | k + 1, x0, x5, x6, x7, x8 => if x8 < (x7.length : Int) then (if 0 ≤ x8 then ((spec_l18Add.f k x5 ((rd_T27 x7 x8).f0) ((rd_T27 x7 x8).f1)).bind fun t710 => (spec_ReachRoles.l1 k x0 t710 x6 x7 (wrap64 (x8 + 1)))) else (none)) else (spec_ReachRoles.l0 k x0 x5 (wrap64 (x6 + 1)))
end
def spec_ReachRoles.f (k : Nat) (l0 : List (S46)) (a1_0 : Int) (a1_1 : Int) : Option ((List (S27))) := (spec_LeansOn.f k l0 a1_0 a1_1).bind fun t702 => (spec_ReachRoles.l0 k l0 t702 0)
set_option maxHeartbeats 8000000 in
set_option maxRecDepth 100000 in
theorem spec_ReachRoles.calls (k : Nat) (A0 : Option Addr) (c0 : Nat) (l0 : List (S46)) (a1_0 : Int) (a1_1 : Int) (r : List (S27)) (w : World) (hr0 : Kd.C k46 w A0 l0.length l0) (hc0 : l0.length ≤ c0) (h : spec_ReachRoles.f k l0 a1_0 a1_1 = some r) :
  Calls Try.prog 114 #[.slice A0 l0.length c0, .agg #[.int .i64 a1_0, .int .i64 a1_1]] w fun e w' => ∃ v0_ : Value, e = .returned (v0_) ∧ Kd.R k27 27 w' w.heap.size (fun _ => True) v0_ r ∧ Below w.heap.size w w' := by
 have hu27 := Try.underlying27
 have HR0 := Aside0.mk hr0
 have HC0 := Aside0.mk hc0
 clear hr0 hc0
 have HB := Aside0.mk (Below.refl w.heap.size w)
 have H : ((spec_LeansOn.f k l0 a1_0 a1_1).bind fun t702 => (spec_ReachRoles.l0 k l0 t702 0)) = some r := h
 clear h
 obtain ⟨t702, A3, H⟩ := bindE_ H
 have H' := Aside0.mk H
 clear H
 go_enter Try.func114, Try.ntmps114
 go_wp2_with (first | ((with_reducible refine gate_dst (N := 3) rfl ?_); refine box_event ?hg (N := 3) ?hd (cs := #[.int .i64 a1_0, .int .i64 a1_1]) (t := 27) ?hr ?_; (case hd => rfl); (case hg => rfl); (case hr => first | (go_simp; done) | (go_simp; rfl)); intro gb701 hg w4 hbox hb; have BK701 := Aside0.mk (hbox); have GW701 := gs_ hg; have GE701 := gs_ hg; replace HB := hbs_ hb; clear hb hbox hg; have hcz5 := blk_cell BK701.out; have hfz5 := blk_frozen BK701.out) | ((with_reducible refine gate_callee (f := 140) rfl ?_); refine goesC_ (some 11) Try.func140 #[.slice A0 l0.length c0, .agg #[.int .i64 a1_0, .int .i64 a1_1]] ?_; (with_reducible refine (spec_LeansOn.calls k _ _ l0 a1_0 a1_1 t702 _ ?side1 ?side2 A3.out).mono ?_); (case side1 => repeat (first | exact (Kd.C_below HR0.out HB.out) | (with_reducible refine Kd.C_alloc ?_ _) | (with_reducible refine Kd.C_drewN ?_ _) | (with_reducible refine Kd.C_drew ?_))); (case side2 => exact HC0.out); rintro e w6 ⟨v703, rfl, ho0, hb⟩; refine ⟨_, rfl, ?_⟩; have HO704 := Aside0.mk (Kd.R_lower (Kd.R_newB ho0 (g := gb701) (o := .cells #[.int .i64 a1_0, .int .i64 a1_1] 27 (0, 0)) (bk_ BK701)) bls_); replace BK701 := bkb_ BK701 hb; replace HB := hbs_ hb; (try clear hb); (try clear hb2); (try clear hk); (try clear hi); (try clear ho0)))
 go_loopg [5, 6] k (fun kq v5 v6 w' => ∃ (x5_1 : List (S27)) (x6_1 : Int), v6 = .int .i64 x6_1 ∧ Aside0 (spec_ReachRoles.l0 kq l0 x5_1 x6_1 = some r) ∧ Aside0 (kq ≤ k) ∧ Aside0 (Kd.R k27 27 w' w.heap.size (fun k_ => k_ ≠ gb701) v5 x5_1) ∧ Aside0 (w'.heap[gb701]? = some (.cells #[.int .i64 a1_0, .int .i64 a1_1] 27 (0, 0))) ∧ Aside0 (Below w.heap.size w w'))
 case atStart => exact ⟨(t702), (0), rf_, H', ⟨Nat.le_refl _⟩, ⟨by (with_reducible repeat (first | apply Kd.R_alloc | apply Kd.R_drewN | apply Kd.R_drew)); exact Kd.R_mono HO704.out (fun _ hk => hk.2)⟩, ⟨bk_ BK701⟩, ⟨bl_⟩⟩
 case round =>
  clear H'
  try clear c1
  try clear p2
  try clear hcz5
  try clear hfz5
  obtain ⟨x5_1, x6_1, rfl, HA, HK1, HO_5, BK701, HB⟩ := hrel
  cases gk with
  | zero => exact absurd HA.out (by simp [spec_ReachRoles.l0])
  | succ k1 =>
   have H := HA.out
   clear HA
   simp only [spec_ReachRoles.l0] at H
   by_cases c7 : x6_1 < (x5_1.length : Int)
   ·rw [if_pos c7] at H
    have c7b0 : decide (x6_1 < (x5_1.length : Int)) = true := decide_eq_true c7
    clear c7
    obtain ⟨c8b0, H⟩ := ifd_ H
    obtain ⟨t706, A9, H⟩ := bindE_ H
    have H' := Aside0.mk H
    clear H
    obtain ⟨Ao10, co10, eo10⟩ := Kd.R_slice HO_5.out
    subst eo10
    have p705 : 0 ≤ (x6_1 : Int) := od_
    have q705 : x6_1 < (x5_1.length : Int) := od_
    obtain ⟨ad705, e705, hx705_0, hx705_1⟩ := at_T27 (Kd.R_reads' HO_5.out).2.2 x6_1 p705 q705
    cases e705
    replace p705 := eq_true p705
    replace q705 := eq_true q705
    go_wp2_with (first | ((with_reducible refine gate_callee (f := 140) rfl ?_); refine goesC_ (some 23) Try.func140 #[.slice A0 l0.length c0, .agg #[.int .i64 ((rd_T27 x5_1 x6_1).f0), .int .i64 ((rd_T27 x5_1 x6_1).f1)]] ?_; (with_reducible refine (spec_LeansOn.calls k1 _ _ l0 ((rd_T27 x5_1 x6_1).f0) ((rd_T27 x5_1 x6_1).f1) t706 _ ?side1 ?side2 A9.out).mono ?_); (case side1 => repeat (first | exact (Kd.C_below HR0.out HB.out) | (with_reducible refine Kd.C_alloc ?_ _) | (with_reducible refine Kd.C_drewN ?_ _) | (with_reducible refine Kd.C_drew ?_))); (case side2 => exact HC0.out); rintro e w11 ⟨v707, rfl, ho0, hb⟩; refine ⟨_, rfl, ?_⟩; have HO708 := Aside0.mk (Kd.R_lower (Kd.R_newB (Kd.R_new' ho0 (Kd.R_lt (by (with_reducible repeat (first | apply Kd.R_alloc | apply Kd.R_drewN | apply Kd.R_drew)); exact HO_5.out))) (g := gb701) (o := .cells #[.int .i64 a1_0, .int .i64 a1_1] 27 (0, 0)) (bk_ BK701)) bls_); replace HO_5 := Aside0.mk (Kd.R_elder' (by (with_reducible repeat (first | apply Kd.R_alloc | apply Kd.R_drewN | apply Kd.R_drew)); exact HO_5.out) (Kd.R_base ho0) hb); replace BK701 := bkb_ BK701 hb; replace HB := hbs_ hb; (try clear hb); (try clear hb2); (try clear hk); (try clear hi); (try clear ho0)))
    go_loopg [5, 8] k1 (fun kq v5 v8 w' => ∃ (x5_2 : List (S27)) (x8_2 : Int), v8 = .int .i64 x8_2 ∧ Aside0 (spec_ReachRoles.l1 kq l0 x5_2 x6_1 t706 x8_2 = some r) ∧ Aside0 (kq ≤ k1) ∧ Aside0 (Kd.R k27 27 w' w.heap.size (fun k_ => some k_ ≠ (v707 : Value).ownBlock ∧ k_ ≠ gb701) v5 x5_2) ∧ Aside0 (Kd.R k27 27 w' w.heap.size (fun k_ => some k_ ≠ (v5 : Value).ownBlock ∧ k_ ≠ gb701) v707 t706) ∧ Aside0 (w'.heap[gb701]? = some (.cells #[.int .i64 a1_0, .int .i64 a1_1] 27 (0, 0))) ∧ Aside0 (Below w.heap.size w w'))
    case atStart => exact ⟨(x5_1), (0), rf_, H', ⟨Nat.le_refl _⟩, ⟨by (with_reducible repeat (first | apply Kd.R_alloc | apply Kd.R_drewN | apply Kd.R_drew)); exact Kd.R_mono HO_5.out (fun _ hk => ⟨hk.2, hk.1⟩)⟩, ⟨by (with_reducible repeat (first | apply Kd.R_alloc | apply Kd.R_drewN | apply Kd.R_drew)); exact Kd.R_mono HO708.out (fun _ hk => ⟨hk.1.2, hk.2⟩)⟩, ⟨bk_ BK701⟩, ⟨bl_⟩⟩
    case round =>
     clear H'
     try clear c1
     try clear p2
     try clear c7
     try clear c7b0
     try clear p7
     try clear q7
     try clear hx7
     try clear c8
     try clear c8b0
     try clear c11
     try clear hcz5
     try clear hfz5
     try clear hx705_0
     try clear hx705_1
     try clear p2
     try clear p705
     try clear q705
     obtain ⟨x5_2, x8_2, rfl, HA, HK2, HO_5, HO_7, BK701, HB⟩ := hrel
     cases gk with
     | zero => exact absurd HA.out (by simp [spec_ReachRoles.l1])
     | succ k2 =>
      have H := HA.out
      clear HA
      simp only [spec_ReachRoles.l1] at H
      by_cases c12 : x8_2 < (t706.length : Int)
      ·rw [if_pos c12] at H
       have c12b0 : decide (x8_2 < (t706.length : Int)) = true := decide_eq_true c12
       clear c12
       obtain ⟨c13b0, H⟩ := ifd_ H
       obtain ⟨t710, A14, H⟩ := bindE_ H
       have H' := Aside0.mk H
       clear H
       obtain ⟨Ao15, co15, eo15⟩ := Kd.R_slice HO_7.out
       subst eo15
       have p709 : 0 ≤ (x8_2 : Int) := od_
       have q709 : x8_2 < (t706.length : Int) := od_
       obtain ⟨ad709, e709, hx709_0, hx709_1⟩ := at_T27 (Kd.R_reads' HO_7.out).2.2 x8_2 p709 q709
       cases e709
       replace p709 := eq_true p709
       replace q709 := eq_true q709
       obtain ⟨Ao16, co16, eo16⟩ := Kd.R_slice HO_5.out
       subst eo16
       go_wp2_with (first | ((with_reducible refine gate_callee (f := 141) rfl ?_); refine goesC_ (some 35) Try.func141 #[.slice Ao16 x5_2.length co16, .agg #[.int .i64 ((rd_T27 t706 x8_2).f0), .int .i64 ((rd_T27 t706 x8_2).f1)]] ?_; (with_reducible refine (spec_l18Add.calls k2 (fun k_ => some k_ = (.slice Ao16 x5_2.length co16 : Value).ownBlock) (.slice Ao16 x5_2.length co16) x5_2 ((rd_T27 t706 x8_2).f0) ((rd_T27 t706 x8_2).f1) t710 w _ ?side1 ?side2 A14.out).mono ?_); (case side1 => repeat (first | (with_reducible first | exact HB.out | apply below_alloc | apply pw_below_drewN | apply below_drew1 | refine below_set ?_ GE701.out) | exact HB.out)); (case side2 => exact Kd.R_tight rfl HO_5.out); rintro e w17 ⟨v711, rfl, ho0, hb, hkp⟩; refine ⟨_, rfl, ?_⟩; have HO712 := Aside0.mk (Kd.R_mono (ok' := fun k_ => some k_ ≠ (.slice (some ad709) t706.length co15 : Value).ownBlock ∧ k_ ≠ gb701) ho0 (fun k_ hk_ => ⟨Or.elim hk_ (fun hs_ => fun e_ => (((HO_7.out).1 k_ e_.symm).1) hs_) (fun hn_ => (Kd.fresh' (Kd.R_lt (by (with_reducible repeat (first | apply Kd.R_alloc | apply Kd.R_drewN | apply Kd.R_drew)); exact HO_7.out)) k_ hn_)), Or.elim hk_ (fun hs_ => fun e_ => (Kd.R_away HO_5.out (fun _ hk => hk.2)) (by rw [← e_]; exact hs_)) (fun hn_ => (Kd.freshB (g := gb701) (o := .cells #[.int .i64 a1_0, .int .i64 a1_1] 27 (0, 0)) (bk_ BK701) k_ hn_))⟩)); replace HO_7 := Aside0.mk (Kd.R_mono (ok' := fun k_ => k_ ≠ gb701 ∧ some k_ ≠ (v711 : Value).ownBlock) (Kd.R_keptB (HO_7.out) hkp (fun k_ hk_ hs_ => (hk_.1) hs_)) (fun k_ hk_ => ⟨hk_.1.2, fun e_ => Or.elim (ho0.1 k_ e_.symm) (fun hs_ => hk_.2.1 hs_) (fun hn_ => Nat.not_le.2 hk_.2.2 hn_)⟩)); replace BK701 := Aside0.mk (blk_kept (bk_ BK701) hkp (fun hs_ => (fun e_ => (Kd.R_away HO_5.out (fun _ hk => hk.2)) e_) hs_)); replace HB := Aside0.mk (hb); clear HO_5; (try clear hb); (try clear hkp); (try clear ho0)))
       go_roundg k2
       case measure => have := HK1.out; have := HK2.out; omega
       case rel => exact ⟨(t710), (wrap64 (x8_2 + 1)), rf_, H', ⟨by have := HK1.out; have := HK2.out; omega⟩, ⟨by (with_reducible repeat (first | apply Kd.R_alloc | apply Kd.R_drewN | apply Kd.R_drew)); exact HO712.out⟩, ⟨by (with_reducible repeat (first | apply Kd.R_alloc | apply Kd.R_drewN | apply Kd.R_drew)); exact Kd.R_mono HO_7.out (fun _ hk => ⟨hk.2, hk.1⟩)⟩, ⟨bk_ BK701⟩, ⟨bl_⟩⟩
      ·rw [if_neg c12] at H
       have c12b0 : decide (x8_2 < (t706.length : Int)) = false := decide_eq_false c12
       clear c12
       have H' := Aside0.mk H
       clear H
       obtain ⟨Ao18, co18, eo18⟩ := Kd.R_slice HO_7.out
       subst eo18
       go_wp2
       go_roundg k2
       case measure => have := HK1.out; have := HK2.out; omega
       case rel => exact ⟨(x5_2), (wrap64 (x6_1 + 1)), rf_, H', ⟨by have := HK1.out; have := HK2.out; omega⟩, ⟨by (with_reducible repeat (first | apply Kd.R_alloc | apply Kd.R_drewN | apply Kd.R_drew)); exact Kd.R_mono HO_5.out (fun _ hk => hk.2)⟩, ⟨bk_ BK701⟩, ⟨bl_⟩⟩
   ·rw [if_neg c7] at H
    have c7b0 : decide (x6_1 < (x5_1.length : Int)) = false := decide_eq_false c7
    clear c7
    obtain rfl := Option.some.inj H
    obtain ⟨Ao19, co19, eo19⟩ := Kd.R_slice HO_5.out
    subst eo19
    go_wp2
    go_ret
    exact ⟨_, eq_, by (with_reducible repeat (first | apply Kd.R_alloc | apply Kd.R_drewN | apply Kd.R_drew)); exact Kd.R_mono HO_5.out (fun _ hk => trivial), bl_⟩
end Go.Proofs.Ytppdmcimddhbaaa.PE
