import Derived.Test.YtcbhmcpdnokbiaaKLPAx12
-- printed by wip/tools
namespace Go.Proofs.Ytcbhmcpdnokbiaa.PA
open Go.RowKit Go.Proofs.YtcbhmcpdnokbiaaW.PrintWords Go.Proofs.YtcbhmcpdnokbiaaW.PrintLast Go.Proofs.YtcbhmcpdnokbiaaW.PrintMore
attribute [local go_sem] max2_int min2_int max_two min_two max_three min_three max_four min_four
set_option linter.unusedVariables false
set_option linter.unusedSimpArgs false
attribute [local go_sem high] eqA27
mutual
def impl_ReachRoles.l0 : Nat → List (S46) → List (S27) → Int → Option ((List (S27)))
 | 0, _, _, _ => none
 | k + 1, x0, x5, x6 => if x6 < (x5.length : Int) then (if 0 ≤ x6 then ((impl_LeansOn.f k x0 ((rd_T27 x5 x6).f0) ((rd_T27 x5 x6).f1)).bind fun t463 => (impl_ReachRoles.l1 k x0 x5 x6 t463 (t463.length : Int) 0)) else (none)) else (some x5)
def impl_ReachRoles.l1 : Nat → List (S46) → List (S27) → Int → List (S27) → Int → Int → Option ((List (S27)))
 | 0, _, _, _, _, _, _ => none
 | k + 1, x0, x5, x6, x23, x24, x25 => if x25 < x24 then (if 0 ≤ x25 then (if x25 < (x23.length : Int) then ((impl_Role_25.f k x5 ((rd_T27 x23 x25).f0) ((rd_T27 x23 x25).f1)).bind fun t468 => (if t468 = true then (impl_ReachRoles.l1 k x0 x5 x6 x23 x24 (wrap64 (x25 + 1))) else (if x5.length < 8796093022208 then (impl_ReachRoles.l1 k x0 (x5 ++ [(⟨(rd_T27 x23 x25).f0, (rd_T27 x23 x25).f1⟩ : S27)]) x6 x23 x24 (wrap64 (x25 + 1))) else (none)))) else (none)) else (none)) else (impl_ReachRoles.l0 k x0 x5 (wrap64 (x6 + 1)))
end
def impl_ReachRoles.f (k : Nat) (l0 : List (S46)) (a1_0 : Int) (a1_1 : Int) : Option ((List (S27))) := (impl_LeansOn.f k l0 a1_0 a1_1).bind fun t459 => (impl_ReachRoles.l0 k l0 t459 0)
set_option maxHeartbeats 8000000 in
set_option maxRecDepth 100000 in
theorem impl_ReachRoles.calls (k : Nat) (A0 : Option Addr) (c0 : Nat) (l0 : List (S46)) (a1_0 : Int) (a1_1 : Int) (r : List (S27)) (w : World) (hr0 : Kd.C k46 w A0 l0.length l0) (hc0 : l0.length ≤ c0) (h : impl_ReachRoles.f k l0 a1_0 a1_1 = some r) :
  Calls Try.prog 11 #[.slice A0 l0.length c0, .agg #[.int .i64 a1_0, .int .i64 a1_1]] w fun e w' => ∃ v0_ : Value, e = .returned (v0_) ∧ Kd.R k27 27 w' w.heap.size (fun _ => True) v0_ r ∧ Below w.heap.size w w' := by
 have hu27 := Try.underlying27
 have HR0 := aa_ hr0
 have HC0 := aa_ hc0
 clear hr0 hc0
 have HB := aa_ (Below.refl w.heap.size w)
 have H : ((impl_LeansOn.f k l0 a1_0 a1_1).bind fun t459 => (impl_ReachRoles.l0 k l0 t459 0)) = some r := h
 clear h
 obtain ⟨t459, A3, H⟩ := bindE_ H
 have H' := aa_ H
 clear H
 go_enter Try.func11, Try.ntmps11
 go_wp2_with (first | ((with_reducible refine gD_ 3 rfl ?_); refine bx_ (N := 3) (cs := #[.int .i64 a1_0, .int .i64 a1_1]) (t := 27) ?_; intro gb458 hg w4 hbox hb; have BK458 := aa_ (hbox); have GW458 := gs_ hg; have GE458 := gs_ hg; replace HB := hbs_ hb; clear hb hbox hg; obtain ⟨hcz5, hfz5⟩ := bcf_ BK458) | ((with_reducible refine gC_ 12 rfl ?_); refine goesC_ (some 11) Try.func12 #[.slice A0 l0.length c0, .agg #[.int .i64 a1_0, .int .i64 a1_1]] ?_; (with_reducible refine (impl_LeansOn.calls k _ _ l0 a1_0 a1_1 t459 _ ?side1 ?side2 A3.out).mono ?_); (case side1 => repeat (first | exact (Kd.C_below HR0.out HB.out) | (with_reducible refine Kd.C_alloc ?_ _) | (with_reducible refine Kd.C_drewN ?_ _) | (with_reducible refine Kd.C_drew ?_))); (case side2 => exact HC0.out); rintro e w6 ⟨v460, rfl, ho0, hb⟩; refine ⟨_, rfl, ?_⟩; have HO461 := aa_ (Kd.R_lower (Kd.R_newB ho0 (g := gb458) (o := .cells #[.int .i64 a1_0, .int .i64 a1_1] 27 (0, 0)) (bk_ BK458)) bls_); replace BK458 := bkb_ BK458 hb; replace HB := hbs_ hb; (try clear hb ho0)))
 go_loopg [5, 6] k (fun kq v5 v6 w' => ∃ (x5_1 : List (S27)) (x6_1 : Int), v6 = .int .i64 x6_1 ∧ Aside0 (impl_ReachRoles.l0 kq l0 x5_1 x6_1 = some r) ∧ Aside0 (kq ≤ k) ∧ Aside0 (Kd.R k27 27 w' w.heap.size (fun k_ => k_ ≠ gb458) v5 x5_1) ∧ Aside0 (w'.heap[gb458]? = some (.cells #[.int .i64 a1_0, .int .i64 a1_1] 27 (0, 0))) ∧ Aside0 (Below w.heap.size w w'))
 case atStart => exact ⟨(t459), (0), rf_, H', ⟨Nat.le_refl _⟩, ⟨by (with_reducible repeat (first | apply Kd.R_alloc | apply Kd.R_drewN | apply Kd.R_drew)); exact Kd.R_mono HO461.out (fun _ hk => hk.2)⟩, ⟨bk_ BK458⟩, ⟨bl_⟩⟩
 case round =>
  clear H'
  try clear c1
  try clear p2
  try clear hcz5
  try clear hfz5
  obtain ⟨x5_1, x6_1, rfl, HA, HK1, HO_5, BK458, HB⟩ := hrel
  cases gk with
  | zero => exact absurd HA.out (by simp [impl_ReachRoles.l0])
  | succ k1 =>
   have H := HA.out
   clear HA
   simp only [impl_ReachRoles.l0] at H
   by_cases c7 : x6_1 < (x5_1.length : Int)
   ·rw [if_pos c7] at H
    have c7b0 : decide (x6_1 < (x5_1.length : Int)) = true := decide_eq_true c7
    clear c7
    obtain ⟨c8b0, H⟩ := ifd_ H
    obtain ⟨t463, A9, H⟩ := bindE_ H
    have H' := aa_ H
    clear H
    obtain ⟨Ao10, co10, eo10⟩ := Kd.R_slice HO_5.out
    subst eo10
    have p462 : 0 ≤ (x6_1 : Int) := od_
    have q462 : x6_1 < (x5_1.length : Int) := od_
    obtain ⟨ad462, e462, hx462_0, hx462_1⟩ := at_T27 (Kd.R_reads' HO_5.out).2.2 x6_1 p462 q462
    cases e462
    replace p462 := eq_true p462
    replace q462 := eq_true q462
    go_wp2_with (first | ((with_reducible refine gC_ 12 rfl ?_); refine goesC_ (some 23) Try.func12 #[.slice A0 l0.length c0, .agg #[.int .i64 ((rd_T27 x5_1 x6_1).f0), .int .i64 ((rd_T27 x5_1 x6_1).f1)]] ?_; (with_reducible refine (impl_LeansOn.calls k1 _ _ l0 ((rd_T27 x5_1 x6_1).f0) ((rd_T27 x5_1 x6_1).f1) t463 _ ?side1 ?side2 A9.out).mono ?_); (case side1 => repeat (first | exact (Kd.C_below HR0.out HB.out) | (with_reducible refine Kd.C_alloc ?_ _) | (with_reducible refine Kd.C_drewN ?_ _) | (with_reducible refine Kd.C_drew ?_))); (case side2 => exact HC0.out); rintro e w11 ⟨v464, rfl, ho0, hb⟩; refine ⟨_, rfl, ?_⟩; have HO465 := aa_ (Kd.R_lower (Kd.R_newB (Kd.R_new' ho0 (Kd.R_lt (rr_ HO_5))) (g := gb458) (o := .cells #[.int .i64 a1_0, .int .i64 a1_1] 27 (0, 0)) (bk_ BK458)) bls_); replace HO_5 := aa_ (Kd.R_elder' (rr_ HO_5) (Kd.R_base ho0) hb); replace BK458 := bkb_ BK458 hb; replace HB := hbs_ hb; (try clear hb ho0); obtain ⟨Ao12, co12, eo12⟩ := Kd.R_slice HO465.out; subst eo12))
    go_loopg [5, 25] k1 (fun kq v5 v25 w' => ∃ (x5_2 : List (S27)) (x25_2 : Int), v25 = .int .i64 x25_2 ∧ Aside0 (impl_ReachRoles.l1 kq l0 x5_2 x6_1 t463 (t463.length : Int) x25_2 = some r) ∧ Aside0 (kq ≤ k1) ∧ Aside0 (Kd.R k27 27 w' w.heap.size (fun k_ => some k_ ≠ ((.slice Ao12 t463.length co12) : Value).ownBlock ∧ k_ ≠ gb458) v5 x5_2) ∧ Aside0 (Kd.R k27 27 w' w.heap.size (fun k_ => some k_ ≠ (v5 : Value).ownBlock ∧ k_ ≠ gb458) (.slice Ao12 t463.length co12) t463) ∧ Aside0 (w'.heap[gb458]? = some (.cells #[.int .i64 a1_0, .int .i64 a1_1] 27 (0, 0))) ∧ Aside0 (Below w.heap.size w w'))
    case atStart => exact ⟨(x5_1), (0), rf_, H', ⟨Nat.le_refl _⟩, ⟨by (with_reducible repeat (first | apply Kd.R_alloc | apply Kd.R_drewN | apply Kd.R_drew)); exact Kd.R_mono HO_5.out (fun _ hk => ⟨hk.2, hk.1⟩)⟩, ⟨by (with_reducible repeat (first | apply Kd.R_alloc | apply Kd.R_drewN | apply Kd.R_drew)); exact Kd.R_mono HO465.out (fun _ hk => ⟨hk.1.2, hk.2⟩)⟩, ⟨bk_ BK458⟩, ⟨bl_⟩⟩
    case round =>
     clear H'
     try clear c1
     try clear p2
     try clear p4
     try clear q4
     try clear hx4
     try clear c7
     try clear c7b0
     try clear c8
     try clear c8b0
     try clear c11
     try clear c12
     try clear hcz5
     try clear hfz5
     try clear hx462_0
     try clear hx462_1
     try clear p2
     try clear p462
     try clear q462
     obtain ⟨x5_2, x25_2, rfl, HA, HK2, HO_5, HO_23, BK458, HB⟩ := hrel
     cases gk with
     | zero => exact absurd HA.out (by simp [impl_ReachRoles.l1])
     | succ k2 =>
      have H := HA.out
      clear HA
      simp only [impl_ReachRoles.l1] at H
      by_cases c13 : x25_2 < (t463.length : Int)
      ·rw [if_pos c13] at H
       have c13b0 : decide (x25_2 < (t463.length : Int)) = true := decide_eq_true c13
       clear c13
       obtain ⟨c14b0, H⟩ := ifd_ H
       obtain ⟨c15b0, H⟩ := ifd_ H
       obtain ⟨t468, A16, H⟩ := bindE_ H
       have HC17 := aa_ H
       clear H
       have p466 : 0 ≤ (x25_2 : Int) := od_
       have q466 : x25_2 < (t463.length : Int) := od_
       obtain ⟨ad466, e466, hx466_0, hx466_1⟩ := at_T27 (Kd.R_reads' HO_23.out).2.2 x25_2 p466 q466
       cases e466
       replace p466 := eq_true p466
       replace q466 := eq_true q466
       go_upto_if 32 with (first | ((with_reducible refine gD_ 8 rfl ?_); refine bx_ (N := 8) (cs := #[.int .i64 0, .int .i64 0]) (t := 27) ?_; intro gb467 hg w18 hbox hb; replace HO_5 := aa_ (Kd.R_below (Kd.R_elderB (rr_ HO_5) gb467 (Nat.le_of_eq hg.symm)) hb); replace HO_23 := aa_ (Kd.R_below (Kd.R_elderB (rr_ HO_23) gb467 (Nat.le_of_eq hg.symm)) hb); have BK467 := aa_ (hbox); have GW467 := gs_ hg; have GE467 := gs_ hg; replace HB := hbs_ hb; have NB458_467 := nl_ hg BK458; have NB467_458 := nr_ hg BK458; replace BK458 := bkb_ BK458 hb; clear hb hbox hg; have hnb19 := NB467_458.out; have hnc19 := NB458_467.out; obtain ⟨hcz20, hfz20⟩ := bcf_ BK467; obtain ⟨Ao21, co21, eo21⟩ := Kd.R_slice HO_5.out; subst eo21) | ((with_reducible refine gC_ 25 rfl ?_); refine goesC_ (some 31) Try.func25 #[.slice Ao21 x5_2.length co21, .agg #[.int .i64 ((rd_T27 t463 x25_2).f0), .int .i64 ((rd_T27 t463 x25_2).f1)]] ?_; (with_reducible refine (impl_Role_25.calls k2 _ _ x5_2 ((rd_T27 t463 x25_2).f0) ((rd_T27 t463 x25_2).f1) t468 _ ?side1 ?side2 A16.out).mono ?_); (case side1 => refine (Kd.R_reads' (e := 27) (base := w.heap.size) (ok := fun k_ => ((some k_ ≠ (.slice (some ad466) t463.length co12 : Value).ownBlock ∧ k_ ≠ gb458) ∧ k_ ≠ gb467)) (n := x5_2.length) (c := co21) ?_).2.2; exact (by (with_reducible repeat (first | apply Kd.R_alloc | apply Kd.R_drewN | apply Kd.R_drew)); exact (Kd.R_mono (fr2_ (Kd.R_mono HO_5.out (fun k_ hk => (⟨hk, hk.2⟩ : _ ∧ k_ ≠ gb467))) (fun _ hk => hk.2)) (fun _ h_ => h_.1)))); (case side2 => exact (Kd.R_reads' HO_5.out).2.1); rintro e w22 ⟨rfl, hb⟩; refine ⟨_, rfl, ?_⟩; replace HO_5 := aa_ (Kd.R_below (by (with_reducible repeat (first | apply Kd.R_alloc | apply Kd.R_drewN | apply Kd.R_drew)); exact (Kd.R_mono (fr2_ (Kd.R_mono HO_5.out (fun k_ hk => (⟨hk, hk.2⟩ : _ ∧ k_ ≠ gb467))) (fun _ hk => hk.2)) (fun _ h_ => h_.1))) hb); replace HO_23 := aa_ (Kd.R_below (by (with_reducible repeat (first | apply Kd.R_alloc | apply Kd.R_drewN | apply Kd.R_drew)); exact (Kd.R_mono (fr2_ (Kd.R_mono HO_23.out (fun k_ hk => (⟨hk, hk.2⟩ : _ ∧ k_ ≠ gb467))) (fun _ hk => hk.2)) (fun _ h_ => h_.1))) hb); replace BK458 := aa_ (blk_below (g := gb458) (o := .cells #[.int .i64 a1_0, .int .i64 a1_1] 27 (0, 0)) (bk_ BK458) hb); replace BK467 := aa_ (blk_below (g := gb467) (o := .cells #[.int .i64 ((rd_T27 t463 x25_2).f0), .int .i64 ((rd_T27 t463 x25_2).f1)] 27 (0, 0)) (bk_ BK467) hb); replace HB := hbs_ hb; clear hb))
       (try simp only [Act.put, List.setIfInBounds_toArray, List.set_cons_zero, List.set_cons_succ])
       have H := HC17.out
       clear HC17
       by_cases c23 : t468 = true
       ·subst c23
        replace H := ite_t_ H
        have H' := aa_ H
        clear H
        go_wp2
        go_roundg k2
        case measure => have := HK1.out; have := HK2.out; omega
        case rel => exact ⟨(x5_2), (wrap64 (x25_2 + 1)), rf_, H', ⟨by have := HK1.out; have := HK2.out; omega⟩, ⟨by (with_reducible repeat (first | apply Kd.R_alloc | apply Kd.R_drewN | apply Kd.R_drew)); exact Kd.R_mono HO_5.out (fun _ hk => ⟨hk.1.1, hk.1.2⟩)⟩, ⟨by (with_reducible repeat (first | apply Kd.R_alloc | apply Kd.R_drewN | apply Kd.R_drew)); exact Kd.R_mono HO_23.out (fun _ hk => ⟨hk.1.1, hk.1.2⟩)⟩, ⟨bk_ BK458⟩, ⟨bl_⟩⟩
       ·replace c23 := Bool.eq_false_iff.mpr c23
        subst c23
        replace H := ite_f_ H
        obtain ⟨c24, H⟩ := ifn_ H
        have LMc24 := aa_ c24
        clear c24
        obtain ⟨y469, hy469⟩ : ∃ y_ : List (S27), y_ = (x5_2 ++ [(⟨(rd_T27 t463 x25_2).f0, (rd_T27 t463 x25_2).f1⟩ : S27)]) := ⟨_, rfl⟩
        replace H : (impl_ReachRoles.l1 k2 l0 y469 x6_1 t463 (t463.length : Int) (wrap64 (x25_2 + 1))) = some r := rh_ hy469 H
        have Ny469 := aa_ hy469
        clear hy469
        have H' := aa_ H
        clear H
        have hnb25 := NB467_458.out
        have hnc25 := NB458_467.out
        have hcz26 := blk_cell BK467.out
        have hfz26 := blk_frozen BK467.out
        go_wp2_with (first | ((with_reducible refine gate_builtin (b := .append) (xs := #[.tmp 33, .tmp 35]) rfl ?_); at_builtin; refine Kd.R_append k27 (w0 := w) w.heap.size rfl (.tmp 33) (.tmp 35) 37 27 (.agg #[(.int .i64 0), (.int .i64 0)]) 16 rfl Try.underlying37 info27 rfl (by decide) (by omega) (.slice Ao21 x5_2.length co21) x5_2 (⟨(rd_T27 t463 x25_2).f0, (rd_T27 t463 x25_2).f1⟩ : S27) [.int .i64 ((rd_T27 t463 x25_2).f0), .int .i64 ((rd_T27 t463 x25_2).f1)] (fun k_ => some k_ ≠ (.slice (some ad466) t463.length co12 : Value).ownBlock ∧ k_ ≠ gb458 ∧ k_ ≠ gb467) (fun _ => False) rfl rfl ?aP (fun _ hk => hk.elim) ?aF ?aO ?aB ?aS ?aL ?_; (case aP => exact k27_mkM _ _ _ (⟨(rd_T27 t463 x25_2).f0, (rd_T27 t463 x25_2).f1⟩ : S27)); (case aB => exact bl_); (case aF => exact (fun k_ hk => ⟨Kd.fresh' (Kd.R_lt (rr_ HO_23)) k_ hk, Kd.freshB (g := gb458) (o := .cells #[.int .i64 a1_0, .int .i64 a1_1] 27 (0, 0)) (bk_ BK458) k_ hk, Kd.freshB (g := gb467) (o := .cells #[.int .i64 ((rd_T27 t463 x25_2).f0), .int .i64 ((rd_T27 t463 x25_2).f1)] 27 (0, 0)) (bk_ BK467) k_ hk⟩)); (case aO => exact (by (with_reducible repeat (first | apply Kd.R_alloc | apply Kd.R_drewN | apply Kd.R_drew)); exact Kd.R_mono HO_5.out (fun _ hk => ⟨hk.1.1, ⟨hk.1.2, hk.2⟩⟩))); (case aS => exact bls_); (case aL => have := LMc24.out; omega); intro v470 w27 ho hb hg hat; rw [← Ny469.out] at ho; replace HO_23 := aa_ (Kd.R_after (ok := (fun k_ => k_ ≠ gb458 ∧ k_ ≠ gb467)) (by (with_reducible repeat (first | apply Kd.R_alloc | apply Kd.R_drewN | apply Kd.R_drew)); exact Kd.R_mono HO_23.out (fun _ hk => ⟨⟨hk.1.2, hk.2⟩, hk.1.1⟩)) hg hat); replace BK458 := aa_ (blk_grown (g := gb458) (o := .cells #[.int .i64 a1_0, .int .i64 a1_1] 27 (0, 0)) (bk_ BK458) hg (Kd.R_away HO_5.out (fun _ hk => hk.1.2))); replace BK467 := aa_ (blk_grown (g := gb467) (o := .cells #[.int .i64 ((rd_T27 t463 x25_2).f0), .int .i64 ((rd_T27 t463 x25_2).f1)] 27 (0, 0)) (bk_ BK467) hg (Kd.R_away HO_5.out (fun _ hk => hk.2))); replace HB := aa_ (hb); have HO471 := aa_ (ho); clear HO_5; clear ho hb hg hat))
        go_roundg k2
        case measure => have := HK1.out; have := HK2.out; omega
        case rel => exact ⟨(y469), (wrap64 (x25_2 + 1)), rf_, H', ⟨by have := HK1.out; have := HK2.out; omega⟩, ⟨by (with_reducible repeat (first | apply Kd.R_alloc | apply Kd.R_drewN | apply Kd.R_drew)); exact Kd.R_mono HO471.out (fun _ hk => ⟨hk.1, hk.2.1⟩)⟩, ⟨by (with_reducible repeat (first | apply Kd.R_alloc | apply Kd.R_drewN | apply Kd.R_drew)); exact Kd.R_mono HO_23.out (fun _ hk => ⟨hk.2, hk.1.1⟩)⟩, ⟨bk_ BK458⟩, ⟨bl_⟩⟩
      ·rw [if_neg c13] at H
       have c13b0 : decide (x25_2 < (t463.length : Int)) = false := decide_eq_false c13
       clear c13
       have H' := aa_ H
       clear H
       go_wp2
       go_roundg k2
       case measure => have := HK1.out; have := HK2.out; omega
       case rel => exact ⟨(x5_2), (wrap64 (x6_1 + 1)), rf_, H', ⟨by have := HK1.out; have := HK2.out; omega⟩, ⟨by (with_reducible repeat (first | apply Kd.R_alloc | apply Kd.R_drewN | apply Kd.R_drew)); exact Kd.R_mono HO_5.out (fun _ hk => hk.2)⟩, ⟨bk_ BK458⟩, ⟨bl_⟩⟩
   ·rw [if_neg c7] at H
    have c7b0 : decide (x6_1 < (x5_1.length : Int)) = false := decide_eq_false c7
    clear c7
    obtain rfl := Option.some.inj H
    obtain ⟨Ao28, co28, eo28⟩ := Kd.R_slice HO_5.out
    subst eo28
    go_wp2
    go_ret
    exact ⟨_, eq_, by (with_reducible repeat (first | apply Kd.R_alloc | apply Kd.R_drewN | apply Kd.R_drew)); exact Kd.R_mono HO_5.out (fun _ hk => trivial), bl_⟩
def impl_NeededFor.l0 : Nat → List (S27) → List (S46) → List (S46) → Int → Int → Option ((List (S46)))
 | 0, _, _, _, _, _ => none
 | k + 1, x5, x6, x16, x17, x18 => if x18 < x17 then (if 0 ≤ x18 then (if x18 < (x16.length : Int) then ((impl_CredOk.f k ((rd_T46 x16 x18).f0) ((rd_T46 x16 x18).f1.f0) ((rd_T46 x16 x18).f1.f1) ((rd_T46 x16 x18).f2) ((rd_T46 x16 x18).f3.f0) ((rd_T46 x16 x18).f3.f1) ((rd_T46 x16 x18).f4.f0) ((rd_T46 x16 x18).f4.f1) ((rd_T46 x16 x18).f5) ((rd_T46 x16 x18).f6)).bind fun t487 => (if t487 = true then ((impl_Role_25.f k x5 ((rd_T46 x16 x18).f1.f0) ((rd_T46 x16 x18).f1.f1)).bind fun t488 => (if t488 = true then ((some (([(⟨(rd_T46 x16 x18).f0, (⟨(rd_T46 x16 x18).f1.f0, (rd_T46 x16 x18).f1.f1⟩ : S27), (rd_T46 x16 x18).f2, (⟨(rd_T46 x16 x18).f3.f0, (rd_T46 x16 x18).f3.f1⟩ : S27), (⟨(rd_T46 x16 x18).f4.f0, (rd_T46 x16 x18).f4.f1⟩ : S27), (rd_T46 x16 x18).f5, (rd_T46 x16 x18).f6⟩ : S46)] : List (S46)) : List (S46))).bind fun y489 => (if x6.length + y489.length < 1759218604441 then (impl_NeededFor.l0 k x5 (x6 ++ y489) x16 x17 (wrap64 (x18 + 1))) else (none))) else (impl_NeededFor.l0 k x5 x6 x16 x17 (wrap64 (x18 + 1))))) else (impl_NeededFor.l0 k x5 x6 x16 x17 (wrap64 (x18 + 1))))) else (none)) else (none)) else (some x6)
def impl_NeededFor.f (k : Nat) (l0 : List (S46)) (a1_0 : Int) (a1_1 : Int) : Option ((List (S46))) := (impl_ReachRoles.f k l0 a1_0 a1_1).bind fun t473 => ((some (([(⟨a1_0, a1_1⟩ : S27)] : List (S27)) : List (S27))).bind fun y476 => (if t473.length + y476.length < 8796093022208 then (impl_NeededFor.l0 k (t473 ++ y476) (([] : List (S46))) l0 (l0.length : Int) 0) else (none)))
set_option maxHeartbeats 8000000 in
set_option maxRecDepth 100000 in
theorem impl_NeededFor.calls (k : Nat) (A0 : Option Addr) (c0 : Nat) (l0 : List (S46)) (a1_0 : Int) (a1_1 : Int) (r : List (S46)) (w : World) (hr0 : Kd.C k46 w A0 l0.length l0) (hc0 : l0.length ≤ c0) (h : impl_NeededFor.f k l0 a1_0 a1_1 = some r) :
  Calls Try.prog 8 #[.slice A0 l0.length c0, .agg #[.int .i64 a1_0, .int .i64 a1_1]] w fun e w' => ∃ v0_ : Value, e = .returned (v0_) ∧ Kd.R k46 46 w' w.heap.size (fun _ => True) v0_ r ∧ Below w.heap.size w w' := by
 have hu27 := Try.underlying27
 have hu46 := Try.underlying46
 have HR0 := aa_ hr0
 have HC0 := aa_ hc0
 clear hr0 hc0
 have HB := aa_ (Below.refl w.heap.size w)
 have H : ((impl_ReachRoles.f k l0 a1_0 a1_1).bind fun t473 => ((some (([(⟨a1_0, a1_1⟩ : S27)] : List (S27)) : List (S27))).bind fun y476 => (if t473.length + y476.length < 8796093022208 then (impl_NeededFor.l0 k (t473 ++ y476) (([] : List (S46))) l0 (l0.length : Int) 0) else (none)))) = some r := h
 clear h
 obtain ⟨t473, A3, H⟩ := bindE_ H
 obtain ⟨y476, hy476⟩ : ∃ y_ : List (S27), y_ = (([(⟨a1_0, a1_1⟩ : S27)] : List (S27))) := ⟨_, rfl⟩
 replace H : (if t473.length + y476.length < 8796093022208 then (impl_NeededFor.l0 k (t473 ++ y476) (([] : List (S46))) l0 (l0.length : Int) 0) else (none)) = some r := rh_ hy476 H
 have Ny476 := aa_ hy476
 clear hy476
 obtain ⟨c4, H⟩ := ifn_ H
 have LMc4 := aa_ c4
 clear c4
 obtain ⟨y479, hy479⟩ : ∃ y_ : List (S27), y_ = (t473 ++ y476) := ⟨_, rfl⟩
 replace H : (impl_NeededFor.l0 k y479 (([] : List (S46))) l0 (l0.length : Int) 0) = some r := rh_ hy479 H
 have Ny479 := aa_ hy479
 clear hy479
 obtain ⟨y482, hy482⟩ : ∃ y_ : List (S46), y_ = (([] : List (S46))) := ⟨_, rfl⟩
 replace H : (impl_NeededFor.l0 k y479 y482 l0 (l0.length : Int) 0) = some r := rh_ hy482 H
 have Ny482 := aa_ hy482
 clear hy482
 have H' := aa_ H
 clear H
 go_enter Try.func8, Try.ntmps8
 try go_wp2_with (first | ((with_reducible refine gD_ 3 rfl ?_); refine bx_ (N := 3) (cs := #[.int .i64 a1_0, .int .i64 a1_1]) (t := 27) ?_; intro gb472 hg w5 hbox hb; have BK472 := aa_ (hbox); have GW472 := gs_ hg; have GE472 := gs_ hg; replace HB := hbs_ hb; clear hb hbox hg))
 replace BK472 := aa_ (blk_drew BK472.out)
 replace HB := aa_ (below_drew1 HB.out)
 refine start_ (n := 7) (S := fun w' => w'.cell? ⟨gb472, 0, none⟩ = some (.int .i64 a1_0) ∧ w'.cell? ⟨gb472, 1, none⟩ = some (.int .i64 a1_1)) (ds := []) #[false, false, false, false, false, false, false] (by kernel_rfl) rfl rfl ⟨(blk_cell BK472.out 0).trans rfl, (blk_cell BK472.out 1).trans rfl⟩ (fun hHeld => ?_)
 generalize w5.drew = w6 at BK472 HB hHeld ⊢
 refine pure_ (i := 0) (N := some 9) (v := ?_) (a' := ?_) #[true, false, false, false, false, false, false] rfl rfl (by kernel_rfl) (fun _ _ _ h => h) (Or.inl ⟨by rfl, ?_⟩) ?_ ?_
 rotate_left
 ·intro w'
  go_simp
  with_reducible rfl
 rotate_left
 ·simp only [Act.put, List.setIfInBounds_toArray, List.set_cons_zero, List.set_cons_succ, i64_w, i32_w]
  rfl
 refine take_ (i := 1) (N := some 10) (v := ?_) (a' := ?_) #[true, true, false, false, false, false, false] rfl rfl (by kernel_rfl) (fun _ _ _ h => h) (Or.inl ⟨by rfl, ?_⟩) hHeld ?_ ?_
 rotate_left
 ·rintro w' ⟨s0, s1⟩
  go_simp
  with_reducible rfl
 rotate_left
 ·simp only [Act.put, List.setIfInBounds_toArray, List.set_cons_zero, List.set_cons_succ, i64_w, i32_w]
  rfl
 refine take_ (i := 3) (N := some 12) (v := ?_) (a' := ?_) #[true, true, false, true, false, false, false] rfl rfl (by kernel_rfl) (fun _ _ _ h => h) (Or.inl ⟨by rfl, ?_⟩) hHeld ?_ ?_
 rotate_left
 ·rintro w' ⟨s0, s1⟩
  go_simp
  with_reducible rfl
 rotate_left
 ·simp only [Act.put, List.setIfInBounds_toArray, List.set_cons_zero, List.set_cons_succ, i64_w, i32_w]
  rfl
 refine join_ (σ := Value × Value) 2 #[true, true, true, true, true, false, false] (fun s_ => [(11, s_.1), (13, s_.2)]) (fun s_ w' => (w'.cell? ⟨gb472, 0, none⟩ = some (.int .i64 a1_0) ∧ w'.cell? ⟨gb472, 1, none⟩ = some (.int .i64 a1_1)) ∧ (Kd.R k27 27 w' w.heap.size (fun k_ => some k_ ≠ (s_.2 : Value).ownBlock ∧ k_ ≠ gb472) s_.1 t473) ∧ (Kd.R k27 27 w' w.heap.size (fun k_ => some k_ ≠ (s_.1 : Value).ownBlock ∧ k_ ≠ gb472) s_.2 y476) ∧ (w'.heap[gb472]? = some (.cells #[.int .i64 a1_0, .int .i64 a1_1] 27 (0, 0))) ∧ (Below w.heap.size w w')) ?_ ?_
 rotate_left
 ·intro hCont
  refine two_ (i := 2) (j := 4) (Ni := some 11) (Nj := some 13) #[true, true, true, true, false, false, false] #[true, true, false, true, true, false, false] rfl rfl rfl rfl (by kernel_rfl) (by decide) (by decide) (fun K hK => ?_) (fun K hK => ?_)
  ·skip
   refine goes_ Try.func11 (by kernel_rfl) rfl #[.slice A0 l0.length c0, .agg #[.int .i64 a1_0, .int .i64 a1_1]] (by rfl) rfl rfl (by (try simp only [List.map_toArray, List.map_cons, List.map_nil]); first | done | rfl | (simp only [List.length_drop, List.length_take]; rfl)) ?_
   with_reducible refine (impl_ReachRoles.calls k _ _ l0 a1_0 a1_1 t473 _ ?side1 ?side2 A3.out).mono ?_
   (case side1 => repeat (first | exact (Kd.C_below HR0.out HB.out) | (with_reducible refine Kd.C_alloc ?_ _) | (with_reducible refine Kd.C_drewN ?_ _) | (with_reducible refine Kd.C_drew ?_)))
   (case side2 => exact HC0.out)
   rintro e w7 ⟨v474, rfl, ho0, hb⟩
   refine ⟨_, rfl, ?_⟩
   have HO475 := aa_ (Kd.R_lower (Kd.R_newB ho0 (g := gb472) (o := .cells #[.int .i64 a1_0, .int .i64 a1_1] 27 (0, 0)) (bk_ BK472)) bls_)
   replace BK472 := bkb_ BK472 hb
   replace HB := hbs_ hb
   (try clear hb)
   (try clear hb2)
   (try clear hk)
   (try clear hi)
   (try clear ho0)
   refine hK.out _ _ ⟨(blk_cell BK472.out 0).trans rfl, (blk_cell BK472.out 1).trans rfl⟩ (fun hHeld => ?_)
   clear hK K
   refine norm_ (a' := ?_) ?_ ?_
   rotate_left
   ·show Act.put _ (some 11) _ = _
    simp only [Act.put, List.setIfInBounds_toArray, List.set_cons_zero, List.set_cons_succ, i64_w, i32_w]
    rfl
   refine one_ (i := 4) (N := some 13) #[true, true, true, true, true, false, false] rfl rfl (by kernel_rfl) (by decide) (fun K hK => ?_)
   refine Kd.R_lit_step k27 _ 27 ?hg (N := 13) ?hd (xs := ([(⟨a1_0, a1_1⟩ : S27)] : List (S27))) (inner := [.int .i64 a1_0, .int .i64 a1_1]) (ok := fun _ => True) (okp := fun _ => True) ?hr ?hp (fun _ hk => hk) trivial (Below.refl _ _) (Nat.le_refl _) (by simp) ?_; (case hd => rfl); (case hg => rfl); (case hr => first | (go_simp; done) | (go_simp; rfl)); (case hp => exact (Reps.c2 (show Kd.M k27 _ _ _ (⟨a1_0, a1_1⟩ : S27) [.int .i64 a1_0, .int .i64 a1_1] from (k27_mkM _ _ _ (⟨a1_0, a1_1⟩ : S27) )) (Reps.none _ _)))
   intro v477 w8 ho9 hb hg_ hnew_
   clear hg_ hnew_
   (first | rw [← Ny476.out] at ho9 | (simp only [Int.reduceToNat] at ho9; rw [← Ny476.out] at ho9))
   have HO478 := aa_ (Kd.R_lower (Kd.R_newB (Kd.R_new' ho9 (Kd.R_lt (rr_ HO475))) (g := gb472) (o := .cells #[.int .i64 a1_0, .int .i64 a1_1] 27 (0, 0)) (bk_ BK472)) bls_)
   replace HO475 := aa_ (Kd.R_elder' (rr_ HO475) (Kd.R_base ho9) hb)
   replace BK472 := bkb_ BK472 hb
   replace HB := hbs_ hb
   clear hb ho9
   refine hK.out _ _ ⟨(blk_cell BK472.out 0).trans rfl, (blk_cell BK472.out 1).trans rfl⟩ (fun hHeld => ?_)
   clear hK K
   refine norm_ (a' := ?_) ?_ ?_
   rotate_left
   ·show Act.put _ (some 13) _ = _
    simp only [Act.put, List.setIfInBounds_toArray, List.set_cons_zero, List.set_cons_succ, i64_w, i32_w]
    rfl
   exact norm_ (by simp only [putAll, Act.put, List.setIfInBounds_toArray, List.set_cons_zero, List.set_cons_succ]) (hCont (v474, v477) _ ⟨hHeld, (by (with_reducible repeat (first | apply Kd.R_alloc | apply Kd.R_drewN | apply Kd.R_drew)); exact Kd.R_mono HO475.out (fun _ hk => ⟨hk.2, hk.1.2⟩)), (by (with_reducible repeat (first | apply Kd.R_alloc | apply Kd.R_drewN | apply Kd.R_drew)); exact Kd.R_mono HO478.out (fun _ hk => ⟨hk.1.2, hk.2⟩)), (bk_ BK472), bl_⟩)
  ·skip
   refine Kd.R_lit_step k27 _ 27 ?hg (N := 13) ?hd (xs := ([(⟨a1_0, a1_1⟩ : S27)] : List (S27))) (inner := [.int .i64 a1_0, .int .i64 a1_1]) (ok := fun _ => True) (okp := fun _ => True) ?hr ?hp (fun _ hk => hk) trivial (Below.refl _ _) (Nat.le_refl _) (by simp) ?_; (case hd => rfl); (case hg => rfl); (case hr => first | (go_simp; done) | (go_simp; rfl)); (case hp => exact (Reps.c2 (show Kd.M k27 _ _ _ (⟨a1_0, a1_1⟩ : S27) [.int .i64 a1_0, .int .i64 a1_1] from (k27_mkM _ _ _ (⟨a1_0, a1_1⟩ : S27) )) (Reps.none _ _)))
   intro v477 w7 ho8 hb hg_ hnew_
   clear hg_ hnew_
   (first | rw [← Ny476.out] at ho8 | (simp only [Int.reduceToNat] at ho8; rw [← Ny476.out] at ho8))
   have HO478 := aa_ (Kd.R_lower (Kd.R_newB ho8 (g := gb472) (o := .cells #[.int .i64 a1_0, .int .i64 a1_1] 27 (0, 0)) (bk_ BK472)) bls_)
   replace BK472 := bkb_ BK472 hb
   replace HB := hbs_ hb
   clear hb ho8
   refine hK.out _ _ ⟨(blk_cell BK472.out 0).trans rfl, (blk_cell BK472.out 1).trans rfl⟩ (fun hHeld => ?_)
   clear hK K
   refine norm_ (a' := ?_) ?_ ?_
   rotate_left
   ·show Act.put _ (some 13) _ = _
    simp only [Act.put, List.setIfInBounds_toArray, List.set_cons_zero, List.set_cons_succ, i64_w, i32_w]
    rfl
   refine one_ (i := 2) (N := some 11) #[true, true, true, true, true, false, false] rfl rfl (by kernel_rfl) (by decide) (fun K hK => ?_)
   refine goes_ Try.func11 (by kernel_rfl) rfl #[.slice A0 l0.length c0, .agg #[.int .i64 a1_0, .int .i64 a1_1]] (by rfl) rfl rfl (by (try simp only [List.map_toArray, List.map_cons, List.map_nil]); first | done | rfl | (simp only [List.length_drop, List.length_take]; rfl)) ?_
   with_reducible refine (impl_ReachRoles.calls k _ _ l0 a1_0 a1_1 t473 _ ?side1 ?side2 A3.out).mono ?_
   (case side1 => repeat (first | exact (Kd.C_below HR0.out HB.out) | (with_reducible refine Kd.C_alloc ?_ _) | (with_reducible refine Kd.C_drewN ?_ _) | (with_reducible refine Kd.C_drew ?_)))
   (case side2 => exact HC0.out)
   rintro e w9 ⟨v474, rfl, ho0, hb⟩
   refine ⟨_, rfl, ?_⟩
   have HO475 := aa_ (Kd.R_lower (Kd.R_newB (Kd.R_new' ho0 (Kd.R_lt (rr_ HO478))) (g := gb472) (o := .cells #[.int .i64 a1_0, .int .i64 a1_1] 27 (0, 0)) (bk_ BK472)) bls_)
   replace HO478 := aa_ (Kd.R_elder' (rr_ HO478) (Kd.R_base ho0) hb)
   replace BK472 := bkb_ BK472 hb
   replace HB := hbs_ hb
   (try clear hb)
   (try clear hb2)
   (try clear hk)
   (try clear hi)
   (try clear ho0)
   refine hK.out _ _ ⟨(blk_cell BK472.out 0).trans rfl, (blk_cell BK472.out 1).trans rfl⟩ (fun hHeld => ?_)
   clear hK K
   refine norm_ (a' := ?_) ?_ ?_
   rotate_left
   ·show Act.put _ (some 11) _ = _
    simp only [Act.put, List.setIfInBounds_toArray, List.set_cons_zero, List.set_cons_succ, i64_w, i32_w]
    rfl
   exact norm_ (by simp only [putAll, Act.put, List.setIfInBounds_toArray, List.set_cons_zero, List.set_cons_succ]) (hCont (v474, v477) _ ⟨hHeld, (by (with_reducible repeat (first | apply Kd.R_alloc | apply Kd.R_drewN | apply Kd.R_drew)); exact Kd.R_mono HO475.out (fun _ hk => ⟨hk.1.2, hk.2⟩)), (by (with_reducible repeat (first | apply Kd.R_alloc | apply Kd.R_drewN | apply Kd.R_drew)); exact Kd.R_mono HO478.out (fun _ hk => ⟨hk.2, hk.1.2⟩)), (bk_ BK472), bl_⟩)
 rintro ⟨v474, v477⟩ w10 ⟨hS_, h0_, h1_, h2_, h3_⟩
 have n0_ : Aside0 (Kd.R k27 27 w10 w.heap.size (fun k_ => some k_ ≠ (v477 : Value).ownBlock ∧ k_ ≠ gb472) v474 t473) := ⟨h0_⟩
 have n1_ : Aside0 (Kd.R k27 27 w10 w.heap.size (fun k_ => some k_ ≠ (v474 : Value).ownBlock ∧ k_ ≠ gb472) v477 y476) := ⟨h1_⟩
 have n2_ : Aside0 (w10.heap[gb472]? = some (.cells #[.int .i64 a1_0, .int .i64 a1_1] 27 (0, 0))) := ⟨h2_⟩
 have n3_ : Aside0 (Below w.heap.size w w10) := ⟨h3_⟩
 clear BK472
 clear HB
 clear h0_ h1_ h2_ h3_
 have HO475 := n0_
 have HO478 := n1_
 have BK472 := n2_
 have HB := n3_
 clear n0_ n1_ n2_ n3_
 have hHeld : w10.cell? ⟨gb472, 0, none⟩ = some (.int .i64 a1_0) ∧ w10.cell? ⟨gb472, 1, none⟩ = some (.int .i64 a1_1) := hS_
 obtain ⟨Ao12, co12, eo12⟩ := Kd.R_slice HO478.out
 (first | subst eo12 | (injection eo12 with f1_ f2_ f3_; have f4_ := f1_.symm; have f5_ := f3_.symm; clear f1_ f2_ f3_; subst f4_; subst f5_))
 refine norm_ (a' := ?_) ?_ ?_
 rotate_left
 ·simp only [putAll, Act.put, List.setIfInBounds_toArray, List.set_cons_zero, List.set_cons_succ]
  rfl
 refine one_ (i := 5) (N := some 14) #[true, true, true, true, true, true, false] rfl rfl (by kernel_rfl) (by decide) (fun K hK => ?_)
 refine Kd.R_append_rows_step k27 (w0 := w) w.heap.size (by rfl) (.tmp 11) (.tmp 13) 37 27 (.agg #[(.int .i64 0), (.int .i64 0)]) 16 rfl Try.underlying37 info27 rfl (by decide) (by omega) v474 t473 y476 _ _ _ (fun k_ => some k_ ≠ (.slice Ao12 y476.length co12 : Value).ownBlock ∧ k_ ≠ gb472) (fun _ => False) rfl rfl ?aO ?aR (fun _ _ h => h) (fun _ h => h.elim) ?aF ?aB ?aS ?aL ?_
 (case aR => repeat (first | exact (Kd.R_reads' HO478.out).2.2 | (with_reducible refine Kd.C_alloc ?_ _) | (with_reducible refine Kd.C_drewN ?_ _) | (with_reducible refine Kd.C_drew ?_)))
 (case aB => exact bl_)
 (case aF => exact (fun k_ hk => ⟨Kd.fresh' (Kd.R_lt (rr_ HO478)) k_ hk, Kd.freshB (g := gb472) (o := .cells #[.int .i64 a1_0, .int .i64 a1_1] 27 (0, 0)) (bk_ BK472) k_ hk⟩))
 (case aO => exact (rr_ HO475))
 (case aS => exact bls_)
 (case aL => have := LMc4.out; omega)
 intro v480 w11 ho hb hg hat
 rw [← Ny479.out] at ho
 replace BK472 := aa_ (blk_grown (g := gb472) (o := .cells #[.int .i64 a1_0, .int .i64 a1_1] 27 (0, 0)) (bk_ BK472) hg (Kd.R_away HO475.out (fun _ hk => hk.2)))
 replace HO478 := aa_ (Kd.R_after (ok := (fun k_ => k_ ≠ gb472)) (by (with_reducible repeat (first | apply Kd.R_alloc | apply Kd.R_drewN | apply Kd.R_drew)); exact Kd.R_mono HO478.out (fun _ hk => ⟨hk.2, hk.1⟩)) hg hat)
 replace HB := aa_ (hb)
 have HO481 := aa_ (ho)
 clear HO475
 clear ho hb hg hat
 refine hK.out _ _ ⟨(blk_cell BK472.out 0).trans rfl, (blk_cell BK472.out 1).trans rfl⟩ (fun hHeld => ?_)
 clear hK K
 refine norm_ (a' := ?_) ?_ ?_
 rotate_left
 ·show Act.put _ (some 14) _ = _
  simp only [Act.put, List.setIfInBounds_toArray, List.set_cons_zero, List.set_cons_succ, i64_w, i32_w]
  rfl
 refine pure_ (i := 6) (N := some 5) (v := ?_) (a' := ?_) #[true, true, true, true, true, true, true] rfl rfl (by kernel_rfl) (fun _ _ _ h => h) (Or.inl ⟨by rfl, ?_⟩) ?_ ?_
 rotate_left
 ·intro w'
  go_simp
  with_reducible rfl
 rotate_left
 ·simp only [Act.put, List.setIfInBounds_toArray, List.set_cons_zero, List.set_cons_succ, i64_w, i32_w]
  rfl
 refine done_ (by kernel_rfl) ?_
 try go_wp2_with (first | ((with_reducible refine gD_ 15 rfl ?_); refine Kd.R_lit k46 _ 46 ?hg (N := 15) ?hd (xs := ([] : List (S46))) (inner := []) (ok := fun _ => True) (okp := fun _ => True) ?hr ?hp (fun _ hk => hk) trivial (Below.refl _ _) (Nat.le_refl _) (by simp) ?_; (case hd => rfl); (case hg => rfl); (case hr => first | (go_simp; done) | (go_simp; rfl)); (case hp => exact (Reps.none _ _)); intro v483 w13 ho14 hb hg_ hnew_; clear hg_ hnew_; (first | rw [← Ny482.out] at ho14 | (simp only [Int.reduceToNat] at ho14; rw [← Ny482.out] at ho14)); replace HO478 := hob_ HO478 hb; replace HO481 := hob_ HO481 hb; have HO484 := aa_ (Kd.R_lower ho14 bls_); replace BK472 := bkb_ BK472 hb; replace HB := hbs_ hb; clear hb ho14))
 go_loopg [6, 18] k (fun kq v6 v18 w' => ∃ (x6_1 : List (S46)) (x18_1 : Int), v18 = .int .i64 x18_1 ∧ Aside0 (impl_NeededFor.l0 kq y479 x6_1 l0 (l0.length : Int) x18_1 = some r) ∧ Aside0 (kq ≤ k) ∧ Aside0 (Kd.R k27 27 w' w.heap.size (fun k_ => k_ ≠ gb472) v480 y479) ∧ Aside0 (Kd.R k46 46 w' w.heap.size (fun _ => True) v6 x6_1) ∧ Aside0 (w'.heap[gb472]? = some (.cells #[.int .i64 a1_0, .int .i64 a1_1] 27 (0, 0))) ∧ Aside0 (Below w.heap.size w w'))
 case atStart => exact ⟨(y482), (0), rf_, H', ⟨Nat.le_refl _⟩, ⟨by (with_reducible repeat (first | apply Kd.R_alloc | apply Kd.R_drewN | apply Kd.R_drew)); exact Kd.R_mono HO481.out (fun _ hk => hk.2)⟩, ⟨rr_ HO484⟩, ⟨bk_ BK472⟩, ⟨bl_⟩⟩
 case round =>
  clear H'
  try clear c1
  try clear c2
  try clear p2
  try clear c4
  try clear c8
  try clear c11
  obtain ⟨x6_1, x18_1, rfl, HA, HK1, HO_5, HO_6, BK472, HB⟩ := hrel
  cases gk with
  | zero => exact absurd HA.out (by simp [impl_NeededFor.l0])
  | succ k1 =>
   have H := HA.out
   clear HA
   simp only [impl_NeededFor.l0] at H
   by_cases c15 : x18_1 < (l0.length : Int)
   ·rw [if_pos c15] at H
    have c15b0 : decide (x18_1 < (l0.length : Int)) = true := decide_eq_true c15
    clear c15
    obtain ⟨c16b0, H⟩ := ifd_ H
    obtain ⟨c17b0, H⟩ := ifd_ H
    obtain ⟨t487, A18, H⟩ := bindE_ H
    by_cases c19 : t487 = true
    ·subst c19
     replace H := ite_t_ H
     obtain ⟨t488, A20, H⟩ := bindE_ H
     have HC21 := aa_ H
     clear H
     have p485 : 0 ≤ (x18_1 : Int) := od_
     have q485 : x18_1 < (l0.length : Int) := od_
     obtain ⟨ad485, e485, hx485_0, hx485_1, hx485_2, hx485_3, hx485_4, hx485_5, hx485_6, hx485_7, hx485_8, hx485_9⟩ := at_T46 (Kd.C_below HR0.out HB.out) x18_1 p485 q485
     cases e485
     replace p485 := eq_true p485
     replace q485 := eq_true q485
     go_upto_if 29 with (first | ((with_reducible refine gD_ 8 rfl ?_); refine bx_ (N := 8) (cs := #[.int .i64 0, .int .i64 0, .int .i64 0, .int .i64 0, .int .i64 0, .int .i64 0, .int .i64 0, .int .i64 0, .int .i64 0, .int .i64 0]) (t := 46) ?_; intro gb486 hg w22 hbox hb; replace HO_5 := hob_ HO_5 hb; replace HO_6 := aa_ (Kd.R_below (Kd.R_elderB (rr_ HO_6) gb486 (Nat.le_of_eq hg.symm)) hb); have BK486 := aa_ (hbox); have GW486 := gs_ hg; have GE486 := gs_ hg; replace HB := hbs_ hb; have NB472_486 := nl_ hg BK472; have NB486_472 := nr_ hg BK472; replace BK472 := bkb_ BK472 hb; clear hb hbox hg; have hnb23 := NB486_472.out; have hnc23 := NB472_486.out; obtain ⟨hcz24, hfz24⟩ := bcf_ BK486) | ((with_reducible refine gC_ 24 rfl ?_); refine goesC_ (some 23) Try.func24 #[.agg #[.int .i64 ((rd_T46 l0 x18_1).f0), .int .i64 ((rd_T46 l0 x18_1).f1.f0), .int .i64 ((rd_T46 l0 x18_1).f1.f1), .int .i64 ((rd_T46 l0 x18_1).f2), .int .i64 ((rd_T46 l0 x18_1).f3.f0), .int .i64 ((rd_T46 l0 x18_1).f3.f1), .int .i64 ((rd_T46 l0 x18_1).f4.f0), .int .i64 ((rd_T46 l0 x18_1).f4.f1), .int .i64 ((rd_T46 l0 x18_1).f5), .int .i64 ((rd_T46 l0 x18_1).f6)]] ?_; (with_reducible refine (impl_CredOk.calls k1 ((rd_T46 l0 x18_1).f0) ((rd_T46 l0 x18_1).f1.f0) ((rd_T46 l0 x18_1).f1.f1) ((rd_T46 l0 x18_1).f2) ((rd_T46 l0 x18_1).f3.f0) ((rd_T46 l0 x18_1).f3.f1) ((rd_T46 l0 x18_1).f4.f0) ((rd_T46 l0 x18_1).f4.f1) ((rd_T46 l0 x18_1).f5) ((rd_T46 l0 x18_1).f6) true _ A18.out).mono ?_); rintro e w25 ⟨rfl, hb⟩; refine ⟨_, rfl, ?_⟩; replace HO_5 := aa_ (Kd.R_below (by (with_reducible repeat (first | apply Kd.R_alloc | apply Kd.R_drewN | apply Kd.R_drew)); exact (Kd.R_mono (fr10_ (Kd.R_types HO_5.out BK486.out (by decide)) (fun _ hk => hk.2)) (fun _ h_ => h_.1))) hb); replace HO_6 := aa_ (Kd.R_below (by (with_reducible repeat (first | apply Kd.R_alloc | apply Kd.R_drewN | apply Kd.R_drew)); exact (Kd.R_mono (fr10_ (Kd.R_mono HO_6.out (fun k_ hk => (⟨hk, hk.2⟩ : _ ∧ k_ ≠ gb486))) (fun _ hk => hk.2)) (fun _ h_ => h_.1))) hb); replace BK472 := aa_ (blk_below (g := gb472) (o := .cells #[.int .i64 a1_0, .int .i64 a1_1] 27 (0, 0)) (bk_ BK472) hb); replace BK486 := aa_ (blk_below (g := gb486) (o := .cells #[.int .i64 ((rd_T46 l0 x18_1).f0), .int .i64 ((rd_T46 l0 x18_1).f1.f0), .int .i64 ((rd_T46 l0 x18_1).f1.f1), .int .i64 ((rd_T46 l0 x18_1).f2), .int .i64 ((rd_T46 l0 x18_1).f3.f0), .int .i64 ((rd_T46 l0 x18_1).f3.f1), .int .i64 ((rd_T46 l0 x18_1).f4.f0), .int .i64 ((rd_T46 l0 x18_1).f4.f1), .int .i64 ((rd_T46 l0 x18_1).f5), .int .i64 ((rd_T46 l0 x18_1).f6)] 46 (0, 0)) (bk_ BK486) hb); replace HB := hbs_ hb; clear hb; obtain ⟨hcz26, hfz26⟩ := bcf_ BK486; obtain ⟨Ao27, co27, eo27⟩ := Kd.R_slice HO_5.out; subst eo27) | (go_at_call 25; (with_reducible refine (impl_Role_25.calls k1 _ _ y479 ((rd_T46 l0 x18_1).f1.f0) ((rd_T46 l0 x18_1).f1.f1) t488 _ ?side1 ?side2 A20.out).mono ?_); (case side1 => repeat (first | exact (Kd.R_reads' HO_5.out).2.2 | (with_reducible refine Kd.C_alloc ?_ _) | (with_reducible refine Kd.C_drewN ?_ _) | (with_reducible refine Kd.C_drew ?_))); (case side2 => exact (Kd.R_reads' HO_5.out).2.1); rintro e w28 ⟨rfl, hb⟩; replace HO_5 := hob_ HO_5 hb; replace HO_6 := hob_ HO_6 hb; replace BK472 := bkb_ BK472 hb; replace BK486 := bkb_ BK486 hb; replace HB := hbs_ hb; clear hb))
     (try simp only [Act.put, List.setIfInBounds_toArray, List.set_cons_zero, List.set_cons_succ])
     have H := HC21.out
     clear HC21
     by_cases c29 : t488 = true
     ·subst c29
      replace H := ite_t_ H
      obtain ⟨y489, hy489⟩ : ∃ y_ : List (S46), y_ = (([(⟨(rd_T46 l0 x18_1).f0, (⟨(rd_T46 l0 x18_1).f1.f0, (rd_T46 l0 x18_1).f1.f1⟩ : S27), (rd_T46 l0 x18_1).f2, (⟨(rd_T46 l0 x18_1).f3.f0, (rd_T46 l0 x18_1).f3.f1⟩ : S27), (⟨(rd_T46 l0 x18_1).f4.f0, (rd_T46 l0 x18_1).f4.f1⟩ : S27), (rd_T46 l0 x18_1).f5, (rd_T46 l0 x18_1).f6⟩ : S46)] : List (S46))) := ⟨_, rfl⟩
      replace H : (if x6_1.length + y489.length < 1759218604441 then (impl_NeededFor.l0 k1 y479 (x6_1 ++ y489) l0 (l0.length : Int) (wrap64 (x18_1 + 1))) else (none)) = some r := rh_ hy489 H
      have Ny489 := aa_ hy489
      clear hy489
      obtain ⟨c30, H⟩ := ifn_ H
      have LMc30 := aa_ c30
      clear c30
      obtain ⟨y492, hy492⟩ : ∃ y_ : List (S46), y_ = (x6_1 ++ y489) := ⟨_, rfl⟩
      replace H : (impl_NeededFor.l0 k1 y479 y492 l0 (l0.length : Int) (wrap64 (x18_1 + 1))) = some r := rh_ hy492 H
      have Ny492 := aa_ hy492
      clear hy492
      have H' := aa_ H
      clear H
      have hnb31 := NB486_472.out
      have hnc31 := NB472_486.out
      have hcz32 := blk_cell BK486.out
      have hfz32 := blk_frozen BK486.out
      go_wp2_with (first | ((with_reducible refine gD_ 32 rfl ?_); refine Kd.R_lit k46 _ 46 ?hg (N := 32) ?hd (xs := ([(⟨(rd_T46 l0 x18_1).f0, (⟨(rd_T46 l0 x18_1).f1.f0, (rd_T46 l0 x18_1).f1.f1⟩ : S27), (rd_T46 l0 x18_1).f2, (⟨(rd_T46 l0 x18_1).f3.f0, (rd_T46 l0 x18_1).f3.f1⟩ : S27), (⟨(rd_T46 l0 x18_1).f4.f0, (rd_T46 l0 x18_1).f4.f1⟩ : S27), (rd_T46 l0 x18_1).f5, (rd_T46 l0 x18_1).f6⟩ : S46)] : List (S46))) (inner := [.int .i64 ((rd_T46 l0 x18_1).f0), .int .i64 ((rd_T46 l0 x18_1).f1.f0), .int .i64 ((rd_T46 l0 x18_1).f1.f1), .int .i64 ((rd_T46 l0 x18_1).f2), .int .i64 ((rd_T46 l0 x18_1).f3.f0), .int .i64 ((rd_T46 l0 x18_1).f3.f1), .int .i64 ((rd_T46 l0 x18_1).f4.f0), .int .i64 ((rd_T46 l0 x18_1).f4.f1), .int .i64 ((rd_T46 l0 x18_1).f5), .int .i64 ((rd_T46 l0 x18_1).f6)]) (ok := fun _ => True) (okp := fun _ => True) ?hr ?hp (fun _ hk => hk) trivial (Below.refl _ _) (Nat.le_refl _) (by simp) ?_; (case hd => rfl); (case hg => rfl); (case hr => first | (go_simp; done) | (go_simp; rfl)); (case hp => exact (Reps.c10 (show Kd.M k46 _ _ _ (⟨(rd_T46 l0 x18_1).f0, (⟨(rd_T46 l0 x18_1).f1.f0, (rd_T46 l0 x18_1).f1.f1⟩ : S27), (rd_T46 l0 x18_1).f2, (⟨(rd_T46 l0 x18_1).f3.f0, (rd_T46 l0 x18_1).f3.f1⟩ : S27), (⟨(rd_T46 l0 x18_1).f4.f0, (rd_T46 l0 x18_1).f4.f1⟩ : S27), (rd_T46 l0 x18_1).f5, (rd_T46 l0 x18_1).f6⟩ : S46) [.int .i64 ((rd_T46 l0 x18_1).f0), .int .i64 ((rd_T46 l0 x18_1).f1.f0), .int .i64 ((rd_T46 l0 x18_1).f1.f1), .int .i64 ((rd_T46 l0 x18_1).f2), .int .i64 ((rd_T46 l0 x18_1).f3.f0), .int .i64 ((rd_T46 l0 x18_1).f3.f1), .int .i64 ((rd_T46 l0 x18_1).f4.f0), .int .i64 ((rd_T46 l0 x18_1).f4.f1), .int .i64 ((rd_T46 l0 x18_1).f5), .int .i64 ((rd_T46 l0 x18_1).f6)] from (k46_mkM _ _ _ (⟨(rd_T46 l0 x18_1).f0, (⟨(rd_T46 l0 x18_1).f1.f0, (rd_T46 l0 x18_1).f1.f1⟩ : S27), (rd_T46 l0 x18_1).f2, (⟨(rd_T46 l0 x18_1).f3.f0, (rd_T46 l0 x18_1).f3.f1⟩ : S27), (⟨(rd_T46 l0 x18_1).f4.f0, (rd_T46 l0 x18_1).f4.f1⟩ : S27), (rd_T46 l0 x18_1).f5, (rd_T46 l0 x18_1).f6⟩ : S46) )) (Reps.none _ _))); intro v490 w33 ho34 hb hg_ hnew_; clear hg_ hnew_; (first | rw [← Ny489.out] at ho34 | (simp only [Int.reduceToNat] at ho34; rw [← Ny489.out] at ho34)); replace HO_5 := hob_ HO_5 hb; have HO491 := aa_ (Kd.R_lower (Kd.R_newB (Kd.R_new' ho34 (Kd.R_lt (rr_ HO_6))) (g := gb486) (o := .cells #[.int .i64 ((rd_T46 l0 x18_1).f0), .int .i64 ((rd_T46 l0 x18_1).f1.f0), .int .i64 ((rd_T46 l0 x18_1).f1.f1), .int .i64 ((rd_T46 l0 x18_1).f2), .int .i64 ((rd_T46 l0 x18_1).f3.f0), .int .i64 ((rd_T46 l0 x18_1).f3.f1), .int .i64 ((rd_T46 l0 x18_1).f4.f0), .int .i64 ((rd_T46 l0 x18_1).f4.f1), .int .i64 ((rd_T46 l0 x18_1).f5), .int .i64 ((rd_T46 l0 x18_1).f6)] 46 (0, 0)) (bk_ BK486)) bls_); replace HO_6 := aa_ (Kd.R_elder' (rr_ HO_6) (Kd.R_base ho34) hb); replace BK472 := bkb_ BK472 hb; replace BK486 := bkb_ BK486 hb; replace HB := hbs_ hb; clear hb ho34; obtain ⟨Ao36, co36, eo36⟩ := Kd.R_slice HO491.out; subst eo36) | ((with_reducible refine gate_builtin (b := .append) (xs := #[.tmp 30, .tmp 32]) rfl ?_); at_builtin; refine Kd.R_append_rows k46 (w0 := w) w.heap.size rfl (.tmp 30) (.tmp 32) 24 46 (.agg #[(.int .i64 0), (.int .i64 0), (.int .i64 0), (.int .i64 0), (.int .i64 0), (.int .i64 0), (.int .i64 0), (.int .i64 0), (.int .i64 0), (.int .i64 0)]) 80 rfl Try.underlying24 info46 rfl (by decide) (by omega) u6 x6_1 y489 _ _ _ (fun k_ => some k_ ≠ (.slice Ao36 y489.length co36 : Value).ownBlock ∧ k_ ≠ gb486) (fun _ => False) rfl rfl ?aO ?aR (fun _ _ h => h) (fun _ h => h.elim) ?aF ?aB ?aS ?aL ?_; (case aR => repeat (first | exact (Kd.R_reads' HO491.out).2.2 | (with_reducible refine Kd.C_alloc ?_ _) | (with_reducible refine Kd.C_drewN ?_ _) | (with_reducible refine Kd.C_drew ?_))); (case aB => exact bl_); (case aF => exact (fun k_ hk => ⟨Kd.fresh' (Kd.R_lt (rr_ HO491)) k_ hk, Kd.freshB (g := gb486) (o := .cells #[.int .i64 ((rd_T46 l0 x18_1).f0), .int .i64 ((rd_T46 l0 x18_1).f1.f0), .int .i64 ((rd_T46 l0 x18_1).f1.f1), .int .i64 ((rd_T46 l0 x18_1).f2), .int .i64 ((rd_T46 l0 x18_1).f3.f0), .int .i64 ((rd_T46 l0 x18_1).f3.f1), .int .i64 ((rd_T46 l0 x18_1).f4.f0), .int .i64 ((rd_T46 l0 x18_1).f4.f1), .int .i64 ((rd_T46 l0 x18_1).f5), .int .i64 ((rd_T46 l0 x18_1).f6)] 46 (0, 0)) (bk_ BK486) k_ hk⟩)); (case aO => exact (by (with_reducible repeat (first | apply Kd.R_alloc | apply Kd.R_drewN | apply Kd.R_drew)); exact Kd.R_mono HO_6.out (fun _ hk => ⟨hk.2, hk.1.2⟩))); (case aS => exact bls_); (case aL => have := LMc30.out; omega); intro v493 w35 ho hb hg hat; rw [← Ny492.out] at ho; replace HO_5 := aa_ (Kd.R_over' (rr_ HO_5) (Kd.R_typed (rr_ HO_6)) (by decide) hg); replace BK472 := aa_ (blk_grown (g := gb472) (o := .cells #[.int .i64 a1_0, .int .i64 a1_1] 27 (0, 0)) (bk_ BK472) hg (Kd.R_ne HO_6.out BK472.out (by decide))); replace BK486 := aa_ (blk_grown (g := gb486) (o := .cells #[.int .i64 ((rd_T46 l0 x18_1).f0), .int .i64 ((rd_T46 l0 x18_1).f1.f0), .int .i64 ((rd_T46 l0 x18_1).f1.f1), .int .i64 ((rd_T46 l0 x18_1).f2), .int .i64 ((rd_T46 l0 x18_1).f3.f0), .int .i64 ((rd_T46 l0 x18_1).f3.f1), .int .i64 ((rd_T46 l0 x18_1).f4.f0), .int .i64 ((rd_T46 l0 x18_1).f4.f1), .int .i64 ((rd_T46 l0 x18_1).f5), .int .i64 ((rd_T46 l0 x18_1).f6)] 46 (0, 0)) (bk_ BK486) hg (Kd.R_away HO_6.out (fun _ hk => hk.1.2))); replace HO491 := aa_ (Kd.R_after (ok := (fun k_ => k_ ≠ gb486)) (by (with_reducible repeat (first | apply Kd.R_alloc | apply Kd.R_drewN | apply Kd.R_drew)); exact Kd.R_mono HO491.out (fun _ hk => ⟨hk.2, hk.1.2⟩)) hg hat); replace HB := aa_ (hb); have HO494 := aa_ (ho); clear HO_6; clear ho hb hg hat))
      go_roundg k1
      case measure => have := HK1.out; omega
      case rel => exact ⟨(y492), (wrap64 (x18_1 + 1)), rf_, H', ⟨by have := HK1.out; omega⟩, ⟨rr_ HO_5⟩, ⟨by (with_reducible repeat (first | apply Kd.R_alloc | apply Kd.R_drewN | apply Kd.R_drew)); exact Kd.R_mono HO494.out (fun _ hk => trivial)⟩, ⟨bk_ BK472⟩, ⟨bl_⟩⟩
     ·replace c29 := Bool.eq_false_iff.mpr c29
      subst c29
      replace H := ite_f_ H
      have H' := aa_ H
      clear H
      go_wp2
      go_roundg k1
      case measure => have := HK1.out; omega
      case rel => exact ⟨(x6_1), (wrap64 (x18_1 + 1)), rf_, H', ⟨by have := HK1.out; omega⟩, ⟨rr_ HO_5⟩, ⟨by (with_reducible repeat (first | apply Kd.R_alloc | apply Kd.R_drewN | apply Kd.R_drew)); exact Kd.R_mono HO_6.out (fun _ hk => trivial)⟩, ⟨bk_ BK472⟩, ⟨bl_⟩⟩
    ·replace c19 := Bool.eq_false_iff.mpr c19
     subst c19
     replace H := ite_f_ H
     have H' := aa_ H
     clear H
     have p485 : 0 ≤ (x18_1 : Int) := od_
     have q485 : x18_1 < (l0.length : Int) := od_
     obtain ⟨ad485, e485, hx485_0, hx485_1, hx485_2, hx485_3, hx485_4, hx485_5, hx485_6, hx485_7, hx485_8, hx485_9⟩ := at_T46 (Kd.C_below HR0.out HB.out) x18_1 p485 q485
     cases e485
     replace p485 := eq_true p485
     replace q485 := eq_true q485
     go_wp2_with (first | ((with_reducible refine gD_ 8 rfl ?_); refine bx_ (N := 8) (cs := #[.int .i64 0, .int .i64 0, .int .i64 0, .int .i64 0, .int .i64 0, .int .i64 0, .int .i64 0, .int .i64 0, .int .i64 0, .int .i64 0]) (t := 46) ?_; intro gb486 hg w37 hbox hb; replace HO_5 := hob_ HO_5 hb; replace HO_6 := aa_ (Kd.R_below (Kd.R_elderB (rr_ HO_6) gb486 (Nat.le_of_eq hg.symm)) hb); have BK486 := aa_ (hbox); have GW486 := gs_ hg; have GE486 := gs_ hg; replace HB := hbs_ hb; have NB472_486 := nl_ hg BK472; have NB486_472 := nr_ hg BK472; replace BK472 := bkb_ BK472 hb; clear hb hbox hg; have hnb38 := NB486_472.out; have hnc38 := NB472_486.out; obtain ⟨hcz39, hfz39⟩ := bcf_ BK486) | ((with_reducible refine gC_ 24 rfl ?_); refine goesC_ (some 23) Try.func24 #[.agg #[.int .i64 ((rd_T46 l0 x18_1).f0), .int .i64 ((rd_T46 l0 x18_1).f1.f0), .int .i64 ((rd_T46 l0 x18_1).f1.f1), .int .i64 ((rd_T46 l0 x18_1).f2), .int .i64 ((rd_T46 l0 x18_1).f3.f0), .int .i64 ((rd_T46 l0 x18_1).f3.f1), .int .i64 ((rd_T46 l0 x18_1).f4.f0), .int .i64 ((rd_T46 l0 x18_1).f4.f1), .int .i64 ((rd_T46 l0 x18_1).f5), .int .i64 ((rd_T46 l0 x18_1).f6)]] ?_; (with_reducible refine (impl_CredOk.calls k1 ((rd_T46 l0 x18_1).f0) ((rd_T46 l0 x18_1).f1.f0) ((rd_T46 l0 x18_1).f1.f1) ((rd_T46 l0 x18_1).f2) ((rd_T46 l0 x18_1).f3.f0) ((rd_T46 l0 x18_1).f3.f1) ((rd_T46 l0 x18_1).f4.f0) ((rd_T46 l0 x18_1).f4.f1) ((rd_T46 l0 x18_1).f5) ((rd_T46 l0 x18_1).f6) false _ A18.out).mono ?_); rintro e w40 ⟨rfl, hb⟩; refine ⟨_, rfl, ?_⟩; replace HO_5 := aa_ (Kd.R_below (by (with_reducible repeat (first | apply Kd.R_alloc | apply Kd.R_drewN | apply Kd.R_drew)); exact (Kd.R_mono (fr10_ (Kd.R_types HO_5.out BK486.out (by decide)) (fun _ hk => hk.2)) (fun _ h_ => h_.1))) hb); replace HO_6 := aa_ (Kd.R_below (by (with_reducible repeat (first | apply Kd.R_alloc | apply Kd.R_drewN | apply Kd.R_drew)); exact (Kd.R_mono (fr10_ (Kd.R_mono HO_6.out (fun k_ hk => (⟨hk, hk.2⟩ : _ ∧ k_ ≠ gb486))) (fun _ hk => hk.2)) (fun _ h_ => h_.1))) hb); replace BK472 := aa_ (blk_below (g := gb472) (o := .cells #[.int .i64 a1_0, .int .i64 a1_1] 27 (0, 0)) (bk_ BK472) hb); replace BK486 := aa_ (blk_below (g := gb486) (o := .cells #[.int .i64 ((rd_T46 l0 x18_1).f0), .int .i64 ((rd_T46 l0 x18_1).f1.f0), .int .i64 ((rd_T46 l0 x18_1).f1.f1), .int .i64 ((rd_T46 l0 x18_1).f2), .int .i64 ((rd_T46 l0 x18_1).f3.f0), .int .i64 ((rd_T46 l0 x18_1).f3.f1), .int .i64 ((rd_T46 l0 x18_1).f4.f0), .int .i64 ((rd_T46 l0 x18_1).f4.f1), .int .i64 ((rd_T46 l0 x18_1).f5), .int .i64 ((rd_T46 l0 x18_1).f6)] 46 (0, 0)) (bk_ BK486) hb); replace HB := hbs_ hb; clear hb))
     go_roundg k1
     case measure => have := HK1.out; omega
     case rel => exact ⟨(x6_1), (wrap64 (x18_1 + 1)), rf_, H', ⟨by have := HK1.out; omega⟩, ⟨rr_ HO_5⟩, ⟨by (with_reducible repeat (first | apply Kd.R_alloc | apply Kd.R_drewN | apply Kd.R_drew)); exact Kd.R_mono HO_6.out (fun _ hk => trivial)⟩, ⟨bk_ BK472⟩, ⟨bl_⟩⟩
   ·rw [if_neg c15] at H
    have c15b0 : decide (x18_1 < (l0.length : Int)) = false := decide_eq_false c15
    clear c15
    obtain rfl := Option.some.inj H
    go_wp2
    go_ret
    exact ⟨_, eq_, by (with_reducible repeat (first | apply Kd.R_alloc | apply Kd.R_drewN | apply Kd.R_drew)); exact HO_6.out, bl_⟩
def laws_sameInts.l0 : Nat → List Int → List Int → Int → Option (Bool)
 | 0, _, _, _ => none
 | k + 1, x0, x1, x5 => if x5 < (x0.length : Int) then (if 0 ≤ x5 then (if x5 < (x1.length : Int) then (if (rd x0 x5) = (rd x1 x5) then (laws_sameInts.l0 k x0 x1 (wrap64 (x5 + 1))) else (some false)) else (none)) else (none)) else (some true)
def laws_sameInts.f (k : Nat) (l0 : List Int) (l1 : List Int) : Option (Bool) := if (l0.length : Int) = (l1.length : Int) then (laws_sameInts.l0 k l0 l1 0) else (some false)
set_option maxHeartbeats 8000000 in
set_option maxRecDepth 100000 in
theorem laws_sameInts.calls (k : Nat) (A0 : Option Addr) (c0 : Nat) (l0 : List Int) (A1 : Option Addr) (c1 : Nat) (l1 : List Int) (r : Bool) (w : World) (hr0 : Kd.C (Kd.int .i64) w A0 l0.length l0) (hc0 : l0.length ≤ c0) (hr1 : Kd.C (Kd.int .i64) w A1 l1.length l1) (hc1 : l1.length ≤ c1) (h : laws_sameInts.f k l0 l1 = some r) :
  Calls Try.prog 9 #[.slice A0 l0.length c0, .slice A1 l1.length c1] w fun e w' => e = .returned (.bool r) ∧ Drawn0 w w' := by
 have HR0 := aa_ hr0
 have HC0 := aa_ hc0
 clear hr0 hc0
 have HR1 := aa_ hr1
 have HC1 := aa_ hc1
 clear hr1 hc1
 have H : (if (l0.length : Int) = (l1.length : Int) then (laws_sameInts.l0 k l0 l1 0) else (some false)) = some r := h
 clear h
 by_cases c3 : (l0.length : Int) = (l1.length : Int)
 ·rw [if_pos c3] at H
  have c3b0 : ((l0.length : Int) == (l1.length : Int)) = true := beq_iff_eq.mpr c3
  have c3b1 : ((l0.length : Int) != (l1.length : Int)) = false := bne_eq_false_iff_eq.mpr c3
  have c3b2 : (l0.length == l1.length) = true := by first | simpa using c3 | (simp at c3 ⊢; omega)
  clear c3
  have H' := aa_ H
  clear H
  go_enter Try.func9, Try.ntmps9
  go_wp2
  repeat (go_quiet (fail); try go_wp2)
  go_loopg [5] k (fun kq v5 w' => ∃ (x5_1 : Int), v5 = .int .i64 x5_1 ∧ Aside0 (laws_sameInts.l0 kq l0 l1 x5_1 = some r) ∧ Aside0 (kq ≤ k) ∧ Drawn0 w w')
  case atStart => exact ⟨(0), rf_, H', ⟨Nat.le_refl _⟩, by repeat (first | exact Drawn0.refl _ | apply Drawn0.step)⟩
  case round =>
   clear H'
   try clear c1
   try clear p2
   try clear c3
   try clear c3b0
   try clear c3b1
   try clear c3b2
   obtain ⟨x5_1, rfl, HA, HK1, ⟨m1, rfl⟩⟩ := hrel
   cases gk with
   | zero => exact absurd HA.out (by simp [laws_sameInts.l0])
   | succ k1 =>
    have H := HA.out
    clear HA
    simp only [laws_sameInts.l0] at H
    by_cases c4 : x5_1 < (l0.length : Int)
    ·rw [if_pos c4] at H
     have c4b0 : decide (x5_1 < (l0.length : Int)) = true := decide_eq_true c4
     clear c4
     obtain ⟨c5b0, H⟩ := ifd_ H
     obtain ⟨c6b0, H⟩ := ifd_ H
     have HC7 := aa_ H
     clear H
     have p495 : 0 ≤ (x5_1 : Int) := od_
     have q495 : x5_1 < (l0.length : Int) := od_
     obtain ⟨ad495, e495, hx495_0⟩ := Kd.at_int HR0.out x5_1 p495 q495
     cases e495
     replace p495 := eq_true p495
     replace q495 := eq_true q495
     have p496 : 0 ≤ (x5_1 : Int) := od_
     have q496 : x5_1 < (l1.length : Int) := od_
     obtain ⟨ad496, e496, hx496_0⟩ := Kd.at_int HR1.out x5_1 p496 q496
     cases e496
     replace p496 := eq_true p496
     replace q496 := eq_true q496
     go_upto_if 25 with (fail)
     repeat (go_quiet (fail); go_upto_if 25 with (fail))
     have H := HC7.out
     clear HC7
     by_cases c8 : (rd l0 x5_1) = (rd l1 x5_1)
     ·rw [if_pos c8] at H
      have c8b0 : ((rd l0 x5_1) == (rd l1 x5_1)) = true := beq_iff_eq.mpr c8
      have c8b1 : ((rd l0 x5_1) != (rd l1 x5_1)) = false := bne_eq_false_iff_eq.mpr c8
      clear c8
      (first | rw [c8b0] | (simp only [i64_w, i32_w]; rw [c8b0]) | skip)
      have H' := aa_ H
      clear H
      go_wp2
      repeat (go_quiet (fail); try go_wp2)
      go_roundg k1
      case measure => have := HK1.out; omega
      case rel => exact ⟨(wrap64 (x5_1 + 1)), rf_, H', ⟨by have := HK1.out; omega⟩, by repeat (first | exact Drawn0.refl _ | apply Drawn0.step)⟩
     ·rw [if_neg c8] at H
      have c8b0 : ((rd l0 x5_1) == (rd l1 x5_1)) = false := beq_eq_false_iff_ne.mpr c8
      have c8b1 : ((rd l0 x5_1) != (rd l1 x5_1)) = true := bne_iff_ne.mpr c8
      (first | rw [c8b0] | (simp only [i64_w, i32_w]; rw [c8b0]) | skip)
      obtain rfl := Option.some.inj H
      go_wp2
      repeat (go_quiet (fail); try go_wp2)
      go_ret
      exact ⟨by first | rfl | (simp; done) | (simp [*]; done), by repeat (first | exact Drawn0.refl _ | apply Drawn0.step)⟩
    ·rw [if_neg c4] at H
     have c4b0 : decide (x5_1 < (l0.length : Int)) = false := decide_eq_false c4
     clear c4
     obtain rfl := Option.some.inj H
     go_wp2
     repeat (go_quiet (fail); try go_wp2)
     go_ret
     exact ⟨by first | rfl | (simp; done) | (simp [*]; done), by repeat (first | exact Drawn0.refl _ | apply Drawn0.step)⟩
 ·rw [if_neg c3] at H
  have c3b0 : ((l0.length : Int) == (l1.length : Int)) = false := beq_eq_false_iff_ne.mpr c3
  have c3b1 : ((l0.length : Int) != (l1.length : Int)) = true := bne_iff_ne.mpr c3
  have c3b2 : (l0.length == l1.length) = false := by first | simpa using c3 | (simp at c3 ⊢; omega)
  obtain rfl := Option.some.inj H
  go_enter Try.func9, Try.ntmps9
  go_wp2
  repeat (go_quiet (fail); try go_wp2)
  go_ret
  exact ⟨by first | rfl | (simp; done) | (simp [*]; done), by repeat (first | exact Drawn0.refl _ | apply Drawn0.step)⟩
def spec_MembersOf.l0 : Nat → List (S29) → List Int → Int → Int → Int → Option (List Int)
 | 0, _, _, _, _, _ => none
 | k + 1, x5, x6, x7, x498000, x498001 => if x7 < 6 then ((spec_l06Has.f k x5 x498000 x498001 x7).bind fun t504 => (if t504 = true then (if x6.length < 17592186044416 then (spec_MembersOf.l0 k x5 (x6 ++ [x7]) (wrap64 (x7 + 1)) x498000 x498001) else (none)) else (spec_MembersOf.l0 k x5 x6 (wrap64 (x7 + 1)) x498000 x498001))) else (some x6)
def spec_MembersOf.f (k : Nat) (l0 : List (S46)) (a1_0 : Int) (a1_1 : Int) : Option (List Int) := (spec_FactsOf.f k l0).bind fun t498 => (spec_MembersOf.l0 k t498 (([] : List Int)) 0 a1_0 a1_1)
set_option maxHeartbeats 8000000 in
set_option maxRecDepth 100000 in
theorem spec_MembersOf.calls (k : Nat) (A0 : Option Addr) (c0 : Nat) (l0 : List (S46)) (a1_0 : Int) (a1_1 : Int) (r : List Int) (w : World) (hr0 : Kd.C k46 w A0 l0.length l0) (hc0 : l0.length ≤ c0) (h : spec_MembersOf.f k l0 a1_0 a1_1 = some r) :
  Calls Try.prog 10 #[.slice A0 l0.length c0, .agg #[.int .i64 a1_0, .int .i64 a1_1]] w fun e w' => ∃ v0_ : Value, e = .returned (v0_) ∧ Kd.R (Kd.int .i64) 3 w' w.heap.size (fun _ => True) v0_ r ∧ Below w.heap.size w w' := by
 have hu27 := Try.underlying27
 have hu29 := Try.underlying29
 have HR0 := aa_ hr0
 have HC0 := aa_ hc0
 clear hr0 hc0
 have HB := aa_ (Below.refl w.heap.size w)
 have H : ((spec_FactsOf.f k l0).bind fun t498 => (spec_MembersOf.l0 k t498 (([] : List Int)) 0 a1_0 a1_1)) = some r := h
 clear h
 obtain ⟨t498, A3, H⟩ := bindE_ H
 obtain ⟨y501, hy501⟩ : ∃ y_ : List Int, y_ = (([] : List Int)) := ⟨_, rfl⟩
 replace H : (spec_MembersOf.l0 k t498 y501 0 a1_0 a1_1) = some r := rh_ hy501 H
 have Ny501 := aa_ hy501
 clear hy501
 have H' := aa_ H
 clear H
 go_enter Try.func10, Try.ntmps10
 go_wp2_with (first | ((with_reducible refine gD_ 3 rfl ?_); refine bx_ (N := 3) (cs := #[.int .i64 a1_0, .int .i64 a1_1]) (t := 27) ?_; intro gb497 hg w4 hbox hb; have BK497 := aa_ (hbox); have GW497 := gs_ hg; have GE497 := gs_ hg; replace HB := hbs_ hb; clear hb hbox hg) | ((with_reducible refine gC_ 22 rfl ?_); refine goesC_ (some 9) Try.func22 #[.slice A0 l0.length c0] ?_; (with_reducible refine (spec_FactsOf.calls k _ _ l0 t498 _ ?side1 ?side2 A3.out).mono ?_); (case side1 => repeat (first | exact (Kd.C_below HR0.out HB.out) | (with_reducible refine Kd.C_alloc ?_ _) | (with_reducible refine Kd.C_drewN ?_ _) | (with_reducible refine Kd.C_drew ?_))); (case side2 => exact HC0.out); rintro e w5 ⟨v499, rfl, ho0, hb⟩; refine ⟨_, rfl, ?_⟩; have HO500 := aa_ (Kd.R_lower ho0 bls_); replace BK497 := bkb_ BK497 hb; replace HB := hbs_ hb; (try clear hb ho0)) | ((with_reducible refine gD_ 10 rfl ?_); refine Kd.R_lit (Kd.int .i64) _ 3 ?hg (N := 10) ?hd (xs := ([] : List Int)) (inner := []) (ok := fun _ => True) (okp := fun _ => True) ?hr ?hp (fun _ hk => hk) trivial (Below.refl _ _) (Nat.le_refl _) (by simp) ?_; (case hd => rfl); (case hg => rfl); (case hr => first | (go_simp; done) | (go_simp; rfl)); (case hp => exact (Reps.none _ _)); intro v502 w6 ho7 hb hg_ hnew_; clear hg_ hnew_; (first | rw [← Ny501.out] at ho7 | (simp only [Int.reduceToNat] at ho7; rw [← Ny501.out] at ho7)); replace HO500 := hob_ HO500 hb; have HO503 := aa_ (Kd.R_lower ho7 bls_); replace BK497 := bkb_ BK497 hb; replace HB := hbs_ hb; clear hb ho7))
 go_loopg [6, 7] k (fun kq v6 v7 w' => ∃ (x6_1 : List Int) (x7_1 : Int), v7 = .int .i64 x7_1 ∧ Aside0 (spec_MembersOf.l0 kq t498 x6_1 x7_1 a1_0 a1_1 = some r) ∧ Aside0 (kq ≤ k) ∧ Aside0 (Kd.R k29 29 w' w.heap.size (fun _ => True) v499 t498) ∧ Aside0 (Kd.R (Kd.int .i64) 3 w' w.heap.size (fun _ => True) v6 x6_1) ∧ Aside0 (w'.heap[gb497]? = some (.cells #[.int .i64 a1_0, .int .i64 a1_1] 27 (0, 0))) ∧ Aside0 (Below w.heap.size w w'))
 case atStart => exact ⟨(y501), (0), rf_, H', ⟨Nat.le_refl _⟩, ⟨rr_ HO500⟩, ⟨rr_ HO503⟩, ⟨bk_ BK497⟩, ⟨bl_⟩⟩
 case round =>
  clear H'
  try clear c1
  try clear c2
  try clear p2
  obtain ⟨x6_1, x7_1, rfl, HA, HK1, HO_5, HO_6, BK497, HB⟩ := hrel
  cases gk with
  | zero => exact absurd HA.out (by simp [spec_MembersOf.l0])
  | succ k1 =>
   have H := HA.out
   clear HA
   simp only [spec_MembersOf.l0] at H
   by_cases c8 : x7_1 < 6
   ·rw [if_pos c8] at H
    have c8b0 : decide (x7_1 < 6) = true := decide_eq_true c8
    clear c8
    obtain ⟨t504, A9, H⟩ := bindE_ H
    have HC10 := aa_ H
    clear H
    have hcz11 := blk_cell BK497.out
    have hfz11 := blk_frozen BK497.out
    obtain ⟨Ao12, co12, eo12⟩ := Kd.R_slice HO_5.out
    subst eo12
    go_upto_if 19 with (first | ((with_reducible refine gC_ 26 rfl ?_); refine goesC_ (some 19) Try.func26 #[.slice Ao12 t498.length co12, .agg #[.int .i64 a1_0, .int .i64 a1_1, .int .i64 x7_1]] ?_; (with_reducible refine (spec_l06Has.calls k1 _ _ t498 a1_0 a1_1 x7_1 t504 _ ?side1 ?side2 A9.out).mono ?_); (case side1 => repeat (first | exact (Kd.R_reads' HO_5.out).2.2 | (with_reducible refine Kd.C_alloc ?_ _) | (with_reducible refine Kd.C_drewN ?_ _) | (with_reducible refine Kd.C_drew ?_))); (case side2 => exact (Kd.R_reads' HO_5.out).2.1); rintro e w13 ⟨rfl, hb⟩; refine ⟨_, rfl, ?_⟩; replace HO_5 := hob_ HO_5 hb; replace HO_6 := hob_ HO_6 hb; replace BK497 := bkb_ BK497 hb; replace HB := hbs_ hb; clear hb))
    (try simp only [Act.put, List.setIfInBounds_toArray, List.set_cons_zero, List.set_cons_succ])
    have H := HC10.out
    clear HC10
    by_cases c14 : t504 = true
    ·subst c14
     replace H := ite_t_ H
     obtain ⟨c15, H⟩ := ifn_ H
     have LMc15 := aa_ c15
     clear c15
     obtain ⟨y505, hy505⟩ : ∃ y_ : List Int, y_ = (x6_1 ++ [x7_1]) := ⟨_, rfl⟩
     replace H : (spec_MembersOf.l0 k1 t498 y505 (wrap64 (x7_1 + 1)) a1_0 a1_1) = some r := rh_ hy505 H
     have Ny505 := aa_ hy505
     clear hy505
     have H' := aa_ H
     clear H
     go_wp2_with (first | ((with_reducible refine gate_builtin (b := .append) (xs := #[.tmp 20, .tmp 22]) rfl ?_); at_builtin; refine Kd.R_append (Kd.int .i64) (w0 := w) w.heap.size rfl (.tmp 20) (.tmp 22) 32 3 (.int .i64 0) 8 rfl Try.underlying32 info3 rfl (by decide) (by omega) u6 x6_1 x7_1 [.int .i64 x7_1] (fun _ => True) (fun _ => False) rfl rfl ?aP (fun _ hk => hk.elim) ?aF ?aO ?aB ?aS ?aL ?_; (case aP => exact rfl); (case aB => exact bl_); (case aF => exact (fun _ _ => trivial)); (case aO => exact (rr_ HO_6)); (case aS => exact bls_); (case aL => have := LMc15.out; omega); intro v506 w16 ho hb hg hat; rw [← Ny505.out] at ho; replace HO_5 := aa_ (Kd.R_over' (rr_ HO_5) (Kd.R_typed (rr_ HO_6)) (by decide) hg); replace BK497 := aa_ (blk_grown (g := gb497) (o := .cells #[.int .i64 a1_0, .int .i64 a1_1] 27 (0, 0)) (bk_ BK497) hg (Kd.R_ne HO_6.out BK497.out (by decide))); replace HB := aa_ (hb); have HO507 := aa_ (ho); clear HO_6; clear ho hb hg hat))
     go_roundg k1
     case measure => have := HK1.out; omega
     case rel => exact ⟨(y505), (wrap64 (x7_1 + 1)), rf_, H', ⟨by have := HK1.out; omega⟩, ⟨rr_ HO_5⟩, ⟨rr_ HO507⟩, ⟨bk_ BK497⟩, ⟨bl_⟩⟩
    ·replace c14 := Bool.eq_false_iff.mpr c14
     subst c14
     replace H := ite_f_ H
     have H' := aa_ H
     clear H
     go_wp2
     go_roundg k1
     case measure => have := HK1.out; omega
     case rel => exact ⟨(x6_1), (wrap64 (x7_1 + 1)), rf_, H', ⟨by have := HK1.out; omega⟩, ⟨rr_ HO_5⟩, ⟨rr_ HO_6⟩, ⟨bk_ BK497⟩, ⟨bl_⟩⟩
   ·rw [if_neg c8] at H
    have c8b0 : decide (x7_1 < 6) = false := decide_eq_false c8
    clear c8
    obtain rfl := Option.some.inj H
    go_wp2
    go_ret
    exact ⟨_, eq_, by (with_reducible repeat (first | apply Kd.R_alloc | apply Kd.R_drewN | apply Kd.R_drew)); exact HO_6.out, bl_⟩
def laws_hasRole.l0 : Nat → List (S27) → Int → Int → Int → Option (Bool)
 | 0, _, _, _, _ => none
 | k + 1, x0, x5, x509000, x509001 => if x5 < (x0.length : Int) then (if 0 ≤ x5 then (if (((rd_T27 x0 x5).f0) == x509000 && (((rd_T27 x0 x5).f1) == x509001)) = true then (some true) else (laws_hasRole.l0 k x0 (wrap64 (x5 + 1)) x509000 x509001)) else (none)) else (some false)
def laws_hasRole.f (k : Nat) (l0 : List (S27)) (a1_0 : Int) (a1_1 : Int) : Option (Bool) := laws_hasRole.l0 k l0 0 a1_0 a1_1
set_option maxHeartbeats 8000000 in
set_option maxRecDepth 100000 in
theorem laws_hasRole.calls (k : Nat) (A0 : Option Addr) (c0 : Nat) (l0 : List (S27)) (a1_0 : Int) (a1_1 : Int) (r : Bool) (w : World) (hr0 : Kd.C k27 w A0 l0.length l0) (hc0 : l0.length ≤ c0) (h : laws_hasRole.f k l0 a1_0 a1_1 = some r) :
  Calls Try.prog 13 #[.slice A0 l0.length c0, .agg #[.int .i64 a1_0, .int .i64 a1_1]] w fun e w' => e = .returned (.bool r) ∧ Below w.heap.size w w' := by
 have hu27 := Try.underlying27
 have HR0 := aa_ hr0
 have HC0 := aa_ hc0
 clear hr0 hc0
 have HB := aa_ (Below.refl w.heap.size w)
 have H : (laws_hasRole.l0 k l0 0 a1_0 a1_1) = some r := h
 clear h
 have H' := aa_ H
 clear H
 go_enter Try.func13, Try.ntmps13
 go_wp2_with (first | ((with_reducible refine gD_ 3 rfl ?_); refine bx_ (N := 3) (cs := #[.int .i64 a1_0, .int .i64 a1_1]) (t := 27) ?_; intro gb508 hg w3 hbox hb; have BK508 := aa_ (hbox); have GW508 := gs_ hg; have GE508 := gs_ hg; replace HB := hbs_ hb; clear hb hbox hg))
 repeat (go_quiet (first | ((with_reducible refine gD_ 3 rfl ?_); refine bx_ (N := 3) (cs := #[.int .i64 a1_0, .int .i64 a1_1]) (t := 27) ?_; intro gb508 hg w3 hbox hb; have BK508 := aa_ (hbox); have GW508 := gs_ hg; have GE508 := gs_ hg; replace HB := hbs_ hb; clear hb hbox hg)); try go_wp2_with (first | ((with_reducible refine gD_ 3 rfl ?_); refine bx_ (N := 3) (cs := #[.int .i64 a1_0, .int .i64 a1_1]) (t := 27) ?_; intro gb508 hg w3 hbox hb; have BK508 := aa_ (hbox); have GW508 := gs_ hg; have GE508 := gs_ hg; replace HB := hbs_ hb; clear hb hbox hg)))
 go_loopg [5] k (fun kq v5 w' => ∃ (x5_1 : Int), v5 = .int .i64 x5_1 ∧ Aside0 (laws_hasRole.l0 kq l0 x5_1 a1_0 a1_1 = some r) ∧ Aside0 (kq ≤ k) ∧ Aside0 (w'.heap[gb508]? = some (.cells #[.int .i64 a1_0, .int .i64 a1_1] 27 (0, 0))) ∧ Aside0 (Below w.heap.size w w'))
 case atStart => exact ⟨(0), rf_, H', ⟨Nat.le_refl _⟩, ⟨bk_ BK508⟩, ⟨bl_⟩⟩
 case round =>
  clear H'
  try clear c1
  try clear p2
  obtain ⟨x5_1, rfl, HA, HK1, BK508, HB⟩ := hrel
  cases gk with
  | zero => exact absurd HA.out (by simp [laws_hasRole.l0])
  | succ k1 =>
   have H := HA.out
   clear HA
   simp only [laws_hasRole.l0] at H
   by_cases c4 : x5_1 < (l0.length : Int)
   ·rw [if_pos c4] at H
    have c4b0 : decide (x5_1 < (l0.length : Int)) = true := decide_eq_true c4
    clear c4
    obtain ⟨c5b0, H⟩ := ifd_ H
    have HC6 := aa_ H
    clear H
    have p509 : 0 ≤ (x5_1 : Int) := od_
    have q509 : x5_1 < (l0.length : Int) := od_
    obtain ⟨ad509, e509, hx509_0, hx509_1⟩ := at_T27 (Kd.C_below HR0.out HB.out) x5_1 p509 q509
    cases e509
    replace p509 := eq_true p509
    replace q509 := eq_true q509
    have hcz7 := blk_cell BK508.out
    have hfz7 := blk_frozen BK508.out
    go_upto_if 17 with (fail)
    repeat (go_quiet (fail); go_upto_if 17 with (fail))
    have H := HC6.out
    clear HC6
    by_cases c8 : (((rd_T27 l0 x5_1).f0) == a1_0 && (((rd_T27 l0 x5_1).f1) == a1_1)) = true
    ·rw [if_pos c8] at H
     have c8b0 : (((rd_T27 l0 x5_1).f0) == a1_0 && (((rd_T27 l0 x5_1).f1) == a1_1)) = true := c8
     (try (have c8b1 : decide (((rd_T27 l0 x5_1).f0) = a1_0 && (((rd_T27 l0 x5_1).f1) == a1_1)) = true := by simpa using c8))
     (try (have c8b2 : (((rd_T27 l0 x5_1).f0) == a1_0 && (((rd_T27 l0 x5_1).f1) == a1_1)) = true := by simpa using c8))
     clear c8
     (first | rw [c8b0] | (simp only [i64_w, i32_w]; rw [c8b0]) | skip)
     obtain rfl := Option.some.inj H
     go_wp2
     repeat (go_quiet (fail); try go_wp2)
     go_ret
     exact ⟨eq_, bl_⟩
    ·rw [if_neg c8] at H
     have c8b0 : (((rd_T27 l0 x5_1).f0) == a1_0 && (((rd_T27 l0 x5_1).f1) == a1_1)) = false := by simpa using c8
     (try (have c8b1 : decide (((rd_T27 l0 x5_1).f0) = a1_0 && (((rd_T27 l0 x5_1).f1) == a1_1)) = false := by simpa using c8))
     (try (have c8b2 : (((rd_T27 l0 x5_1).f0) == a1_0 && (((rd_T27 l0 x5_1).f1) == a1_1)) = false := by simpa using c8))
     (try (have c8b3 : ¬ (((rd_T27 l0 x5_1).f0) = a1_0 && (((rd_T27 l0 x5_1).f1) == a1_1)) := by simpa using c8))
     clear c8
     (first | rw [c8b0] | (simp only [i64_w, i32_w]; rw [c8b0]) | skip)
     have H' := aa_ H
     clear H
     go_wp2
     repeat (go_quiet (fail); try go_wp2)
     go_roundg k1
     case measure => have := HK1.out; omega
     case rel => exact ⟨(wrap64 (x5_1 + 1)), rf_, H', ⟨by have := HK1.out; omega⟩, ⟨bk_ BK508⟩, ⟨bl_⟩⟩
   ·rw [if_neg c4] at H
    have c4b0 : decide (x5_1 < (l0.length : Int)) = false := decide_eq_false c4
    clear c4
    obtain rfl := Option.some.inj H
    go_wp2
    repeat (go_quiet (fail); try go_wp2)
    go_ret
    exact ⟨eq_, bl_⟩
end Go.Proofs.Ytcbhmcpdnokbiaa.PA
