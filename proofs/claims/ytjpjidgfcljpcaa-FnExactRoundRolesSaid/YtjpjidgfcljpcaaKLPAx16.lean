import Derived.Test.YtjpjidgfcljpcaaKLPAx13
-- printed by wip/tools
namespace Go.Proofs.Ytjpjidgfcljpcaa.PA
open Go.RowKit Go.Proofs.YtjpjidgfcljpcaaW.PrintWords Go.Proofs.YtjpjidgfcljpcaaW.PrintLast Go.Proofs.YtjpjidgfcljpcaaW.PrintMore
attribute [local go_sem] max2_int min2_int max_two min_two max_three min_three max_four min_four
set_option linter.unusedVariables false
set_option linter.unusedSimpArgs false
mutual
def impl_ReachRoles.l0 : Nat → List (S56) → List (S49) → Int → Option ((List (S49)))
 | 0, _, _, _ => none
 | k + 1, x0, x5, x6 => if x6 < (x5.length : Int) then (if 0 ≤ x6 then ((impl_LeansOn.f k x0 ((rd_T49 x5 x6).f0) ((rd_T49 x5 x6).f1)).bind fun t456 => (impl_ReachRoles.l1 k x0 x5 x6 t456 (t456.length : Int) 0)) else (none)) else (some x5)
def impl_ReachRoles.l1 : Nat → List (S56) → List (S49) → Int → List (S49) → Int → Int → Option ((List (S49)))
 | 0, _, _, _, _, _, _ => none
 | k + 1, x0, x5, x6, x23, x24, x25 => if x25 < x24 then (if 0 ≤ x25 then (if x25 < (x23.length : Int) then ((impl_Role_125.f k x5 ((rd_T49 x23 x25).f0) ((rd_T49 x23 x25).f1)).bind fun t461 => (if t461 = true then (impl_ReachRoles.l1 k x0 x5 x6 x23 x24 (wrap64 (x25 + 1))) else (if x5.length < 8796093022208 then (impl_ReachRoles.l1 k x0 (x5 ++ [(⟨(rd_T49 x23 x25).f0, (rd_T49 x23 x25).f1⟩ : S49)]) x6 x23 x24 (wrap64 (x25 + 1))) else (none)))) else (none)) else (none)) else (impl_ReachRoles.l0 k x0 x5 (wrap64 (x6 + 1)))
end
def impl_ReachRoles.f (k : Nat) (l0 : List (S56)) (a1_0 : Int) (a1_1 : Int) : Option ((List (S49))) := (impl_LeansOn.f k l0 a1_0 a1_1).bind fun t452 => (impl_ReachRoles.l0 k l0 t452 0)
set_option maxHeartbeats 8000000 in
set_option maxRecDepth 100000 in
theorem impl_ReachRoles.calls (k : Nat) (A0 : Option Addr) (c0 : Nat) (l0 : List (S56)) (a1_0 : Int) (a1_1 : Int) (r : List (S49)) (w : World) (hr0 : Kd.C k56 w A0 l0.length l0) (hc0 : l0.length ≤ c0) (h : impl_ReachRoles.f k l0 a1_0 a1_1 = some r) :
  Calls Try.prog 66 #[.slice A0 l0.length c0, .agg #[.int .i64 a1_0, .int .i64 a1_1]] w fun e w' => ∃ v0_ : Value, e = .returned (v0_) ∧ Kd.R k49 49 w' w.heap.size (fun _ => True) v0_ r ∧ Below w.heap.size w w' := by
 have hu49 := Try.underlying49
 have HR0 := Aside0.mk hr0
 have HC0 := Aside0.mk hc0
 clear hr0 hc0
 have HB := Aside0.mk (Below.refl w.heap.size w)
 have H : ((impl_LeansOn.f k l0 a1_0 a1_1).bind fun t452 => (impl_ReachRoles.l0 k l0 t452 0)) = some r := h
 clear h
 obtain ⟨t452, A3, H⟩ := bindE_ H
 have H' := Aside0.mk H
 clear H
 go_enter Try.func66, Try.ntmps66
 go_wp2_with (first | ((with_reducible refine gate_dst (N := 3) rfl ?_); refine box_event ?hg (N := 3) ?hd (cs := #[.int .i64 a1_0, .int .i64 a1_1]) (t := 49) ?hr ?_; (case hd => rfl); (case hg => rfl); (case hr => first | (go_simp; done) | (go_simp; rfl)); intro gb451 hg w4 hbox hb; have BK451 := Aside0.mk (hbox); have GW451 := gs_ hg; have GE451 := gs_ hg; replace HB := hbs_ hb; clear hb hbox hg; have hcz5 := blk_cell BK451.out; have hfz5 := blk_frozen BK451.out) | ((with_reducible refine gate_callee (f := 68) rfl ?_); refine goesC_ (some 11) Try.func68 #[.slice A0 l0.length c0, .agg #[.int .i64 a1_0, .int .i64 a1_1]] ?_; (with_reducible refine (impl_LeansOn.calls k _ _ l0 a1_0 a1_1 t452 _ ?side1 ?side2 A3.out).mono ?_); (case side1 => repeat (first | exact (Kd.C_below HR0.out HB.out) | (with_reducible refine Kd.C_alloc ?_ _) | (with_reducible refine Kd.C_drewN ?_ _) | (with_reducible refine Kd.C_drew ?_))); (case side2 => exact HC0.out); rintro e w6 ⟨v453, rfl, ho0, hb⟩; refine ⟨_, rfl, ?_⟩; have HO454 := Aside0.mk (Kd.R_lower (Kd.R_newB ho0 (g := gb451) (o := .cells #[.int .i64 a1_0, .int .i64 a1_1] 49 (0, 0)) (bk_ BK451)) bls_); replace BK451 := bkb_ BK451 hb; replace HB := hbs_ hb; (try clear hb); (try clear hb2); (try clear hk); (try clear hi); (try clear ho0)))
 go_loopg [5, 6] k (fun kq v5 v6 w' => ∃ (x5_1 : List (S49)) (x6_1 : Int), v6 = .int .i64 x6_1 ∧ Aside0 (impl_ReachRoles.l0 kq l0 x5_1 x6_1 = some r) ∧ Aside0 (kq ≤ k) ∧ Aside0 (Kd.R k49 49 w' w.heap.size (fun k_ => k_ ≠ gb451) v5 x5_1) ∧ Aside0 (w'.heap[gb451]? = some (.cells #[.int .i64 a1_0, .int .i64 a1_1] 49 (0, 0))) ∧ Aside0 (Below w.heap.size w w'))
 case atStart => exact ⟨(t452), (0), rf_, H', ⟨Nat.le_refl _⟩, ⟨by (with_reducible repeat (first | apply Kd.R_alloc | apply Kd.R_drewN | apply Kd.R_drew)); exact Kd.R_mono HO454.out (fun _ hk => hk.2)⟩, ⟨bk_ BK451⟩, ⟨bl_⟩⟩
 case round =>
  clear H'
  try clear p2
  try clear c6
  try clear hcz5
  try clear hfz5
  obtain ⟨x5_1, x6_1, rfl, HA, HK1, HO_5, BK451, HB⟩ := hrel
  cases gk with
  | zero => exact absurd HA.out (by simp [impl_ReachRoles.l0])
  | succ k1 =>
   have H := HA.out
   clear HA
   simp only [impl_ReachRoles.l0] at H
   by_cases c7 : x6_1 < (x5_1.length : Int)
   ·rw [if_pos c7] at H
    have c7b0 : decide (x6_1 < (x5_1.length : Int)) = true := decide_eq_true c7
    clear c7
    obtain ⟨c8b0, H⟩ := ifd_ H
    obtain ⟨t456, A9, H⟩ := bindE_ H
    have H' := Aside0.mk H
    clear H
    obtain ⟨Ao10, co10, eo10⟩ := Kd.R_slice HO_5.out
    subst eo10
    have p455 : 0 ≤ (x6_1 : Int) := od_
    have q455 : x6_1 < (x5_1.length : Int) := od_
    obtain ⟨ad455, e455, hx455_0, hx455_1⟩ := at_T49 (Kd.R_reads' HO_5.out).2.2 x6_1 p455 q455
    cases e455
    replace p455 := eq_true p455
    replace q455 := eq_true q455
    go_wp2_with (first | ((with_reducible refine gate_callee (f := 68) rfl ?_); refine goesC_ (some 23) Try.func68 #[.slice A0 l0.length c0, .agg #[.int .i64 ((rd_T49 x5_1 x6_1).f0), .int .i64 ((rd_T49 x5_1 x6_1).f1)]] ?_; (with_reducible refine (impl_LeansOn.calls k1 _ _ l0 ((rd_T49 x5_1 x6_1).f0) ((rd_T49 x5_1 x6_1).f1) t456 _ ?side1 ?side2 A9.out).mono ?_); (case side1 => repeat (first | exact (Kd.C_below HR0.out HB.out) | (with_reducible refine Kd.C_alloc ?_ _) | (with_reducible refine Kd.C_drewN ?_ _) | (with_reducible refine Kd.C_drew ?_))); (case side2 => exact HC0.out); rintro e w11 ⟨v457, rfl, ho0, hb⟩; refine ⟨_, rfl, ?_⟩; have HO458 := Aside0.mk (Kd.R_lower (Kd.R_newB (Kd.R_new' ho0 (Kd.R_lt (by (with_reducible repeat (first | apply Kd.R_alloc | apply Kd.R_drewN | apply Kd.R_drew)); exact HO_5.out))) (g := gb451) (o := .cells #[.int .i64 a1_0, .int .i64 a1_1] 49 (0, 0)) (bk_ BK451)) bls_); replace HO_5 := Aside0.mk (Kd.R_elder' (by (with_reducible repeat (first | apply Kd.R_alloc | apply Kd.R_drewN | apply Kd.R_drew)); exact HO_5.out) (Kd.R_base ho0) hb); replace BK451 := bkb_ BK451 hb; replace HB := hbs_ hb; (try clear hb); (try clear hb2); (try clear hk); (try clear hi); (try clear ho0); obtain ⟨Ao12, co12, eo12⟩ := Kd.R_slice HO458.out; subst eo12))
    go_loopg [5, 25] k1 (fun kq v5 v25 w' => ∃ (x5_2 : List (S49)) (x25_2 : Int), v25 = .int .i64 x25_2 ∧ Aside0 (impl_ReachRoles.l1 kq l0 x5_2 x6_1 t456 (t456.length : Int) x25_2 = some r) ∧ Aside0 (kq ≤ k1) ∧ Aside0 (Kd.R k49 49 w' w.heap.size (fun k_ => some k_ ≠ ((.slice Ao12 t456.length co12) : Value).ownBlock ∧ k_ ≠ gb451) v5 x5_2) ∧ Aside0 (Kd.R k49 49 w' w.heap.size (fun k_ => some k_ ≠ (v5 : Value).ownBlock ∧ k_ ≠ gb451) (.slice Ao12 t456.length co12) t456) ∧ Aside0 (w'.heap[gb451]? = some (.cells #[.int .i64 a1_0, .int .i64 a1_1] 49 (0, 0))) ∧ Aside0 (Below w.heap.size w w'))
    case atStart => exact ⟨(x5_1), (0), rf_, H', ⟨Nat.le_refl _⟩, ⟨by (with_reducible repeat (first | apply Kd.R_alloc | apply Kd.R_drewN | apply Kd.R_drew)); exact Kd.R_mono HO_5.out (fun _ hk => ⟨hk.2, hk.1⟩)⟩, ⟨by (with_reducible repeat (first | apply Kd.R_alloc | apply Kd.R_drewN | apply Kd.R_drew)); exact Kd.R_mono HO458.out (fun _ hk => ⟨hk.1.2, hk.2⟩)⟩, ⟨bk_ BK451⟩, ⟨bl_⟩⟩
    case round =>
     clear H'
     try clear p2
     try clear p4
     try clear q4
     try clear hx4
     try clear c6
     try clear c7
     try clear c7b0
     try clear c8
     try clear c8b0
     try clear hcz5
     try clear hfz5
     try clear hx455_0
     try clear hx455_1
     try clear p2
     try clear p455
     try clear q455
     obtain ⟨x5_2, x25_2, rfl, HA, HK2, HO_5, HO_23, BK451, HB⟩ := hrel
     cases gk with
     | zero => exact absurd HA.out (by simp [impl_ReachRoles.l1])
     | succ k2 =>
      have H := HA.out
      clear HA
      simp only [impl_ReachRoles.l1] at H
      by_cases c13 : x25_2 < (t456.length : Int)
      ·rw [if_pos c13] at H
       have c13b0 : decide (x25_2 < (t456.length : Int)) = true := decide_eq_true c13
       clear c13
       obtain ⟨c14b0, H⟩ := ifd_ H
       obtain ⟨c15b0, H⟩ := ifd_ H
       obtain ⟨t461, A16, H⟩ := bindE_ H
       by_cases c17 : t461 = true
       ·subst c17
        replace H := ite_t_ H
        have H' := Aside0.mk H
        clear H
        have p459 : 0 ≤ (x25_2 : Int) := od_
        have q459 : x25_2 < (t456.length : Int) := od_
        obtain ⟨ad459, e459, hx459_0, hx459_1⟩ := at_T49 (Kd.R_reads' HO_23.out).2.2 x25_2 p459 q459
        cases e459
        replace p459 := eq_true p459
        replace q459 := eq_true q459
        go_wp2_with (first | ((with_reducible refine gate_dst (N := 8) rfl ?_); refine box_event ?hg (N := 8) ?hd (cs := #[.int .i64 0, .int .i64 0]) (t := 49) ?hr ?_; (case hd => rfl); (case hg => rfl); (case hr => first | (go_simp; done) | (go_simp; rfl)); intro gb460 hg w18 hbox hb; replace HO_5 := Aside0.mk (Kd.R_below (Kd.R_elderB (by (with_reducible repeat (first | apply Kd.R_alloc | apply Kd.R_drewN | apply Kd.R_drew)); exact HO_5.out) gb460 (Nat.le_of_eq hg.symm)) hb); replace HO_23 := Aside0.mk (Kd.R_below (Kd.R_elderB (by (with_reducible repeat (first | apply Kd.R_alloc | apply Kd.R_drewN | apply Kd.R_drew)); exact HO_23.out) gb460 (Nat.le_of_eq hg.symm)) hb); have BK460 := Aside0.mk (hbox); have GW460 := gs_ hg; have GE460 := gs_ hg; replace HB := hbs_ hb; have NB451_460 := nl_ hg BK451; have NB460_451 := nr_ hg BK451; replace BK451 := bkb_ BK451 hb; clear hb hbox hg; have hnb19 := NB460_451.out; have hnc19 := NB451_460.out; have hcz20 := blk_cell BK460.out; have hfz20 := blk_frozen BK460.out; obtain ⟨Ao21, co21, eo21⟩ := Kd.R_slice HO_5.out; subst eo21) | ((with_reducible refine gate_callee (f := 125) rfl ?_); refine goesC_ (some 31) Try.func125 #[.slice Ao21 x5_2.length co21, .agg #[.int .i64 ((rd_T49 t456 x25_2).f0), .int .i64 ((rd_T49 t456 x25_2).f1)]] ?_; (with_reducible refine (impl_Role_125.calls k2 _ _ x5_2 ((rd_T49 t456 x25_2).f0) ((rd_T49 t456 x25_2).f1) true _ ?side1 ?side2 A16.out).mono ?_); (case side1 => refine (Kd.R_reads' (e := 49) (base := w.heap.size) (ok := fun k_ => ((some k_ ≠ (.slice (some ad459) t456.length co12 : Value).ownBlock ∧ k_ ≠ gb451) ∧ k_ ≠ gb460)) (n := x5_2.length) (c := co21) ?_).2.2; exact (by (with_reducible repeat (first | apply Kd.R_alloc | apply Kd.R_drewN | apply Kd.R_drew)); exact (Kd.R_mono (Kd.R_far (p := ⟨gb460, 1, none⟩) (Kd.R_far (p := ⟨gb460, 0, none⟩) (Kd.R_mono HO_5.out (fun k_ hk => (⟨hk, hk.2⟩ : _ ∧ k_ ≠ gb460))) (fun _ hk => hk.2) (.int .i64 ((rd_T49 t456 x25_2).f0))) (fun _ hk => hk.2) (.int .i64 ((rd_T49 t456 x25_2).f1))) (fun _ h_ => h_.1)))); (case side2 => exact (Kd.R_reads' HO_5.out).2.1); rintro e w22 ⟨rfl, hb⟩; refine ⟨_, rfl, ?_⟩; replace HO_5 := Aside0.mk (Kd.R_below (by (with_reducible repeat (first | apply Kd.R_alloc | apply Kd.R_drewN | apply Kd.R_drew)); exact (Kd.R_mono (Kd.R_far (p := ⟨gb460, 1, none⟩) (Kd.R_far (p := ⟨gb460, 0, none⟩) (Kd.R_mono HO_5.out (fun k_ hk => (⟨hk, hk.2⟩ : _ ∧ k_ ≠ gb460))) (fun _ hk => hk.2) (.int .i64 ((rd_T49 t456 x25_2).f0))) (fun _ hk => hk.2) (.int .i64 ((rd_T49 t456 x25_2).f1))) (fun _ h_ => h_.1))) hb); replace HO_23 := Aside0.mk (Kd.R_below (by (with_reducible repeat (first | apply Kd.R_alloc | apply Kd.R_drewN | apply Kd.R_drew)); exact (Kd.R_mono (Kd.R_far (p := ⟨gb460, 1, none⟩) (Kd.R_far (p := ⟨gb460, 0, none⟩) (Kd.R_mono HO_23.out (fun k_ hk => (⟨hk, hk.2⟩ : _ ∧ k_ ≠ gb460))) (fun _ hk => hk.2) (.int .i64 ((rd_T49 t456 x25_2).f0))) (fun _ hk => hk.2) (.int .i64 ((rd_T49 t456 x25_2).f1))) (fun _ h_ => h_.1))) hb); replace BK451 := Aside0.mk (blk_below (g := gb451) (o := .cells #[.int .i64 a1_0, .int .i64 a1_1] 49 (0, 0)) (bk_ BK451) hb); replace BK460 := Aside0.mk (blk_below (g := gb460) (o := .cells #[.int .i64 ((rd_T49 t456 x25_2).f0), .int .i64 ((rd_T49 t456 x25_2).f1)] 49 (0, 0)) (bk_ BK460) hb); replace HB := hbs_ hb; clear hb))
        go_roundg k2
        case measure => have := HK1.out; have := HK2.out; omega
        case rel => exact ⟨(x5_2), (wrap64 (x25_2 + 1)), rf_, H', ⟨by have := HK1.out; have := HK2.out; omega⟩, ⟨by (with_reducible repeat (first | apply Kd.R_alloc | apply Kd.R_drewN | apply Kd.R_drew)); exact Kd.R_mono HO_5.out (fun _ hk => ⟨hk.1.1, hk.1.2⟩)⟩, ⟨by (with_reducible repeat (first | apply Kd.R_alloc | apply Kd.R_drewN | apply Kd.R_drew)); exact Kd.R_mono HO_23.out (fun _ hk => ⟨hk.1.1, hk.1.2⟩)⟩, ⟨bk_ BK451⟩, ⟨bl_⟩⟩
       ·replace c17 := Bool.eq_false_iff.mpr c17
        subst c17
        replace H := ite_f_ H
        obtain ⟨c23, H⟩ := ifn_ H
        have LMc23 := Aside0.mk c23
        clear c23
        obtain ⟨y462, hy462⟩ : ∃ y_ : List (S49), y_ = (x5_2 ++ [(⟨(rd_T49 t456 x25_2).f0, (rd_T49 t456 x25_2).f1⟩ : S49)]) := ⟨_, rfl⟩
        replace H : (impl_ReachRoles.l1 k2 l0 y462 x6_1 t456 (t456.length : Int) (wrap64 (x25_2 + 1))) = some r := by first | (rw [hy462]; with_reducible exact H) | (have H2_ := (Option.bind_some _ _).symm.trans H; rw [hy462]; with_reducible exact H2_) | (have H2_ := (Option.bind_some _ _).symm.trans H; with_reducible exact H2_) | with_reducible exact H | (rw [hy462]; exact H) | exact H
        have Ny462 := Aside0.mk hy462
        clear hy462
        have H' := Aside0.mk H
        clear H
        have p459 : 0 ≤ (x25_2 : Int) := od_
        have q459 : x25_2 < (t456.length : Int) := od_
        obtain ⟨ad459, e459, hx459_0, hx459_1⟩ := at_T49 (Kd.R_reads' HO_23.out).2.2 x25_2 p459 q459
        cases e459
        replace p459 := eq_true p459
        replace q459 := eq_true q459
        go_wp2_with (first | ((with_reducible refine gate_dst (N := 8) rfl ?_); refine box_event ?hg (N := 8) ?hd (cs := #[.int .i64 0, .int .i64 0]) (t := 49) ?hr ?_; (case hd => rfl); (case hg => rfl); (case hr => first | (go_simp; done) | (go_simp; rfl)); intro gb460 hg w24 hbox hb; replace HO_5 := Aside0.mk (Kd.R_below (Kd.R_elderB (by (with_reducible repeat (first | apply Kd.R_alloc | apply Kd.R_drewN | apply Kd.R_drew)); exact HO_5.out) gb460 (Nat.le_of_eq hg.symm)) hb); replace HO_23 := Aside0.mk (Kd.R_below (Kd.R_elderB (by (with_reducible repeat (first | apply Kd.R_alloc | apply Kd.R_drewN | apply Kd.R_drew)); exact HO_23.out) gb460 (Nat.le_of_eq hg.symm)) hb); have BK460 := Aside0.mk (hbox); have GW460 := gs_ hg; have GE460 := gs_ hg; replace HB := hbs_ hb; have NB451_460 := nl_ hg BK451; have NB460_451 := nr_ hg BK451; replace BK451 := bkb_ BK451 hb; clear hb hbox hg; have hnb25 := NB460_451.out; have hnc25 := NB451_460.out; have hcz26 := blk_cell BK460.out; have hfz26 := blk_frozen BK460.out; obtain ⟨Ao27, co27, eo27⟩ := Kd.R_slice HO_5.out; subst eo27) | ((with_reducible refine gate_callee (f := 125) rfl ?_); refine goesC_ (some 31) Try.func125 #[.slice Ao27 x5_2.length co27, .agg #[.int .i64 ((rd_T49 t456 x25_2).f0), .int .i64 ((rd_T49 t456 x25_2).f1)]] ?_; (with_reducible refine (impl_Role_125.calls k2 _ _ x5_2 ((rd_T49 t456 x25_2).f0) ((rd_T49 t456 x25_2).f1) false _ ?side1 ?side2 A16.out).mono ?_); (case side1 => refine (Kd.R_reads' (e := 49) (base := w.heap.size) (ok := fun k_ => ((some k_ ≠ (.slice (some ad459) t456.length co12 : Value).ownBlock ∧ k_ ≠ gb451) ∧ k_ ≠ gb460)) (n := x5_2.length) (c := co27) ?_).2.2; exact (by (with_reducible repeat (first | apply Kd.R_alloc | apply Kd.R_drewN | apply Kd.R_drew)); exact (Kd.R_mono (Kd.R_far (p := ⟨gb460, 1, none⟩) (Kd.R_far (p := ⟨gb460, 0, none⟩) (Kd.R_mono HO_5.out (fun k_ hk => (⟨hk, hk.2⟩ : _ ∧ k_ ≠ gb460))) (fun _ hk => hk.2) (.int .i64 ((rd_T49 t456 x25_2).f0))) (fun _ hk => hk.2) (.int .i64 ((rd_T49 t456 x25_2).f1))) (fun _ h_ => h_.1)))); (case side2 => exact (Kd.R_reads' HO_5.out).2.1); rintro e w28 ⟨rfl, hb⟩; refine ⟨_, rfl, ?_⟩; replace HO_5 := Aside0.mk (Kd.R_below (by (with_reducible repeat (first | apply Kd.R_alloc | apply Kd.R_drewN | apply Kd.R_drew)); exact (Kd.R_mono (Kd.R_far (p := ⟨gb460, 1, none⟩) (Kd.R_far (p := ⟨gb460, 0, none⟩) (Kd.R_mono HO_5.out (fun k_ hk => (⟨hk, hk.2⟩ : _ ∧ k_ ≠ gb460))) (fun _ hk => hk.2) (.int .i64 ((rd_T49 t456 x25_2).f0))) (fun _ hk => hk.2) (.int .i64 ((rd_T49 t456 x25_2).f1))) (fun _ h_ => h_.1))) hb); replace HO_23 := Aside0.mk (Kd.R_below (by (with_reducible repeat (first | apply Kd.R_alloc | apply Kd.R_drewN | apply Kd.R_drew)); exact (Kd.R_mono (Kd.R_far (p := ⟨gb460, 1, none⟩) (Kd.R_far (p := ⟨gb460, 0, none⟩) (Kd.R_mono HO_23.out (fun k_ hk => (⟨hk, hk.2⟩ : _ ∧ k_ ≠ gb460))) (fun _ hk => hk.2) (.int .i64 ((rd_T49 t456 x25_2).f0))) (fun _ hk => hk.2) (.int .i64 ((rd_T49 t456 x25_2).f1))) (fun _ h_ => h_.1))) hb); replace BK451 := Aside0.mk (blk_below (g := gb451) (o := .cells #[.int .i64 a1_0, .int .i64 a1_1] 49 (0, 0)) (bk_ BK451) hb); replace BK460 := Aside0.mk (blk_below (g := gb460) (o := .cells #[.int .i64 ((rd_T49 t456 x25_2).f0), .int .i64 ((rd_T49 t456 x25_2).f1)] 49 (0, 0)) (bk_ BK460) hb); replace HB := hbs_ hb; clear hb; have hcz29 := blk_cell BK460.out; have hfz29 := blk_frozen BK460.out) | ((with_reducible refine gate_builtin (b := .append) (xs := #[.tmp 33, .tmp 35]) rfl ?_); at_builtin; refine Kd.R_append k49 (w0 := w) w.heap.size rfl (.tmp 33) (.tmp 35) 69 49 (.agg #[(.int .i64 0), (.int .i64 0)]) 16 rfl Try.underlying69 info49 rfl (by decide) (by omega) (.slice Ao27 x5_2.length co27) x5_2 (⟨(rd_T49 t456 x25_2).f0, (rd_T49 t456 x25_2).f1⟩ : S49) [.int .i64 ((rd_T49 t456 x25_2).f0), .int .i64 ((rd_T49 t456 x25_2).f1)] (fun k_ => some k_ ≠ (.slice (some ad459) t456.length co12 : Value).ownBlock ∧ k_ ≠ gb451 ∧ k_ ≠ gb460) (fun _ => False) rfl rfl ?aP (fun _ hk => hk.elim) ?aF ?aO ?aB ?aS ?aL ?_; (case aP => exact k49_mkM _ _ _ (⟨(rd_T49 t456 x25_2).f0, (rd_T49 t456 x25_2).f1⟩ : S49)); (case aB => exact bl_); (case aF => exact (fun k_ hk => ⟨Kd.fresh' (Kd.R_lt (by (with_reducible repeat (first | apply Kd.R_alloc | apply Kd.R_drewN | apply Kd.R_drew)); exact HO_23.out)) k_ hk, Kd.freshB (g := gb451) (o := .cells #[.int .i64 a1_0, .int .i64 a1_1] 49 (0, 0)) (bk_ BK451) k_ hk, Kd.freshB (g := gb460) (o := .cells #[.int .i64 ((rd_T49 t456 x25_2).f0), .int .i64 ((rd_T49 t456 x25_2).f1)] 49 (0, 0)) (bk_ BK460) k_ hk⟩)); (case aO => exact (by (with_reducible repeat (first | apply Kd.R_alloc | apply Kd.R_drewN | apply Kd.R_drew)); exact Kd.R_mono HO_5.out (fun _ hk => ⟨hk.1.1, ⟨hk.1.2, hk.2⟩⟩))); (case aS => exact bls_); (case aL => have := LMc23.out; omega); intro v463 w30 ho hb hg hat; rw [← Ny462.out] at ho; replace HO_23 := Aside0.mk (Kd.R_after (ok := (fun k_ => k_ ≠ gb451 ∧ k_ ≠ gb460)) (by (with_reducible repeat (first | apply Kd.R_alloc | apply Kd.R_drewN | apply Kd.R_drew)); exact Kd.R_mono HO_23.out (fun _ hk => ⟨⟨hk.1.2, hk.2⟩, hk.1.1⟩)) hg hat); replace BK451 := Aside0.mk (blk_grown (g := gb451) (o := .cells #[.int .i64 a1_0, .int .i64 a1_1] 49 (0, 0)) (bk_ BK451) hg (Kd.R_away HO_5.out (fun _ hk => hk.1.2))); replace BK460 := Aside0.mk (blk_grown (g := gb460) (o := .cells #[.int .i64 ((rd_T49 t456 x25_2).f0), .int .i64 ((rd_T49 t456 x25_2).f1)] 49 (0, 0)) (bk_ BK460) hg (Kd.R_away HO_5.out (fun _ hk => hk.2))); replace HB := Aside0.mk (hb); have HO464 := Aside0.mk (ho); clear HO_5; clear ho hb hg hat))
        go_roundg k2
        case measure => have := HK1.out; have := HK2.out; omega
        case rel => exact ⟨(y462), (wrap64 (x25_2 + 1)), rf_, H', ⟨by have := HK1.out; have := HK2.out; omega⟩, ⟨by (with_reducible repeat (first | apply Kd.R_alloc | apply Kd.R_drewN | apply Kd.R_drew)); exact Kd.R_mono HO464.out (fun _ hk => ⟨hk.1, hk.2.1⟩)⟩, ⟨by (with_reducible repeat (first | apply Kd.R_alloc | apply Kd.R_drewN | apply Kd.R_drew)); exact Kd.R_mono HO_23.out (fun _ hk => ⟨hk.2, hk.1.1⟩)⟩, ⟨bk_ BK451⟩, ⟨bl_⟩⟩
      ·rw [if_neg c13] at H
       have c13b0 : decide (x25_2 < (t456.length : Int)) = false := decide_eq_false c13
       clear c13
       have H' := Aside0.mk H
       clear H
       go_wp2
       go_roundg k2
       case measure => have := HK1.out; have := HK2.out; omega
       case rel => exact ⟨(x5_2), (wrap64 (x6_1 + 1)), rf_, H', ⟨by have := HK1.out; have := HK2.out; omega⟩, ⟨by (with_reducible repeat (first | apply Kd.R_alloc | apply Kd.R_drewN | apply Kd.R_drew)); exact Kd.R_mono HO_5.out (fun _ hk => hk.2)⟩, ⟨bk_ BK451⟩, ⟨bl_⟩⟩
   ·rw [if_neg c7] at H
    have c7b0 : decide (x6_1 < (x5_1.length : Int)) = false := decide_eq_false c7
    clear c7
    obtain rfl := Option.some.inj H
    obtain ⟨Ao31, co31, eo31⟩ := Kd.R_slice HO_5.out
    subst eo31
    go_wp2
    go_ret
    exact ⟨_, eq_, by (with_reducible repeat (first | apply Kd.R_alloc | apply Kd.R_drewN | apply Kd.R_drew)); exact Kd.R_mono HO_5.out (fun _ hk => trivial), bl_⟩
mutual
def spec_ReachRoles.l0 : Nat → List (S56) → List (S49) → Int → Option ((List (S49)))
 | 0, _, _, _ => none
 | k + 1, x0, x5, x6 => if x6 < (x5.length : Int) then (if 0 ≤ x6 then ((spec_LeansOn.f k x0 ((rd_T49 x5 x6).f0) ((rd_T49 x5 x6).f1)).bind fun t470 => (spec_ReachRoles.l1 k x0 x5 x6 t470 0)) else (none)) else (some x5)
def spec_ReachRoles.l1 : Nat → List (S56) → List (S49) → Int → List (S49) → Int → Option ((List (S49)))
 | 0, _, _, _, _, _ => none
 | k + 1, x0, x5, x6, x7, x8 => if x8 < (x7.length : Int) then (if 0 ≤ x8 then ((spec_l18Add.f k x5 ((rd_T49 x7 x8).f0) ((rd_T49 x7 x8).f1)).bind fun t474 => (spec_ReachRoles.l1 k x0 t474 x6 x7 (wrap64 (x8 + 1)))) else (none)) else (spec_ReachRoles.l0 k x0 x5 (wrap64 (x6 + 1)))
end
def spec_ReachRoles.f (k : Nat) (l0 : List (S56)) (a1_0 : Int) (a1_1 : Int) : Option ((List (S49))) := (spec_LeansOn.f k l0 a1_0 a1_1).bind fun t466 => (spec_ReachRoles.l0 k l0 t466 0)
set_option maxHeartbeats 8000000 in
set_option maxRecDepth 100000 in
theorem spec_ReachRoles.calls (k : Nat) (A0 : Option Addr) (c0 : Nat) (l0 : List (S56)) (a1_0 : Int) (a1_1 : Int) (r : List (S49)) (w : World) (hr0 : Kd.C k56 w A0 l0.length l0) (hc0 : l0.length ≤ c0) (h : spec_ReachRoles.f k l0 a1_0 a1_1 = some r) :
  Calls Try.prog 75 #[.slice A0 l0.length c0, .agg #[.int .i64 a1_0, .int .i64 a1_1]] w fun e w' => ∃ v0_ : Value, e = .returned (v0_) ∧ Kd.R k49 49 w' w.heap.size (fun _ => True) v0_ r ∧ Below w.heap.size w w' := by
 have hu49 := Try.underlying49
 have HR0 := Aside0.mk hr0
 have HC0 := Aside0.mk hc0
 clear hr0 hc0
 have HB := Aside0.mk (Below.refl w.heap.size w)
 have H : ((spec_LeansOn.f k l0 a1_0 a1_1).bind fun t466 => (spec_ReachRoles.l0 k l0 t466 0)) = some r := h
 clear h
 obtain ⟨t466, A3, H⟩ := bindE_ H
 have H' := Aside0.mk H
 clear H
 go_enter Try.func75, Try.ntmps75
 go_wp2_with (first | ((with_reducible refine gate_dst (N := 3) rfl ?_); refine box_event ?hg (N := 3) ?hd (cs := #[.int .i64 a1_0, .int .i64 a1_1]) (t := 49) ?hr ?_; (case hd => rfl); (case hg => rfl); (case hr => first | (go_simp; done) | (go_simp; rfl)); intro gb465 hg w4 hbox hb; have BK465 := Aside0.mk (hbox); have GW465 := gs_ hg; have GE465 := gs_ hg; replace HB := hbs_ hb; clear hb hbox hg; have hcz5 := blk_cell BK465.out; have hfz5 := blk_frozen BK465.out) | ((with_reducible refine gate_callee (f := 70) rfl ?_); refine goesC_ (some 11) Try.func70 #[.slice A0 l0.length c0, .agg #[.int .i64 a1_0, .int .i64 a1_1]] ?_; (with_reducible refine (spec_LeansOn.calls k _ _ l0 a1_0 a1_1 t466 _ ?side1 ?side2 A3.out).mono ?_); (case side1 => repeat (first | exact (Kd.C_below HR0.out HB.out) | (with_reducible refine Kd.C_alloc ?_ _) | (with_reducible refine Kd.C_drewN ?_ _) | (with_reducible refine Kd.C_drew ?_))); (case side2 => exact HC0.out); rintro e w6 ⟨v467, rfl, ho0, hb⟩; refine ⟨_, rfl, ?_⟩; have HO468 := Aside0.mk (Kd.R_lower (Kd.R_newB ho0 (g := gb465) (o := .cells #[.int .i64 a1_0, .int .i64 a1_1] 49 (0, 0)) (bk_ BK465)) bls_); replace BK465 := bkb_ BK465 hb; replace HB := hbs_ hb; (try clear hb); (try clear hb2); (try clear hk); (try clear hi); (try clear ho0)))
 go_loopg [5, 6] k (fun kq v5 v6 w' => ∃ (x5_1 : List (S49)) (x6_1 : Int), v6 = .int .i64 x6_1 ∧ Aside0 (spec_ReachRoles.l0 kq l0 x5_1 x6_1 = some r) ∧ Aside0 (kq ≤ k) ∧ Aside0 (Kd.R k49 49 w' w.heap.size (fun k_ => k_ ≠ gb465) v5 x5_1) ∧ Aside0 (w'.heap[gb465]? = some (.cells #[.int .i64 a1_0, .int .i64 a1_1] 49 (0, 0))) ∧ Aside0 (Below w.heap.size w w'))
 case atStart => exact ⟨(t466), (0), rf_, H', ⟨Nat.le_refl _⟩, ⟨by (with_reducible repeat (first | apply Kd.R_alloc | apply Kd.R_drewN | apply Kd.R_drew)); exact Kd.R_mono HO468.out (fun _ hk => hk.2)⟩, ⟨bk_ BK465⟩, ⟨bl_⟩⟩
 case round =>
  clear H'
  try clear p2
  try clear hcz5
  try clear hfz5
  obtain ⟨x5_1, x6_1, rfl, HA, HK1, HO_5, BK465, HB⟩ := hrel
  cases gk with
  | zero => exact absurd HA.out (by simp [spec_ReachRoles.l0])
  | succ k1 =>
   have H := HA.out
   clear HA
   simp only [spec_ReachRoles.l0] at H
   by_cases c7 : x6_1 < (x5_1.length : Int)
   ·rw [if_pos c7] at H
    have c7b0 : decide (x6_1 < (x5_1.length : Int)) = true := decide_eq_true c7
    clear c7
    obtain ⟨c8b0, H⟩ := ifd_ H
    obtain ⟨t470, A9, H⟩ := bindE_ H
    have H' := Aside0.mk H
    clear H
    obtain ⟨Ao10, co10, eo10⟩ := Kd.R_slice HO_5.out
    subst eo10
    have p469 : 0 ≤ (x6_1 : Int) := od_
    have q469 : x6_1 < (x5_1.length : Int) := od_
    obtain ⟨ad469, e469, hx469_0, hx469_1⟩ := at_T49 (Kd.R_reads' HO_5.out).2.2 x6_1 p469 q469
    cases e469
    replace p469 := eq_true p469
    replace q469 := eq_true q469
    go_wp2_with (first | ((with_reducible refine gate_callee (f := 70) rfl ?_); refine goesC_ (some 23) Try.func70 #[.slice A0 l0.length c0, .agg #[.int .i64 ((rd_T49 x5_1 x6_1).f0), .int .i64 ((rd_T49 x5_1 x6_1).f1)]] ?_; (with_reducible refine (spec_LeansOn.calls k1 _ _ l0 ((rd_T49 x5_1 x6_1).f0) ((rd_T49 x5_1 x6_1).f1) t470 _ ?side1 ?side2 A9.out).mono ?_); (case side1 => repeat (first | exact (Kd.C_below HR0.out HB.out) | (with_reducible refine Kd.C_alloc ?_ _) | (with_reducible refine Kd.C_drewN ?_ _) | (with_reducible refine Kd.C_drew ?_))); (case side2 => exact HC0.out); rintro e w11 ⟨v471, rfl, ho0, hb⟩; refine ⟨_, rfl, ?_⟩; have HO472 := Aside0.mk (Kd.R_lower (Kd.R_newB (Kd.R_new' ho0 (Kd.R_lt (by (with_reducible repeat (first | apply Kd.R_alloc | apply Kd.R_drewN | apply Kd.R_drew)); exact HO_5.out))) (g := gb465) (o := .cells #[.int .i64 a1_0, .int .i64 a1_1] 49 (0, 0)) (bk_ BK465)) bls_); replace HO_5 := Aside0.mk (Kd.R_elder' (by (with_reducible repeat (first | apply Kd.R_alloc | apply Kd.R_drewN | apply Kd.R_drew)); exact HO_5.out) (Kd.R_base ho0) hb); replace BK465 := bkb_ BK465 hb; replace HB := hbs_ hb; (try clear hb); (try clear hb2); (try clear hk); (try clear hi); (try clear ho0)))
    go_loopg [5, 8] k1 (fun kq v5 v8 w' => ∃ (x5_2 : List (S49)) (x8_2 : Int), v8 = .int .i64 x8_2 ∧ Aside0 (spec_ReachRoles.l1 kq l0 x5_2 x6_1 t470 x8_2 = some r) ∧ Aside0 (kq ≤ k1) ∧ Aside0 (Kd.R k49 49 w' w.heap.size (fun k_ => some k_ ≠ (v471 : Value).ownBlock ∧ k_ ≠ gb465) v5 x5_2) ∧ Aside0 (Kd.R k49 49 w' w.heap.size (fun k_ => some k_ ≠ (v5 : Value).ownBlock ∧ k_ ≠ gb465) v471 t470) ∧ Aside0 (w'.heap[gb465]? = some (.cells #[.int .i64 a1_0, .int .i64 a1_1] 49 (0, 0))) ∧ Aside0 (Below w.heap.size w w'))
    case atStart => exact ⟨(x5_1), (0), rf_, H', ⟨Nat.le_refl _⟩, ⟨by (with_reducible repeat (first | apply Kd.R_alloc | apply Kd.R_drewN | apply Kd.R_drew)); exact Kd.R_mono HO_5.out (fun _ hk => ⟨hk.2, hk.1⟩)⟩, ⟨by (with_reducible repeat (first | apply Kd.R_alloc | apply Kd.R_drewN | apply Kd.R_drew)); exact Kd.R_mono HO472.out (fun _ hk => ⟨hk.1.2, hk.2⟩)⟩, ⟨bk_ BK465⟩, ⟨bl_⟩⟩
    case round =>
     clear H'
     try clear p2
     try clear p4
     try clear q4
     try clear hx4
     try clear c7
     try clear c7b0
     try clear c8
     try clear c8b0
     try clear hcz5
     try clear hfz5
     try clear hx469_0
     try clear hx469_1
     try clear p2
     try clear p469
     try clear q469
     obtain ⟨x5_2, x8_2, rfl, HA, HK2, HO_5, HO_7, BK465, HB⟩ := hrel
     cases gk with
     | zero => exact absurd HA.out (by simp [spec_ReachRoles.l1])
     | succ k2 =>
      have H := HA.out
      clear HA
      simp only [spec_ReachRoles.l1] at H
      by_cases c12 : x8_2 < (t470.length : Int)
      ·rw [if_pos c12] at H
       have c12b0 : decide (x8_2 < (t470.length : Int)) = true := decide_eq_true c12
       clear c12
       obtain ⟨c13b0, H⟩ := ifd_ H
       obtain ⟨t474, A14, H⟩ := bindE_ H
       have H' := Aside0.mk H
       clear H
       obtain ⟨Ao15, co15, eo15⟩ := Kd.R_slice HO_7.out
       subst eo15
       have p473 : 0 ≤ (x8_2 : Int) := od_
       have q473 : x8_2 < (t470.length : Int) := od_
       obtain ⟨ad473, e473, hx473_0, hx473_1⟩ := at_T49 (Kd.R_reads' HO_7.out).2.2 x8_2 p473 q473
       cases e473
       replace p473 := eq_true p473
       replace q473 := eq_true q473
       obtain ⟨Ao16, co16, eo16⟩ := Kd.R_slice HO_5.out
       subst eo16
       go_wp2_with (first | ((with_reducible refine gate_callee (f := 126) rfl ?_); refine goesC_ (some 35) Try.func126 #[.slice Ao16 x5_2.length co16, .agg #[.int .i64 ((rd_T49 t470 x8_2).f0), .int .i64 ((rd_T49 t470 x8_2).f1)]] ?_; (with_reducible refine (spec_l18Add.calls k2 (fun k_ => some k_ = (.slice Ao16 x5_2.length co16 : Value).ownBlock) (.slice Ao16 x5_2.length co16) x5_2 ((rd_T49 t470 x8_2).f0) ((rd_T49 t470 x8_2).f1) t474 w _ ?side1 ?side2 A14.out).mono ?_); (case side1 => repeat (first | (with_reducible first | exact HB.out | apply below_alloc | apply pw_below_drewN | apply below_drew1 | refine below_set ?_ GE465.out) | exact HB.out)); (case side2 => exact Kd.R_tight rfl HO_5.out); rintro e w17 ⟨v475, rfl, ho0, hb, hkp⟩; refine ⟨_, rfl, ?_⟩; have HO476 := Aside0.mk (Kd.R_mono (ok' := fun k_ => some k_ ≠ (.slice (some ad473) t470.length co15 : Value).ownBlock ∧ k_ ≠ gb465) ho0 (fun k_ hk_ => ⟨Or.elim hk_ (fun hs_ => fun e_ => (((HO_7.out).1 k_ e_.symm).1) hs_) (fun hn_ => (Kd.fresh' (Kd.R_lt (by (with_reducible repeat (first | apply Kd.R_alloc | apply Kd.R_drewN | apply Kd.R_drew)); exact HO_7.out)) k_ hn_)), Or.elim hk_ (fun hs_ => fun e_ => (Kd.R_away HO_5.out (fun _ hk => hk.2)) (by rw [← e_]; exact hs_)) (fun hn_ => (Kd.freshB (g := gb465) (o := .cells #[.int .i64 a1_0, .int .i64 a1_1] 49 (0, 0)) (bk_ BK465) k_ hn_))⟩)); replace HO_7 := Aside0.mk (Kd.R_mono (ok' := fun k_ => k_ ≠ gb465 ∧ some k_ ≠ (v475 : Value).ownBlock) (Kd.R_keptB (HO_7.out) hkp (fun k_ hk_ hs_ => (hk_.1) hs_)) (fun k_ hk_ => ⟨hk_.1.2, fun e_ => Or.elim (ho0.1 k_ e_.symm) (fun hs_ => hk_.2.1 hs_) (fun hn_ => Nat.not_le.2 hk_.2.2 hn_)⟩)); replace BK465 := Aside0.mk (blk_kept (bk_ BK465) hkp (fun hs_ => (fun e_ => (Kd.R_away HO_5.out (fun _ hk => hk.2)) e_) hs_)); replace HB := Aside0.mk (hb); clear HO_5; (try clear hb); (try clear hkp); (try clear ho0)))
       go_roundg k2
       case measure => have := HK1.out; have := HK2.out; omega
       case rel => exact ⟨(t474), (wrap64 (x8_2 + 1)), rf_, H', ⟨by have := HK1.out; have := HK2.out; omega⟩, ⟨by (with_reducible repeat (first | apply Kd.R_alloc | apply Kd.R_drewN | apply Kd.R_drew)); exact HO476.out⟩, ⟨by (with_reducible repeat (first | apply Kd.R_alloc | apply Kd.R_drewN | apply Kd.R_drew)); exact Kd.R_mono HO_7.out (fun _ hk => ⟨hk.2, hk.1⟩)⟩, ⟨bk_ BK465⟩, ⟨bl_⟩⟩
      ·rw [if_neg c12] at H
       have c12b0 : decide (x8_2 < (t470.length : Int)) = false := decide_eq_false c12
       clear c12
       have H' := Aside0.mk H
       clear H
       obtain ⟨Ao18, co18, eo18⟩ := Kd.R_slice HO_7.out
       subst eo18
       go_wp2
       go_roundg k2
       case measure => have := HK1.out; have := HK2.out; omega
       case rel => exact ⟨(x5_2), (wrap64 (x6_1 + 1)), rf_, H', ⟨by have := HK1.out; have := HK2.out; omega⟩, ⟨by (with_reducible repeat (first | apply Kd.R_alloc | apply Kd.R_drewN | apply Kd.R_drew)); exact Kd.R_mono HO_5.out (fun _ hk => hk.2)⟩, ⟨bk_ BK465⟩, ⟨bl_⟩⟩
   ·rw [if_neg c7] at H
    have c7b0 : decide (x6_1 < (x5_1.length : Int)) = false := decide_eq_false c7
    clear c7
    obtain rfl := Option.some.inj H
    obtain ⟨Ao19, co19, eo19⟩ := Kd.R_slice HO_5.out
    subst eo19
    go_wp2
    go_ret
    exact ⟨_, eq_, by (with_reducible repeat (first | apply Kd.R_alloc | apply Kd.R_drewN | apply Kd.R_drew)); exact Kd.R_mono HO_5.out (fun _ hk => trivial), bl_⟩
end Go.Proofs.Ytjpjidgfcljpcaa.PA
