import Derived.Test.YtcgnegnljffkmaaKFnExactHoldsAtPBx0
import Derived.Test.YtcgnegnljffkmaaKFnExactHoldsAtPBx3
import Derived.Test.YtcgnegnljffkmaaKFnExactHoldsAtPBx5
import Derived.Test.YtcgnegnljffkmaaKFnExactHoldsAtPBx6
import Derived.Test.YtcgnegnljffkmaaKFnExactHoldsAtPBx13
import Derived.Test.YtcgnegnljffkmaaKFnExactHoldsAtPBx25
-- A text of this claim: written by the session's own program out of the translation (wip/tools). Lean checks it.
namespace Go.Proofs.Ytcgnegnljffkmaa.PB
open Go.RowKit Go.Proofs.YtcgnegnljffkmaaW.PrintWords Go.Proofs.YtcgnegnljffkmaaW.PrintLast Go.Proofs.YtcgnegnljffkmaaW.PrintMore
attribute [local go_sem] max2_int min2_int max_two min_two max_three min_three max_four min_four   -- for this text's walks alone
set_option linter.unusedVariables false
set_option linter.unusedSimpArgs false
def impl_Alive.l0 : Nat → Int → List (S29) → List (S29) → Int → Int → Option ((List (S29)))
 | 0, _, _, _, _, _ => none
 | k + 1, x1, x5, x9, x10, x11 => if x11 < x10 then (if 0 ≤ x11 then (if x11 < (x9.length : Int) then ((impl_CredOk.f k ((rd_T29 x9 x11).f0) ((rd_T29 x9 x11).f1.f0) ((rd_T29 x9 x11).f1.f1) ((rd_T29 x9 x11).f2) ((rd_T29 x9 x11).f3.f0) ((rd_T29 x9 x11).f3.f1) ((rd_T29 x9 x11).f4.f0) ((rd_T29 x9 x11).f4.f1) ((rd_T29 x9 x11).f5) ((rd_T29 x9 x11).f6)).bind fun t793 => (if t793 = true then (if ((rd_T29 x9 x11).f5) ≥ x1 then (if x5.length < 1759218604441 then (impl_Alive.l0 k x1 (x5 ++ [(⟨(rd_T29 x9 x11).f0, (⟨(rd_T29 x9 x11).f1.f0, (rd_T29 x9 x11).f1.f1⟩ : S27), (rd_T29 x9 x11).f2, (⟨(rd_T29 x9 x11).f3.f0, (rd_T29 x9 x11).f3.f1⟩ : S27), (⟨(rd_T29 x9 x11).f4.f0, (rd_T29 x9 x11).f4.f1⟩ : S27), (rd_T29 x9 x11).f5, (rd_T29 x9 x11).f6⟩ : S29)]) x9 x10 (wrap64 (x11 + 1))) else (none)) else (impl_Alive.l0 k x1 x5 x9 x10 (wrap64 (x11 + 1)))) else (impl_Alive.l0 k x1 x5 x9 x10 (wrap64 (x11 + 1))))) else (none)) else (none)) else (some x5)
def impl_Alive.f (k : Nat) (l0 : List (S29)) (a1 : Int) : Option ((List (S29))) := impl_Alive.l0 k a1 (([] : List (S29))) l0 (l0.length : Int) 0
set_option maxHeartbeats 8000000 in
set_option maxRecDepth 100000 in
theorem impl_Alive.calls (k : Nat) (A0 : Option Addr) (c0 : Nat) (l0 : List (S29)) (a1 : Int) (r : List (S29)) (w : World) (hr0 : Kd.C k29 w A0 l0.length l0) (hc0 : l0.length ≤ c0) (h : impl_Alive.f k l0 a1 = some r) :
  Calls Try.prog 123 #[.slice A0 l0.length c0, .int .i64 a1] w fun e w' => ∃ v0_ : Value, e = .returned (v0_) ∧ Kd.R k29 29 w' w.heap.size (fun _ => True) v0_ r ∧ Below w.heap.size w w' := by
 have hu29 := Try.underlying29
 have HR0 := Aside0.mk hr0
 have HC0 := Aside0.mk hc0
 clear hr0 hc0
 have HB := Aside0.mk (Below.refl w.heap.size w)
 have H : (impl_Alive.l0 k a1 (([] : List (S29))) l0 (l0.length : Int) 0) = some r := h
 clear h
 obtain ⟨y788, hy788⟩ : ∃ y_ : List (S29), y_ = (([] : List (S29))) := ⟨_, rfl⟩
 replace H : (impl_Alive.l0 k a1 y788 l0 (l0.length : Int) 0) = some r := by first | (rw [hy788]; with_reducible exact H) | (have H2_ := (Option.bind_some _ _).symm.trans H; rw [hy788]; with_reducible exact H2_) | (have H2_ := (Option.bind_some _ _).symm.trans H; with_reducible exact H2_) | with_reducible exact H | (rw [hy788]; exact H) | exact H
 have Ny788 := Aside0.mk hy788
 clear hy788
 have H' := Aside0.mk H
 clear H
 go_enter Try.func123, Try.ntmps123
 go_wp2_with (first | ((with_reducible refine gate_dst (N := 8) rfl ?_); refine Kd.R_lit k29 _ 29 ?hg (N := 8) ?hd (xs := ([] : List (S29))) (inner := []) (ok := fun _ => True) (okp := fun _ => True) ?hr ?hp (fun _ hk => hk) trivial (Below.refl _ _) (Nat.le_refl _) (by simp) ?_; (case hd => rfl); (case hg => rfl); (case hr => first | (go_simp; done) | (go_simp; rfl)); (case hp => exact (Reps.none _ _)); intro v789 w3 ho4 hb hg_ hnew_; clear hg_ hnew_; (first | rw [← Ny788.out] at ho4 | (simp only [Int.reduceToNat] at ho4; rw [← Ny788.out] at ho4)); have HO790 := Aside0.mk (Kd.R_lower ho4 bls_); replace HB := hbs_ hb; clear hb ho4))
 go_loopg [5, 11] k (fun kq v5 v11 w' => ∃ (x5_1 : List (S29)) (x11_1 : Int), v11 = .int .i64 x11_1 ∧ Aside0 (impl_Alive.l0 kq a1 x5_1 l0 (l0.length : Int) x11_1 = some r) ∧ Aside0 (kq ≤ k) ∧ Aside0 (Kd.R k29 29 w' w.heap.size (fun _ => True) v5 x5_1) ∧ Aside0 (Below w.heap.size w w'))
 case atStart => exact ⟨(y788), (0), (by first | rfl | (simp; done) | (simp [*]; done)), H', ⟨Nat.le_refl _⟩, ⟨by (with_reducible repeat (first | apply Kd.R_alloc | apply Kd.R_drewN | apply Kd.R_drew)); exact HO790.out⟩, ⟨bl_⟩⟩
 case round =>
  clear H'
  try clear c1
  try clear p2
  obtain ⟨x5_1, x11_1, rfl, HA, HK1, HO_5, HB⟩ := hrel
  cases gk with
  | zero => exact absurd HA.out (by simp [impl_Alive.l0])
  | succ k1 =>
   have H := HA.out
   clear HA
   simp only [impl_Alive.l0] at H
   by_cases c5 : x11_1 < (l0.length : Int)
   ·rw [if_pos c5] at H
    have c5b0 : decide (x11_1 < (l0.length : Int)) = true := decide_eq_true c5
    clear c5
    by_cases c6 : 0 ≤ x11_1
    ·rw [if_pos c6] at H
     have c6b0 : decide (0 ≤ x11_1) = true := decide_eq_true c6
     clear c6
     by_cases c7 : x11_1 < (l0.length : Int)
     ·rw [if_pos c7] at H
      have c7b0 : decide (x11_1 < (l0.length : Int)) = true := decide_eq_true c7
      clear c7
      obtain ⟨t793, A8, H⟩ := bindE_ H
      by_cases c9 : t793 = true
      ·subst c9
       replace H := ite_t_ H
       by_cases c10 : ((rd_T29 l0 x11_1).f5) ≥ a1
       ·rw [if_pos c10] at H
        have c10b0 : decide (a1 ≤ ((rd_T29 l0 x11_1).f5)) = true := decide_eq_true c10
        clear c10
        by_cases c11 : x5_1.length < 1759218604441
        ·rw [if_pos c11] at H
         have LMc11 := Aside0.mk c11
         clear c11
         obtain ⟨y794, hy794⟩ : ∃ y_ : List (S29), y_ = (x5_1 ++ [(⟨(rd_T29 l0 x11_1).f0, (⟨(rd_T29 l0 x11_1).f1.f0, (rd_T29 l0 x11_1).f1.f1⟩ : S27), (rd_T29 l0 x11_1).f2, (⟨(rd_T29 l0 x11_1).f3.f0, (rd_T29 l0 x11_1).f3.f1⟩ : S27), (⟨(rd_T29 l0 x11_1).f4.f0, (rd_T29 l0 x11_1).f4.f1⟩ : S27), (rd_T29 l0 x11_1).f5, (rd_T29 l0 x11_1).f6⟩ : S29)]) := ⟨_, rfl⟩
         replace H : (impl_Alive.l0 k1 a1 y794 l0 (l0.length : Int) (wrap64 (x11_1 + 1))) = some r := by first | (rw [hy794]; with_reducible exact H) | (have H2_ := (Option.bind_some _ _).symm.trans H; rw [hy794]; with_reducible exact H2_) | (have H2_ := (Option.bind_some _ _).symm.trans H; with_reducible exact H2_) | with_reducible exact H | (rw [hy794]; exact H) | exact H
         have Ny794 := Aside0.mk hy794
         clear hy794
         have H' := Aside0.mk H
         clear H
         have p791 : 0 ≤ (x11_1 : Int) := of_decide_eq_true (by first | (with_reducible assumption) | assumption)
         have q791 : x11_1 < (l0.length : Int) := of_decide_eq_true (by first | (with_reducible assumption) | assumption)
         obtain ⟨ad791, e791, hx791_0, hx791_1, hx791_2, hx791_3, hx791_4, hx791_5, hx791_6, hx791_7, hx791_8, hx791_9⟩ := at_T29 (Kd.C_below HR0.out HB.out) x11_1 p791 q791
         cases e791
         replace p791 := eq_true p791
         replace q791 := eq_true q791
         go_wp2_with (first | ((with_reducible refine gate_dst (N := 7) rfl ?_); refine box_event ?hg (N := 7) ?hd (cs := #[.int .i64 0, .int .i64 0, .int .i64 0, .int .i64 0, .int .i64 0, .int .i64 0, .int .i64 0, .int .i64 0, .int .i64 0, .int .i64 0]) (t := 29) ?hr ?_; (case hd => rfl); (case hg => rfl); (case hr => first | (go_simp; done) | (go_simp; rfl)); intro gb792 hg w12 hbox hb; replace HO_5 := Aside0.mk (Kd.R_below (Kd.R_elderB (by (with_reducible repeat (first | apply Kd.R_alloc | apply Kd.R_drewN | apply Kd.R_drew)); exact HO_5.out) gb792 (Nat.le_of_eq hg.symm)) hb); have BK792 := Aside0.mk (hbox); have GW792 := gs_ hg; have GE792 := gs_ hg; replace HB := hbs_ hb; clear hb hbox hg; have hcz13 := blk_cell BK792.out; have hfz13 := blk_frozen BK792.out) | ((with_reducible refine gate_callee (f := 71) rfl ?_); refine goesC_ (some 16) Try.func71 #[.agg #[.int .i64 ((rd_T29 l0 x11_1).f0), .int .i64 ((rd_T29 l0 x11_1).f1.f0), .int .i64 ((rd_T29 l0 x11_1).f1.f1), .int .i64 ((rd_T29 l0 x11_1).f2), .int .i64 ((rd_T29 l0 x11_1).f3.f0), .int .i64 ((rd_T29 l0 x11_1).f3.f1), .int .i64 ((rd_T29 l0 x11_1).f4.f0), .int .i64 ((rd_T29 l0 x11_1).f4.f1), .int .i64 ((rd_T29 l0 x11_1).f5), .int .i64 ((rd_T29 l0 x11_1).f6)]] ?_; (with_reducible refine (impl_CredOk.calls k1 ((rd_T29 l0 x11_1).f0) ((rd_T29 l0 x11_1).f1.f0) ((rd_T29 l0 x11_1).f1.f1) ((rd_T29 l0 x11_1).f2) ((rd_T29 l0 x11_1).f3.f0) ((rd_T29 l0 x11_1).f3.f1) ((rd_T29 l0 x11_1).f4.f0) ((rd_T29 l0 x11_1).f4.f1) ((rd_T29 l0 x11_1).f5) ((rd_T29 l0 x11_1).f6) true _ A8.out).mono ?_); rintro e w14 ⟨rfl, hb⟩; refine ⟨_, rfl, ?_⟩; replace HO_5 := Aside0.mk (Kd.R_below (by (with_reducible repeat (first | apply Kd.R_alloc | apply Kd.R_drewN | apply Kd.R_drew)); exact (Kd.R_mono (Kd.R_far (p := ⟨gb792, 9, none⟩) (Kd.R_far (p := ⟨gb792, 8, none⟩) (Kd.R_far (p := ⟨gb792, 7, none⟩) (Kd.R_far (p := ⟨gb792, 6, none⟩) (Kd.R_far (p := ⟨gb792, 5, none⟩) (Kd.R_far (p := ⟨gb792, 4, none⟩) (Kd.R_far (p := ⟨gb792, 3, none⟩) (Kd.R_far (p := ⟨gb792, 2, none⟩) (Kd.R_far (p := ⟨gb792, 1, none⟩) (Kd.R_far (p := ⟨gb792, 0, none⟩) (Kd.R_mono HO_5.out (fun k_ hk => (⟨hk, hk.2⟩ : _ ∧ k_ ≠ gb792))) (fun _ hk => hk.2) (.int .i64 ((rd_T29 l0 x11_1).f0))) (fun _ hk => hk.2) (.int .i64 ((rd_T29 l0 x11_1).f1.f0))) (fun _ hk => hk.2) (.int .i64 ((rd_T29 l0 x11_1).f1.f1))) (fun _ hk => hk.2) (.int .i64 ((rd_T29 l0 x11_1).f2))) (fun _ hk => hk.2) (.int .i64 ((rd_T29 l0 x11_1).f3.f0))) (fun _ hk => hk.2) (.int .i64 ((rd_T29 l0 x11_1).f3.f1))) (fun _ hk => hk.2) (.int .i64 ((rd_T29 l0 x11_1).f4.f0))) (fun _ hk => hk.2) (.int .i64 ((rd_T29 l0 x11_1).f4.f1))) (fun _ hk => hk.2) (.int .i64 ((rd_T29 l0 x11_1).f5))) (fun _ hk => hk.2) (.int .i64 ((rd_T29 l0 x11_1).f6))) (fun _ h_ => h_.1))) hb); replace BK792 := Aside0.mk (blk_below (g := gb792) (o := .cells #[.int .i64 ((rd_T29 l0 x11_1).f0), .int .i64 ((rd_T29 l0 x11_1).f1.f0), .int .i64 ((rd_T29 l0 x11_1).f1.f1), .int .i64 ((rd_T29 l0 x11_1).f2), .int .i64 ((rd_T29 l0 x11_1).f3.f0), .int .i64 ((rd_T29 l0 x11_1).f3.f1), .int .i64 ((rd_T29 l0 x11_1).f4.f0), .int .i64 ((rd_T29 l0 x11_1).f4.f1), .int .i64 ((rd_T29 l0 x11_1).f5), .int .i64 ((rd_T29 l0 x11_1).f6)] 29 (0, 0)) (bk_ BK792) hb); replace HB := hbs_ hb; clear hb; have hcz15 := blk_cell BK792.out; have hfz15 := blk_frozen BK792.out) | ((with_reducible refine gate_builtin (b := .append) (xs := #[.tmp 23, .tmp 25]) rfl ?_); at_builtin; refine Kd.R_append k29 (w0 := w) w.heap.size rfl (.tmp 23) (.tmp 25) 46 29 (.agg #[(.int .i64 0), (.int .i64 0), (.int .i64 0), (.int .i64 0), (.int .i64 0), (.int .i64 0), (.int .i64 0), (.int .i64 0), (.int .i64 0), (.int .i64 0)]) 80 rfl Try.underlying46 info29 rfl (by decide) (by omega) u5 x5_1 (⟨(rd_T29 l0 x11_1).f0, (⟨(rd_T29 l0 x11_1).f1.f0, (rd_T29 l0 x11_1).f1.f1⟩ : S27), (rd_T29 l0 x11_1).f2, (⟨(rd_T29 l0 x11_1).f3.f0, (rd_T29 l0 x11_1).f3.f1⟩ : S27), (⟨(rd_T29 l0 x11_1).f4.f0, (rd_T29 l0 x11_1).f4.f1⟩ : S27), (rd_T29 l0 x11_1).f5, (rd_T29 l0 x11_1).f6⟩ : S29) [.int .i64 ((rd_T29 l0 x11_1).f0), .int .i64 ((rd_T29 l0 x11_1).f1.f0), .int .i64 ((rd_T29 l0 x11_1).f1.f1), .int .i64 ((rd_T29 l0 x11_1).f2), .int .i64 ((rd_T29 l0 x11_1).f3.f0), .int .i64 ((rd_T29 l0 x11_1).f3.f1), .int .i64 ((rd_T29 l0 x11_1).f4.f0), .int .i64 ((rd_T29 l0 x11_1).f4.f1), .int .i64 ((rd_T29 l0 x11_1).f5), .int .i64 ((rd_T29 l0 x11_1).f6)] (fun k_ => k_ ≠ gb792) (fun _ => False) rfl rfl ?aP (fun _ hk => hk.elim) ?aF ?aO ?aB ?aS ?aL ?_; (case aP => exact k29_mkM _ _ _ (⟨(rd_T29 l0 x11_1).f0, (⟨(rd_T29 l0 x11_1).f1.f0, (rd_T29 l0 x11_1).f1.f1⟩ : S27), (rd_T29 l0 x11_1).f2, (⟨(rd_T29 l0 x11_1).f3.f0, (rd_T29 l0 x11_1).f3.f1⟩ : S27), (⟨(rd_T29 l0 x11_1).f4.f0, (rd_T29 l0 x11_1).f4.f1⟩ : S27), (rd_T29 l0 x11_1).f5, (rd_T29 l0 x11_1).f6⟩ : S29)); (case aB => exact bl_); (case aF => exact (fun k_ hk => Kd.freshB (g := gb792) (o := .cells #[.int .i64 ((rd_T29 l0 x11_1).f0), .int .i64 ((rd_T29 l0 x11_1).f1.f0), .int .i64 ((rd_T29 l0 x11_1).f1.f1), .int .i64 ((rd_T29 l0 x11_1).f2), .int .i64 ((rd_T29 l0 x11_1).f3.f0), .int .i64 ((rd_T29 l0 x11_1).f3.f1), .int .i64 ((rd_T29 l0 x11_1).f4.f0), .int .i64 ((rd_T29 l0 x11_1).f4.f1), .int .i64 ((rd_T29 l0 x11_1).f5), .int .i64 ((rd_T29 l0 x11_1).f6)] 29 (0, 0)) (bk_ BK792) k_ hk)); (case aO => exact (by (with_reducible repeat (first | apply Kd.R_alloc | apply Kd.R_drewN | apply Kd.R_drew)); exact Kd.R_mono HO_5.out (fun _ hk => hk.2))); (case aS => exact bls_); (case aL => have := LMc11.out; omega); intro v795 w16 ho hb hg hat; rw [← Ny794.out] at ho; replace BK792 := Aside0.mk (blk_grown (g := gb792) (o := .cells #[.int .i64 ((rd_T29 l0 x11_1).f0), .int .i64 ((rd_T29 l0 x11_1).f1.f0), .int .i64 ((rd_T29 l0 x11_1).f1.f1), .int .i64 ((rd_T29 l0 x11_1).f2), .int .i64 ((rd_T29 l0 x11_1).f3.f0), .int .i64 ((rd_T29 l0 x11_1).f3.f1), .int .i64 ((rd_T29 l0 x11_1).f4.f0), .int .i64 ((rd_T29 l0 x11_1).f4.f1), .int .i64 ((rd_T29 l0 x11_1).f5), .int .i64 ((rd_T29 l0 x11_1).f6)] 29 (0, 0)) (bk_ BK792) hg (Kd.R_away HO_5.out (fun _ hk => hk.2))); replace HB := Aside0.mk (hb); have HO796 := Aside0.mk (ho); clear HO_5; clear ho hb hg hat))
         go_roundg k1
         case measure => have := HK1.out; omega
         case rel => exact ⟨(y794), (wrap64 (x11_1 + 1)), (by first | rfl | (simp; done) | (simp [*]; done)), H', ⟨by have := HK1.out; omega⟩, ⟨by (with_reducible repeat (first | apply Kd.R_alloc | apply Kd.R_drewN | apply Kd.R_drew)); exact Kd.R_mono HO796.out (fun _ hk => trivial)⟩, ⟨bl_⟩⟩
        ·rw [if_neg c11] at H
         exact absurd H (by simp)
       ·rw [if_neg c10] at H
        have c10b0 : decide (a1 ≤ ((rd_T29 l0 x11_1).f5)) = false := decide_eq_false c10
        clear c10
        have H' := Aside0.mk H
        clear H
        have p791 : 0 ≤ (x11_1 : Int) := of_decide_eq_true (by first | (with_reducible assumption) | assumption)
        have q791 : x11_1 < (l0.length : Int) := of_decide_eq_true (by first | (with_reducible assumption) | assumption)
        obtain ⟨ad791, e791, hx791_0, hx791_1, hx791_2, hx791_3, hx791_4, hx791_5, hx791_6, hx791_7, hx791_8, hx791_9⟩ := at_T29 (Kd.C_below HR0.out HB.out) x11_1 p791 q791
        cases e791
        replace p791 := eq_true p791
        replace q791 := eq_true q791
        go_wp2_with (first | ((with_reducible refine gate_dst (N := 7) rfl ?_); refine box_event ?hg (N := 7) ?hd (cs := #[.int .i64 0, .int .i64 0, .int .i64 0, .int .i64 0, .int .i64 0, .int .i64 0, .int .i64 0, .int .i64 0, .int .i64 0, .int .i64 0]) (t := 29) ?hr ?_; (case hd => rfl); (case hg => rfl); (case hr => first | (go_simp; done) | (go_simp; rfl)); intro gb792 hg w17 hbox hb; replace HO_5 := Aside0.mk (Kd.R_below (Kd.R_elderB (by (with_reducible repeat (first | apply Kd.R_alloc | apply Kd.R_drewN | apply Kd.R_drew)); exact HO_5.out) gb792 (Nat.le_of_eq hg.symm)) hb); have BK792 := Aside0.mk (hbox); have GW792 := gs_ hg; have GE792 := gs_ hg; replace HB := hbs_ hb; clear hb hbox hg; have hcz18 := blk_cell BK792.out; have hfz18 := blk_frozen BK792.out) | ((with_reducible refine gate_callee (f := 71) rfl ?_); refine goesC_ (some 16) Try.func71 #[.agg #[.int .i64 ((rd_T29 l0 x11_1).f0), .int .i64 ((rd_T29 l0 x11_1).f1.f0), .int .i64 ((rd_T29 l0 x11_1).f1.f1), .int .i64 ((rd_T29 l0 x11_1).f2), .int .i64 ((rd_T29 l0 x11_1).f3.f0), .int .i64 ((rd_T29 l0 x11_1).f3.f1), .int .i64 ((rd_T29 l0 x11_1).f4.f0), .int .i64 ((rd_T29 l0 x11_1).f4.f1), .int .i64 ((rd_T29 l0 x11_1).f5), .int .i64 ((rd_T29 l0 x11_1).f6)]] ?_; (with_reducible refine (impl_CredOk.calls k1 ((rd_T29 l0 x11_1).f0) ((rd_T29 l0 x11_1).f1.f0) ((rd_T29 l0 x11_1).f1.f1) ((rd_T29 l0 x11_1).f2) ((rd_T29 l0 x11_1).f3.f0) ((rd_T29 l0 x11_1).f3.f1) ((rd_T29 l0 x11_1).f4.f0) ((rd_T29 l0 x11_1).f4.f1) ((rd_T29 l0 x11_1).f5) ((rd_T29 l0 x11_1).f6) true _ A8.out).mono ?_); rintro e w19 ⟨rfl, hb⟩; refine ⟨_, rfl, ?_⟩; replace HO_5 := Aside0.mk (Kd.R_below (by (with_reducible repeat (first | apply Kd.R_alloc | apply Kd.R_drewN | apply Kd.R_drew)); exact (Kd.R_mono (Kd.R_far (p := ⟨gb792, 9, none⟩) (Kd.R_far (p := ⟨gb792, 8, none⟩) (Kd.R_far (p := ⟨gb792, 7, none⟩) (Kd.R_far (p := ⟨gb792, 6, none⟩) (Kd.R_far (p := ⟨gb792, 5, none⟩) (Kd.R_far (p := ⟨gb792, 4, none⟩) (Kd.R_far (p := ⟨gb792, 3, none⟩) (Kd.R_far (p := ⟨gb792, 2, none⟩) (Kd.R_far (p := ⟨gb792, 1, none⟩) (Kd.R_far (p := ⟨gb792, 0, none⟩) (Kd.R_mono HO_5.out (fun k_ hk => (⟨hk, hk.2⟩ : _ ∧ k_ ≠ gb792))) (fun _ hk => hk.2) (.int .i64 ((rd_T29 l0 x11_1).f0))) (fun _ hk => hk.2) (.int .i64 ((rd_T29 l0 x11_1).f1.f0))) (fun _ hk => hk.2) (.int .i64 ((rd_T29 l0 x11_1).f1.f1))) (fun _ hk => hk.2) (.int .i64 ((rd_T29 l0 x11_1).f2))) (fun _ hk => hk.2) (.int .i64 ((rd_T29 l0 x11_1).f3.f0))) (fun _ hk => hk.2) (.int .i64 ((rd_T29 l0 x11_1).f3.f1))) (fun _ hk => hk.2) (.int .i64 ((rd_T29 l0 x11_1).f4.f0))) (fun _ hk => hk.2) (.int .i64 ((rd_T29 l0 x11_1).f4.f1))) (fun _ hk => hk.2) (.int .i64 ((rd_T29 l0 x11_1).f5))) (fun _ hk => hk.2) (.int .i64 ((rd_T29 l0 x11_1).f6))) (fun _ h_ => h_.1))) hb); replace BK792 := Aside0.mk (blk_below (g := gb792) (o := .cells #[.int .i64 ((rd_T29 l0 x11_1).f0), .int .i64 ((rd_T29 l0 x11_1).f1.f0), .int .i64 ((rd_T29 l0 x11_1).f1.f1), .int .i64 ((rd_T29 l0 x11_1).f2), .int .i64 ((rd_T29 l0 x11_1).f3.f0), .int .i64 ((rd_T29 l0 x11_1).f3.f1), .int .i64 ((rd_T29 l0 x11_1).f4.f0), .int .i64 ((rd_T29 l0 x11_1).f4.f1), .int .i64 ((rd_T29 l0 x11_1).f5), .int .i64 ((rd_T29 l0 x11_1).f6)] 29 (0, 0)) (bk_ BK792) hb); replace HB := hbs_ hb; clear hb; have hcz20 := blk_cell BK792.out; have hfz20 := blk_frozen BK792.out))
        go_roundg k1
        case measure => have := HK1.out; omega
        case rel => exact ⟨(x5_1), (wrap64 (x11_1 + 1)), (by first | rfl | (simp; done) | (simp [*]; done)), H', ⟨by have := HK1.out; omega⟩, ⟨by (with_reducible repeat (first | apply Kd.R_alloc | apply Kd.R_drewN | apply Kd.R_drew)); exact Kd.R_mono HO_5.out (fun _ hk => trivial)⟩, ⟨bl_⟩⟩
      ·replace c9 := Bool.eq_false_iff.mpr c9
       subst c9
       replace H := ite_f_ H
       have H' := Aside0.mk H
       clear H
       have p791 : 0 ≤ (x11_1 : Int) := of_decide_eq_true (by first | (with_reducible assumption) | assumption)
       have q791 : x11_1 < (l0.length : Int) := of_decide_eq_true (by first | (with_reducible assumption) | assumption)
       obtain ⟨ad791, e791, hx791_0, hx791_1, hx791_2, hx791_3, hx791_4, hx791_5, hx791_6, hx791_7, hx791_8, hx791_9⟩ := at_T29 (Kd.C_below HR0.out HB.out) x11_1 p791 q791
       cases e791
       replace p791 := eq_true p791
       replace q791 := eq_true q791
       go_wp2_with (first | ((with_reducible refine gate_dst (N := 7) rfl ?_); refine box_event ?hg (N := 7) ?hd (cs := #[.int .i64 0, .int .i64 0, .int .i64 0, .int .i64 0, .int .i64 0, .int .i64 0, .int .i64 0, .int .i64 0, .int .i64 0, .int .i64 0]) (t := 29) ?hr ?_; (case hd => rfl); (case hg => rfl); (case hr => first | (go_simp; done) | (go_simp; rfl)); intro gb792 hg w21 hbox hb; replace HO_5 := Aside0.mk (Kd.R_below (Kd.R_elderB (by (with_reducible repeat (first | apply Kd.R_alloc | apply Kd.R_drewN | apply Kd.R_drew)); exact HO_5.out) gb792 (Nat.le_of_eq hg.symm)) hb); have BK792 := Aside0.mk (hbox); have GW792 := gs_ hg; have GE792 := gs_ hg; replace HB := hbs_ hb; clear hb hbox hg; have hcz22 := blk_cell BK792.out; have hfz22 := blk_frozen BK792.out) | ((with_reducible refine gate_callee (f := 71) rfl ?_); refine goesC_ (some 16) Try.func71 #[.agg #[.int .i64 ((rd_T29 l0 x11_1).f0), .int .i64 ((rd_T29 l0 x11_1).f1.f0), .int .i64 ((rd_T29 l0 x11_1).f1.f1), .int .i64 ((rd_T29 l0 x11_1).f2), .int .i64 ((rd_T29 l0 x11_1).f3.f0), .int .i64 ((rd_T29 l0 x11_1).f3.f1), .int .i64 ((rd_T29 l0 x11_1).f4.f0), .int .i64 ((rd_T29 l0 x11_1).f4.f1), .int .i64 ((rd_T29 l0 x11_1).f5), .int .i64 ((rd_T29 l0 x11_1).f6)]] ?_; (with_reducible refine (impl_CredOk.calls k1 ((rd_T29 l0 x11_1).f0) ((rd_T29 l0 x11_1).f1.f0) ((rd_T29 l0 x11_1).f1.f1) ((rd_T29 l0 x11_1).f2) ((rd_T29 l0 x11_1).f3.f0) ((rd_T29 l0 x11_1).f3.f1) ((rd_T29 l0 x11_1).f4.f0) ((rd_T29 l0 x11_1).f4.f1) ((rd_T29 l0 x11_1).f5) ((rd_T29 l0 x11_1).f6) false _ A8.out).mono ?_); rintro e w23 ⟨rfl, hb⟩; refine ⟨_, rfl, ?_⟩; replace HO_5 := Aside0.mk (Kd.R_below (by (with_reducible repeat (first | apply Kd.R_alloc | apply Kd.R_drewN | apply Kd.R_drew)); exact (Kd.R_mono (Kd.R_far (p := ⟨gb792, 9, none⟩) (Kd.R_far (p := ⟨gb792, 8, none⟩) (Kd.R_far (p := ⟨gb792, 7, none⟩) (Kd.R_far (p := ⟨gb792, 6, none⟩) (Kd.R_far (p := ⟨gb792, 5, none⟩) (Kd.R_far (p := ⟨gb792, 4, none⟩) (Kd.R_far (p := ⟨gb792, 3, none⟩) (Kd.R_far (p := ⟨gb792, 2, none⟩) (Kd.R_far (p := ⟨gb792, 1, none⟩) (Kd.R_far (p := ⟨gb792, 0, none⟩) (Kd.R_mono HO_5.out (fun k_ hk => (⟨hk, hk.2⟩ : _ ∧ k_ ≠ gb792))) (fun _ hk => hk.2) (.int .i64 ((rd_T29 l0 x11_1).f0))) (fun _ hk => hk.2) (.int .i64 ((rd_T29 l0 x11_1).f1.f0))) (fun _ hk => hk.2) (.int .i64 ((rd_T29 l0 x11_1).f1.f1))) (fun _ hk => hk.2) (.int .i64 ((rd_T29 l0 x11_1).f2))) (fun _ hk => hk.2) (.int .i64 ((rd_T29 l0 x11_1).f3.f0))) (fun _ hk => hk.2) (.int .i64 ((rd_T29 l0 x11_1).f3.f1))) (fun _ hk => hk.2) (.int .i64 ((rd_T29 l0 x11_1).f4.f0))) (fun _ hk => hk.2) (.int .i64 ((rd_T29 l0 x11_1).f4.f1))) (fun _ hk => hk.2) (.int .i64 ((rd_T29 l0 x11_1).f5))) (fun _ hk => hk.2) (.int .i64 ((rd_T29 l0 x11_1).f6))) (fun _ h_ => h_.1))) hb); replace BK792 := Aside0.mk (blk_below (g := gb792) (o := .cells #[.int .i64 ((rd_T29 l0 x11_1).f0), .int .i64 ((rd_T29 l0 x11_1).f1.f0), .int .i64 ((rd_T29 l0 x11_1).f1.f1), .int .i64 ((rd_T29 l0 x11_1).f2), .int .i64 ((rd_T29 l0 x11_1).f3.f0), .int .i64 ((rd_T29 l0 x11_1).f3.f1), .int .i64 ((rd_T29 l0 x11_1).f4.f0), .int .i64 ((rd_T29 l0 x11_1).f4.f1), .int .i64 ((rd_T29 l0 x11_1).f5), .int .i64 ((rd_T29 l0 x11_1).f6)] 29 (0, 0)) (bk_ BK792) hb); replace HB := hbs_ hb; clear hb))
       go_roundg k1
       case measure => have := HK1.out; omega
       case rel => exact ⟨(x5_1), (wrap64 (x11_1 + 1)), (by first | rfl | (simp; done) | (simp [*]; done)), H', ⟨by have := HK1.out; omega⟩, ⟨by (with_reducible repeat (first | apply Kd.R_alloc | apply Kd.R_drewN | apply Kd.R_drew)); exact Kd.R_mono HO_5.out (fun _ hk => trivial)⟩, ⟨bl_⟩⟩
     ·rw [if_neg c7] at H
      exact absurd H (by simp)
    ·rw [if_neg c6] at H
     exact absurd H (by simp)
   ·rw [if_neg c5] at H
    have c5b0 : decide (x11_1 < (l0.length : Int)) = false := decide_eq_false c5
    clear c5
    obtain rfl := Option.some.inj H
    go_wp2
    go_ret
    exact ⟨_, eq_, by (with_reducible repeat (first | apply Kd.R_alloc | apply Kd.R_drewN | apply Kd.R_drew)); exact HO_5.out, bl_⟩
def impl_HoldsAt.f (k : Nat) (l0 : List (S29)) (a1_0 : Int) (a1_1 : Int) (a2 : Int) (a3 : Int) : Option (Bool) := (impl_Alive.f k l0 a3).bind fun t798 => ((impl_IsMember.f k t798 a1_0 a1_1 a2).bind fun t801 => (some t801))
set_option maxHeartbeats 8000000 in
set_option maxRecDepth 100000 in
theorem impl_HoldsAt.calls (k : Nat) (A0 : Option Addr) (c0 : Nat) (l0 : List (S29)) (a1_0 : Int) (a1_1 : Int) (a2 : Int) (a3 : Int) (r : Bool) (w : World) (hr0 : Kd.C k29 w A0 l0.length l0) (hc0 : l0.length ≤ c0) (h : impl_HoldsAt.f k l0 a1_0 a1_1 a2 a3 = some r) :
  Calls Try.prog 65 #[.slice A0 l0.length c0, .agg #[.int .i64 a1_0, .int .i64 a1_1], .int .i64 a2, .int .i64 a3] w fun e w' => e = .returned (.bool r) ∧ Below w.heap.size w w' := by
 have hu27 := Try.underlying27
 have HR0 := Aside0.mk hr0
 have HC0 := Aside0.mk hc0
 clear hr0 hc0
 have HB := Aside0.mk (Below.refl w.heap.size w)
 have H : ((impl_Alive.f k l0 a3).bind fun t798 => ((impl_IsMember.f k t798 a1_0 a1_1 a2).bind fun t801 => (some t801))) = some r := h
 clear h
 obtain ⟨t798, A5, H⟩ := bindE_ H
 obtain ⟨t801, A6, H⟩ := bindE_ H
 obtain rfl := Option.some.inj H
 go_enter Try.func65, Try.ntmps65
 try go_wp2_with (first | ((with_reducible refine gate_dst (N := 5) rfl ?_); refine box_event ?hg (N := 5) ?hd (cs := #[.int .i64 a1_0, .int .i64 a1_1]) (t := 27) ?hr ?_; (case hd => rfl); (case hg => rfl); (case hr => first | (go_simp; done) | (go_simp; rfl)); intro gb797 hg w7 hbox hb; have BK797 := Aside0.mk (hbox); have GW797 := gs_ hg; have GE797 := gs_ hg; replace HB := hbs_ hb; clear hb hbox hg))
 replace BK797 := Aside0.mk (blk_drew BK797.out)
 replace HB := Aside0.mk (below_drew1 HB.out)
 refine start_ (n := 7) (S := fun w' => w'.cell? ⟨gb797, 0, none⟩ = some (.int .i64 a1_0) ∧ w'.cell? ⟨gb797, 1, none⟩ = some (.int .i64 a1_1)) (ds := []) #[false, false, false, false, false, false, false] (by kernel_rfl) rfl rfl ⟨(blk_cell BK797.out 0).trans rfl, (blk_cell BK797.out 1).trans rfl⟩ (fun hHeld => ?_)
 generalize w7.drew = w8 at BK797 HB hHeld ⊢
 refine pure_ (i := 0) (N := some 9) (v := ?_) (a' := ?_) #[true, false, false, false, false, false, false] rfl rfl (by kernel_rfl) (fun _ _ _ h => h) (Or.inl ⟨by rfl, ?_⟩) ?_ ?_
 rotate_left
 ·intro w'
  go_simp
  with_reducible rfl
 rotate_left
 ·simp only [Act.put, List.setIfInBounds_toArray, List.set_cons_zero, List.set_cons_succ, i64_w, i32_w]
  rfl
 refine pure_ (i := 1) (N := some 10) (v := ?_) (a' := ?_) #[true, true, false, false, false, false, false] rfl rfl (by kernel_rfl) (fun _ _ _ h => h) (Or.inl ⟨by rfl, ?_⟩) ?_ ?_
 rotate_left
 ·intro w'
  go_simp
  with_reducible rfl
 rotate_left
 ·simp only [Act.put, List.setIfInBounds_toArray, List.set_cons_zero, List.set_cons_succ, i64_w, i32_w]
  rfl
 refine pure_ (i := 4) (N := some 13) (v := ?_) (a' := ?_) #[true, true, false, false, true, false, false] rfl rfl (by kernel_rfl) (fun _ _ _ h => h) (Or.inl ⟨by rfl, ?_⟩) ?_ ?_
 rotate_left
 ·intro w'
  go_simp
  with_reducible rfl
 rotate_left
 ·simp only [Act.put, List.setIfInBounds_toArray, List.set_cons_zero, List.set_cons_succ, i64_w, i32_w]
  rfl
 refine take_ (i := 3) (N := some 12) (v := ?_) (a' := ?_) #[true, true, false, true, true, false, false] rfl rfl (by kernel_rfl) (fun _ _ _ h => h) (Or.inl ⟨by rfl, ?_⟩) hHeld ?_ ?_
 rotate_left
 ·rintro w' ⟨s0, s1⟩
  go_simp
  with_reducible rfl
 rotate_left
 ·simp only [Act.put, List.setIfInBounds_toArray, List.set_cons_zero, List.set_cons_succ, i64_w, i32_w]
  rfl
 refine one_ (i := 2) (N := some 11) #[true, true, true, true, true, false, false] rfl rfl (by kernel_rfl) (by decide) (fun K hK => ?_)
 refine goes_ Try.func123 (by kernel_rfl) rfl #[.slice A0 l0.length c0, .int .i64 a3] (by rfl) rfl rfl (by (try simp only [List.map_toArray, List.map_cons, List.map_nil]); first | done | rfl | (simp only [List.length_drop, List.length_take]; rfl)) ?_
 with_reducible refine (impl_Alive.calls k _ _ l0 a3 t798 _ ?side1 ?side2 A5.out).mono ?_
 (case side1 => repeat (first | exact (Kd.C_below HR0.out HB.out) | (with_reducible refine Kd.C_alloc ?_ _) | (with_reducible refine Kd.C_drewN ?_ _) | (with_reducible refine Kd.C_drew ?_)))
 (case side2 => exact HC0.out)
 rintro e w9 ⟨v799, rfl, ho0, hb⟩
 refine ⟨_, rfl, ?_⟩
 have HO800 := Aside0.mk (Kd.R_lower ho0 bls_)
 replace BK797 := bkb_ BK797 hb
 replace HB := hbs_ hb
 (try clear hb)
 (try clear hb2)
 (try clear hk)
 (try clear hi)
 (try clear ho0)
 obtain ⟨Ao10, co10, eo10⟩ := Kd.R_slice HO800.out
 (first | subst eo10 | (injection eo10 with f1_ f2_ f3_; have f4_ := f1_.symm; have f5_ := f3_.symm; clear f1_ f2_ f3_; subst f4_; subst f5_))
 refine hK.out _ _ ⟨(blk_cell BK797.out 0).trans rfl, (blk_cell BK797.out 1).trans rfl⟩ (fun hHeld => ?_)
 clear hK K
 refine norm_ (a' := ?_) ?_ ?_
 rotate_left
 ·show Act.put _ (some 11) _ = _
  simp only [Act.put, List.setIfInBounds_toArray, List.set_cons_zero, List.set_cons_succ, i64_w, i32_w]
  rfl
 refine one_ (i := 5) (N := some 14) #[true, true, true, true, true, true, false] rfl rfl (by kernel_rfl) (by decide) (fun K hK => ?_)
 refine goes_ Try.func122 (by kernel_rfl) rfl #[.slice Ao10 t798.length co10, .agg #[.int .i64 a1_0, .int .i64 a1_1], .int .i64 a2] (by rfl) rfl rfl (by (try simp only [List.map_toArray, List.map_cons, List.map_nil]); first | done | rfl | (simp only [List.length_drop, List.length_take]; rfl)) ?_
 with_reducible refine (impl_IsMember.calls k _ _ t798 a1_0 a1_1 a2 t801 _ ?side1 ?side2 A6.out).mono ?_
 (case side1 => repeat (first | exact (Kd.R_reads' HO800.out).2.2 | (with_reducible refine Kd.C_alloc ?_ _) | (with_reducible refine Kd.C_drewN ?_ _) | (with_reducible refine Kd.C_drew ?_)))
 (case side2 => exact (Kd.R_reads' HO800.out).2.1)
 rintro e w11 ⟨rfl, hb⟩
 refine ⟨_, rfl, ?_⟩
 replace HO800 := Aside0.mk (Kd.R_below (by (with_reducible repeat (first | apply Kd.R_alloc | apply Kd.R_drewN | apply Kd.R_drew)); exact HO800.out) hb)
 replace BK797 := bkb_ BK797 hb
 replace HB := hbs_ hb
 (try clear hb)
 (try clear hb2)
 (try clear hk)
 (try clear hi)
 refine hK.out _ _ ⟨(blk_cell BK797.out 0).trans rfl, (blk_cell BK797.out 1).trans rfl⟩ (fun hHeld => ?_)
 clear hK K
 refine norm_ (a' := ?_) ?_ ?_
 rotate_left
 ·show Act.put _ (some 14) _ = _
  simp only [Act.put, List.setIfInBounds_toArray, List.set_cons_zero, List.set_cons_succ, i64_w, i32_w]
  rfl
 refine pure_ (i := 6) (N := some 8) (v := ?_) (a' := ?_) #[true, true, true, true, true, true, true] rfl rfl (by kernel_rfl) (fun _ _ _ h => h) (Or.inl ⟨by rfl, ?_⟩) ?_ ?_
 rotate_left
 ·intro w'
  go_simp
  with_reducible rfl
 rotate_left
 ·simp only [Act.put, List.setIfInBounds_toArray, List.set_cons_zero, List.set_cons_succ, i64_w, i32_w]
  rfl
 refine done_ (by kernel_rfl) ?_
 try go_wp2
 go_ret
 exact ⟨eq_, bl_⟩
def laws_FnExactHoldsAt.f (k : Nat) (l0 : List (S25)) (a1_0 : Int) (a1_1 : Int) (a2 : Int) (a3 : Int) : Option (Bool) := (laws_szCredS.f l0 1048576).bind fun t803 => (if t803 < 0 then (some true) else ((laws_toCredS.f k l0).bind fun t804 => ((laws_toRole.f a1_0 a1_1).bind fun bt807 => ((spec_HoldsAt.f k t804 bt807.1 bt807.2 a2 a3).bind fun t809 => ((laws_toCredS.f k l0).bind fun t810 => ((laws_toRole.f a1_0 a1_1).bind fun bt813 => ((impl_HoldsAt.f k t810 bt813.1 bt813.2 a2 a3).bind fun t815 => (if (t815 != t809) = true then (some false) else ((laws_toCredS.f k l0).bind fun t816 => ((laws_eqCredS.f k t810 t816).bind fun t819 => (if t819 = true then (some true) else (some false))))))))))))
def laws_FnExactHoldsAt.T5 : Bool × List (List Nat × List Nat) := (true, [([], []), ([0], [0]), ([], []), ([2, 1], [2]), ([], []), ([], []), ([1, 3, 4, 5, 3], [1, 3, 4, 5]), ([6, 6, 0, 1, 2, 3, 4, 5, 6], [6])])
def laws_FnExactHoldsAt.B5 : List Nat := [0, 1, 0, 7, 0, 0, 63, 127]
theorem laws_FnExactHoldsAt.tab5 : rtab .any (opsOf Try.f13 5) = laws_FnExactHoldsAt.T5 := by kernel_rfl
theorem laws_FnExactHoldsAt.bits5 : waitsOk laws_FnExactHoldsAt.T5.2 laws_FnExactHoldsAt.B5 = true := by kernel_rfl
set_option maxHeartbeats 8000000 in
set_option maxRecDepth 100000 in
theorem laws_FnExactHoldsAt.calls (k : Nat) (A0 : Option Addr) (c0 : Nat) (l0 : List (S25)) (a1_0 : Int) (a1_1 : Int) (a2 : Int) (a3 : Int) (r : Bool) (w : World) (hr0 : Kd.C k25 w A0 l0.length l0) (hc0 : l0.length ≤ c0) (h : laws_FnExactHoldsAt.f k l0 a1_0 a1_1 a2 a3 = some r) :
  Calls Try.prog 13 #[.slice A0 l0.length c0, .agg #[.int .i64 a1_0, .int .i64 a1_1], .int .i64 a2, .int .i64 a3] w fun e w' => e = .returned (.bool r) ∧ Below w.heap.size w w' := by
 have hu23 := Try.underlying23
 have HR0 := Aside0.mk hr0
 have HC0 := Aside0.mk hc0
 clear hr0 hc0
 have HB := Aside0.mk (Below.refl w.heap.size w)
 have H : ((laws_szCredS.f l0 1048576).bind fun t803 => (if t803 < 0 then (some true) else ((laws_toCredS.f k l0).bind fun t804 => ((laws_toRole.f a1_0 a1_1).bind fun bt807 => ((spec_HoldsAt.f k t804 bt807.1 bt807.2 a2 a3).bind fun t809 => ((laws_toCredS.f k l0).bind fun t810 => ((laws_toRole.f a1_0 a1_1).bind fun bt813 => ((impl_HoldsAt.f k t810 bt813.1 bt813.2 a2 a3).bind fun t815 => (if (t815 != t809) = true then (some false) else ((laws_toCredS.f k l0).bind fun t816 => ((laws_eqCredS.f k t810 t816).bind fun t819 => (if t819 = true then (some true) else (some false))))))))))))) = some r := h
 clear h
 obtain ⟨t803, A5, H⟩ := bindE_ H
 by_cases c6 : t803 < 0
 ·rw [if_pos c6] at H
  have c6b0 : decide (t803 < 0) = true := decide_eq_true c6
  clear c6
  obtain rfl := Option.some.inj H
  go_enter Try.func13, Try.ntmps13
  go_wp2_with (first | ((with_reducible refine gate_dst (N := 5) rfl ?_); refine box_event ?hg (N := 5) ?hd (cs := #[.int .i64 a1_0, .int .i64 a1_1]) (t := 23) ?hr ?_; (case hd => rfl); (case hg => rfl); (case hr => first | (go_simp; done) | (go_simp; rfl)); intro gb802 hg w7 hbox hb; have BK802 := Aside0.mk (hbox); have GW802 := gs_ hg; have GE802 := gs_ hg; replace HB := hbs_ hb; clear hb hbox hg) | ((with_reducible refine gate_callee (f := 27) rfl ?_); refine goesC_ (some 15) Try.func27 #[.slice A0 l0.length c0, .int .i64 1048576] ?_; (with_reducible refine (laws_szCredS.calls _ _ l0 1048576 t803 _ ?side1 ?side2 A5.out).mono ?_); (case side1 => repeat (first | exact (Kd.C_below HR0.out HB.out) | (with_reducible refine Kd.C_alloc ?_ _) | (with_reducible refine Kd.C_drewN ?_ _) | (with_reducible refine Kd.C_drew ?_))); (case side2 => exact HC0.out); rintro e w' ⟨rfl, ⟨nd, rfl⟩⟩; refine ⟨_, rfl, ?_⟩))
  go_ret
  exact ⟨eq_, bl_⟩
 ·rw [if_neg c6] at H
  have c6b0 : decide (t803 < 0) = false := decide_eq_false c6
  clear c6
  obtain ⟨t804, A8, H⟩ := bindE_ H
  obtain ⟨⟨t807, t808⟩, A9, H⟩ := bindE_ H
  replace H : ((spec_HoldsAt.f k t804 t807 t808 a2 a3).bind fun t809 => ((laws_toCredS.f k l0).bind fun t810 => ((laws_toRole.f a1_0 a1_1).bind fun bt813 => ((impl_HoldsAt.f k t810 bt813.1 bt813.2 a2 a3).bind fun t815 => (if (t815 != t809) = true then (some false) else ((laws_toCredS.f k l0).bind fun t816 => ((laws_eqCredS.f k t810 t816).bind fun t819 => (if t819 = true then (some true) else (some false))))))))) = some r := H
  obtain ⟨t809, A10, H⟩ := bindE_ H
  obtain ⟨t810, A11, H⟩ := bindE_ H
  obtain ⟨⟨t813, t814⟩, A12, H⟩ := bindE_ H
  replace H : ((impl_HoldsAt.f k t810 t813 t814 a2 a3).bind fun t815 => (if (t815 != t809) = true then (some false) else ((laws_toCredS.f k l0).bind fun t816 => ((laws_eqCredS.f k t810 t816).bind fun t819 => (if t819 = true then (some true) else (some false)))))) = some r := H
  obtain ⟨t815, A13, H⟩ := bindE_ H
  by_cases c14 : (t815 != t809) = true
  ·rw [if_pos c14] at H
   have c14b0 : (t815 != t809) = true := c14
   (try (have c14b1 : decide (t815 = t809) = false := by simpa using c14))
   (try (have c14b2 : (t815 == t809) = false := by simpa using c14))
   (try (have c14b3 : ¬ (t815 = t809) := by simpa using c14))
   clear c14
   obtain rfl := Option.some.inj H
   go_enter Try.func13, Try.ntmps13
   try go_wp2_with (first | ((with_reducible refine gate_dst (N := 5) rfl ?_); refine box_event ?hg (N := 5) ?hd (cs := #[.int .i64 a1_0, .int .i64 a1_1]) (t := 23) ?hr ?_; (case hd => rfl); (case hg => rfl); (case hr => first | (go_simp; done) | (go_simp; rfl)); intro gb802 hg w15 hbox hb; have BK802 := Aside0.mk (hbox); have GW802 := gs_ hg; have GE802 := gs_ hg; replace HB := hbs_ hb; clear hb hbox hg) | ((with_reducible refine gate_callee (f := 27) rfl ?_); refine goesC_ (some 15) Try.func27 #[.slice A0 l0.length c0, .int .i64 1048576] ?_; (with_reducible refine (laws_szCredS.calls _ _ l0 1048576 t803 _ ?side1 ?side2 A5.out).mono ?_); (case side1 => repeat (first | exact (Kd.C_below HR0.out HB.out) | (with_reducible refine Kd.C_alloc ?_ _) | (with_reducible refine Kd.C_drewN ?_ _) | (with_reducible refine Kd.C_drew ?_))); (case side2 => exact HC0.out); rintro e w' ⟨rfl, ⟨nd, rfl⟩⟩; refine ⟨_, rfl, ?_⟩))
   (try (rw [drewN_self w15]; generalize hq_ : World.drewN w15 _ = w15; have n0_ : Aside0 (w15.heap[gb802]? = some (.cells #[.int .i64 a1_0, .int .i64 a1_1] 23 (0, 0))) := ⟨by rw [← hq_]; exact (bk_ BK802)⟩; have n1_ : Aside0 (Below w.heap.size w w15) := ⟨by rw [← hq_]; exact bl_⟩; clear BK802 HB hq_; have BK802 := n0_; have HB := n1_; clear n0_ n1_))
   replace BK802 := Aside0.mk (blk_drew BK802.out)
   replace HB := Aside0.mk (below_drew1 HB.out)
   refine start_ (n := 8) (S := fun w' => w'.cell? ⟨gb802, 0, none⟩ = some (.int .i64 a1_0) ∧ w'.cell? ⟨gb802, 1, none⟩ = some (.int .i64 a1_1)) (ds := []) #[false, false, false, false, false, false, false, false] (by kernel_rfl) rfl rfl ⟨(blk_cell BK802.out 0).trans rfl, (blk_cell BK802.out 1).trans rfl⟩ (fun hHeld => ?_); refine with_tabW laws_FnExactHoldsAt.tab5 laws_FnExactHoldsAt.bits5 (fun HT_ HW_ => ?_)
   generalize w15.drew = w16 at BK802 HB hHeld ⊢
   refine pureZ_ (i := 0) (some 18) #[true, false, false, false, false, false, false, false] (any_of HT_.out (by kernel_rfl)) ?_
   refine pureZ_ (i := 4) (some 22) #[true, false, false, false, true, false, false, false] (any_of HT_.out (by kernel_rfl)) ?_
   refine pureZ_ (i := 5) (some 23) #[true, false, false, false, true, true, false, false] (any_of HT_.out (by kernel_rfl)) ?_
   refine takeZ_ (i := 2) (some 20) #[true, false, true, false, true, true, false, false] (take_ofW HT_.out HW_.out (by kernel_rfl)) hHeld ?_
   refine one_ (i := 1) (N := some 19) #[true, true, true, false, true, true, false, false] rfl rfl (one_of HT_.out (by kernel_rfl)) (by decide) (fun K hK => ?_)
   refine goes_ Try.func29 (by kernel_rfl) rfl #[.slice A0 l0.length c0] (by rfl) rfl rfl (by (try simp only [List.map_toArray, List.map_cons, List.map_nil]); first | done | rfl | (simp only [List.length_drop, List.length_take]; rfl)) ?_
   with_reducible refine (laws_toCredS.calls k _ _ l0 t804 _ ?side1 ?side2 A8.out).mono ?_
   (case side1 => repeat (first | exact (Kd.C_below HR0.out HB.out) | (with_reducible refine Kd.C_alloc ?_ _) | (with_reducible refine Kd.C_drewN ?_ _) | (with_reducible refine Kd.C_drew ?_)))
   (case side2 => exact HC0.out)
   rintro e w17 ⟨v805, rfl, ho0, hb⟩
   refine ⟨_, rfl, ?_⟩
   have HO806 := Aside0.mk (Kd.R_lower ho0 bls_)
   replace BK802 := bkb_ BK802 hb
   replace HB := hbs_ hb
   (try clear hb)
   (try clear hb2)
   (try clear hk)
   (try clear hi)
   (try clear ho0)
   refine hK.out _ _ ⟨(blk_cell BK802.out 0).trans rfl, (blk_cell BK802.out 1).trans rfl⟩ (fun hHeld => ?_)
   clear hK K
   refine norm_ (a' := ?_) ?_ ?_
   rotate_left
   ·show Act.put _ (some 19) _ = _
    simp only [Act.put, List.setIfInBounds_toArray, List.set_cons_zero, List.set_cons_succ, i64_w, i32_w]
    rfl
   refine one_ (i := 3) (N := some 21) #[true, true, true, true, true, true, false, false] rfl rfl (one_of HT_.out (by kernel_rfl)) (by decide) (fun K hK => ?_)
   refine goes_ Try.func64 (by kernel_rfl) rfl #[.agg #[.int .i64 a1_0, .int .i64 a1_1]] (by rfl) rfl rfl (by (try simp only [List.map_toArray, List.map_cons, List.map_nil]); first | done | rfl | (simp only [List.length_drop, List.length_take]; rfl)) ?_
   with_reducible refine (laws_toRole.calls a1_0 a1_1 t807 t808 _ A9.out).mono ?_
   rintro e w18 ⟨rfl, hb⟩
   refine ⟨_, rfl, ?_⟩
   replace HO806 := Aside0.mk (Kd.R_below (by (with_reducible repeat (first | apply Kd.R_alloc | apply Kd.R_drewN | apply Kd.R_drew)); exact HO806.out) hb)
   replace BK802 := bkb_ BK802 hb
   replace HB := hbs_ hb
   (try clear hb)
   (try clear hb2)
   (try clear hk)
   (try clear hi)
   obtain ⟨Ao19, co19, eo19⟩ := Kd.R_slice HO806.out
   (first | subst eo19 | (injection eo19 with f1_ f2_ f3_; have f4_ := f1_.symm; have f5_ := f3_.symm; clear f1_ f2_ f3_; subst f4_; subst f5_))
   refine hK.out _ _ ⟨(blk_cell BK802.out 0).trans rfl, (blk_cell BK802.out 1).trans rfl⟩ (fun hHeld => ?_)
   clear hK K
   refine norm_ (a' := ?_) ?_ ?_
   rotate_left
   ·show Act.put _ (some 21) _ = _
    simp only [Act.put, List.setIfInBounds_toArray, List.set_cons_zero, List.set_cons_succ, i64_w, i32_w]
    rfl
   refine one_ (i := 6) (N := some 24) #[true, true, true, true, true, true, true, false] rfl rfl (one_of HT_.out (by kernel_rfl)) (by decide) (fun K hK => ?_)
   refine goes_ Try.func63 (by kernel_rfl) rfl #[.slice Ao19 t804.length co19, .agg #[.int .i64 t807, .int .i64 t808], .int .i64 a2, .int .i64 a3] (by rfl) rfl rfl (by (try simp only [List.map_toArray, List.map_cons, List.map_nil]); first | done | rfl | (simp only [List.length_drop, List.length_take]; rfl)) ?_
   with_reducible refine (spec_HoldsAt.calls k _ _ t804 t807 t808 a2 a3 t809 _ ?side1 ?side2 A10.out).mono ?_
   (case side1 => repeat (first | exact (Kd.R_reads' HO806.out).2.2 | (with_reducible refine Kd.C_alloc ?_ _) | (with_reducible refine Kd.C_drewN ?_ _) | (with_reducible refine Kd.C_drew ?_)))
   (case side2 => exact (Kd.R_reads' HO806.out).2.1)
   rintro e w20 ⟨rfl, hb⟩
   refine ⟨_, rfl, ?_⟩
   replace HO806 := Aside0.mk (Kd.R_below (by (with_reducible repeat (first | apply Kd.R_alloc | apply Kd.R_drewN | apply Kd.R_drew)); exact HO806.out) hb)
   replace BK802 := bkb_ BK802 hb
   replace HB := hbs_ hb
   (try clear hb)
   (try clear hb2)
   (try clear hk)
   (try clear hi)
   refine hK.out _ _ ⟨(blk_cell BK802.out 0).trans rfl, (blk_cell BK802.out 1).trans rfl⟩ (fun hHeld => ?_)
   clear hK K
   refine norm_ (a' := ?_) ?_ ?_
   rotate_left
   ·show Act.put _ (some 24) _ = _
    simp only [Act.put, List.setIfInBounds_toArray, List.set_cons_zero, List.set_cons_succ, i64_w, i32_w]
    rfl
   refine pureZ_ (i := 7) (some 10) #[true, true, true, true, true, true, true, true] (any_of HT_.out (by kernel_rfl)) ?_
   refine done_ (done_of HT_.out (by kernel_rfl)) ?_
   try go_wp2_with (first | ((with_reducible refine gate_callee (f := 29) rfl ?_); refine goesC_ (some 26) Try.func29 #[.slice A0 l0.length c0] ?_; (with_reducible refine (laws_toCredS.calls k _ _ l0 t810 _ ?side1 ?side2 A11.out).mono ?_); (case side1 => repeat (first | exact (Kd.C_below HR0.out HB.out) | (with_reducible refine Kd.C_alloc ?_ _) | (with_reducible refine Kd.C_drewN ?_ _) | (with_reducible refine Kd.C_drew ?_))); (case side2 => exact HC0.out); rintro e w21 ⟨v811, rfl, ho0, hb⟩; refine ⟨_, rfl, ?_⟩; have HO812 := Aside0.mk (Kd.R_lower (Kd.R_new' ho0 (Kd.R_lt (by (with_reducible repeat (first | apply Kd.R_alloc | apply Kd.R_drewN | apply Kd.R_drew)); exact HO806.out))) bls_); replace HO806 := Aside0.mk (Kd.R_elder' (by (with_reducible repeat (first | apply Kd.R_alloc | apply Kd.R_drewN | apply Kd.R_drew)); exact HO806.out) (Kd.R_base ho0) hb); replace BK802 := bkb_ BK802 hb; replace HB := hbs_ hb; (try clear hb); (try clear hb2); (try clear hk); (try clear hi); (try clear ho0); have hcz22 := blk_cell BK802.out; have hfz22 := blk_frozen BK802.out) | ((with_reducible refine gate_callee (f := 64) rfl ?_); refine goesC_ (some 29) Try.func64 #[.agg #[.int .i64 a1_0, .int .i64 a1_1]] ?_; (with_reducible refine (laws_toRole.calls a1_0 a1_1 t813 t814 _ A12.out).mono ?_); rintro e w23 ⟨rfl, hb⟩; refine ⟨_, rfl, ?_⟩; replace HO806 := Aside0.mk (Kd.R_below (by (with_reducible repeat (first | apply Kd.R_alloc | apply Kd.R_drewN | apply Kd.R_drew)); exact HO806.out) hb); replace HO812 := Aside0.mk (Kd.R_below (by (with_reducible repeat (first | apply Kd.R_alloc | apply Kd.R_drewN | apply Kd.R_drew)); exact HO812.out) hb); replace BK802 := bkb_ BK802 hb; replace HB := hbs_ hb; clear hb; obtain ⟨Ao24, co24, eo24⟩ := Kd.R_slice HO812.out; subst eo24) | ((with_reducible refine gate_callee (f := 65) rfl ?_); refine goesC_ (some 32) Try.func65 #[.slice Ao24 t810.length co24, .agg #[.int .i64 t813, .int .i64 t814], .int .i64 a2, .int .i64 a3] ?_; (with_reducible refine (impl_HoldsAt.calls k _ _ t810 t813 t814 a2 a3 t815 _ ?side1 ?side2 A13.out).mono ?_); (case side1 => repeat (first | exact (Kd.R_reads' HO812.out).2.2 | (with_reducible refine Kd.C_alloc ?_ _) | (with_reducible refine Kd.C_drewN ?_ _) | (with_reducible refine Kd.C_drew ?_))); (case side2 => exact (Kd.R_reads' HO812.out).2.1); rintro e w25 ⟨rfl, hb⟩; refine ⟨_, rfl, ?_⟩; replace HO806 := Aside0.mk (Kd.R_below (by (with_reducible repeat (first | apply Kd.R_alloc | apply Kd.R_drewN | apply Kd.R_drew)); exact HO806.out) hb); replace HO812 := Aside0.mk (Kd.R_below (by (with_reducible repeat (first | apply Kd.R_alloc | apply Kd.R_drewN | apply Kd.R_drew)); exact HO812.out) hb); replace BK802 := bkb_ BK802 hb; replace HB := hbs_ hb; clear hb))
   go_ret
   exact ⟨eq_, bl_⟩
  ·rw [if_neg c14] at H
   have c14b0 : (t815 != t809) = false := by simpa using c14
   (try (have c14b1 : decide (t815 = t809) = true := by simpa using c14))
   (try (have c14b2 : (t815 == t809) = true := by simpa using c14))
   clear c14
   obtain ⟨t816, A26, H⟩ := bindE_ H
   obtain ⟨t819, A27, H⟩ := bindE_ H
   by_cases c28 : t819 = true
   ·subst c28
    replace H := ite_t_ H
    obtain rfl := Option.some.inj H
    go_enter Try.func13, Try.ntmps13
    try go_wp2_with (first | ((with_reducible refine gate_dst (N := 5) rfl ?_); refine box_event ?hg (N := 5) ?hd (cs := #[.int .i64 a1_0, .int .i64 a1_1]) (t := 23) ?hr ?_; (case hd => rfl); (case hg => rfl); (case hr => first | (go_simp; done) | (go_simp; rfl)); intro gb802 hg w29 hbox hb; have BK802 := Aside0.mk (hbox); have GW802 := gs_ hg; have GE802 := gs_ hg; replace HB := hbs_ hb; clear hb hbox hg) | ((with_reducible refine gate_callee (f := 27) rfl ?_); refine goesC_ (some 15) Try.func27 #[.slice A0 l0.length c0, .int .i64 1048576] ?_; (with_reducible refine (laws_szCredS.calls _ _ l0 1048576 t803 _ ?side1 ?side2 A5.out).mono ?_); (case side1 => repeat (first | exact (Kd.C_below HR0.out HB.out) | (with_reducible refine Kd.C_alloc ?_ _) | (with_reducible refine Kd.C_drewN ?_ _) | (with_reducible refine Kd.C_drew ?_))); (case side2 => exact HC0.out); rintro e w' ⟨rfl, ⟨nd, rfl⟩⟩; refine ⟨_, rfl, ?_⟩))
    (try (rw [drewN_self w29]; generalize hq_ : World.drewN w29 _ = w29; have n0_ : Aside0 (w29.heap[gb802]? = some (.cells #[.int .i64 a1_0, .int .i64 a1_1] 23 (0, 0))) := ⟨by rw [← hq_]; exact (bk_ BK802)⟩; have n1_ : Aside0 (Below w.heap.size w w29) := ⟨by rw [← hq_]; exact bl_⟩; clear BK802 HB hq_; have BK802 := n0_; have HB := n1_; clear n0_ n1_))
    replace BK802 := Aside0.mk (blk_drew BK802.out)
    replace HB := Aside0.mk (below_drew1 HB.out)
    refine start_ (n := 8) (S := fun w' => w'.cell? ⟨gb802, 0, none⟩ = some (.int .i64 a1_0) ∧ w'.cell? ⟨gb802, 1, none⟩ = some (.int .i64 a1_1)) (ds := []) #[false, false, false, false, false, false, false, false] (by kernel_rfl) rfl rfl ⟨(blk_cell BK802.out 0).trans rfl, (blk_cell BK802.out 1).trans rfl⟩ (fun hHeld => ?_); refine with_tabW laws_FnExactHoldsAt.tab5 laws_FnExactHoldsAt.bits5 (fun HT_ HW_ => ?_)
    generalize w29.drew = w30 at BK802 HB hHeld ⊢
    refine pureZ_ (i := 0) (some 18) #[true, false, false, false, false, false, false, false] (any_of HT_.out (by kernel_rfl)) ?_
    refine pureZ_ (i := 4) (some 22) #[true, false, false, false, true, false, false, false] (any_of HT_.out (by kernel_rfl)) ?_
    refine pureZ_ (i := 5) (some 23) #[true, false, false, false, true, true, false, false] (any_of HT_.out (by kernel_rfl)) ?_
    refine takeZ_ (i := 2) (some 20) #[true, false, true, false, true, true, false, false] (take_ofW HT_.out HW_.out (by kernel_rfl)) hHeld ?_
    refine one_ (i := 1) (N := some 19) #[true, true, true, false, true, true, false, false] rfl rfl (one_of HT_.out (by kernel_rfl)) (by decide) (fun K hK => ?_)
    refine goes_ Try.func29 (by kernel_rfl) rfl #[.slice A0 l0.length c0] (by rfl) rfl rfl (by (try simp only [List.map_toArray, List.map_cons, List.map_nil]); first | done | rfl | (simp only [List.length_drop, List.length_take]; rfl)) ?_
    with_reducible refine (laws_toCredS.calls k _ _ l0 t804 _ ?side1 ?side2 A8.out).mono ?_
    (case side1 => repeat (first | exact (Kd.C_below HR0.out HB.out) | (with_reducible refine Kd.C_alloc ?_ _) | (with_reducible refine Kd.C_drewN ?_ _) | (with_reducible refine Kd.C_drew ?_)))
    (case side2 => exact HC0.out)
    rintro e w31 ⟨v805, rfl, ho0, hb⟩
    refine ⟨_, rfl, ?_⟩
    have HO806 := Aside0.mk (Kd.R_lower ho0 bls_)
    replace BK802 := bkb_ BK802 hb
    replace HB := hbs_ hb
    (try clear hb)
    (try clear hb2)
    (try clear hk)
    (try clear hi)
    (try clear ho0)
    refine hK.out _ _ ⟨(blk_cell BK802.out 0).trans rfl, (blk_cell BK802.out 1).trans rfl⟩ (fun hHeld => ?_)
    clear hK K
    refine norm_ (a' := ?_) ?_ ?_
    rotate_left
    ·show Act.put _ (some 19) _ = _
     simp only [Act.put, List.setIfInBounds_toArray, List.set_cons_zero, List.set_cons_succ, i64_w, i32_w]
     rfl
    refine one_ (i := 3) (N := some 21) #[true, true, true, true, true, true, false, false] rfl rfl (one_of HT_.out (by kernel_rfl)) (by decide) (fun K hK => ?_)
    refine goes_ Try.func64 (by kernel_rfl) rfl #[.agg #[.int .i64 a1_0, .int .i64 a1_1]] (by rfl) rfl rfl (by (try simp only [List.map_toArray, List.map_cons, List.map_nil]); first | done | rfl | (simp only [List.length_drop, List.length_take]; rfl)) ?_
    with_reducible refine (laws_toRole.calls a1_0 a1_1 t807 t808 _ A9.out).mono ?_
    rintro e w32 ⟨rfl, hb⟩
    refine ⟨_, rfl, ?_⟩
    replace HO806 := Aside0.mk (Kd.R_below (by (with_reducible repeat (first | apply Kd.R_alloc | apply Kd.R_drewN | apply Kd.R_drew)); exact HO806.out) hb)
    replace BK802 := bkb_ BK802 hb
    replace HB := hbs_ hb
    (try clear hb)
    (try clear hb2)
    (try clear hk)
    (try clear hi)
    obtain ⟨Ao33, co33, eo33⟩ := Kd.R_slice HO806.out
    (first | subst eo33 | (injection eo33 with f1_ f2_ f3_; have f4_ := f1_.symm; have f5_ := f3_.symm; clear f1_ f2_ f3_; subst f4_; subst f5_))
    refine hK.out _ _ ⟨(blk_cell BK802.out 0).trans rfl, (blk_cell BK802.out 1).trans rfl⟩ (fun hHeld => ?_)
    clear hK K
    refine norm_ (a' := ?_) ?_ ?_
    rotate_left
    ·show Act.put _ (some 21) _ = _
     simp only [Act.put, List.setIfInBounds_toArray, List.set_cons_zero, List.set_cons_succ, i64_w, i32_w]
     rfl
    refine one_ (i := 6) (N := some 24) #[true, true, true, true, true, true, true, false] rfl rfl (one_of HT_.out (by kernel_rfl)) (by decide) (fun K hK => ?_)
    refine goes_ Try.func63 (by kernel_rfl) rfl #[.slice Ao33 t804.length co33, .agg #[.int .i64 t807, .int .i64 t808], .int .i64 a2, .int .i64 a3] (by rfl) rfl rfl (by (try simp only [List.map_toArray, List.map_cons, List.map_nil]); first | done | rfl | (simp only [List.length_drop, List.length_take]; rfl)) ?_
    with_reducible refine (spec_HoldsAt.calls k _ _ t804 t807 t808 a2 a3 t809 _ ?side1 ?side2 A10.out).mono ?_
    (case side1 => repeat (first | exact (Kd.R_reads' HO806.out).2.2 | (with_reducible refine Kd.C_alloc ?_ _) | (with_reducible refine Kd.C_drewN ?_ _) | (with_reducible refine Kd.C_drew ?_)))
    (case side2 => exact (Kd.R_reads' HO806.out).2.1)
    rintro e w34 ⟨rfl, hb⟩
    refine ⟨_, rfl, ?_⟩
    replace HO806 := Aside0.mk (Kd.R_below (by (with_reducible repeat (first | apply Kd.R_alloc | apply Kd.R_drewN | apply Kd.R_drew)); exact HO806.out) hb)
    replace BK802 := bkb_ BK802 hb
    replace HB := hbs_ hb
    (try clear hb)
    (try clear hb2)
    (try clear hk)
    (try clear hi)
    refine hK.out _ _ ⟨(blk_cell BK802.out 0).trans rfl, (blk_cell BK802.out 1).trans rfl⟩ (fun hHeld => ?_)
    clear hK K
    refine norm_ (a' := ?_) ?_ ?_
    rotate_left
    ·show Act.put _ (some 24) _ = _
     simp only [Act.put, List.setIfInBounds_toArray, List.set_cons_zero, List.set_cons_succ, i64_w, i32_w]
     rfl
    refine pureZ_ (i := 7) (some 10) #[true, true, true, true, true, true, true, true] (any_of HT_.out (by kernel_rfl)) ?_
    refine done_ (done_of HT_.out (by kernel_rfl)) ?_
    try go_wp2_with (first | ((with_reducible refine gate_callee (f := 29) rfl ?_); refine goesC_ (some 26) Try.func29 #[.slice A0 l0.length c0] ?_; (with_reducible refine (laws_toCredS.calls k _ _ l0 t810 _ ?side1 ?side2 A11.out).mono ?_); (case side1 => repeat (first | exact (Kd.C_below HR0.out HB.out) | (with_reducible refine Kd.C_alloc ?_ _) | (with_reducible refine Kd.C_drewN ?_ _) | (with_reducible refine Kd.C_drew ?_))); (case side2 => exact HC0.out); rintro e w35 ⟨v811, rfl, ho0, hb⟩; refine ⟨_, rfl, ?_⟩; have HO812 := Aside0.mk (Kd.R_lower (Kd.R_new' ho0 (Kd.R_lt (by (with_reducible repeat (first | apply Kd.R_alloc | apply Kd.R_drewN | apply Kd.R_drew)); exact HO806.out))) bls_); replace HO806 := Aside0.mk (Kd.R_elder' (by (with_reducible repeat (first | apply Kd.R_alloc | apply Kd.R_drewN | apply Kd.R_drew)); exact HO806.out) (Kd.R_base ho0) hb); replace BK802 := bkb_ BK802 hb; replace HB := hbs_ hb; (try clear hb); (try clear hb2); (try clear hk); (try clear hi); (try clear ho0); have hcz36 := blk_cell BK802.out; have hfz36 := blk_frozen BK802.out) | ((with_reducible refine gate_callee (f := 64) rfl ?_); refine goesC_ (some 29) Try.func64 #[.agg #[.int .i64 a1_0, .int .i64 a1_1]] ?_; (with_reducible refine (laws_toRole.calls a1_0 a1_1 t813 t814 _ A12.out).mono ?_); rintro e w37 ⟨rfl, hb⟩; refine ⟨_, rfl, ?_⟩; replace HO806 := Aside0.mk (Kd.R_below (by (with_reducible repeat (first | apply Kd.R_alloc | apply Kd.R_drewN | apply Kd.R_drew)); exact HO806.out) hb); replace HO812 := Aside0.mk (Kd.R_below (by (with_reducible repeat (first | apply Kd.R_alloc | apply Kd.R_drewN | apply Kd.R_drew)); exact HO812.out) hb); replace BK802 := bkb_ BK802 hb; replace HB := hbs_ hb; clear hb; obtain ⟨Ao38, co38, eo38⟩ := Kd.R_slice HO812.out; subst eo38) | ((with_reducible refine gate_callee (f := 65) rfl ?_); refine goesC_ (some 32) Try.func65 #[.slice Ao38 t810.length co38, .agg #[.int .i64 t813, .int .i64 t814], .int .i64 a2, .int .i64 a3] ?_; (with_reducible refine (impl_HoldsAt.calls k _ _ t810 t813 t814 a2 a3 t815 _ ?side1 ?side2 A13.out).mono ?_); (case side1 => repeat (first | exact (Kd.R_reads' HO812.out).2.2 | (with_reducible refine Kd.C_alloc ?_ _) | (with_reducible refine Kd.C_drewN ?_ _) | (with_reducible refine Kd.C_drew ?_))); (case side2 => exact (Kd.R_reads' HO812.out).2.1); rintro e w39 ⟨rfl, hb⟩; refine ⟨_, rfl, ?_⟩; replace HO806 := Aside0.mk (Kd.R_below (by (with_reducible repeat (first | apply Kd.R_alloc | apply Kd.R_drewN | apply Kd.R_drew)); exact HO806.out) hb); replace HO812 := Aside0.mk (Kd.R_below (by (with_reducible repeat (first | apply Kd.R_alloc | apply Kd.R_drewN | apply Kd.R_drew)); exact HO812.out) hb); replace BK802 := bkb_ BK802 hb; replace HB := hbs_ hb; clear hb) | ((with_reducible refine gate_callee (f := 29) rfl ?_); refine goesC_ (some 38) Try.func29 #[.slice A0 l0.length c0] ?_; (with_reducible refine (laws_toCredS.calls k _ _ l0 t816 _ ?side1 ?side2 A26.out).mono ?_); (case side1 => repeat (first | exact (Kd.C_below HR0.out HB.out) | (with_reducible refine Kd.C_alloc ?_ _) | (with_reducible refine Kd.C_drewN ?_ _) | (with_reducible refine Kd.C_drew ?_))); (case side2 => exact HC0.out); rintro e w40 ⟨v817, rfl, ho0, hb⟩; refine ⟨_, rfl, ?_⟩; have HO818 := Aside0.mk (Kd.R_lower (Kd.R_new' (Kd.R_new' ho0 (Kd.R_lt (by (with_reducible repeat (first | apply Kd.R_alloc | apply Kd.R_drewN | apply Kd.R_drew)); exact HO806.out))) (Kd.R_lt (by (with_reducible repeat (first | apply Kd.R_alloc | apply Kd.R_drewN | apply Kd.R_drew)); exact HO812.out))) bls_); replace HO806 := Aside0.mk (Kd.R_elder' (by (with_reducible repeat (first | apply Kd.R_alloc | apply Kd.R_drewN | apply Kd.R_drew)); exact HO806.out) (Kd.R_base ho0) hb); replace HO812 := Aside0.mk (Kd.R_elder' (by (with_reducible repeat (first | apply Kd.R_alloc | apply Kd.R_drewN | apply Kd.R_drew)); exact HO812.out) (Kd.R_base ho0) hb); replace BK802 := bkb_ BK802 hb; replace HB := hbs_ hb; (try clear hb); (try clear hb2); (try clear hk); (try clear hi); (try clear ho0); obtain ⟨Ao41, co41, eo41⟩ := Kd.R_slice HO818.out; subst eo41) | ((with_reducible refine gate_callee (f := 31) rfl ?_); refine goesC_ (some 39) Try.func31 #[.slice Ao38 t810.length co38, .slice Ao41 t816.length co41] ?_; (with_reducible refine (laws_eqCredS.calls k _ _ t810 _ _ t816 true _ ?side1 ?side2 ?side3 ?side4 A27.out).mono ?_); (case side1 => repeat (first | exact (Kd.R_reads' HO812.out).2.2 | (with_reducible refine Kd.C_alloc ?_ _) | (with_reducible refine Kd.C_drewN ?_ _) | (with_reducible refine Kd.C_drew ?_))); (case side2 => exact (Kd.R_reads' HO812.out).2.1); (case side3 => repeat (first | exact (Kd.R_reads' HO818.out).2.2 | (with_reducible refine Kd.C_alloc ?_ _) | (with_reducible refine Kd.C_drewN ?_ _) | (with_reducible refine Kd.C_drew ?_))); (case side4 => exact (Kd.R_reads' HO818.out).2.1); rintro e w42 ⟨rfl, hb⟩; refine ⟨_, rfl, ?_⟩; replace HO806 := Aside0.mk (Kd.R_below (by (with_reducible repeat (first | apply Kd.R_alloc | apply Kd.R_drewN | apply Kd.R_drew)); exact HO806.out) hb); replace HO812 := Aside0.mk (Kd.R_below (by (with_reducible repeat (first | apply Kd.R_alloc | apply Kd.R_drewN | apply Kd.R_drew)); exact HO812.out) hb); replace HO818 := Aside0.mk (Kd.R_below (by (with_reducible repeat (first | apply Kd.R_alloc | apply Kd.R_drewN | apply Kd.R_drew)); exact HO818.out) hb); replace BK802 := bkb_ BK802 hb; replace HB := hbs_ hb; clear hb))
    go_ret
    exact ⟨eq_, bl_⟩
   ·replace c28 := Bool.eq_false_iff.mpr c28
    subst c28
    replace H := ite_f_ H
    obtain rfl := Option.some.inj H
    go_enter Try.func13, Try.ntmps13
    try go_wp2_with (first | ((with_reducible refine gate_dst (N := 5) rfl ?_); refine box_event ?hg (N := 5) ?hd (cs := #[.int .i64 a1_0, .int .i64 a1_1]) (t := 23) ?hr ?_; (case hd => rfl); (case hg => rfl); (case hr => first | (go_simp; done) | (go_simp; rfl)); intro gb802 hg w43 hbox hb; have BK802 := Aside0.mk (hbox); have GW802 := gs_ hg; have GE802 := gs_ hg; replace HB := hbs_ hb; clear hb hbox hg) | ((with_reducible refine gate_callee (f := 27) rfl ?_); refine goesC_ (some 15) Try.func27 #[.slice A0 l0.length c0, .int .i64 1048576] ?_; (with_reducible refine (laws_szCredS.calls _ _ l0 1048576 t803 _ ?side1 ?side2 A5.out).mono ?_); (case side1 => repeat (first | exact (Kd.C_below HR0.out HB.out) | (with_reducible refine Kd.C_alloc ?_ _) | (with_reducible refine Kd.C_drewN ?_ _) | (with_reducible refine Kd.C_drew ?_))); (case side2 => exact HC0.out); rintro e w' ⟨rfl, ⟨nd, rfl⟩⟩; refine ⟨_, rfl, ?_⟩))
    (try (rw [drewN_self w43]; generalize hq_ : World.drewN w43 _ = w43; have n0_ : Aside0 (w43.heap[gb802]? = some (.cells #[.int .i64 a1_0, .int .i64 a1_1] 23 (0, 0))) := ⟨by rw [← hq_]; exact (bk_ BK802)⟩; have n1_ : Aside0 (Below w.heap.size w w43) := ⟨by rw [← hq_]; exact bl_⟩; clear BK802 HB hq_; have BK802 := n0_; have HB := n1_; clear n0_ n1_))
    replace BK802 := Aside0.mk (blk_drew BK802.out)
    replace HB := Aside0.mk (below_drew1 HB.out)
    refine start_ (n := 8) (S := fun w' => w'.cell? ⟨gb802, 0, none⟩ = some (.int .i64 a1_0) ∧ w'.cell? ⟨gb802, 1, none⟩ = some (.int .i64 a1_1)) (ds := []) #[false, false, false, false, false, false, false, false] (by kernel_rfl) rfl rfl ⟨(blk_cell BK802.out 0).trans rfl, (blk_cell BK802.out 1).trans rfl⟩ (fun hHeld => ?_); refine with_tabW laws_FnExactHoldsAt.tab5 laws_FnExactHoldsAt.bits5 (fun HT_ HW_ => ?_)
    generalize w43.drew = w44 at BK802 HB hHeld ⊢
    refine pureZ_ (i := 0) (some 18) #[true, false, false, false, false, false, false, false] (any_of HT_.out (by kernel_rfl)) ?_
    refine pureZ_ (i := 4) (some 22) #[true, false, false, false, true, false, false, false] (any_of HT_.out (by kernel_rfl)) ?_
    refine pureZ_ (i := 5) (some 23) #[true, false, false, false, true, true, false, false] (any_of HT_.out (by kernel_rfl)) ?_
    refine takeZ_ (i := 2) (some 20) #[true, false, true, false, true, true, false, false] (take_ofW HT_.out HW_.out (by kernel_rfl)) hHeld ?_
    refine one_ (i := 1) (N := some 19) #[true, true, true, false, true, true, false, false] rfl rfl (one_of HT_.out (by kernel_rfl)) (by decide) (fun K hK => ?_)
    refine goes_ Try.func29 (by kernel_rfl) rfl #[.slice A0 l0.length c0] (by rfl) rfl rfl (by (try simp only [List.map_toArray, List.map_cons, List.map_nil]); first | done | rfl | (simp only [List.length_drop, List.length_take]; rfl)) ?_
    with_reducible refine (laws_toCredS.calls k _ _ l0 t804 _ ?side1 ?side2 A8.out).mono ?_
    (case side1 => repeat (first | exact (Kd.C_below HR0.out HB.out) | (with_reducible refine Kd.C_alloc ?_ _) | (with_reducible refine Kd.C_drewN ?_ _) | (with_reducible refine Kd.C_drew ?_)))
    (case side2 => exact HC0.out)
    rintro e w45 ⟨v805, rfl, ho0, hb⟩
    refine ⟨_, rfl, ?_⟩
    have HO806 := Aside0.mk (Kd.R_lower ho0 bls_)
    replace BK802 := bkb_ BK802 hb
    replace HB := hbs_ hb
    (try clear hb)
    (try clear hb2)
    (try clear hk)
    (try clear hi)
    (try clear ho0)
    refine hK.out _ _ ⟨(blk_cell BK802.out 0).trans rfl, (blk_cell BK802.out 1).trans rfl⟩ (fun hHeld => ?_)
    clear hK K
    refine norm_ (a' := ?_) ?_ ?_
    rotate_left
    ·show Act.put _ (some 19) _ = _
     simp only [Act.put, List.setIfInBounds_toArray, List.set_cons_zero, List.set_cons_succ, i64_w, i32_w]
     rfl
    refine one_ (i := 3) (N := some 21) #[true, true, true, true, true, true, false, false] rfl rfl (one_of HT_.out (by kernel_rfl)) (by decide) (fun K hK => ?_)
    refine goes_ Try.func64 (by kernel_rfl) rfl #[.agg #[.int .i64 a1_0, .int .i64 a1_1]] (by rfl) rfl rfl (by (try simp only [List.map_toArray, List.map_cons, List.map_nil]); first | done | rfl | (simp only [List.length_drop, List.length_take]; rfl)) ?_
    with_reducible refine (laws_toRole.calls a1_0 a1_1 t807 t808 _ A9.out).mono ?_
    rintro e w46 ⟨rfl, hb⟩
    refine ⟨_, rfl, ?_⟩
    replace HO806 := Aside0.mk (Kd.R_below (by (with_reducible repeat (first | apply Kd.R_alloc | apply Kd.R_drewN | apply Kd.R_drew)); exact HO806.out) hb)
    replace BK802 := bkb_ BK802 hb
    replace HB := hbs_ hb
    (try clear hb)
    (try clear hb2)
    (try clear hk)
    (try clear hi)
    obtain ⟨Ao47, co47, eo47⟩ := Kd.R_slice HO806.out
    (first | subst eo47 | (injection eo47 with f1_ f2_ f3_; have f4_ := f1_.symm; have f5_ := f3_.symm; clear f1_ f2_ f3_; subst f4_; subst f5_))
    refine hK.out _ _ ⟨(blk_cell BK802.out 0).trans rfl, (blk_cell BK802.out 1).trans rfl⟩ (fun hHeld => ?_)
    clear hK K
    refine norm_ (a' := ?_) ?_ ?_
    rotate_left
    ·show Act.put _ (some 21) _ = _
     simp only [Act.put, List.setIfInBounds_toArray, List.set_cons_zero, List.set_cons_succ, i64_w, i32_w]
     rfl
    refine one_ (i := 6) (N := some 24) #[true, true, true, true, true, true, true, false] rfl rfl (one_of HT_.out (by kernel_rfl)) (by decide) (fun K hK => ?_)
    refine goes_ Try.func63 (by kernel_rfl) rfl #[.slice Ao47 t804.length co47, .agg #[.int .i64 t807, .int .i64 t808], .int .i64 a2, .int .i64 a3] (by rfl) rfl rfl (by (try simp only [List.map_toArray, List.map_cons, List.map_nil]); first | done | rfl | (simp only [List.length_drop, List.length_take]; rfl)) ?_
    with_reducible refine (spec_HoldsAt.calls k _ _ t804 t807 t808 a2 a3 t809 _ ?side1 ?side2 A10.out).mono ?_
    (case side1 => repeat (first | exact (Kd.R_reads' HO806.out).2.2 | (with_reducible refine Kd.C_alloc ?_ _) | (with_reducible refine Kd.C_drewN ?_ _) | (with_reducible refine Kd.C_drew ?_)))
    (case side2 => exact (Kd.R_reads' HO806.out).2.1)
    rintro e w48 ⟨rfl, hb⟩
    refine ⟨_, rfl, ?_⟩
    replace HO806 := Aside0.mk (Kd.R_below (by (with_reducible repeat (first | apply Kd.R_alloc | apply Kd.R_drewN | apply Kd.R_drew)); exact HO806.out) hb)
    replace BK802 := bkb_ BK802 hb
    replace HB := hbs_ hb
    (try clear hb)
    (try clear hb2)
    (try clear hk)
    (try clear hi)
    refine hK.out _ _ ⟨(blk_cell BK802.out 0).trans rfl, (blk_cell BK802.out 1).trans rfl⟩ (fun hHeld => ?_)
    clear hK K
    refine norm_ (a' := ?_) ?_ ?_
    rotate_left
    ·show Act.put _ (some 24) _ = _
     simp only [Act.put, List.setIfInBounds_toArray, List.set_cons_zero, List.set_cons_succ, i64_w, i32_w]
     rfl
    refine pureZ_ (i := 7) (some 10) #[true, true, true, true, true, true, true, true] (any_of HT_.out (by kernel_rfl)) ?_
    refine done_ (done_of HT_.out (by kernel_rfl)) ?_
    try go_wp2_with (first | ((with_reducible refine gate_callee (f := 29) rfl ?_); refine goesC_ (some 26) Try.func29 #[.slice A0 l0.length c0] ?_; (with_reducible refine (laws_toCredS.calls k _ _ l0 t810 _ ?side1 ?side2 A11.out).mono ?_); (case side1 => repeat (first | exact (Kd.C_below HR0.out HB.out) | (with_reducible refine Kd.C_alloc ?_ _) | (with_reducible refine Kd.C_drewN ?_ _) | (with_reducible refine Kd.C_drew ?_))); (case side2 => exact HC0.out); rintro e w49 ⟨v811, rfl, ho0, hb⟩; refine ⟨_, rfl, ?_⟩; have HO812 := Aside0.mk (Kd.R_lower (Kd.R_new' ho0 (Kd.R_lt (by (with_reducible repeat (first | apply Kd.R_alloc | apply Kd.R_drewN | apply Kd.R_drew)); exact HO806.out))) bls_); replace HO806 := Aside0.mk (Kd.R_elder' (by (with_reducible repeat (first | apply Kd.R_alloc | apply Kd.R_drewN | apply Kd.R_drew)); exact HO806.out) (Kd.R_base ho0) hb); replace BK802 := bkb_ BK802 hb; replace HB := hbs_ hb; (try clear hb); (try clear hb2); (try clear hk); (try clear hi); (try clear ho0); have hcz50 := blk_cell BK802.out; have hfz50 := blk_frozen BK802.out) | ((with_reducible refine gate_callee (f := 64) rfl ?_); refine goesC_ (some 29) Try.func64 #[.agg #[.int .i64 a1_0, .int .i64 a1_1]] ?_; (with_reducible refine (laws_toRole.calls a1_0 a1_1 t813 t814 _ A12.out).mono ?_); rintro e w51 ⟨rfl, hb⟩; refine ⟨_, rfl, ?_⟩; replace HO806 := Aside0.mk (Kd.R_below (by (with_reducible repeat (first | apply Kd.R_alloc | apply Kd.R_drewN | apply Kd.R_drew)); exact HO806.out) hb); replace HO812 := Aside0.mk (Kd.R_below (by (with_reducible repeat (first | apply Kd.R_alloc | apply Kd.R_drewN | apply Kd.R_drew)); exact HO812.out) hb); replace BK802 := bkb_ BK802 hb; replace HB := hbs_ hb; clear hb; obtain ⟨Ao52, co52, eo52⟩ := Kd.R_slice HO812.out; subst eo52) | ((with_reducible refine gate_callee (f := 65) rfl ?_); refine goesC_ (some 32) Try.func65 #[.slice Ao52 t810.length co52, .agg #[.int .i64 t813, .int .i64 t814], .int .i64 a2, .int .i64 a3] ?_; (with_reducible refine (impl_HoldsAt.calls k _ _ t810 t813 t814 a2 a3 t815 _ ?side1 ?side2 A13.out).mono ?_); (case side1 => repeat (first | exact (Kd.R_reads' HO812.out).2.2 | (with_reducible refine Kd.C_alloc ?_ _) | (with_reducible refine Kd.C_drewN ?_ _) | (with_reducible refine Kd.C_drew ?_))); (case side2 => exact (Kd.R_reads' HO812.out).2.1); rintro e w53 ⟨rfl, hb⟩; refine ⟨_, rfl, ?_⟩; replace HO806 := Aside0.mk (Kd.R_below (by (with_reducible repeat (first | apply Kd.R_alloc | apply Kd.R_drewN | apply Kd.R_drew)); exact HO806.out) hb); replace HO812 := Aside0.mk (Kd.R_below (by (with_reducible repeat (first | apply Kd.R_alloc | apply Kd.R_drewN | apply Kd.R_drew)); exact HO812.out) hb); replace BK802 := bkb_ BK802 hb; replace HB := hbs_ hb; clear hb) | ((with_reducible refine gate_callee (f := 29) rfl ?_); refine goesC_ (some 38) Try.func29 #[.slice A0 l0.length c0] ?_; (with_reducible refine (laws_toCredS.calls k _ _ l0 t816 _ ?side1 ?side2 A26.out).mono ?_); (case side1 => repeat (first | exact (Kd.C_below HR0.out HB.out) | (with_reducible refine Kd.C_alloc ?_ _) | (with_reducible refine Kd.C_drewN ?_ _) | (with_reducible refine Kd.C_drew ?_))); (case side2 => exact HC0.out); rintro e w54 ⟨v817, rfl, ho0, hb⟩; refine ⟨_, rfl, ?_⟩; have HO818 := Aside0.mk (Kd.R_lower (Kd.R_new' (Kd.R_new' ho0 (Kd.R_lt (by (with_reducible repeat (first | apply Kd.R_alloc | apply Kd.R_drewN | apply Kd.R_drew)); exact HO806.out))) (Kd.R_lt (by (with_reducible repeat (first | apply Kd.R_alloc | apply Kd.R_drewN | apply Kd.R_drew)); exact HO812.out))) bls_); replace HO806 := Aside0.mk (Kd.R_elder' (by (with_reducible repeat (first | apply Kd.R_alloc | apply Kd.R_drewN | apply Kd.R_drew)); exact HO806.out) (Kd.R_base ho0) hb); replace HO812 := Aside0.mk (Kd.R_elder' (by (with_reducible repeat (first | apply Kd.R_alloc | apply Kd.R_drewN | apply Kd.R_drew)); exact HO812.out) (Kd.R_base ho0) hb); replace BK802 := bkb_ BK802 hb; replace HB := hbs_ hb; (try clear hb); (try clear hb2); (try clear hk); (try clear hi); (try clear ho0); obtain ⟨Ao55, co55, eo55⟩ := Kd.R_slice HO818.out; subst eo55) | ((with_reducible refine gate_callee (f := 31) rfl ?_); refine goesC_ (some 39) Try.func31 #[.slice Ao52 t810.length co52, .slice Ao55 t816.length co55] ?_; (with_reducible refine (laws_eqCredS.calls k _ _ t810 _ _ t816 false _ ?side1 ?side2 ?side3 ?side4 A27.out).mono ?_); (case side1 => repeat (first | exact (Kd.R_reads' HO812.out).2.2 | (with_reducible refine Kd.C_alloc ?_ _) | (with_reducible refine Kd.C_drewN ?_ _) | (with_reducible refine Kd.C_drew ?_))); (case side2 => exact (Kd.R_reads' HO812.out).2.1); (case side3 => repeat (first | exact (Kd.R_reads' HO818.out).2.2 | (with_reducible refine Kd.C_alloc ?_ _) | (with_reducible refine Kd.C_drewN ?_ _) | (with_reducible refine Kd.C_drew ?_))); (case side4 => exact (Kd.R_reads' HO818.out).2.1); rintro e w56 ⟨rfl, hb⟩; refine ⟨_, rfl, ?_⟩; replace HO806 := Aside0.mk (Kd.R_below (by (with_reducible repeat (first | apply Kd.R_alloc | apply Kd.R_drewN | apply Kd.R_drew)); exact HO806.out) hb); replace HO812 := Aside0.mk (Kd.R_below (by (with_reducible repeat (first | apply Kd.R_alloc | apply Kd.R_drewN | apply Kd.R_drew)); exact HO812.out) hb); replace HO818 := Aside0.mk (Kd.R_below (by (with_reducible repeat (first | apply Kd.R_alloc | apply Kd.R_drewN | apply Kd.R_drew)); exact HO818.out) hb); replace BK802 := bkb_ BK802 hb; replace HB := hbs_ hb; clear hb))
    go_ret
    exact ⟨eq_, bl_⟩
-- NOT PRINTED: function 144 (spec_l03First)
-- NOT PRINTED: function 145 (spec_l03Keys)
-- NOT PRINTED: function 146 (spec_PadText)
end Go.Proofs.Ytcgnegnljffkmaa.PB
