import Derived.Test.YtppdmcimddhbaaaKFnExactLastDayPCx0
import Derived.Test.YtppdmcimddhbaaaKFnExactLastDayPCx3
import Derived.Test.YtppdmcimddhbaaaKFnExactLastDayPCx6
import Derived.Test.YtppdmcimddhbaaaKFnExactLastDayPCx9
-- A text of this claim: written by the session's own program out of the translation (wip/tools). Lean checks it.
namespace Go.Proofs.Ytppdmcimddhbaaa.PC
open Go.RowKit Go.Proofs.YtppdmcimddhbaaaW.PrintWords Go.Proofs.YtppdmcimddhbaaaW.PrintLast Go.Proofs.YtppdmcimddhbaaaW.PrintMore
attribute [local go_sem] max2_int min2_int max_two min_two max_three min_three max_four min_four   -- for this text's walks alone
set_option linter.unusedVariables false
set_option linter.unusedSimpArgs false
def impl_Alive.l0 : Nat → Int → List (S46) → List (S46) → Int → Int → Option ((List (S46)))
 | 0, _, _, _, _, _ => none
 | k + 1, x1, x5, x9, x10, x11 => if x11 < x10 then (if 0 ≤ x11 then (if x11 < (x9.length : Int) then ((impl_CredOk.f k ((rd_T46 x9 x11).f0) ((rd_T46 x9 x11).f1.f0) ((rd_T46 x9 x11).f1.f1) ((rd_T46 x9 x11).f2) ((rd_T46 x9 x11).f3.f0) ((rd_T46 x9 x11).f3.f1) ((rd_T46 x9 x11).f4.f0) ((rd_T46 x9 x11).f4.f1) ((rd_T46 x9 x11).f5) ((rd_T46 x9 x11).f6)).bind fun t330 => (if t330 = true then (if ((rd_T46 x9 x11).f5) ≥ x1 then (if x5.length < 1759218604441 then (impl_Alive.l0 k x1 (x5 ++ [(⟨(rd_T46 x9 x11).f0, (⟨(rd_T46 x9 x11).f1.f0, (rd_T46 x9 x11).f1.f1⟩ : S27), (rd_T46 x9 x11).f2, (⟨(rd_T46 x9 x11).f3.f0, (rd_T46 x9 x11).f3.f1⟩ : S27), (⟨(rd_T46 x9 x11).f4.f0, (rd_T46 x9 x11).f4.f1⟩ : S27), (rd_T46 x9 x11).f5, (rd_T46 x9 x11).f6⟩ : S46)]) x9 x10 (wrap64 (x11 + 1))) else (none)) else (impl_Alive.l0 k x1 x5 x9 x10 (wrap64 (x11 + 1)))) else (impl_Alive.l0 k x1 x5 x9 x10 (wrap64 (x11 + 1))))) else (none)) else (none)) else (some x5)
def impl_Alive.f (k : Nat) (l0 : List (S46)) (a1 : Int) : Option ((List (S46))) := impl_Alive.l0 k a1 (([] : List (S46))) l0 (l0.length : Int) 0
set_option maxHeartbeats 8000000 in
set_option maxRecDepth 100000 in
theorem impl_Alive.calls (k : Nat) (A0 : Option Addr) (c0 : Nat) (l0 : List (S46)) (a1 : Int) (r : List (S46)) (w : World) (hr0 : Kd.C k46 w A0 l0.length l0) (hc0 : l0.length ≤ c0) (h : impl_Alive.f k l0 a1 = some r) :
  Calls Try.prog 105 #[.slice A0 l0.length c0, .int .i64 a1] w fun e w' => ∃ v0_ : Value, e = .returned (v0_) ∧ Kd.R k46 46 w' w.heap.size (fun _ => True) v0_ r ∧ Below w.heap.size w w' := by
 have hu46 := Try.underlying46
 have HR0 := Aside0.mk hr0
 have HC0 := Aside0.mk hc0
 clear hr0 hc0
 have HB := Aside0.mk (Below.refl w.heap.size w)
 have H : (impl_Alive.l0 k a1 (([] : List (S46))) l0 (l0.length : Int) 0) = some r := h
 clear h
 obtain ⟨y325, hy325⟩ : ∃ y_ : List (S46), y_ = (([] : List (S46))) := ⟨_, rfl⟩
 replace H : (impl_Alive.l0 k a1 y325 l0 (l0.length : Int) 0) = some r := by first | (rw [hy325]; with_reducible exact H) | (have H2_ := (Option.bind_some _ _).symm.trans H; rw [hy325]; with_reducible exact H2_) | (have H2_ := (Option.bind_some _ _).symm.trans H; with_reducible exact H2_) | with_reducible exact H | (rw [hy325]; exact H) | exact H
 have Ny325 := Aside0.mk hy325
 clear hy325
 have H' := Aside0.mk H
 clear H
 go_enter Try.func105, Try.ntmps105
 go_wp2_with (first | ((with_reducible refine gate_dst (N := 8) rfl ?_); refine Kd.R_lit k46 _ 46 ?hg (N := 8) ?hd (xs := ([] : List (S46))) (inner := []) (ok := fun _ => True) (okp := fun _ => True) ?hr ?hp (fun _ hk => hk) trivial (Below.refl _ _) (Nat.le_refl _) (by simp) ?_; (case hd => rfl); (case hg => rfl); (case hr => first | (go_simp; done) | (go_simp; rfl)); (case hp => exact (Reps.none _ _)); intro v326 w3 ho4 hb hg_ hnew_; clear hg_ hnew_; (first | rw [← Ny325.out] at ho4 | (simp only [Int.reduceToNat] at ho4; rw [← Ny325.out] at ho4)); have HO327 := Aside0.mk (Kd.R_lower ho4 bls_); replace HB := hbs_ hb; clear hb ho4))
 go_loopg [5, 11] k (fun kq v5 v11 w' => ∃ (x5_1 : List (S46)) (x11_1 : Int), v11 = .int .i64 x11_1 ∧ Aside0 (impl_Alive.l0 kq a1 x5_1 l0 (l0.length : Int) x11_1 = some r) ∧ Aside0 (kq ≤ k) ∧ Aside0 (Kd.R k46 46 w' w.heap.size (fun _ => True) v5 x5_1) ∧ Aside0 (Below w.heap.size w w'))
 case atStart => exact ⟨(y325), (0), (by first | rfl | (simp; done) | (simp [*]; done)), H', ⟨Nat.le_refl _⟩, ⟨by (with_reducible repeat (first | apply Kd.R_alloc | apply Kd.R_drewN | apply Kd.R_drew)); exact HO327.out⟩, ⟨bl_⟩⟩
 case round =>
  clear H'
  try clear c1
  try clear p2
  obtain ⟨x5_1, x11_1, rfl, HA, HK1, HO_5, HB⟩ := hrel
  cases gk with
  | zero => exact absurd HA.out (by simp [impl_Alive.l0])
  | succ k1 =>
   have H := HA.out
   clear HA
   simp only [impl_Alive.l0] at H
   by_cases c5 : x11_1 < (l0.length : Int)
   ·rw [if_pos c5] at H
    have c5b0 : decide (x11_1 < (l0.length : Int)) = true := decide_eq_true c5
    clear c5
    by_cases c6 : 0 ≤ x11_1
    ·rw [if_pos c6] at H
     have c6b0 : decide (0 ≤ x11_1) = true := decide_eq_true c6
     clear c6
     by_cases c7 : x11_1 < (l0.length : Int)
     ·rw [if_pos c7] at H
      have c7b0 : decide (x11_1 < (l0.length : Int)) = true := decide_eq_true c7
      clear c7
      obtain ⟨t330, A8, H⟩ := bindE_ H
      by_cases c9 : t330 = true
      ·subst c9
       replace H := ite_t_ H
       by_cases c10 : ((rd_T46 l0 x11_1).f5) ≥ a1
       ·rw [if_pos c10] at H
        have c10b0 : decide (a1 ≤ ((rd_T46 l0 x11_1).f5)) = true := decide_eq_true c10
        clear c10
        by_cases c11 : x5_1.length < 1759218604441
        ·rw [if_pos c11] at H
         have LMc11 := Aside0.mk c11
         clear c11
         obtain ⟨y331, hy331⟩ : ∃ y_ : List (S46), y_ = (x5_1 ++ [(⟨(rd_T46 l0 x11_1).f0, (⟨(rd_T46 l0 x11_1).f1.f0, (rd_T46 l0 x11_1).f1.f1⟩ : S27), (rd_T46 l0 x11_1).f2, (⟨(rd_T46 l0 x11_1).f3.f0, (rd_T46 l0 x11_1).f3.f1⟩ : S27), (⟨(rd_T46 l0 x11_1).f4.f0, (rd_T46 l0 x11_1).f4.f1⟩ : S27), (rd_T46 l0 x11_1).f5, (rd_T46 l0 x11_1).f6⟩ : S46)]) := ⟨_, rfl⟩
         replace H : (impl_Alive.l0 k1 a1 y331 l0 (l0.length : Int) (wrap64 (x11_1 + 1))) = some r := by first | (rw [hy331]; with_reducible exact H) | (have H2_ := (Option.bind_some _ _).symm.trans H; rw [hy331]; with_reducible exact H2_) | (have H2_ := (Option.bind_some _ _).symm.trans H; with_reducible exact H2_) | with_reducible exact H | (rw [hy331]; exact H) | exact H
         have Ny331 := Aside0.mk hy331
         clear hy331
         have H' := Aside0.mk H
         clear H
         have p328 : 0 ≤ (x11_1 : Int) := of_decide_eq_true (by first | (with_reducible assumption) | assumption)
         have q328 : x11_1 < (l0.length : Int) := of_decide_eq_true (by first | (with_reducible assumption) | assumption)
         obtain ⟨ad328, e328, hx328_0, hx328_1, hx328_2, hx328_3, hx328_4, hx328_5, hx328_6, hx328_7, hx328_8, hx328_9⟩ := at_T46 (Kd.C_below HR0.out HB.out) x11_1 p328 q328
         cases e328
         replace p328 := eq_true p328
         replace q328 := eq_true q328
         go_wp2_with (first | ((with_reducible refine gate_dst (N := 7) rfl ?_); refine box_event ?hg (N := 7) ?hd (cs := #[.int .i64 0, .int .i64 0, .int .i64 0, .int .i64 0, .int .i64 0, .int .i64 0, .int .i64 0, .int .i64 0, .int .i64 0, .int .i64 0]) (t := 46) ?hr ?_; (case hd => rfl); (case hg => rfl); (case hr => first | (go_simp; done) | (go_simp; rfl)); intro gb329 hg w12 hbox hb; replace HO_5 := Aside0.mk (Kd.R_below (Kd.R_elderB (by (with_reducible repeat (first | apply Kd.R_alloc | apply Kd.R_drewN | apply Kd.R_drew)); exact HO_5.out) gb329 (Nat.le_of_eq hg.symm)) hb); have BK329 := Aside0.mk (hbox); have GW329 := gs_ hg; have GE329 := gs_ hg; replace HB := hbs_ hb; clear hb hbox hg; have hcz13 := blk_cell BK329.out; have hfz13 := blk_frozen BK329.out) | ((with_reducible refine gate_callee (f := 75) rfl ?_); refine goesC_ (some 16) Try.func75 #[.agg #[.int .i64 ((rd_T46 l0 x11_1).f0), .int .i64 ((rd_T46 l0 x11_1).f1.f0), .int .i64 ((rd_T46 l0 x11_1).f1.f1), .int .i64 ((rd_T46 l0 x11_1).f2), .int .i64 ((rd_T46 l0 x11_1).f3.f0), .int .i64 ((rd_T46 l0 x11_1).f3.f1), .int .i64 ((rd_T46 l0 x11_1).f4.f0), .int .i64 ((rd_T46 l0 x11_1).f4.f1), .int .i64 ((rd_T46 l0 x11_1).f5), .int .i64 ((rd_T46 l0 x11_1).f6)]] ?_; (with_reducible refine (impl_CredOk.calls k1 ((rd_T46 l0 x11_1).f0) ((rd_T46 l0 x11_1).f1.f0) ((rd_T46 l0 x11_1).f1.f1) ((rd_T46 l0 x11_1).f2) ((rd_T46 l0 x11_1).f3.f0) ((rd_T46 l0 x11_1).f3.f1) ((rd_T46 l0 x11_1).f4.f0) ((rd_T46 l0 x11_1).f4.f1) ((rd_T46 l0 x11_1).f5) ((rd_T46 l0 x11_1).f6) true _ A8.out).mono ?_); rintro e w14 ⟨rfl, hb⟩; refine ⟨_, rfl, ?_⟩; replace HO_5 := Aside0.mk (Kd.R_below (by (with_reducible repeat (first | apply Kd.R_alloc | apply Kd.R_drewN | apply Kd.R_drew)); exact (Kd.R_mono (Kd.R_far (p := ⟨gb329, 9, none⟩) (Kd.R_far (p := ⟨gb329, 8, none⟩) (Kd.R_far (p := ⟨gb329, 7, none⟩) (Kd.R_far (p := ⟨gb329, 6, none⟩) (Kd.R_far (p := ⟨gb329, 5, none⟩) (Kd.R_far (p := ⟨gb329, 4, none⟩) (Kd.R_far (p := ⟨gb329, 3, none⟩) (Kd.R_far (p := ⟨gb329, 2, none⟩) (Kd.R_far (p := ⟨gb329, 1, none⟩) (Kd.R_far (p := ⟨gb329, 0, none⟩) (Kd.R_mono HO_5.out (fun k_ hk => (⟨hk, hk.2⟩ : _ ∧ k_ ≠ gb329))) (fun _ hk => hk.2) (.int .i64 ((rd_T46 l0 x11_1).f0))) (fun _ hk => hk.2) (.int .i64 ((rd_T46 l0 x11_1).f1.f0))) (fun _ hk => hk.2) (.int .i64 ((rd_T46 l0 x11_1).f1.f1))) (fun _ hk => hk.2) (.int .i64 ((rd_T46 l0 x11_1).f2))) (fun _ hk => hk.2) (.int .i64 ((rd_T46 l0 x11_1).f3.f0))) (fun _ hk => hk.2) (.int .i64 ((rd_T46 l0 x11_1).f3.f1))) (fun _ hk => hk.2) (.int .i64 ((rd_T46 l0 x11_1).f4.f0))) (fun _ hk => hk.2) (.int .i64 ((rd_T46 l0 x11_1).f4.f1))) (fun _ hk => hk.2) (.int .i64 ((rd_T46 l0 x11_1).f5))) (fun _ hk => hk.2) (.int .i64 ((rd_T46 l0 x11_1).f6))) (fun _ h_ => h_.1))) hb); replace BK329 := Aside0.mk (blk_below (g := gb329) (o := .cells #[.int .i64 ((rd_T46 l0 x11_1).f0), .int .i64 ((rd_T46 l0 x11_1).f1.f0), .int .i64 ((rd_T46 l0 x11_1).f1.f1), .int .i64 ((rd_T46 l0 x11_1).f2), .int .i64 ((rd_T46 l0 x11_1).f3.f0), .int .i64 ((rd_T46 l0 x11_1).f3.f1), .int .i64 ((rd_T46 l0 x11_1).f4.f0), .int .i64 ((rd_T46 l0 x11_1).f4.f1), .int .i64 ((rd_T46 l0 x11_1).f5), .int .i64 ((rd_T46 l0 x11_1).f6)] 46 (0, 0)) (bk_ BK329) hb); replace HB := hbs_ hb; clear hb; have hcz15 := blk_cell BK329.out; have hfz15 := blk_frozen BK329.out) | ((with_reducible refine gate_builtin (b := .append) (xs := #[.tmp 23, .tmp 25]) rfl ?_); at_builtin; refine Kd.R_append k46 (w0 := w) w.heap.size rfl (.tmp 23) (.tmp 25) 24 46 (.agg #[(.int .i64 0), (.int .i64 0), (.int .i64 0), (.int .i64 0), (.int .i64 0), (.int .i64 0), (.int .i64 0), (.int .i64 0), (.int .i64 0), (.int .i64 0)]) 80 rfl Try.underlying24 info46 rfl (by decide) (by omega) u5 x5_1 (⟨(rd_T46 l0 x11_1).f0, (⟨(rd_T46 l0 x11_1).f1.f0, (rd_T46 l0 x11_1).f1.f1⟩ : S27), (rd_T46 l0 x11_1).f2, (⟨(rd_T46 l0 x11_1).f3.f0, (rd_T46 l0 x11_1).f3.f1⟩ : S27), (⟨(rd_T46 l0 x11_1).f4.f0, (rd_T46 l0 x11_1).f4.f1⟩ : S27), (rd_T46 l0 x11_1).f5, (rd_T46 l0 x11_1).f6⟩ : S46) [.int .i64 ((rd_T46 l0 x11_1).f0), .int .i64 ((rd_T46 l0 x11_1).f1.f0), .int .i64 ((rd_T46 l0 x11_1).f1.f1), .int .i64 ((rd_T46 l0 x11_1).f2), .int .i64 ((rd_T46 l0 x11_1).f3.f0), .int .i64 ((rd_T46 l0 x11_1).f3.f1), .int .i64 ((rd_T46 l0 x11_1).f4.f0), .int .i64 ((rd_T46 l0 x11_1).f4.f1), .int .i64 ((rd_T46 l0 x11_1).f5), .int .i64 ((rd_T46 l0 x11_1).f6)] (fun k_ => k_ ≠ gb329) (fun _ => False) rfl rfl ?aP (fun _ hk => hk.elim) ?aF ?aO ?aB ?aS ?aL ?_; (case aP => exact k46_mkM _ _ _ (⟨(rd_T46 l0 x11_1).f0, (⟨(rd_T46 l0 x11_1).f1.f0, (rd_T46 l0 x11_1).f1.f1⟩ : S27), (rd_T46 l0 x11_1).f2, (⟨(rd_T46 l0 x11_1).f3.f0, (rd_T46 l0 x11_1).f3.f1⟩ : S27), (⟨(rd_T46 l0 x11_1).f4.f0, (rd_T46 l0 x11_1).f4.f1⟩ : S27), (rd_T46 l0 x11_1).f5, (rd_T46 l0 x11_1).f6⟩ : S46)); (case aB => exact bl_); (case aF => exact (fun k_ hk => Kd.freshB (g := gb329) (o := .cells #[.int .i64 ((rd_T46 l0 x11_1).f0), .int .i64 ((rd_T46 l0 x11_1).f1.f0), .int .i64 ((rd_T46 l0 x11_1).f1.f1), .int .i64 ((rd_T46 l0 x11_1).f2), .int .i64 ((rd_T46 l0 x11_1).f3.f0), .int .i64 ((rd_T46 l0 x11_1).f3.f1), .int .i64 ((rd_T46 l0 x11_1).f4.f0), .int .i64 ((rd_T46 l0 x11_1).f4.f1), .int .i64 ((rd_T46 l0 x11_1).f5), .int .i64 ((rd_T46 l0 x11_1).f6)] 46 (0, 0)) (bk_ BK329) k_ hk)); (case aO => exact (by (with_reducible repeat (first | apply Kd.R_alloc | apply Kd.R_drewN | apply Kd.R_drew)); exact Kd.R_mono HO_5.out (fun _ hk => hk.2))); (case aS => exact bls_); (case aL => have := LMc11.out; omega); intro v332 w16 ho hb hg hat; rw [← Ny331.out] at ho; replace BK329 := Aside0.mk (blk_grown (g := gb329) (o := .cells #[.int .i64 ((rd_T46 l0 x11_1).f0), .int .i64 ((rd_T46 l0 x11_1).f1.f0), .int .i64 ((rd_T46 l0 x11_1).f1.f1), .int .i64 ((rd_T46 l0 x11_1).f2), .int .i64 ((rd_T46 l0 x11_1).f3.f0), .int .i64 ((rd_T46 l0 x11_1).f3.f1), .int .i64 ((rd_T46 l0 x11_1).f4.f0), .int .i64 ((rd_T46 l0 x11_1).f4.f1), .int .i64 ((rd_T46 l0 x11_1).f5), .int .i64 ((rd_T46 l0 x11_1).f6)] 46 (0, 0)) (bk_ BK329) hg (Kd.R_away HO_5.out (fun _ hk => hk.2))); replace HB := Aside0.mk (hb); have HO333 := Aside0.mk (ho); clear HO_5; clear ho hb hg hat))
         go_roundg k1
         case measure => have := HK1.out; omega
         case rel => exact ⟨(y331), (wrap64 (x11_1 + 1)), (by first | rfl | (simp; done) | (simp [*]; done)), H', ⟨by have := HK1.out; omega⟩, ⟨by (with_reducible repeat (first | apply Kd.R_alloc | apply Kd.R_drewN | apply Kd.R_drew)); exact Kd.R_mono HO333.out (fun _ hk => trivial)⟩, ⟨bl_⟩⟩
        ·rw [if_neg c11] at H
         exact absurd H (by simp)
       ·rw [if_neg c10] at H
        have c10b0 : decide (a1 ≤ ((rd_T46 l0 x11_1).f5)) = false := decide_eq_false c10
        clear c10
        have H' := Aside0.mk H
        clear H
        have p328 : 0 ≤ (x11_1 : Int) := of_decide_eq_true (by first | (with_reducible assumption) | assumption)
        have q328 : x11_1 < (l0.length : Int) := of_decide_eq_true (by first | (with_reducible assumption) | assumption)
        obtain ⟨ad328, e328, hx328_0, hx328_1, hx328_2, hx328_3, hx328_4, hx328_5, hx328_6, hx328_7, hx328_8, hx328_9⟩ := at_T46 (Kd.C_below HR0.out HB.out) x11_1 p328 q328
        cases e328
        replace p328 := eq_true p328
        replace q328 := eq_true q328
        go_wp2_with (first | ((with_reducible refine gate_dst (N := 7) rfl ?_); refine box_event ?hg (N := 7) ?hd (cs := #[.int .i64 0, .int .i64 0, .int .i64 0, .int .i64 0, .int .i64 0, .int .i64 0, .int .i64 0, .int .i64 0, .int .i64 0, .int .i64 0]) (t := 46) ?hr ?_; (case hd => rfl); (case hg => rfl); (case hr => first | (go_simp; done) | (go_simp; rfl)); intro gb329 hg w17 hbox hb; replace HO_5 := Aside0.mk (Kd.R_below (Kd.R_elderB (by (with_reducible repeat (first | apply Kd.R_alloc | apply Kd.R_drewN | apply Kd.R_drew)); exact HO_5.out) gb329 (Nat.le_of_eq hg.symm)) hb); have BK329 := Aside0.mk (hbox); have GW329 := gs_ hg; have GE329 := gs_ hg; replace HB := hbs_ hb; clear hb hbox hg; have hcz18 := blk_cell BK329.out; have hfz18 := blk_frozen BK329.out) | ((with_reducible refine gate_callee (f := 75) rfl ?_); refine goesC_ (some 16) Try.func75 #[.agg #[.int .i64 ((rd_T46 l0 x11_1).f0), .int .i64 ((rd_T46 l0 x11_1).f1.f0), .int .i64 ((rd_T46 l0 x11_1).f1.f1), .int .i64 ((rd_T46 l0 x11_1).f2), .int .i64 ((rd_T46 l0 x11_1).f3.f0), .int .i64 ((rd_T46 l0 x11_1).f3.f1), .int .i64 ((rd_T46 l0 x11_1).f4.f0), .int .i64 ((rd_T46 l0 x11_1).f4.f1), .int .i64 ((rd_T46 l0 x11_1).f5), .int .i64 ((rd_T46 l0 x11_1).f6)]] ?_; (with_reducible refine (impl_CredOk.calls k1 ((rd_T46 l0 x11_1).f0) ((rd_T46 l0 x11_1).f1.f0) ((rd_T46 l0 x11_1).f1.f1) ((rd_T46 l0 x11_1).f2) ((rd_T46 l0 x11_1).f3.f0) ((rd_T46 l0 x11_1).f3.f1) ((rd_T46 l0 x11_1).f4.f0) ((rd_T46 l0 x11_1).f4.f1) ((rd_T46 l0 x11_1).f5) ((rd_T46 l0 x11_1).f6) true _ A8.out).mono ?_); rintro e w19 ⟨rfl, hb⟩; refine ⟨_, rfl, ?_⟩; replace HO_5 := Aside0.mk (Kd.R_below (by (with_reducible repeat (first | apply Kd.R_alloc | apply Kd.R_drewN | apply Kd.R_drew)); exact (Kd.R_mono (Kd.R_far (p := ⟨gb329, 9, none⟩) (Kd.R_far (p := ⟨gb329, 8, none⟩) (Kd.R_far (p := ⟨gb329, 7, none⟩) (Kd.R_far (p := ⟨gb329, 6, none⟩) (Kd.R_far (p := ⟨gb329, 5, none⟩) (Kd.R_far (p := ⟨gb329, 4, none⟩) (Kd.R_far (p := ⟨gb329, 3, none⟩) (Kd.R_far (p := ⟨gb329, 2, none⟩) (Kd.R_far (p := ⟨gb329, 1, none⟩) (Kd.R_far (p := ⟨gb329, 0, none⟩) (Kd.R_mono HO_5.out (fun k_ hk => (⟨hk, hk.2⟩ : _ ∧ k_ ≠ gb329))) (fun _ hk => hk.2) (.int .i64 ((rd_T46 l0 x11_1).f0))) (fun _ hk => hk.2) (.int .i64 ((rd_T46 l0 x11_1).f1.f0))) (fun _ hk => hk.2) (.int .i64 ((rd_T46 l0 x11_1).f1.f1))) (fun _ hk => hk.2) (.int .i64 ((rd_T46 l0 x11_1).f2))) (fun _ hk => hk.2) (.int .i64 ((rd_T46 l0 x11_1).f3.f0))) (fun _ hk => hk.2) (.int .i64 ((rd_T46 l0 x11_1).f3.f1))) (fun _ hk => hk.2) (.int .i64 ((rd_T46 l0 x11_1).f4.f0))) (fun _ hk => hk.2) (.int .i64 ((rd_T46 l0 x11_1).f4.f1))) (fun _ hk => hk.2) (.int .i64 ((rd_T46 l0 x11_1).f5))) (fun _ hk => hk.2) (.int .i64 ((rd_T46 l0 x11_1).f6))) (fun _ h_ => h_.1))) hb); replace BK329 := Aside0.mk (blk_below (g := gb329) (o := .cells #[.int .i64 ((rd_T46 l0 x11_1).f0), .int .i64 ((rd_T46 l0 x11_1).f1.f0), .int .i64 ((rd_T46 l0 x11_1).f1.f1), .int .i64 ((rd_T46 l0 x11_1).f2), .int .i64 ((rd_T46 l0 x11_1).f3.f0), .int .i64 ((rd_T46 l0 x11_1).f3.f1), .int .i64 ((rd_T46 l0 x11_1).f4.f0), .int .i64 ((rd_T46 l0 x11_1).f4.f1), .int .i64 ((rd_T46 l0 x11_1).f5), .int .i64 ((rd_T46 l0 x11_1).f6)] 46 (0, 0)) (bk_ BK329) hb); replace HB := hbs_ hb; clear hb; have hcz20 := blk_cell BK329.out; have hfz20 := blk_frozen BK329.out))
        go_roundg k1
        case measure => have := HK1.out; omega
        case rel => exact ⟨(x5_1), (wrap64 (x11_1 + 1)), (by first | rfl | (simp; done) | (simp [*]; done)), H', ⟨by have := HK1.out; omega⟩, ⟨by (with_reducible repeat (first | apply Kd.R_alloc | apply Kd.R_drewN | apply Kd.R_drew)); exact Kd.R_mono HO_5.out (fun _ hk => trivial)⟩, ⟨bl_⟩⟩
      ·replace c9 := Bool.eq_false_iff.mpr c9
       subst c9
       replace H := ite_f_ H
       have H' := Aside0.mk H
       clear H
       have p328 : 0 ≤ (x11_1 : Int) := of_decide_eq_true (by first | (with_reducible assumption) | assumption)
       have q328 : x11_1 < (l0.length : Int) := of_decide_eq_true (by first | (with_reducible assumption) | assumption)
       obtain ⟨ad328, e328, hx328_0, hx328_1, hx328_2, hx328_3, hx328_4, hx328_5, hx328_6, hx328_7, hx328_8, hx328_9⟩ := at_T46 (Kd.C_below HR0.out HB.out) x11_1 p328 q328
       cases e328
       replace p328 := eq_true p328
       replace q328 := eq_true q328
       go_wp2_with (first | ((with_reducible refine gate_dst (N := 7) rfl ?_); refine box_event ?hg (N := 7) ?hd (cs := #[.int .i64 0, .int .i64 0, .int .i64 0, .int .i64 0, .int .i64 0, .int .i64 0, .int .i64 0, .int .i64 0, .int .i64 0, .int .i64 0]) (t := 46) ?hr ?_; (case hd => rfl); (case hg => rfl); (case hr => first | (go_simp; done) | (go_simp; rfl)); intro gb329 hg w21 hbox hb; replace HO_5 := Aside0.mk (Kd.R_below (Kd.R_elderB (by (with_reducible repeat (first | apply Kd.R_alloc | apply Kd.R_drewN | apply Kd.R_drew)); exact HO_5.out) gb329 (Nat.le_of_eq hg.symm)) hb); have BK329 := Aside0.mk (hbox); have GW329 := gs_ hg; have GE329 := gs_ hg; replace HB := hbs_ hb; clear hb hbox hg; have hcz22 := blk_cell BK329.out; have hfz22 := blk_frozen BK329.out) | ((with_reducible refine gate_callee (f := 75) rfl ?_); refine goesC_ (some 16) Try.func75 #[.agg #[.int .i64 ((rd_T46 l0 x11_1).f0), .int .i64 ((rd_T46 l0 x11_1).f1.f0), .int .i64 ((rd_T46 l0 x11_1).f1.f1), .int .i64 ((rd_T46 l0 x11_1).f2), .int .i64 ((rd_T46 l0 x11_1).f3.f0), .int .i64 ((rd_T46 l0 x11_1).f3.f1), .int .i64 ((rd_T46 l0 x11_1).f4.f0), .int .i64 ((rd_T46 l0 x11_1).f4.f1), .int .i64 ((rd_T46 l0 x11_1).f5), .int .i64 ((rd_T46 l0 x11_1).f6)]] ?_; (with_reducible refine (impl_CredOk.calls k1 ((rd_T46 l0 x11_1).f0) ((rd_T46 l0 x11_1).f1.f0) ((rd_T46 l0 x11_1).f1.f1) ((rd_T46 l0 x11_1).f2) ((rd_T46 l0 x11_1).f3.f0) ((rd_T46 l0 x11_1).f3.f1) ((rd_T46 l0 x11_1).f4.f0) ((rd_T46 l0 x11_1).f4.f1) ((rd_T46 l0 x11_1).f5) ((rd_T46 l0 x11_1).f6) false _ A8.out).mono ?_); rintro e w23 ⟨rfl, hb⟩; refine ⟨_, rfl, ?_⟩; replace HO_5 := Aside0.mk (Kd.R_below (by (with_reducible repeat (first | apply Kd.R_alloc | apply Kd.R_drewN | apply Kd.R_drew)); exact (Kd.R_mono (Kd.R_far (p := ⟨gb329, 9, none⟩) (Kd.R_far (p := ⟨gb329, 8, none⟩) (Kd.R_far (p := ⟨gb329, 7, none⟩) (Kd.R_far (p := ⟨gb329, 6, none⟩) (Kd.R_far (p := ⟨gb329, 5, none⟩) (Kd.R_far (p := ⟨gb329, 4, none⟩) (Kd.R_far (p := ⟨gb329, 3, none⟩) (Kd.R_far (p := ⟨gb329, 2, none⟩) (Kd.R_far (p := ⟨gb329, 1, none⟩) (Kd.R_far (p := ⟨gb329, 0, none⟩) (Kd.R_mono HO_5.out (fun k_ hk => (⟨hk, hk.2⟩ : _ ∧ k_ ≠ gb329))) (fun _ hk => hk.2) (.int .i64 ((rd_T46 l0 x11_1).f0))) (fun _ hk => hk.2) (.int .i64 ((rd_T46 l0 x11_1).f1.f0))) (fun _ hk => hk.2) (.int .i64 ((rd_T46 l0 x11_1).f1.f1))) (fun _ hk => hk.2) (.int .i64 ((rd_T46 l0 x11_1).f2))) (fun _ hk => hk.2) (.int .i64 ((rd_T46 l0 x11_1).f3.f0))) (fun _ hk => hk.2) (.int .i64 ((rd_T46 l0 x11_1).f3.f1))) (fun _ hk => hk.2) (.int .i64 ((rd_T46 l0 x11_1).f4.f0))) (fun _ hk => hk.2) (.int .i64 ((rd_T46 l0 x11_1).f4.f1))) (fun _ hk => hk.2) (.int .i64 ((rd_T46 l0 x11_1).f5))) (fun _ hk => hk.2) (.int .i64 ((rd_T46 l0 x11_1).f6))) (fun _ h_ => h_.1))) hb); replace BK329 := Aside0.mk (blk_below (g := gb329) (o := .cells #[.int .i64 ((rd_T46 l0 x11_1).f0), .int .i64 ((rd_T46 l0 x11_1).f1.f0), .int .i64 ((rd_T46 l0 x11_1).f1.f1), .int .i64 ((rd_T46 l0 x11_1).f2), .int .i64 ((rd_T46 l0 x11_1).f3.f0), .int .i64 ((rd_T46 l0 x11_1).f3.f1), .int .i64 ((rd_T46 l0 x11_1).f4.f0), .int .i64 ((rd_T46 l0 x11_1).f4.f1), .int .i64 ((rd_T46 l0 x11_1).f5), .int .i64 ((rd_T46 l0 x11_1).f6)] 46 (0, 0)) (bk_ BK329) hb); replace HB := hbs_ hb; clear hb))
       go_roundg k1
       case measure => have := HK1.out; omega
       case rel => exact ⟨(x5_1), (wrap64 (x11_1 + 1)), (by first | rfl | (simp; done) | (simp [*]; done)), H', ⟨by have := HK1.out; omega⟩, ⟨by (with_reducible repeat (first | apply Kd.R_alloc | apply Kd.R_drewN | apply Kd.R_drew)); exact Kd.R_mono HO_5.out (fun _ hk => trivial)⟩, ⟨bl_⟩⟩
     ·rw [if_neg c7] at H
      exact absurd H (by simp)
    ·rw [if_neg c6] at H
     exact absurd H (by simp)
   ·rw [if_neg c5] at H
    have c5b0 : decide (x11_1 < (l0.length : Int)) = false := decide_eq_false c5
    clear c5
    obtain rfl := Option.some.inj H
    go_wp2
    go_ret
    exact ⟨_, eq_, by (with_reducible repeat (first | apply Kd.R_alloc | apply Kd.R_drewN | apply Kd.R_drew)); exact HO_5.out, bl_⟩
def laws_eqFactS.T6 : Bool × List (List Nat × List Nat) := (true, [([], []), ([], []), ([0, 1], [0, 1]), ([2], [2]), ([], []), ([], []), ([4, 5], [4, 5]), ([6], [6]), ([3, 7], [3, 7]), ([8], [8])])
def laws_eqFactS.B6 : List Nat := [0, 0, 3, 7, 0, 0, 48, 112, 255, 511]
theorem laws_eqFactS.tab6 : rtab .any (opsOf Try.f53 6) = laws_eqFactS.T6 := by kernel_rfl
theorem laws_eqFactS.bits6 : waitsOk laws_eqFactS.T6.2 laws_eqFactS.B6 = true := by kernel_rfl
end Go.Proofs.Ytppdmcimddhbaaa.PC
