import Derived.Test.YtppdmcimddhbaaaKNPEx2
import Derived.Test.YtppdmcimddhbaaaKNPEx10
-- printed by wip/tools
namespace Go.Proofs.Ytppdmcimddhbaaa.PE
open Go.RowKit Go.Proofs.YtppdmcimddhbaaaW.PrintWords Go.Proofs.YtppdmcimddhbaaaW.PrintLast Go.Proofs.YtppdmcimddhbaaaW.PrintMore
attribute [local go_sem] max2_int min2_int max_two min_two max_three min_three max_four min_four
set_option linter.unusedVariables false
set_option linter.unusedSimpArgs false
attribute [local go_sem high] eqA27 eqA29
def impl_PolicyRoles.l0 : Nat → List (S27) → List (S71) → Int → Int → Option ((List (S27)))
 | 0, _, _, _, _ => none
 | k + 1, x3, x11, x12, x13 => if x13 < x12 then (if 0 ≤ x13 then (if x13 < (x11.length : Int) then (if ((rd_T71 x11 x13).f0) = 1 then ((impl_Role_76.f k x3 ((rd_T71 x11 x13).f1.f0) ((rd_T71 x11 x13).f1.f1)).bind fun t338 => (if t338 = true then (impl_PolicyRoles.l0 k x3 x11 x12 (wrap64 (x13 + 1))) else (if x3.length < 8796093022208 then (impl_PolicyRoles.l0 k (x3 ++ [(⟨(rd_T71 x11 x13).f1.f0, (rd_T71 x11 x13).f1.f1⟩ : S27)]) x11 x12 (wrap64 (x13 + 1))) else (none)))) else (impl_PolicyRoles.l0 k x3 x11 x12 (wrap64 (x13 + 1)))) else (none)) else (none)) else (some x3)
def impl_PolicyRoles.f (k : Nat) (l0_0 : List (S71)) : Option ((List (S27))) := (impl_PolicyOk.f k l0_0).bind fun t332 => (if t332 = true then (impl_PolicyRoles.l0 k (([] : List (S27))) l0_0 (l0_0.length : Int) 0) else (some ([] : List (S27))))
set_option maxHeartbeats 8000000 in
set_option maxRecDepth 100000 in
theorem impl_PolicyRoles.calls (k : Nat) (A0_0 : Option Addr) (c0_0 : Nat) (l0_0 : List (S71)) (r : List (S27)) (w : World) (hr0_0 : Kd.C k71 w A0_0 l0_0.length l0_0) (hc0_0 : l0_0.length ≤ c0_0) (h : impl_PolicyRoles.f k l0_0 = some r) :
  Calls Try.prog 46 #[.agg #[.slice A0_0 l0_0.length c0_0]] w fun e w' => ∃ v0_ : Value, e = .returned (v0_) ∧ Kd.R k27 27 w' w.heap.size (fun _ => True) v0_ r ∧ Below w.heap.size w w' := by
 have hu68 := Try.underlying68
 have hu71 := Try.underlying71
 have hu27 := Try.underlying27
 have HR0_0 := Aside0.mk hr0_0
 have HC0_0 := Aside0.mk hc0_0
 clear hr0_0 hc0_0
 have HB := Aside0.mk (Below.refl w.heap.size w)
 have H : ((impl_PolicyOk.f k l0_0).bind fun t332 => (if t332 = true then (impl_PolicyRoles.l0 k (([] : List (S27))) l0_0 (l0_0.length : Int) 0) else (some ([] : List (S27))))) = some r := h
 clear h
 obtain ⟨t332, A2, H⟩ := bindE_ H
 by_cases c3 : t332 = true
 ·subst c3
  replace H := ite_t_ H
  obtain ⟨y333, hy333⟩ : ∃ y_ : List (S27), y_ = (([] : List (S27))) := ⟨_, rfl⟩
  replace H : (impl_PolicyRoles.l0 k y333 l0_0 (l0_0.length : Int) 0) = some r := by first | (rw [hy333]; with_reducible exact H) | (have H2_ := (Option.bind_some _ _).symm.trans H; rw [hy333]; with_reducible exact H2_) | (have H2_ := (Option.bind_some _ _).symm.trans H; with_reducible exact H2_) | with_reducible exact H | (rw [hy333]; exact H) | exact H
  have Ny333 := Aside0.mk hy333
  clear hy333
  have H' := Aside0.mk H
  clear H
  go_enter Try.func46, Try.ntmps46
  go_wp2_with (first | ((with_reducible refine gate_dst (N := 1) rfl ?_); refine box_event ?hg (N := 1) ?hd (cs := #[.slice A0_0 l0_0.length c0_0]) (t := 68) ?hr ?_; (case hd => rfl); (case hg => rfl); (case hr => first | (go_simp; done) | (go_simp; rfl)); intro gb331 hg w4 hbox hb; have BK331 := Aside0.mk (hbox); have GW331 := gs_ hg; have GE331 := gs_ hg; replace HB := hbs_ hb; clear hb hbox hg; have hcz5 := blk_cell BK331.out; have hfz5 := blk_frozen BK331.out) | ((with_reducible refine gate_callee (f := 49) rfl ?_); refine goesC_ (some 7) Try.func49 #[.agg #[.slice A0_0 l0_0.length c0_0]] ?_; (with_reducible refine (impl_PolicyOk.calls k _ _ l0_0 true _ ?side1 ?side2 A2.out).mono ?_); (case side1 => repeat (first | exact (Kd.C_below HR0_0.out HB.out) | (with_reducible refine Kd.C_alloc ?_ _) | (with_reducible refine Kd.C_drewN ?_ _) | (with_reducible refine Kd.C_drew ?_))); (case side2 => exact HC0_0.out); rintro e w6 ⟨rfl, hb⟩; refine ⟨_, rfl, ?_⟩; replace BK331 := bkb_ BK331 hb; replace HB := hbs_ hb; clear hb) | ((with_reducible refine gate_dst (N := 9) rfl ?_); refine Kd.R_lit k27 _ 27 ?hg (N := 9) ?hd (xs := ([] : List (S27))) (inner := []) (ok := fun _ => True) (okp := fun _ => True) ?hr ?hp (fun _ hk => hk) trivial (Below.refl _ _) (Nat.le_refl _) (by simp) ?_; (case hd => rfl); (case hg => rfl); (case hr => first | (go_simp; done) | (go_simp; rfl)); (case hp => exact (Reps.none _ _)); intro v334 w7 ho8 hb hg_ hnew_; clear hg_ hnew_; (first | rw [← Ny333.out] at ho8 | (simp only [Int.reduceToNat] at ho8; rw [← Ny333.out] at ho8)); have HO335 := Aside0.mk (Kd.R_lower ho8 bls_); replace BK331 := bkb_ BK331 hb; replace HB := hbs_ hb; clear hb ho8; have hcz9 := blk_cell BK331.out; have hfz9 := blk_frozen BK331.out))
  go_loopg [3, 13] k (fun kq v3 v13 w' => ∃ (x3_1 : List (S27)) (x13_1 : Int), v13 = .int .i64 x13_1 ∧ Aside0 (impl_PolicyRoles.l0 kq x3_1 l0_0 (l0_0.length : Int) x13_1 = some r) ∧ Aside0 (kq ≤ k) ∧ Aside0 (Kd.R k27 27 w' w.heap.size (fun _ => True) v3 x3_1) ∧ Aside0 (w'.heap[gb331]? = some (.cells #[(.slice A0_0 l0_0.length c0_0)] 68 (0, 0))) ∧ Aside0 (Below w.heap.size w w'))
  case atStart => exact ⟨(y333), (0), rf_, H', ⟨Nat.le_refl _⟩, ⟨by (with_reducible repeat (first | apply Kd.R_alloc | apply Kd.R_drewN | apply Kd.R_drew)); exact HO335.out⟩, ⟨bk_ BK331⟩, ⟨bl_⟩⟩
  case round =>
   clear H'
   try clear p2
   try clear c3
   try clear c4
   try clear hcz5
   try clear hcz9
   try clear hfz5
   try clear hfz9
   obtain ⟨x3_1, x13_1, rfl, HA, HK1, HO_3, BK331, HB⟩ := hrel
   cases gk with
   | zero => exact absurd HA.out (by simp [impl_PolicyRoles.l0])
   | succ k1 =>
    have H := HA.out
    clear HA
    simp only [impl_PolicyRoles.l0] at H
    by_cases c10 : x13_1 < (l0_0.length : Int)
    ·rw [if_pos c10] at H
     have c10b0 : decide (x13_1 < (l0_0.length : Int)) = true := decide_eq_true c10
     clear c10
     obtain ⟨c11b0, H⟩ := ifd_ H
     obtain ⟨c12b0, H⟩ := ifd_ H
     by_cases c13 : ((rd_T71 l0_0 x13_1).f0) = 1
     ·rw [if_pos c13] at H
      have c13b0 : (((rd_T71 l0_0 x13_1).f0) == 1) = true := beq_iff_eq.mpr c13
      have c13b1 : (((rd_T71 l0_0 x13_1).f0) != 1) = false := bne_eq_false_iff_eq.mpr c13
      clear c13
      obtain ⟨t338, A14, H⟩ := bindE_ H
      by_cases c15 : t338 = true
      ·subst c15
       replace H := ite_t_ H
       have H' := Aside0.mk H
       clear H
       have p336 : 0 ≤ (x13_1 : Int) := od_
       have q336 : x13_1 < (l0_0.length : Int) := od_
       obtain ⟨ad336, e336, hx336_0, hx336_1, hx336_2, hx336_3, hx336_4⟩ := at_T71 (Kd.C_below HR0_0.out HB.out) x13_1 p336 q336
       cases e336
       replace p336 := eq_true p336
       replace q336 := eq_true q336
       go_wp2_with (first | ((with_reducible refine gate_dst (N := 5) rfl ?_); refine box_event ?hg (N := 5) ?hd (cs := #[.int .i64 0, .int .i64 0, .int .i64 0, .int .i64 0, .int .i64 0]) (t := 71) ?hr ?_; (case hd => rfl); (case hg => rfl); (case hr => first | (go_simp; done) | (go_simp; rfl)); intro gb337 hg w16 hbox hb; replace HO_3 := hob_ HO_3 hb; have BK337 := Aside0.mk (hbox); have GW337 := gs_ hg; have GE337 := gs_ hg; replace HB := hbs_ hb; have NB331_337 := nl_ hg BK331; have NB337_331 := nr_ hg BK331; replace BK331 := bkb_ BK331 hb; clear hb hbox hg; have hnb17 := NB337_331.out; have hnc17 := NB331_337.out; have hcz18 := blk_cell BK337.out; have hfz18 := blk_frozen BK337.out; obtain ⟨Ao19, co19, eo19⟩ := Kd.R_slice HO_3.out; subst eo19) | (go_at_call 76; (with_reducible refine (impl_Role_76.calls k1 _ _ x3_1 ((rd_T71 l0_0 x13_1).f1.f0) ((rd_T71 l0_0 x13_1).f1.f1) true _ ?side1 ?side2 A14.out).mono ?_); (case side1 => refine (Kd.R_reads' (e := 27) (base := w.heap.size) (ok := fun k_ => True) (n := x3_1.length) (c := co19) ?_).2.2; exact (by (with_reducible repeat (first | apply Kd.R_alloc | apply Kd.R_drewN | apply Kd.R_drew)); exact (Kd.R_mono (Kd.R_far (p := ⟨gb337, 4, none⟩) (Kd.R_far (p := ⟨gb337, 3, none⟩) (Kd.R_far (p := ⟨gb337, 2, none⟩) (Kd.R_far (p := ⟨gb337, 1, none⟩) (Kd.R_far (p := ⟨gb337, 0, none⟩) (Kd.R_types HO_3.out BK337.out (by decide)) (fun _ hk => hk.2) (.int .i64 ((rd_T71 l0_0 x13_1).f0))) (fun _ hk => hk.2) (.int .i64 ((rd_T71 l0_0 x13_1).f1.f0))) (fun _ hk => hk.2) (.int .i64 ((rd_T71 l0_0 x13_1).f1.f1))) (fun _ hk => hk.2) (.int .i64 ((rd_T71 l0_0 x13_1).f2))) (fun _ hk => hk.2) (.int .i64 ((rd_T71 l0_0 x13_1).f3))) (fun _ h_ => h_.1)))); (case side2 => exact (Kd.R_reads' HO_3.out).2.1); rintro e w20 ⟨rfl, hb⟩; replace HO_3 := Aside0.mk (Kd.R_below (by (with_reducible repeat (first | apply Kd.R_alloc | apply Kd.R_drewN | apply Kd.R_drew)); exact (Kd.R_mono (Kd.R_far (p := ⟨gb337, 4, none⟩) (Kd.R_far (p := ⟨gb337, 3, none⟩) (Kd.R_far (p := ⟨gb337, 2, none⟩) (Kd.R_far (p := ⟨gb337, 1, none⟩) (Kd.R_far (p := ⟨gb337, 0, none⟩) (Kd.R_types HO_3.out BK337.out (by decide)) (fun _ hk => hk.2) (.int .i64 ((rd_T71 l0_0 x13_1).f0))) (fun _ hk => hk.2) (.int .i64 ((rd_T71 l0_0 x13_1).f1.f0))) (fun _ hk => hk.2) (.int .i64 ((rd_T71 l0_0 x13_1).f1.f1))) (fun _ hk => hk.2) (.int .i64 ((rd_T71 l0_0 x13_1).f2))) (fun _ hk => hk.2) (.int .i64 ((rd_T71 l0_0 x13_1).f3))) (fun _ h_ => h_.1))) hb); replace BK331 := Aside0.mk (blk_below (g := gb331) (o := .cells #[.slice (some ad336) l0_0.length c0_0] 68 (0, 0)) (bk_ BK331) hb); replace BK337 := Aside0.mk (blk_below (g := gb337) (o := .cells #[.int .i64 ((rd_T71 l0_0 x13_1).f0), .int .i64 ((rd_T71 l0_0 x13_1).f1.f0), .int .i64 ((rd_T71 l0_0 x13_1).f1.f1), .int .i64 ((rd_T71 l0_0 x13_1).f2), .int .i64 ((rd_T71 l0_0 x13_1).f3)] 71 (0, 0)) (bk_ BK337) hb); replace HB := hbs_ hb; clear hb))
       go_roundg k1
       case measure => have := HK1.out; omega
       case rel => exact ⟨(x3_1), (wrap64 (x13_1 + 1)), rf_, H', ⟨by have := HK1.out; omega⟩, ⟨by (with_reducible repeat (first | apply Kd.R_alloc | apply Kd.R_drewN | apply Kd.R_drew)); exact HO_3.out⟩, ⟨bk_ BK331⟩, ⟨bl_⟩⟩
      ·replace c15 := Bool.eq_false_iff.mpr c15
       subst c15
       replace H := ite_f_ H
       obtain ⟨c21, H⟩ := ifn_ H
       have LMc21 := Aside0.mk c21
       clear c21
       obtain ⟨y339, hy339⟩ : ∃ y_ : List (S27), y_ = (x3_1 ++ [(⟨(rd_T71 l0_0 x13_1).f1.f0, (rd_T71 l0_0 x13_1).f1.f1⟩ : S27)]) := ⟨_, rfl⟩
       replace H : (impl_PolicyRoles.l0 k1 y339 l0_0 (l0_0.length : Int) (wrap64 (x13_1 + 1))) = some r := by first | (rw [hy339]; with_reducible exact H) | (have H2_ := (Option.bind_some _ _).symm.trans H; rw [hy339]; with_reducible exact H2_) | (have H2_ := (Option.bind_some _ _).symm.trans H; with_reducible exact H2_) | with_reducible exact H | (rw [hy339]; exact H) | exact H
       have Ny339 := Aside0.mk hy339
       clear hy339
       have H' := Aside0.mk H
       clear H
       have p336 : 0 ≤ (x13_1 : Int) := od_
       have q336 : x13_1 < (l0_0.length : Int) := od_
       obtain ⟨ad336, e336, hx336_0, hx336_1, hx336_2, hx336_3, hx336_4⟩ := at_T71 (Kd.C_below HR0_0.out HB.out) x13_1 p336 q336
       cases e336
       replace p336 := eq_true p336
       replace q336 := eq_true q336
       go_wp2_with (first | ((with_reducible refine gate_dst (N := 5) rfl ?_); refine box_event ?hg (N := 5) ?hd (cs := #[.int .i64 0, .int .i64 0, .int .i64 0, .int .i64 0, .int .i64 0]) (t := 71) ?hr ?_; (case hd => rfl); (case hg => rfl); (case hr => first | (go_simp; done) | (go_simp; rfl)); intro gb337 hg w22 hbox hb; replace HO_3 := hob_ HO_3 hb; have BK337 := Aside0.mk (hbox); have GW337 := gs_ hg; have GE337 := gs_ hg; replace HB := hbs_ hb; have NB331_337 := nl_ hg BK331; have NB337_331 := nr_ hg BK331; replace BK331 := bkb_ BK331 hb; clear hb hbox hg; have hnb23 := NB337_331.out; have hnc23 := NB331_337.out; have hcz24 := blk_cell BK337.out; have hfz24 := blk_frozen BK337.out; obtain ⟨Ao25, co25, eo25⟩ := Kd.R_slice HO_3.out; subst eo25) | (go_at_call 76; (with_reducible refine (impl_Role_76.calls k1 _ _ x3_1 ((rd_T71 l0_0 x13_1).f1.f0) ((rd_T71 l0_0 x13_1).f1.f1) false _ ?side1 ?side2 A14.out).mono ?_); (case side1 => refine (Kd.R_reads' (e := 27) (base := w.heap.size) (ok := fun k_ => True) (n := x3_1.length) (c := co25) ?_).2.2; exact (by (with_reducible repeat (first | apply Kd.R_alloc | apply Kd.R_drewN | apply Kd.R_drew)); exact (Kd.R_mono (Kd.R_far (p := ⟨gb337, 4, none⟩) (Kd.R_far (p := ⟨gb337, 3, none⟩) (Kd.R_far (p := ⟨gb337, 2, none⟩) (Kd.R_far (p := ⟨gb337, 1, none⟩) (Kd.R_far (p := ⟨gb337, 0, none⟩) (Kd.R_types HO_3.out BK337.out (by decide)) (fun _ hk => hk.2) (.int .i64 ((rd_T71 l0_0 x13_1).f0))) (fun _ hk => hk.2) (.int .i64 ((rd_T71 l0_0 x13_1).f1.f0))) (fun _ hk => hk.2) (.int .i64 ((rd_T71 l0_0 x13_1).f1.f1))) (fun _ hk => hk.2) (.int .i64 ((rd_T71 l0_0 x13_1).f2))) (fun _ hk => hk.2) (.int .i64 ((rd_T71 l0_0 x13_1).f3))) (fun _ h_ => h_.1)))); (case side2 => exact (Kd.R_reads' HO_3.out).2.1); rintro e w26 ⟨rfl, hb⟩; replace HO_3 := Aside0.mk (Kd.R_below (by (with_reducible repeat (first | apply Kd.R_alloc | apply Kd.R_drewN | apply Kd.R_drew)); exact (Kd.R_mono (Kd.R_far (p := ⟨gb337, 4, none⟩) (Kd.R_far (p := ⟨gb337, 3, none⟩) (Kd.R_far (p := ⟨gb337, 2, none⟩) (Kd.R_far (p := ⟨gb337, 1, none⟩) (Kd.R_far (p := ⟨gb337, 0, none⟩) (Kd.R_types HO_3.out BK337.out (by decide)) (fun _ hk => hk.2) (.int .i64 ((rd_T71 l0_0 x13_1).f0))) (fun _ hk => hk.2) (.int .i64 ((rd_T71 l0_0 x13_1).f1.f0))) (fun _ hk => hk.2) (.int .i64 ((rd_T71 l0_0 x13_1).f1.f1))) (fun _ hk => hk.2) (.int .i64 ((rd_T71 l0_0 x13_1).f2))) (fun _ hk => hk.2) (.int .i64 ((rd_T71 l0_0 x13_1).f3))) (fun _ h_ => h_.1))) hb); replace BK331 := Aside0.mk (blk_below (g := gb331) (o := .cells #[.slice (some ad336) l0_0.length c0_0] 68 (0, 0)) (bk_ BK331) hb); replace BK337 := Aside0.mk (blk_below (g := gb337) (o := .cells #[.int .i64 ((rd_T71 l0_0 x13_1).f0), .int .i64 ((rd_T71 l0_0 x13_1).f1.f0), .int .i64 ((rd_T71 l0_0 x13_1).f1.f1), .int .i64 ((rd_T71 l0_0 x13_1).f2), .int .i64 ((rd_T71 l0_0 x13_1).f3)] 71 (0, 0)) (bk_ BK337) hb); replace HB := hbs_ hb; clear hb; have hcz27 := blk_cell BK337.out; have hfz27 := blk_frozen BK337.out) | ((with_reducible refine gate_builtin (b := .append) (xs := #[.tmp 27, .tmp 30]) rfl ?_); at_builtin; refine Kd.R_append k27 (w0 := w) w.heap.size rfl (.tmp 27) (.tmp 30) 37 27 (.agg #[(.int .i64 0), (.int .i64 0)]) 16 rfl Try.underlying37 info27 rfl (by decide) (by omega) (.slice Ao25 x3_1.length co25) x3_1 (⟨(rd_T71 l0_0 x13_1).f1.f0, (rd_T71 l0_0 x13_1).f1.f1⟩ : S27) [.int .i64 ((rd_T71 l0_0 x13_1).f1.f0), .int .i64 ((rd_T71 l0_0 x13_1).f1.f1)] (fun _ => True) (fun _ => False) rfl rfl ?aP (fun _ hk => hk.elim) ?aF ?aO ?aB ?aS ?aL ?_; (case aP => exact k27_mkM _ _ _ (⟨(rd_T71 l0_0 x13_1).f1.f0, (rd_T71 l0_0 x13_1).f1.f1⟩ : S27)); (case aB => exact bl_); (case aF => exact (fun _ _ => trivial)); (case aO => exact (by (with_reducible repeat (first | apply Kd.R_alloc | apply Kd.R_drewN | apply Kd.R_drew)); exact HO_3.out)); (case aS => exact bls_); (case aL => have := LMc21.out; omega); intro v340 w28 ho hb hg hat; rw [← Ny339.out] at ho; replace BK331 := Aside0.mk (blk_grown (g := gb331) (o := .cells #[.slice (some ad336) l0_0.length c0_0] 68 (0, 0)) (bk_ BK331) hg (Kd.R_ne HO_3.out BK331.out (by decide))); replace BK337 := Aside0.mk (blk_grown (g := gb337) (o := .cells #[.int .i64 ((rd_T71 l0_0 x13_1).f0), .int .i64 ((rd_T71 l0_0 x13_1).f1.f0), .int .i64 ((rd_T71 l0_0 x13_1).f1.f1), .int .i64 ((rd_T71 l0_0 x13_1).f2), .int .i64 ((rd_T71 l0_0 x13_1).f3)] 71 (0, 0)) (bk_ BK337) hg (Kd.R_ne HO_3.out BK337.out (by decide))); replace HB := Aside0.mk (hb); have HO341 := Aside0.mk (ho); clear HO_3; clear ho hb hg hat))
       go_roundg k1
       case measure => have := HK1.out; omega
       case rel => exact ⟨(y339), (wrap64 (x13_1 + 1)), rf_, H', ⟨by have := HK1.out; omega⟩, ⟨by (with_reducible repeat (first | apply Kd.R_alloc | apply Kd.R_drewN | apply Kd.R_drew)); exact HO341.out⟩, ⟨bk_ BK331⟩, ⟨bl_⟩⟩
     ·rw [if_neg c13] at H
      have c13b0 : (((rd_T71 l0_0 x13_1).f0) == 1) = false := beq_eq_false_iff_ne.mpr c13
      have c13b1 : (((rd_T71 l0_0 x13_1).f0) != 1) = true := bne_iff_ne.mpr c13
      have H' := Aside0.mk H
      clear H
      have p336 : 0 ≤ (x13_1 : Int) := od_
      have q336 : x13_1 < (l0_0.length : Int) := od_
      obtain ⟨ad336, e336, hx336_0, hx336_1, hx336_2, hx336_3, hx336_4⟩ := at_T71 (Kd.C_below HR0_0.out HB.out) x13_1 p336 q336
      cases e336
      replace p336 := eq_true p336
      replace q336 := eq_true q336
      go_wp2_with (first | ((with_reducible refine gate_dst (N := 5) rfl ?_); refine box_event ?hg (N := 5) ?hd (cs := #[.int .i64 0, .int .i64 0, .int .i64 0, .int .i64 0, .int .i64 0]) (t := 71) ?hr ?_; (case hd => rfl); (case hg => rfl); (case hr => first | (go_simp; done) | (go_simp; rfl)); intro gb337 hg w29 hbox hb; replace HO_3 := hob_ HO_3 hb; have BK337 := Aside0.mk (hbox); have GW337 := gs_ hg; have GE337 := gs_ hg; replace HB := hbs_ hb; have NB331_337 := nl_ hg BK331; have NB337_331 := nr_ hg BK331; replace BK331 := bkb_ BK331 hb; clear hb hbox hg; have hnb30 := NB337_331.out; have hnc30 := NB331_337.out; have hcz31 := blk_cell BK337.out; have hfz31 := blk_frozen BK337.out))
      go_roundg k1
      case measure => have := HK1.out; omega
      case rel => exact ⟨(x3_1), (wrap64 (x13_1 + 1)), rf_, H', ⟨by have := HK1.out; omega⟩, ⟨by (with_reducible repeat (first | apply Kd.R_alloc | apply Kd.R_drewN | apply Kd.R_drew)); exact Kd.R_mono (Kd.R_far (p := ⟨gb337, 4, none⟩) (Kd.R_far (p := ⟨gb337, 3, none⟩) (Kd.R_far (p := ⟨gb337, 2, none⟩) (Kd.R_far (p := ⟨gb337, 1, none⟩) (Kd.R_far (p := ⟨gb337, 0, none⟩) (Kd.R_types HO_3.out BK337.out (by decide)) (fun _ hk => hk.2) (.int .i64 ((rd_T71 l0_0 x13_1).f0))) (fun _ hk => hk.2) (.int .i64 ((rd_T71 l0_0 x13_1).f1.f0))) (fun _ hk => hk.2) (.int .i64 ((rd_T71 l0_0 x13_1).f1.f1))) (fun _ hk => hk.2) (.int .i64 ((rd_T71 l0_0 x13_1).f2))) (fun _ hk => hk.2) (.int .i64 ((rd_T71 l0_0 x13_1).f3))) (fun _ hk => trivial)⟩, ⟨bk_ BK331⟩, ⟨bl_⟩⟩
    ·rw [if_neg c10] at H
     have c10b0 : decide (x13_1 < (l0_0.length : Int)) = false := decide_eq_false c10
     clear c10
     obtain rfl := Option.some.inj H
     go_wp2
     go_ret
     exact ⟨_, eq_, by (with_reducible repeat (first | apply Kd.R_alloc | apply Kd.R_drewN | apply Kd.R_drew)); exact HO_3.out, bl_⟩
 ·replace c3 := Bool.eq_false_iff.mpr c3
  subst c3
  replace H := ite_f_ H
  obtain rfl := Option.some.inj H
  go_enter Try.func46, Try.ntmps46
  go_wp2_with (first | ((with_reducible refine gate_dst (N := 1) rfl ?_); refine box_event ?hg (N := 1) ?hd (cs := #[.slice A0_0 l0_0.length c0_0]) (t := 68) ?hr ?_; (case hd => rfl); (case hg => rfl); (case hr => first | (go_simp; done) | (go_simp; rfl)); intro gb331 hg w32 hbox hb; have BK331 := Aside0.mk (hbox); have GW331 := gs_ hg; have GE331 := gs_ hg; replace HB := hbs_ hb; clear hb hbox hg; have hcz33 := blk_cell BK331.out; have hfz33 := blk_frozen BK331.out) | ((with_reducible refine gate_callee (f := 49) rfl ?_); refine goesC_ (some 7) Try.func49 #[.agg #[.slice A0_0 l0_0.length c0_0]] ?_; (with_reducible refine (impl_PolicyOk.calls k _ _ l0_0 false _ ?side1 ?side2 A2.out).mono ?_); (case side1 => repeat (first | exact (Kd.C_below HR0_0.out HB.out) | (with_reducible refine Kd.C_alloc ?_ _) | (with_reducible refine Kd.C_drewN ?_ _) | (with_reducible refine Kd.C_drew ?_))); (case side2 => exact HC0_0.out); rintro e w34 ⟨rfl, hb⟩; refine ⟨_, rfl, ?_⟩; replace BK331 := bkb_ BK331 hb; replace HB := hbs_ hb; clear hb))
  go_ret
  exact ⟨_, eq_, by first | exact Kd.R_nil _ _ _ _ _ | exact Kd.N_nil _ _ _ _ _ | exact Kd.V_nil _ _ _ _ _ | exact Kd.Q_nil _ _ _ _ _ | exact Kd.S_nil _ _ _ _ _, bl_⟩
def impl_isPerson.f (a0 : Int) : Option (Bool) := (impl_in.f a0 0 5).bind fun t342 => (some t342)
set_option maxHeartbeats 8000000 in
set_option maxRecDepth 100000 in
theorem impl_isPerson.calls (a0 : Int) (r : Bool) (w : World) (h : impl_isPerson.f a0 = some r) :
  Calls Try.prog 121 #[.int .i64 a0] w fun e w' => e = .returned (.bool r) ∧ Drawn0 w w' := by
 have H : ((impl_in.f a0 0 5).bind fun t342 => (some t342)) = some r := h
 clear h
 obtain ⟨t342, A2, H⟩ := bindE_ H
 obtain rfl := Option.some.inj H
 go_enter Try.func121, Try.ntmps121
 go_wp2_with (first | ((with_reducible refine gate_callee (f := 83) rfl ?_); refine goesC_ (some 4) Try.func83 #[.int .i64 a0, .int .i64 0, .int .i64 5] ?_; (with_reducible refine (impl_in.calls a0 0 5 t342 _ A2.out).mono ?_); rintro e w' ⟨rfl, ⟨nd, rfl⟩⟩; refine ⟨_, rfl, ?_⟩))
 go_ret
 exact ⟨by first | rfl | (simp; done) | (simp [*]; done), by repeat (first | exact Drawn0.refl _ | apply Drawn0.step)⟩
def impl_CredOk.j0 : Nat → Bool → Int → Int → Int → Int → Int → Int → Int → Int → Int → Int → Option (Bool)
 | 0, _, _, _, _, _, _, _, _, _, _, _ => none
 | k + 1, x19, x344000, x344001, x344002, x344003, x344004, x344005, x344006, x344007, x344008, x344009 => if x19 = true then (some false) else (if x344000 = 1 then ((impl_isPerson.f x344003).bind fun t348 => (if t348 = true then (if (x344004 == 0 && (x344005 == 0)) = true then (some (x344006 == 0 && (x344007 == 0))) else (some false)) else (some false))) else (if x344000 = 2 then (if x344003 = 0 then ((impl_RoleOk.f x344004 x344005).bind fun t349 => (if t349 = true then (some (x344006 == 0 && (x344007 == 0))) else (some false))) else (some false)) else (if x344000 = 3 then (if x344003 = 0 then ((impl_RoleOk.f x344004 x344005).bind fun t350 => (if t350 = true then ((impl_RoleOk.f x344006 x344007).bind fun t351 => (if t351 = true then (some (x344006 == 0)) else (some false))) else (some false))) else (some false)) else (if x344000 = 4 then (if x344003 = 0 then ((impl_RoleOk.f x344004 x344005).bind fun t352 => (if t352 = true then ((impl_RoleOk.f x344006 x344007).bind fun t353 => (some t353)) else (some false))) else (some false)) else (some false)))))
def impl_CredOk.f (k : Nat) (a0_0 : Int) (a0_1 : Int) (a0_2 : Int) (a0_3 : Int) (a0_4 : Int) (a0_5 : Int) (a0_6 : Int) (a0_7 : Int) (a0_8 : Int) (a0_9 : Int) : Option (Bool) := (impl_RoleOk.f a0_1 a0_2).bind fun t344 => (if t344 = true then ((impl_in.f a0_8 1 9999).bind fun t345 => (if t345 = true then ((impl_in.f a0_9 0 99).bind fun t346 => (impl_CredOk.j0 k (!t346) a0_0 a0_1 a0_2 a0_3 a0_4 a0_5 a0_6 a0_7 a0_8 a0_9)) else (impl_CredOk.j0 k true a0_0 a0_1 a0_2 a0_3 a0_4 a0_5 a0_6 a0_7 a0_8 a0_9))) else (impl_CredOk.j0 k true a0_0 a0_1 a0_2 a0_3 a0_4 a0_5 a0_6 a0_7 a0_8 a0_9))
set_option maxHeartbeats 8000000 in
set_option maxRecDepth 100000 in
theorem impl_CredOk.calls (k : Nat) (a0_0 : Int) (a0_1 : Int) (a0_2 : Int) (a0_3 : Int) (a0_4 : Int) (a0_5 : Int) (a0_6 : Int) (a0_7 : Int) (a0_8 : Int) (a0_9 : Int) (r : Bool) (w : World) (h : impl_CredOk.f k a0_0 a0_1 a0_2 a0_3 a0_4 a0_5 a0_6 a0_7 a0_8 a0_9 = some r) :
  Calls Try.prog 75 #[.agg #[.int .i64 a0_0, .int .i64 a0_1, .int .i64 a0_2, .int .i64 a0_3, .int .i64 a0_4, .int .i64 a0_5, .int .i64 a0_6, .int .i64 a0_7, .int .i64 a0_8, .int .i64 a0_9]] w fun e w' => e = .returned (.bool r) ∧ Below w.heap.size w w' := by
 have hu46 := Try.underlying46
 have hu27 := Try.underlying27
 have HB := Aside0.mk (Below.refl w.heap.size w)
 have H : ((impl_RoleOk.f a0_1 a0_2).bind fun t344 => (if t344 = true then ((impl_in.f a0_8 1 9999).bind fun t345 => (if t345 = true then ((impl_in.f a0_9 0 99).bind fun t346 => (impl_CredOk.j0 k (!t346) a0_0 a0_1 a0_2 a0_3 a0_4 a0_5 a0_6 a0_7 a0_8 a0_9)) else (impl_CredOk.j0 k true a0_0 a0_1 a0_2 a0_3 a0_4 a0_5 a0_6 a0_7 a0_8 a0_9))) else (impl_CredOk.j0 k true a0_0 a0_1 a0_2 a0_3 a0_4 a0_5 a0_6 a0_7 a0_8 a0_9))) = some r := h
 clear h
 have HC2 := Aside0.mk H
 clear H
 go_enter Try.func75, Try.ntmps75
 go_upto_region 1 with (first | ((with_reducible refine gate_dst (N := 1) rfl ?_); refine box_event ?hg (N := 1) ?hd (cs := #[.int .i64 a0_0, .int .i64 a0_1, .int .i64 a0_2, .int .i64 a0_3, .int .i64 a0_4, .int .i64 a0_5, .int .i64 a0_6, .int .i64 a0_7, .int .i64 a0_8, .int .i64 a0_9]) (t := 46) ?hr ?_; (case hd => rfl); (case hg => rfl); (case hr => first | (go_simp; done) | (go_simp; rfl)); intro gb343 hg w3 hbox hb; have BK343 := Aside0.mk (hbox); have GW343 := gs_ hg; have GE343 := gs_ hg; replace HB := hbs_ hb; clear hb hbox hg))
 (try simp only [Act.put, List.setIfInBounds_toArray, List.set_cons_zero, List.set_cons_succ])
 go_cut [19] (fun v19 wc => ∃ (kq : Nat) (x19_1 : Bool), v19 = .bool x19_1 ∧ Aside0 (impl_CredOk.j0 kq x19_1 a0_0 a0_1 a0_2 a0_3 a0_4 a0_5 a0_6 a0_7 a0_8 a0_9 = some r) ∧ Aside0 (kq ≤ k) ∧ Aside0 (wc.heap[gb343]? = some (.cells #[.int .i64 a0_0, .int .i64 a0_1, .int .i64 a0_2, .int .i64 a0_3, .int .i64 a0_4, .int .i64 a0_5, .int .i64 a0_6, .int .i64 a0_7, .int .i64 a0_8, .int .i64 a0_9] 46 (0, 0))) ∧ Aside0 (Below w.heap.size w wc))
 case first =>
  have H := HC2.out
  clear HC2
  obtain ⟨t344, A4, H⟩ := bindE_ H
  by_cases c5 : t344 = true
  ·subst c5
   replace H := ite_t_ H
   obtain ⟨t345, A6, H⟩ := bindE_ H
   by_cases c7 : t345 = true
   ·subst c7
    replace H := ite_t_ H
    obtain ⟨t346, A8, H⟩ := bindE_ H
    have H' := Aside0.mk H
    clear H
    have hcz9 := blk_cell BK343.out
    have hfz9 := blk_frozen BK343.out
    go_wp2_with (first | ((with_reducible refine gate_callee (f := 103) rfl ?_); refine goesC_ (some 6) Try.func103 #[.agg #[.int .i64 a0_1, .int .i64 a0_2]] ?_; (with_reducible refine (impl_RoleOk.calls a0_1 a0_2 true _ A4.out).mono ?_); rintro e w10 ⟨rfl, hb⟩; refine ⟨_, rfl, ?_⟩; replace BK343 := bkb_ BK343 hb; replace HB := hbs_ hb; clear hb; have hcz11 := blk_cell BK343.out; have hfz11 := blk_frozen BK343.out) | (go_at_call 83; (with_reducible refine (impl_in.calls a0_8 1 9999 true _ A6.out).mono ?_); rintro e w' ⟨rfl, ⟨nd, rfl⟩⟩) | (go_at_call 83; (with_reducible refine (impl_in.calls a0_9 0 99 t346 _ A8.out).mono ?_); rintro e w' ⟨rfl, ⟨nd, rfl⟩⟩))
    go_meet
    case rel => exact ⟨_, (!t346), rf_, H', ⟨by first | omega | exact Nat.le_refl _⟩, ⟨bk_ BK343⟩, ⟨bl_⟩⟩
   ·replace c7 := Bool.eq_false_iff.mpr c7
    subst c7
    replace H := ite_f_ H
    have H' := Aside0.mk H
    clear H
    have hcz12 := blk_cell BK343.out
    have hfz12 := blk_frozen BK343.out
    go_wp2_with (first | ((with_reducible refine gate_callee (f := 103) rfl ?_); refine goesC_ (some 6) Try.func103 #[.agg #[.int .i64 a0_1, .int .i64 a0_2]] ?_; (with_reducible refine (impl_RoleOk.calls a0_1 a0_2 true _ A4.out).mono ?_); rintro e w13 ⟨rfl, hb⟩; refine ⟨_, rfl, ?_⟩; replace BK343 := bkb_ BK343 hb; replace HB := hbs_ hb; clear hb; have hcz14 := blk_cell BK343.out; have hfz14 := blk_frozen BK343.out) | (go_at_call 83; (with_reducible refine (impl_in.calls a0_8 1 9999 false _ A6.out).mono ?_); rintro e w' ⟨rfl, ⟨nd, rfl⟩⟩))
    go_meet
    case rel => exact ⟨_, (true), rf_, H', ⟨by first | omega | exact Nat.le_refl _⟩, ⟨bk_ BK343⟩, ⟨bl_⟩⟩
  ·replace c5 := Bool.eq_false_iff.mpr c5
   subst c5
   replace H := ite_f_ H
   have H' := Aside0.mk H
   clear H
   have hcz15 := blk_cell BK343.out
   have hfz15 := blk_frozen BK343.out
   go_wp2_with (first | ((with_reducible refine gate_callee (f := 103) rfl ?_); refine goesC_ (some 6) Try.func103 #[.agg #[.int .i64 a0_1, .int .i64 a0_2]] ?_; (with_reducible refine (impl_RoleOk.calls a0_1 a0_2 false _ A4.out).mono ?_); rintro e w16 ⟨rfl, hb⟩; refine ⟨_, rfl, ?_⟩; replace BK343 := bkb_ BK343 hb; replace HB := hbs_ hb; clear hb))
   go_meet
   case rel => exact ⟨_, (true), rf_, H', ⟨by first | omega | exact Nat.le_refl _⟩, ⟨bk_ BK343⟩, ⟨bl_⟩⟩
 case rest =>
  clear HC2
  try clear c1
  try clear p2
  try clear c5
  try clear c7
  try clear c10
  try clear hcz11
  try clear hcz12
  try clear hcz14
  try clear hcz15
  try clear hcz9
  try clear hfz11
  try clear hfz12
  try clear hfz14
  try clear hfz15
  try clear hfz9
  obtain ⟨kq, x19_1, rfl, HA, HJ1, BK343, HB⟩ := hcut
  cases kq with
  | zero => exact absurd HA.out (by simp [impl_CredOk.j0])
  | succ kj1 =>
   have H := HA.out
   clear HA
   simp only [impl_CredOk.j0] at H
   by_cases c17 : x19_1 = true
   ·subst c17
    replace H := ite_t_ H
    obtain rfl := Option.some.inj H
    go_wp2
    go_ret
    exact ⟨eq_, bl_⟩
   ·replace c17 := Bool.eq_false_iff.mpr c17
    subst c17
    replace H := ite_f_ H
    by_cases c18 : a0_0 = 1
    ·rw [if_pos c18] at H
     have c18b0 : (a0_0 == 1) = true := beq_iff_eq.mpr c18
     have c18b1 : (a0_0 != 1) = false := bne_eq_false_iff_eq.mpr c18
     clear c18
     obtain ⟨t348, A19, H⟩ := bindE_ H
     by_cases c20 : t348 = true
     ·subst c20
      replace H := ite_t_ H
      by_cases c21 : (a0_4 == 0 && (a0_5 == 0)) = true
      ·rw [if_pos c21] at H
       have c21b0 : (a0_4 == 0 && (a0_5 == 0)) = true := c21
       (try (have c21b1 : decide (a0_4 = 0 && (a0_5 == 0)) = true := by simpa using c21))
       (try (have c21b2 : (a0_4 == 0 && (a0_5 == 0)) = true := by simpa using c21))
       clear c21
       obtain rfl := Option.some.inj H
       go_wp2_with (first | ((with_reducible refine gate_dst (N := 3) rfl ?_); refine box_event ?hg (N := 3) ?hd (cs := #[.int .i64 0, .int .i64 0]) (t := 27) ?hr ?_; (case hd => rfl); (case hg => rfl); (case hr => first | (go_simp; done) | (go_simp; rfl)); intro gb347 hg w22 hbox hb; have BK347 := Aside0.mk (hbox); have GW347 := gs_ hg; have GE347 := gs_ hg; replace HB := hbs_ hb; have NB343_347 := nl_ hg BK343; have NB347_343 := nr_ hg BK343; replace BK343 := bkb_ BK343 hb; clear hb hbox hg; have hnb23 := NB347_343.out; have hnc23 := NB343_347.out; have hcz24 := blk_cell BK347.out; have hfz24 := blk_frozen BK347.out; have hcz25 := blk_cell BK343.out; have hfz25 := blk_frozen BK343.out) | ((with_reducible refine gate_callee (f := 121) rfl ?_); refine goesC_ (some 27) Try.func121 #[.int .i64 a0_3] ?_; (with_reducible refine (impl_isPerson.calls a0_3 true _ A19.out).mono ?_); rintro e w' ⟨rfl, ⟨nd, rfl⟩⟩; refine ⟨_, rfl, ?_⟩))
       go_ret
       exact ⟨eq_, bl_⟩
      ·rw [if_neg c21] at H
       have c21b0 : (a0_4 == 0 && (a0_5 == 0)) = false := by simpa using c21
       (try (have c21b1 : decide (a0_4 = 0 && (a0_5 == 0)) = false := by simpa using c21))
       (try (have c21b2 : (a0_4 == 0 && (a0_5 == 0)) = false := by simpa using c21))
       (try (have c21b3 : ¬ (a0_4 = 0 && (a0_5 == 0)) := by simpa using c21))
       clear c21
       obtain rfl := Option.some.inj H
       go_wp2_with (first | ((with_reducible refine gate_dst (N := 3) rfl ?_); refine box_event ?hg (N := 3) ?hd (cs := #[.int .i64 0, .int .i64 0]) (t := 27) ?hr ?_; (case hd => rfl); (case hg => rfl); (case hr => first | (go_simp; done) | (go_simp; rfl)); intro gb347 hg w26 hbox hb; have BK347 := Aside0.mk (hbox); have GW347 := gs_ hg; have GE347 := gs_ hg; replace HB := hbs_ hb; have NB343_347 := nl_ hg BK343; have NB347_343 := nr_ hg BK343; replace BK343 := bkb_ BK343 hb; clear hb hbox hg; have hnb27 := NB347_343.out; have hnc27 := NB343_347.out; have hcz28 := blk_cell BK347.out; have hfz28 := blk_frozen BK347.out; have hcz29 := blk_cell BK343.out; have hfz29 := blk_frozen BK343.out) | ((with_reducible refine gate_callee (f := 121) rfl ?_); refine goesC_ (some 27) Try.func121 #[.int .i64 a0_3] ?_; (with_reducible refine (impl_isPerson.calls a0_3 true _ A19.out).mono ?_); rintro e w' ⟨rfl, ⟨nd, rfl⟩⟩; refine ⟨_, rfl, ?_⟩))
       go_ret
       exact ⟨eq_, bl_⟩
     ·replace c20 := Bool.eq_false_iff.mpr c20
      subst c20
      replace H := ite_f_ H
      obtain rfl := Option.some.inj H
      go_wp2_with (first | ((with_reducible refine gate_dst (N := 3) rfl ?_); refine box_event ?hg (N := 3) ?hd (cs := #[.int .i64 0, .int .i64 0]) (t := 27) ?hr ?_; (case hd => rfl); (case hg => rfl); (case hr => first | (go_simp; done) | (go_simp; rfl)); intro gb347 hg w30 hbox hb; have BK347 := Aside0.mk (hbox); have GW347 := gs_ hg; have GE347 := gs_ hg; replace HB := hbs_ hb; have NB343_347 := nl_ hg BK343; have NB347_343 := nr_ hg BK343; replace BK343 := bkb_ BK343 hb; clear hb hbox hg; have hnb31 := NB347_343.out; have hnc31 := NB343_347.out; have hcz32 := blk_cell BK347.out; have hfz32 := blk_frozen BK347.out; have hcz33 := blk_cell BK343.out; have hfz33 := blk_frozen BK343.out) | ((with_reducible refine gate_callee (f := 121) rfl ?_); refine goesC_ (some 27) Try.func121 #[.int .i64 a0_3] ?_; (with_reducible refine (impl_isPerson.calls a0_3 false _ A19.out).mono ?_); rintro e w' ⟨rfl, ⟨nd, rfl⟩⟩; refine ⟨_, rfl, ?_⟩))
      go_ret
      exact ⟨eq_, bl_⟩
    ·rw [if_neg c18] at H
     have c18b0 : (a0_0 == 1) = false := beq_eq_false_iff_ne.mpr c18
     have c18b1 : (a0_0 != 1) = true := bne_iff_ne.mpr c18
     by_cases c34 : a0_0 = 2
     ·rw [if_pos c34] at H
      have c34b0 : (a0_0 == 2) = true := beq_iff_eq.mpr c34
      have c34b1 : (a0_0 != 2) = false := bne_eq_false_iff_eq.mpr c34
      clear c34
      by_cases c35 : a0_3 = 0
      ·rw [if_pos c35] at H
       have c35b0 : (a0_3 == 0) = true := beq_iff_eq.mpr c35
       have c35b1 : (a0_3 != 0) = false := bne_eq_false_iff_eq.mpr c35
       clear c35
       obtain ⟨t349, A36, H⟩ := bindE_ H
       by_cases c37 : t349 = true
       ·subst c37
        replace H := ite_t_ H
        obtain rfl := Option.some.inj H
        go_wp2_with (first | ((with_reducible refine gate_dst (N := 3) rfl ?_); refine box_event ?hg (N := 3) ?hd (cs := #[.int .i64 0, .int .i64 0]) (t := 27) ?hr ?_; (case hd => rfl); (case hg => rfl); (case hr => first | (go_simp; done) | (go_simp; rfl)); intro gb347 hg w38 hbox hb; have BK347 := Aside0.mk (hbox); have GW347 := gs_ hg; have GE347 := gs_ hg; replace HB := hbs_ hb; have NB343_347 := nl_ hg BK343; have NB347_343 := nr_ hg BK343; replace BK343 := bkb_ BK343 hb; clear hb hbox hg; have hnb39 := NB347_343.out; have hnc39 := NB343_347.out; have hcz40 := blk_cell BK347.out; have hfz40 := blk_frozen BK347.out; have hcz41 := blk_cell BK343.out; have hfz41 := blk_frozen BK343.out) | (go_at_call 103; (with_reducible refine (impl_RoleOk.calls a0_4 a0_5 true _ A36.out).mono ?_); rintro e w42 ⟨rfl, hb⟩; replace BK343 := Aside0.mk (blk_below (g := gb343) (o := .cells #[.int .i64 a0_0, .int .i64 a0_1, .int .i64 a0_2, .int .i64 a0_3, .int .i64 a0_4, .int .i64 a0_5, .int .i64 a0_6, .int .i64 a0_7, .int .i64 a0_8, .int .i64 a0_9] 46 (0, 0)) (bk_ BK343) hb); replace BK347 := Aside0.mk (blk_below (g := gb347) (o := .cells #[.int .i64 0, .int .i64 0] 27 (0, 0)) (bk_ BK347) hb); replace HB := hbs_ hb; clear hb; have hcz43 := blk_cell BK343.out; have hfz43 := blk_frozen BK343.out; have hcz44 := blk_cell BK347.out; have hfz44 := blk_frozen BK347.out))
        go_ret
        exact ⟨eq_, bl_⟩
       ·replace c37 := Bool.eq_false_iff.mpr c37
        subst c37
        replace H := ite_f_ H
        obtain rfl := Option.some.inj H
        go_wp2_with (first | ((with_reducible refine gate_dst (N := 3) rfl ?_); refine box_event ?hg (N := 3) ?hd (cs := #[.int .i64 0, .int .i64 0]) (t := 27) ?hr ?_; (case hd => rfl); (case hg => rfl); (case hr => first | (go_simp; done) | (go_simp; rfl)); intro gb347 hg w45 hbox hb; have BK347 := Aside0.mk (hbox); have GW347 := gs_ hg; have GE347 := gs_ hg; replace HB := hbs_ hb; have NB343_347 := nl_ hg BK343; have NB347_343 := nr_ hg BK343; replace BK343 := bkb_ BK343 hb; clear hb hbox hg; have hnb46 := NB347_343.out; have hnc46 := NB343_347.out; have hcz47 := blk_cell BK347.out; have hfz47 := blk_frozen BK347.out; have hcz48 := blk_cell BK343.out; have hfz48 := blk_frozen BK343.out) | (go_at_call 103; (with_reducible refine (impl_RoleOk.calls a0_4 a0_5 false _ A36.out).mono ?_); rintro e w49 ⟨rfl, hb⟩; replace BK343 := Aside0.mk (blk_below (g := gb343) (o := .cells #[.int .i64 a0_0, .int .i64 a0_1, .int .i64 a0_2, .int .i64 a0_3, .int .i64 a0_4, .int .i64 a0_5, .int .i64 a0_6, .int .i64 a0_7, .int .i64 a0_8, .int .i64 a0_9] 46 (0, 0)) (bk_ BK343) hb); replace BK347 := Aside0.mk (blk_below (g := gb347) (o := .cells #[.int .i64 0, .int .i64 0] 27 (0, 0)) (bk_ BK347) hb); replace HB := hbs_ hb; clear hb))
        go_ret
        exact ⟨eq_, bl_⟩
      ·rw [if_neg c35] at H
       have c35b0 : (a0_3 == 0) = false := beq_eq_false_iff_ne.mpr c35
       have c35b1 : (a0_3 != 0) = true := bne_iff_ne.mpr c35
       obtain rfl := Option.some.inj H
       go_wp2_with (first | ((with_reducible refine gate_dst (N := 3) rfl ?_); refine box_event ?hg (N := 3) ?hd (cs := #[.int .i64 0, .int .i64 0]) (t := 27) ?hr ?_; (case hd => rfl); (case hg => rfl); (case hr => first | (go_simp; done) | (go_simp; rfl)); intro gb347 hg w50 hbox hb; have BK347 := Aside0.mk (hbox); have GW347 := gs_ hg; have GE347 := gs_ hg; replace HB := hbs_ hb; have NB343_347 := nl_ hg BK343; have NB347_343 := nr_ hg BK343; replace BK343 := bkb_ BK343 hb; clear hb hbox hg; have hnb51 := NB347_343.out; have hnc51 := NB343_347.out; have hcz52 := blk_cell BK347.out; have hfz52 := blk_frozen BK347.out; have hcz53 := blk_cell BK343.out; have hfz53 := blk_frozen BK343.out))
       go_ret
       exact ⟨eq_, bl_⟩
     ·rw [if_neg c34] at H
      have c34b0 : (a0_0 == 2) = false := beq_eq_false_iff_ne.mpr c34
      have c34b1 : (a0_0 != 2) = true := bne_iff_ne.mpr c34
      by_cases c54 : a0_0 = 3
      ·rw [if_pos c54] at H
       have c54b0 : (a0_0 == 3) = true := beq_iff_eq.mpr c54
       have c54b1 : (a0_0 != 3) = false := bne_eq_false_iff_eq.mpr c54
       clear c54
       by_cases c55 : a0_3 = 0
       ·rw [if_pos c55] at H
        have c55b0 : (a0_3 == 0) = true := beq_iff_eq.mpr c55
        have c55b1 : (a0_3 != 0) = false := bne_eq_false_iff_eq.mpr c55
        clear c55
        obtain ⟨t350, A56, H⟩ := bindE_ H
        by_cases c57 : t350 = true
        ·subst c57
         replace H := ite_t_ H
         obtain ⟨t351, A58, H⟩ := bindE_ H
         by_cases c59 : t351 = true
         ·subst c59
          replace H := ite_t_ H
          obtain rfl := Option.some.inj H
          go_wp2_with (first | ((with_reducible refine gate_dst (N := 3) rfl ?_); refine box_event ?hg (N := 3) ?hd (cs := #[.int .i64 0, .int .i64 0]) (t := 27) ?hr ?_; (case hd => rfl); (case hg => rfl); (case hr => first | (go_simp; done) | (go_simp; rfl)); intro gb347 hg w60 hbox hb; have BK347 := Aside0.mk (hbox); have GW347 := gs_ hg; have GE347 := gs_ hg; replace HB := hbs_ hb; have NB343_347 := nl_ hg BK343; have NB347_343 := nr_ hg BK343; replace BK343 := bkb_ BK343 hb; clear hb hbox hg; have hnb61 := NB347_343.out; have hnc61 := NB343_347.out; have hcz62 := blk_cell BK347.out; have hfz62 := blk_frozen BK347.out; have hcz63 := blk_cell BK343.out; have hfz63 := blk_frozen BK343.out) | (go_at_call 103; (with_reducible refine (impl_RoleOk.calls a0_4 a0_5 true _ A56.out).mono ?_); rintro e w64 ⟨rfl, hb⟩; replace BK343 := Aside0.mk (blk_below (g := gb343) (o := .cells #[.int .i64 a0_0, .int .i64 a0_1, .int .i64 a0_2, .int .i64 a0_3, .int .i64 a0_4, .int .i64 a0_5, .int .i64 a0_6, .int .i64 a0_7, .int .i64 a0_8, .int .i64 a0_9] 46 (0, 0)) (bk_ BK343) hb); replace BK347 := Aside0.mk (blk_below (g := gb347) (o := .cells #[.int .i64 0, .int .i64 0] 27 (0, 0)) (bk_ BK347) hb); replace HB := hbs_ hb; clear hb; have hcz65 := blk_cell BK343.out; have hfz65 := blk_frozen BK343.out) | (go_at_call 103; (with_reducible refine (impl_RoleOk.calls a0_6 a0_7 true _ A58.out).mono ?_); rintro e w66 ⟨rfl, hb⟩; replace BK343 := bkb_ BK343 hb; replace BK347 := bkb_ BK347 hb; replace HB := hbs_ hb; clear hb; have hcz67 := blk_cell BK343.out; have hfz67 := blk_frozen BK343.out))
          go_ret
          exact ⟨eq_, bl_⟩
         ·replace c59 := Bool.eq_false_iff.mpr c59
          subst c59
          replace H := ite_f_ H
          obtain rfl := Option.some.inj H
          go_wp2_with (first | ((with_reducible refine gate_dst (N := 3) rfl ?_); refine box_event ?hg (N := 3) ?hd (cs := #[.int .i64 0, .int .i64 0]) (t := 27) ?hr ?_; (case hd => rfl); (case hg => rfl); (case hr => first | (go_simp; done) | (go_simp; rfl)); intro gb347 hg w68 hbox hb; have BK347 := Aside0.mk (hbox); have GW347 := gs_ hg; have GE347 := gs_ hg; replace HB := hbs_ hb; have NB343_347 := nl_ hg BK343; have NB347_343 := nr_ hg BK343; replace BK343 := bkb_ BK343 hb; clear hb hbox hg; have hnb69 := NB347_343.out; have hnc69 := NB343_347.out; have hcz70 := blk_cell BK347.out; have hfz70 := blk_frozen BK347.out; have hcz71 := blk_cell BK343.out; have hfz71 := blk_frozen BK343.out) | (go_at_call 103; (with_reducible refine (impl_RoleOk.calls a0_4 a0_5 true _ A56.out).mono ?_); rintro e w72 ⟨rfl, hb⟩; replace BK343 := Aside0.mk (blk_below (g := gb343) (o := .cells #[.int .i64 a0_0, .int .i64 a0_1, .int .i64 a0_2, .int .i64 a0_3, .int .i64 a0_4, .int .i64 a0_5, .int .i64 a0_6, .int .i64 a0_7, .int .i64 a0_8, .int .i64 a0_9] 46 (0, 0)) (bk_ BK343) hb); replace BK347 := Aside0.mk (blk_below (g := gb347) (o := .cells #[.int .i64 0, .int .i64 0] 27 (0, 0)) (bk_ BK347) hb); replace HB := hbs_ hb; clear hb; have hcz73 := blk_cell BK343.out; have hfz73 := blk_frozen BK343.out) | (go_at_call 103; (with_reducible refine (impl_RoleOk.calls a0_6 a0_7 false _ A58.out).mono ?_); rintro e w74 ⟨rfl, hb⟩; replace BK343 := bkb_ BK343 hb; replace BK347 := bkb_ BK347 hb; replace HB := hbs_ hb; clear hb))
          go_ret
          exact ⟨eq_, bl_⟩
        ·replace c57 := Bool.eq_false_iff.mpr c57
         subst c57
         replace H := ite_f_ H
         obtain rfl := Option.some.inj H
         go_wp2_with (first | ((with_reducible refine gate_dst (N := 3) rfl ?_); refine box_event ?hg (N := 3) ?hd (cs := #[.int .i64 0, .int .i64 0]) (t := 27) ?hr ?_; (case hd => rfl); (case hg => rfl); (case hr => first | (go_simp; done) | (go_simp; rfl)); intro gb347 hg w75 hbox hb; have BK347 := Aside0.mk (hbox); have GW347 := gs_ hg; have GE347 := gs_ hg; replace HB := hbs_ hb; have NB343_347 := nl_ hg BK343; have NB347_343 := nr_ hg BK343; replace BK343 := bkb_ BK343 hb; clear hb hbox hg; have hnb76 := NB347_343.out; have hnc76 := NB343_347.out; have hcz77 := blk_cell BK347.out; have hfz77 := blk_frozen BK347.out; have hcz78 := blk_cell BK343.out; have hfz78 := blk_frozen BK343.out) | (go_at_call 103; (with_reducible refine (impl_RoleOk.calls a0_4 a0_5 false _ A56.out).mono ?_); rintro e w79 ⟨rfl, hb⟩; replace BK343 := Aside0.mk (blk_below (g := gb343) (o := .cells #[.int .i64 a0_0, .int .i64 a0_1, .int .i64 a0_2, .int .i64 a0_3, .int .i64 a0_4, .int .i64 a0_5, .int .i64 a0_6, .int .i64 a0_7, .int .i64 a0_8, .int .i64 a0_9] 46 (0, 0)) (bk_ BK343) hb); replace BK347 := Aside0.mk (blk_below (g := gb347) (o := .cells #[.int .i64 0, .int .i64 0] 27 (0, 0)) (bk_ BK347) hb); replace HB := hbs_ hb; clear hb))
         go_ret
         exact ⟨eq_, bl_⟩
       ·rw [if_neg c55] at H
        have c55b0 : (a0_3 == 0) = false := beq_eq_false_iff_ne.mpr c55
        have c55b1 : (a0_3 != 0) = true := bne_iff_ne.mpr c55
        obtain rfl := Option.some.inj H
        go_wp2_with (first | ((with_reducible refine gate_dst (N := 3) rfl ?_); refine box_event ?hg (N := 3) ?hd (cs := #[.int .i64 0, .int .i64 0]) (t := 27) ?hr ?_; (case hd => rfl); (case hg => rfl); (case hr => first | (go_simp; done) | (go_simp; rfl)); intro gb347 hg w80 hbox hb; have BK347 := Aside0.mk (hbox); have GW347 := gs_ hg; have GE347 := gs_ hg; replace HB := hbs_ hb; have NB343_347 := nl_ hg BK343; have NB347_343 := nr_ hg BK343; replace BK343 := bkb_ BK343 hb; clear hb hbox hg; have hnb81 := NB347_343.out; have hnc81 := NB343_347.out; have hcz82 := blk_cell BK347.out; have hfz82 := blk_frozen BK347.out; have hcz83 := blk_cell BK343.out; have hfz83 := blk_frozen BK343.out))
        go_ret
        exact ⟨eq_, bl_⟩
      ·rw [if_neg c54] at H
       have c54b0 : (a0_0 == 3) = false := beq_eq_false_iff_ne.mpr c54
       have c54b1 : (a0_0 != 3) = true := bne_iff_ne.mpr c54
       by_cases c84 : a0_0 = 4
       ·rw [if_pos c84] at H
        have c84b0 : (a0_0 == 4) = true := beq_iff_eq.mpr c84
        have c84b1 : (a0_0 != 4) = false := bne_eq_false_iff_eq.mpr c84
        clear c84
        by_cases c85 : a0_3 = 0
        ·rw [if_pos c85] at H
         have c85b0 : (a0_3 == 0) = true := beq_iff_eq.mpr c85
         have c85b1 : (a0_3 != 0) = false := bne_eq_false_iff_eq.mpr c85
         clear c85
         obtain ⟨t352, A86, H⟩ := bindE_ H
         by_cases c87 : t352 = true
         ·subst c87
          replace H := ite_t_ H
          obtain ⟨t353, A88, H⟩ := bindE_ H
          obtain rfl := Option.some.inj H
          go_wp2_with (first | ((with_reducible refine gate_dst (N := 3) rfl ?_); refine box_event ?hg (N := 3) ?hd (cs := #[.int .i64 0, .int .i64 0]) (t := 27) ?hr ?_; (case hd => rfl); (case hg => rfl); (case hr => first | (go_simp; done) | (go_simp; rfl)); intro gb347 hg w89 hbox hb; have BK347 := Aside0.mk (hbox); have GW347 := gs_ hg; have GE347 := gs_ hg; replace HB := hbs_ hb; have NB343_347 := nl_ hg BK343; have NB347_343 := nr_ hg BK343; replace BK343 := bkb_ BK343 hb; clear hb hbox hg; have hnb90 := NB347_343.out; have hnc90 := NB343_347.out; have hcz91 := blk_cell BK347.out; have hfz91 := blk_frozen BK347.out; have hcz92 := blk_cell BK343.out; have hfz92 := blk_frozen BK343.out) | (go_at_call 103; (with_reducible refine (impl_RoleOk.calls a0_4 a0_5 true _ A86.out).mono ?_); rintro e w93 ⟨rfl, hb⟩; replace BK343 := Aside0.mk (blk_below (g := gb343) (o := .cells #[.int .i64 a0_0, .int .i64 a0_1, .int .i64 a0_2, .int .i64 a0_3, .int .i64 a0_4, .int .i64 a0_5, .int .i64 a0_6, .int .i64 a0_7, .int .i64 a0_8, .int .i64 a0_9] 46 (0, 0)) (bk_ BK343) hb); replace BK347 := Aside0.mk (blk_below (g := gb347) (o := .cells #[.int .i64 0, .int .i64 0] 27 (0, 0)) (bk_ BK347) hb); replace HB := hbs_ hb; clear hb; have hcz94 := blk_cell BK343.out; have hfz94 := blk_frozen BK343.out) | (go_at_call 103; (with_reducible refine (impl_RoleOk.calls a0_6 a0_7 t353 _ A88.out).mono ?_); rintro e w95 ⟨rfl, hb⟩; replace BK343 := bkb_ BK343 hb; replace BK347 := bkb_ BK347 hb; replace HB := hbs_ hb; clear hb))
          go_ret
          exact ⟨eq_, bl_⟩
         ·replace c87 := Bool.eq_false_iff.mpr c87
          subst c87
          replace H := ite_f_ H
          obtain rfl := Option.some.inj H
          go_wp2_with (first | ((with_reducible refine gate_dst (N := 3) rfl ?_); refine box_event ?hg (N := 3) ?hd (cs := #[.int .i64 0, .int .i64 0]) (t := 27) ?hr ?_; (case hd => rfl); (case hg => rfl); (case hr => first | (go_simp; done) | (go_simp; rfl)); intro gb347 hg w96 hbox hb; have BK347 := Aside0.mk (hbox); have GW347 := gs_ hg; have GE347 := gs_ hg; replace HB := hbs_ hb; have NB343_347 := nl_ hg BK343; have NB347_343 := nr_ hg BK343; replace BK343 := bkb_ BK343 hb; clear hb hbox hg; have hnb97 := NB347_343.out; have hnc97 := NB343_347.out; have hcz98 := blk_cell BK347.out; have hfz98 := blk_frozen BK347.out; have hcz99 := blk_cell BK343.out; have hfz99 := blk_frozen BK343.out) | (go_at_call 103; (with_reducible refine (impl_RoleOk.calls a0_4 a0_5 false _ A86.out).mono ?_); rintro e w100 ⟨rfl, hb⟩; replace BK343 := Aside0.mk (blk_below (g := gb343) (o := .cells #[.int .i64 a0_0, .int .i64 a0_1, .int .i64 a0_2, .int .i64 a0_3, .int .i64 a0_4, .int .i64 a0_5, .int .i64 a0_6, .int .i64 a0_7, .int .i64 a0_8, .int .i64 a0_9] 46 (0, 0)) (bk_ BK343) hb); replace BK347 := Aside0.mk (blk_below (g := gb347) (o := .cells #[.int .i64 0, .int .i64 0] 27 (0, 0)) (bk_ BK347) hb); replace HB := hbs_ hb; clear hb))
          go_ret
          exact ⟨eq_, bl_⟩
        ·rw [if_neg c85] at H
         have c85b0 : (a0_3 == 0) = false := beq_eq_false_iff_ne.mpr c85
         have c85b1 : (a0_3 != 0) = true := bne_iff_ne.mpr c85
         obtain rfl := Option.some.inj H
         go_wp2_with (first | ((with_reducible refine gate_dst (N := 3) rfl ?_); refine box_event ?hg (N := 3) ?hd (cs := #[.int .i64 0, .int .i64 0]) (t := 27) ?hr ?_; (case hd => rfl); (case hg => rfl); (case hr => first | (go_simp; done) | (go_simp; rfl)); intro gb347 hg w101 hbox hb; have BK347 := Aside0.mk (hbox); have GW347 := gs_ hg; have GE347 := gs_ hg; replace HB := hbs_ hb; have NB343_347 := nl_ hg BK343; have NB347_343 := nr_ hg BK343; replace BK343 := bkb_ BK343 hb; clear hb hbox hg; have hnb102 := NB347_343.out; have hnc102 := NB343_347.out; have hcz103 := blk_cell BK347.out; have hfz103 := blk_frozen BK347.out; have hcz104 := blk_cell BK343.out; have hfz104 := blk_frozen BK343.out))
         go_ret
         exact ⟨eq_, bl_⟩
       ·rw [if_neg c84] at H
        have c84b0 : (a0_0 == 4) = false := beq_eq_false_iff_ne.mpr c84
        have c84b1 : (a0_0 != 4) = true := bne_iff_ne.mpr c84
        obtain rfl := Option.some.inj H
        go_wp2_with (first | ((with_reducible refine gate_dst (N := 3) rfl ?_); refine box_event ?hg (N := 3) ?hd (cs := #[.int .i64 0, .int .i64 0]) (t := 27) ?hr ?_; (case hd => rfl); (case hg => rfl); (case hr => first | (go_simp; done) | (go_simp; rfl)); intro gb347 hg w105 hbox hb; have BK347 := Aside0.mk (hbox); have GW347 := gs_ hg; have GE347 := gs_ hg; replace HB := hbs_ hb; have NB343_347 := nl_ hg BK343; have NB347_343 := nr_ hg BK343; replace BK343 := bkb_ BK343 hb; clear hb hbox hg; have hnb106 := NB347_343.out; have hnc106 := NB343_347.out; have hcz107 := blk_cell BK347.out; have hfz107 := blk_frozen BK347.out; have hcz108 := blk_cell BK343.out; have hfz108 := blk_frozen BK343.out))
        go_ret
        exact ⟨eq_, bl_⟩
def impl_Fact_134.l0 : Nat → List (S29) → Int → Int → Int → Int → Int → Option (Int)
 | 0, _, _, _, _, _, _ => none
 | k + 1, x0, x7, x8, x355000, x355001, x355002 => if x8 < x7 then (if 0 ≤ x8 then (if x8 < (x0.length : Int) then (if ((x355000 == ((rd_T29 x0 x8).f0.f0) && (x355001 == ((rd_T29 x0 x8).f0.f1))) && (x355002 == ((rd_T29 x0 x8).f1))) = true then (some x8) else (impl_Fact_134.l0 k x0 x7 (wrap64 (x8 + 1)) x355000 x355001 x355002)) else (none)) else (none)) else (some (-1))
def impl_Fact_134.f (k : Nat) (l0 : List (S29)) (a1_0 : Int) (a1_1 : Int) (a1_2 : Int) : Option (Int) := impl_Fact_134.l0 k l0 (l0.length : Int) 0 a1_0 a1_1 a1_2
set_option maxHeartbeats 8000000 in
set_option maxRecDepth 100000 in
theorem impl_Fact_134.calls (k : Nat) (A0 : Option Addr) (c0 : Nat) (l0 : List (S29)) (a1_0 : Int) (a1_1 : Int) (a1_2 : Int) (r : Int) (w : World) (hr0 : Kd.C k29 w A0 l0.length l0) (hc0 : l0.length ≤ c0) (h : impl_Fact_134.f k l0 a1_0 a1_1 a1_2 = some r) :
  Calls Try.prog 134 #[.slice A0 l0.length c0, .agg #[.int .i64 a1_0, .int .i64 a1_1, .int .i64 a1_2]] w fun e w' => e = .returned (.int .i64 r) ∧ Below w.heap.size w w' := by
 have hu29 := Try.underlying29
 have HR0 := Aside0.mk hr0
 have HC0 := Aside0.mk hc0
 clear hr0 hc0
 have HB := Aside0.mk (Below.refl w.heap.size w)
 have H : (impl_Fact_134.l0 k l0 (l0.length : Int) 0 a1_0 a1_1 a1_2) = some r := h
 clear h
 have H' := Aside0.mk H
 clear H
 go_enter Try.func134, Try.ntmps134
 go_wp2_with (first | ((with_reducible refine gate_dst (N := 3) rfl ?_); refine box_event ?hg (N := 3) ?hd (cs := #[.int .i64 a1_0, .int .i64 a1_1, .int .i64 a1_2]) (t := 29) ?hr ?_; (case hd => rfl); (case hg => rfl); (case hr => first | (go_simp; done) | (go_simp; rfl)); intro gb354 hg w3 hbox hb; have BK354 := Aside0.mk (hbox); have GW354 := gs_ hg; have GE354 := gs_ hg; replace HB := hbs_ hb; clear hb hbox hg))
 repeat (go_quiet (first | ((with_reducible refine gate_dst (N := 3) rfl ?_); refine box_event ?hg (N := 3) ?hd (cs := #[.int .i64 a1_0, .int .i64 a1_1, .int .i64 a1_2]) (t := 29) ?hr ?_; (case hd => rfl); (case hg => rfl); (case hr => first | (go_simp; done) | (go_simp; rfl)); intro gb354 hg w3 hbox hb; have BK354 := Aside0.mk (hbox); have GW354 := gs_ hg; have GE354 := gs_ hg; replace HB := hbs_ hb; clear hb hbox hg)); try go_wp2_with (first | ((with_reducible refine gate_dst (N := 3) rfl ?_); refine box_event ?hg (N := 3) ?hd (cs := #[.int .i64 a1_0, .int .i64 a1_1, .int .i64 a1_2]) (t := 29) ?hr ?_; (case hd => rfl); (case hg => rfl); (case hr => first | (go_simp; done) | (go_simp; rfl)); intro gb354 hg w3 hbox hb; have BK354 := Aside0.mk (hbox); have GW354 := gs_ hg; have GE354 := gs_ hg; replace HB := hbs_ hb; clear hb hbox hg)))
 go_loopg [8] k (fun kq v8 w' => ∃ (x8_1 : Int), v8 = .int .i64 x8_1 ∧ Aside0 (impl_Fact_134.l0 kq l0 (l0.length : Int) x8_1 a1_0 a1_1 a1_2 = some r) ∧ Aside0 (kq ≤ k) ∧ Aside0 (w'.heap[gb354]? = some (.cells #[.int .i64 a1_0, .int .i64 a1_1, .int .i64 a1_2] 29 (0, 0))) ∧ Aside0 (Below w.heap.size w w'))
 case atStart => exact ⟨(0), rf_, H', ⟨Nat.le_refl _⟩, ⟨bk_ BK354⟩, ⟨bl_⟩⟩
 case round =>
  clear H'
  try clear c1
  try clear p2
  obtain ⟨x8_1, rfl, HA, HK1, BK354, HB⟩ := hrel
  cases gk with
  | zero => exact absurd HA.out (by simp [impl_Fact_134.l0])
  | succ k1 =>
   have H := HA.out
   clear HA
   simp only [impl_Fact_134.l0] at H
   by_cases c4 : x8_1 < (l0.length : Int)
   ·rw [if_pos c4] at H
    have c4b0 : decide (x8_1 < (l0.length : Int)) = true := decide_eq_true c4
    clear c4
    obtain ⟨c5b0, H⟩ := ifd_ H
    obtain ⟨c6b0, H⟩ := ifd_ H
    by_cases c7 : ((a1_0 == ((rd_T29 l0 x8_1).f0.f0) && (a1_1 == ((rd_T29 l0 x8_1).f0.f1))) && (a1_2 == ((rd_T29 l0 x8_1).f1))) = true
    ·rw [if_pos c7] at H
     have c7b0 : ((a1_0 == ((rd_T29 l0 x8_1).f0.f0) && (a1_1 == ((rd_T29 l0 x8_1).f0.f1))) && (a1_2 == ((rd_T29 l0 x8_1).f1))) = true := c7
     clear c7
     obtain rfl := Option.some.inj H
     have hcz8 := blk_cell BK354.out
     have hfz8 := blk_frozen BK354.out
     have p355 : 0 ≤ (x8_1 : Int) := od_
     have q355 : x8_1 < (l0.length : Int) := od_
     obtain ⟨ad355, e355, hx355_0, hx355_1, hx355_2⟩ := at_T29 (Kd.C_below HR0.out HB.out) x8_1 p355 q355
     cases e355
     replace p355 := eq_true p355
     replace q355 := eq_true q355
     go_wp2
     repeat (go_quiet (fail); try go_wp2)
     go_ret
     exact ⟨eq_, bl_⟩
    ·rw [if_neg c7] at H
     have c7b0 : ((a1_0 == ((rd_T29 l0 x8_1).f0.f0) && (a1_1 == ((rd_T29 l0 x8_1).f0.f1))) && (a1_2 == ((rd_T29 l0 x8_1).f1))) = false := by simpa using c7
     clear c7
     have H' := Aside0.mk H
     clear H
     have hcz9 := blk_cell BK354.out
     have hfz9 := blk_frozen BK354.out
     have p355 : 0 ≤ (x8_1 : Int) := od_
     have q355 : x8_1 < (l0.length : Int) := od_
     obtain ⟨ad355, e355, hx355_0, hx355_1, hx355_2⟩ := at_T29 (Kd.C_below HR0.out HB.out) x8_1 p355 q355
     cases e355
     replace p355 := eq_true p355
     replace q355 := eq_true q355
     go_wp2
     repeat (go_quiet (fail); try go_wp2)
     go_roundg k1
     case measure => have := HK1.out; omega
     case rel => exact ⟨(wrap64 (x8_1 + 1)), rf_, H', ⟨by have := HK1.out; omega⟩, ⟨bk_ BK354⟩, ⟨bl_⟩⟩
   ·rw [if_neg c4] at H
    have c4b0 : decide (x8_1 < (l0.length : Int)) = false := decide_eq_false c4
    clear c4
    obtain rfl := Option.some.inj H
    go_wp2
    repeat (go_quiet (fail); try go_wp2)
    go_ret
    exact ⟨eq_, bl_⟩
def impl_Fact_102.f (k : Nat) (l0 : List (S29)) (a1_0 : Int) (a1_1 : Int) (a1_2 : Int) : Option (Bool) := (impl_Fact_134.f k l0 a1_0 a1_1 a1_2).bind fun t357 => (some (decide (t357 ≥ 0)))
set_option maxHeartbeats 8000000 in
set_option maxRecDepth 100000 in
theorem impl_Fact_102.calls (k : Nat) (A0 : Option Addr) (c0 : Nat) (l0 : List (S29)) (a1_0 : Int) (a1_1 : Int) (a1_2 : Int) (r : Bool) (w : World) (hr0 : Kd.C k29 w A0 l0.length l0) (hc0 : l0.length ≤ c0) (h : impl_Fact_102.f k l0 a1_0 a1_1 a1_2 = some r) :
  Calls Try.prog 102 #[.slice A0 l0.length c0, .agg #[.int .i64 a1_0, .int .i64 a1_1, .int .i64 a1_2]] w fun e w' => e = .returned (.bool r) ∧ Below w.heap.size w w' := by
 have hu29 := Try.underlying29
 have HR0 := Aside0.mk hr0
 have HC0 := Aside0.mk hc0
 clear hr0 hc0
 have HB := Aside0.mk (Below.refl w.heap.size w)
 have H : ((impl_Fact_134.f k l0 a1_0 a1_1 a1_2).bind fun t357 => (some (decide (t357 ≥ 0)))) = some r := h
 clear h
 obtain ⟨t357, A3, H⟩ := bindE_ H
 obtain rfl := Option.some.inj H
 go_enter Try.func102, Try.ntmps102
 go_wp2_with (first | ((with_reducible refine gate_dst (N := 3) rfl ?_); refine box_event ?hg (N := 3) ?hd (cs := #[.int .i64 a1_0, .int .i64 a1_1, .int .i64 a1_2]) (t := 29) ?hr ?_; (case hd => rfl); (case hg => rfl); (case hr => first | (go_simp; done) | (go_simp; rfl)); intro gb356 hg w4 hbox hb; have BK356 := Aside0.mk (hbox); have GW356 := gs_ hg; have GE356 := gs_ hg; replace HB := hbs_ hb; clear hb hbox hg; have hcz5 := blk_cell BK356.out; have hfz5 := blk_frozen BK356.out) | ((with_reducible refine gate_callee (f := 134) rfl ?_); refine goesC_ (some 7) Try.func134 #[.slice A0 l0.length c0, .agg #[.int .i64 a1_0, .int .i64 a1_1, .int .i64 a1_2]] ?_; (with_reducible refine (impl_Fact_134.calls k _ _ l0 a1_0 a1_1 a1_2 t357 _ ?side1 ?side2 A3.out).mono ?_); (case side1 => repeat (first | exact (Kd.C_below HR0.out HB.out) | (with_reducible refine Kd.C_alloc ?_ _) | (with_reducible refine Kd.C_drewN ?_ _) | (with_reducible refine Kd.C_drew ?_))); (case side2 => exact HC0.out); rintro e w6 ⟨rfl, hb⟩; refine ⟨_, rfl, ?_⟩; replace BK356 := bkb_ BK356 hb; replace HB := hbs_ hb; clear hb))
 go_ret
 exact ⟨eq_, bl_⟩
-- NOT PRINTED: function 155 (impl_derive_1)
def impl_factOk.f (a0_0 : Int) (a0_1 : Int) (a0_2 : Int) : Option (Bool) := (impl_RoleOk.f a0_0 a0_1).bind fun t359 => (if t359 = true then ((impl_isPerson.f a0_2).bind fun t360 => (some t360)) else (some false))
set_option maxHeartbeats 8000000 in
set_option maxRecDepth 100000 in
theorem impl_factOk.calls (a0_0 : Int) (a0_1 : Int) (a0_2 : Int) (r : Bool) (w : World) (h : impl_factOk.f a0_0 a0_1 a0_2 = some r) :
  Calls Try.prog 169 #[.agg #[.int .i64 a0_0, .int .i64 a0_1, .int .i64 a0_2]] w fun e w' => e = .returned (.bool r) ∧ Below w.heap.size w w' := by
 have hu29 := Try.underlying29
 have hu27 := Try.underlying27
 have HB := Aside0.mk (Below.refl w.heap.size w)
 have H : ((impl_RoleOk.f a0_0 a0_1).bind fun t359 => (if t359 = true then ((impl_isPerson.f a0_2).bind fun t360 => (some t360)) else (some false))) = some r := h
 clear h
 obtain ⟨t359, A2, H⟩ := bindE_ H
 by_cases c3 : t359 = true
 ·subst c3
  replace H := ite_t_ H
  obtain ⟨t360, A4, H⟩ := bindE_ H
  obtain rfl := Option.some.inj H
  go_enter Try.func169, Try.ntmps169
  go_wp2_with (first | ((with_reducible refine gate_dst (N := 1) rfl ?_); refine box_event ?hg (N := 1) ?hd (cs := #[.int .i64 a0_0, .int .i64 a0_1, .int .i64 a0_2]) (t := 29) ?hr ?_; (case hd => rfl); (case hg => rfl); (case hr => first | (go_simp; done) | (go_simp; rfl)); intro gb358 hg w5 hbox hb; have BK358 := Aside0.mk (hbox); have GW358 := gs_ hg; have GE358 := gs_ hg; replace HB := hbs_ hb; clear hb hbox hg; have hcz6 := blk_cell BK358.out; have hfz6 := blk_frozen BK358.out) | ((with_reducible refine gate_callee (f := 103) rfl ?_); refine goesC_ (some 5) Try.func103 #[.agg #[.int .i64 a0_0, .int .i64 a0_1]] ?_; (with_reducible refine (impl_RoleOk.calls a0_0 a0_1 true _ A2.out).mono ?_); rintro e w7 ⟨rfl, hb⟩; refine ⟨_, rfl, ?_⟩; replace BK358 := bkb_ BK358 hb; replace HB := hbs_ hb; clear hb; have hcz8 := blk_cell BK358.out; have hfz8 := blk_frozen BK358.out) | (go_at_call 121; (with_reducible refine (impl_isPerson.calls a0_2 t360 _ A4.out).mono ?_); rintro e w' ⟨rfl, ⟨nd, rfl⟩⟩))
  go_ret
  exact ⟨eq_, bl_⟩
 ·replace c3 := Bool.eq_false_iff.mpr c3
  subst c3
  replace H := ite_f_ H
  obtain rfl := Option.some.inj H
  go_enter Try.func169, Try.ntmps169
  go_wp2_with (first | ((with_reducible refine gate_dst (N := 1) rfl ?_); refine box_event ?hg (N := 1) ?hd (cs := #[.int .i64 a0_0, .int .i64 a0_1, .int .i64 a0_2]) (t := 29) ?hr ?_; (case hd => rfl); (case hg => rfl); (case hr => first | (go_simp; done) | (go_simp; rfl)); intro gb358 hg w9 hbox hb; have BK358 := Aside0.mk (hbox); have GW358 := gs_ hg; have GE358 := gs_ hg; replace HB := hbs_ hb; clear hb hbox hg; have hcz10 := blk_cell BK358.out; have hfz10 := blk_frozen BK358.out) | ((with_reducible refine gate_callee (f := 103) rfl ?_); refine goesC_ (some 5) Try.func103 #[.agg #[.int .i64 a0_0, .int .i64 a0_1]] ?_; (with_reducible refine (impl_RoleOk.calls a0_0 a0_1 false _ A2.out).mono ?_); rintro e w11 ⟨rfl, hb⟩; refine ⟨_, rfl, ?_⟩; replace BK358 := bkb_ BK358 hb; replace HB := hbs_ hb; clear hb))
  go_ret
  exact ⟨eq_, bl_⟩
def impl_whoOf.l0 : Nat → List Int → List (S29) → Int → Int → Int → Int → Option (List Int)
 | 0, _, _, _, _, _, _ => none
 | k + 1, x5, x9, x10, x11, x362000, x362001 => if x11 < x10 then (if 0 ≤ x11 then (if x11 < (x9.length : Int) then (if (((rd_T29 x9 x11).f0.f0) == x362000 && (((rd_T29 x9 x11).f0.f1) == x362001)) = true then ((impl_factOk.f ((rd_T29 x9 x11).f0.f0) ((rd_T29 x9 x11).f0.f1) ((rd_T29 x9 x11).f1)).bind fun t367 => (if t367 = true then (if x5.length < 17592186044416 then (impl_whoOf.l0 k (x5 ++ [x11]) x9 x10 (wrap64 (x11 + 1)) x362000 x362001) else (none)) else (impl_whoOf.l0 k x5 x9 x10 (wrap64 (x11 + 1)) x362000 x362001))) else (impl_whoOf.l0 k x5 x9 x10 (wrap64 (x11 + 1)) x362000 x362001)) else (none)) else (none)) else (some x5)
def impl_whoOf.f (k : Nat) (l0 : List (S29)) (a1_0 : Int) (a1_1 : Int) : Option (List Int) := impl_whoOf.l0 k (([] : List Int)) l0 (l0.length : Int) 0 a1_0 a1_1
set_option maxHeartbeats 8000000 in
set_option maxRecDepth 100000 in
theorem impl_whoOf.calls (k : Nat) (A0 : Option Addr) (c0 : Nat) (l0 : List (S29)) (a1_0 : Int) (a1_1 : Int) (r : List Int) (w : World) (hr0 : Kd.C k29 w A0 l0.length l0) (hc0 : l0.length ≤ c0) (h : impl_whoOf.f k l0 a1_0 a1_1 = some r) :
  Calls Try.prog 156 #[.slice A0 l0.length c0, .agg #[.int .i64 a1_0, .int .i64 a1_1]] w fun e w' => ∃ v0_ : Value, e = .returned (v0_) ∧ Kd.R (Kd.int .i64) 3 w' w.heap.size (fun _ => True) v0_ r ∧ Below w.heap.size w w' := by
 have hu27 := Try.underlying27
 have hu29 := Try.underlying29
 have HR0 := Aside0.mk hr0
 have HC0 := Aside0.mk hc0
 clear hr0 hc0
 have HB := Aside0.mk (Below.refl w.heap.size w)
 have H : (impl_whoOf.l0 k (([] : List Int)) l0 (l0.length : Int) 0 a1_0 a1_1) = some r := h
 clear h
 obtain ⟨y362, hy362⟩ : ∃ y_ : List Int, y_ = (([] : List Int)) := ⟨_, rfl⟩
 replace H : (impl_whoOf.l0 k y362 l0 (l0.length : Int) 0 a1_0 a1_1) = some r := by first | (rw [hy362]; with_reducible exact H) | (have H2_ := (Option.bind_some _ _).symm.trans H; rw [hy362]; with_reducible exact H2_) | (have H2_ := (Option.bind_some _ _).symm.trans H; with_reducible exact H2_) | with_reducible exact H | (rw [hy362]; exact H) | exact H
 have Ny362 := Aside0.mk hy362
 clear hy362
 have H' := Aside0.mk H
 clear H
 go_enter Try.func156, Try.ntmps156
 go_wp2_with (first | ((with_reducible refine gate_dst (N := 3) rfl ?_); refine box_event ?hg (N := 3) ?hd (cs := #[.int .i64 a1_0, .int .i64 a1_1]) (t := 27) ?hr ?_; (case hd => rfl); (case hg => rfl); (case hr => first | (go_simp; done) | (go_simp; rfl)); intro gb361 hg w3 hbox hb; have BK361 := Aside0.mk (hbox); have GW361 := gs_ hg; have GE361 := gs_ hg; replace HB := hbs_ hb; clear hb hbox hg) | ((with_reducible refine gate_dst (N := 8) rfl ?_); refine Kd.R_lit (Kd.int .i64) _ 3 ?hg (N := 8) ?hd (xs := ([] : List Int)) (inner := []) (ok := fun _ => True) (okp := fun _ => True) ?hr ?hp (fun _ hk => hk) trivial (Below.refl _ _) (Nat.le_refl _) (by simp) ?_; (case hd => rfl); (case hg => rfl); (case hr => first | (go_simp; done) | (go_simp; rfl)); (case hp => exact (Reps.none _ _)); intro v363 w4 ho5 hb hg_ hnew_; clear hg_ hnew_; (first | rw [← Ny362.out] at ho5 | (simp only [Int.reduceToNat] at ho5; rw [← Ny362.out] at ho5)); have HO364 := Aside0.mk (Kd.R_lower ho5 bls_); replace BK361 := bkb_ BK361 hb; replace HB := hbs_ hb; clear hb ho5))
 go_loopg [5, 11] k (fun kq v5 v11 w' => ∃ (x5_1 : List Int) (x11_1 : Int), v11 = .int .i64 x11_1 ∧ Aside0 (impl_whoOf.l0 kq x5_1 l0 (l0.length : Int) x11_1 a1_0 a1_1 = some r) ∧ Aside0 (kq ≤ k) ∧ Aside0 (Kd.R (Kd.int .i64) 3 w' w.heap.size (fun _ => True) v5 x5_1) ∧ Aside0 (w'.heap[gb361]? = some (.cells #[.int .i64 a1_0, .int .i64 a1_1] 27 (0, 0))) ∧ Aside0 (Below w.heap.size w w'))
 case atStart => exact ⟨(y362), (0), rf_, H', ⟨Nat.le_refl _⟩, ⟨by (with_reducible repeat (first | apply Kd.R_alloc | apply Kd.R_drewN | apply Kd.R_drew)); exact HO364.out⟩, ⟨bk_ BK361⟩, ⟨bl_⟩⟩
 case round =>
  clear H'
  try clear c1
  try clear p2
  obtain ⟨x5_1, x11_1, rfl, HA, HK1, HO_5, BK361, HB⟩ := hrel
  cases gk with
  | zero => exact absurd HA.out (by simp [impl_whoOf.l0])
  | succ k1 =>
   have H := HA.out
   clear HA
   simp only [impl_whoOf.l0] at H
   by_cases c6 : x11_1 < (l0.length : Int)
   ·rw [if_pos c6] at H
    have c6b0 : decide (x11_1 < (l0.length : Int)) = true := decide_eq_true c6
    clear c6
    obtain ⟨c7b0, H⟩ := ifd_ H
    obtain ⟨c8b0, H⟩ := ifd_ H
    by_cases c9 : (((rd_T29 l0 x11_1).f0.f0) == a1_0 && (((rd_T29 l0 x11_1).f0.f1) == a1_1)) = true
    ·rw [if_pos c9] at H
     have c9b0 : (((rd_T29 l0 x11_1).f0.f0) == a1_0 && (((rd_T29 l0 x11_1).f0.f1) == a1_1)) = true := c9
     (try (have c9b1 : decide (((rd_T29 l0 x11_1).f0.f0) = a1_0 && (((rd_T29 l0 x11_1).f0.f1) == a1_1)) = true := by simpa using c9))
     (try (have c9b2 : (((rd_T29 l0 x11_1).f0.f0) == a1_0 && (((rd_T29 l0 x11_1).f0.f1) == a1_1)) = true := by simpa using c9))
     clear c9
     obtain ⟨t367, A10, H⟩ := bindE_ H
     by_cases c11 : t367 = true
     ·subst c11
      replace H := ite_t_ H
      obtain ⟨c12, H⟩ := ifn_ H
      have LMc12 := Aside0.mk c12
      clear c12
      obtain ⟨y368, hy368⟩ : ∃ y_ : List Int, y_ = (x5_1 ++ [x11_1]) := ⟨_, rfl⟩
      replace H : (impl_whoOf.l0 k1 y368 l0 (l0.length : Int) (wrap64 (x11_1 + 1)) a1_0 a1_1) = some r := by first | (rw [hy368]; with_reducible exact H) | (have H2_ := (Option.bind_some _ _).symm.trans H; rw [hy368]; with_reducible exact H2_) | (have H2_ := (Option.bind_some _ _).symm.trans H; with_reducible exact H2_) | with_reducible exact H | (rw [hy368]; exact H) | exact H
      have Ny368 := Aside0.mk hy368
      clear hy368
      have H' := Aside0.mk H
      clear H
      have p365 : 0 ≤ (x11_1 : Int) := od_
      have q365 : x11_1 < (l0.length : Int) := od_
      obtain ⟨ad365, e365, hx365_0, hx365_1, hx365_2⟩ := at_T29 (Kd.C_below HR0.out HB.out) x11_1 p365 q365
      cases e365
      replace p365 := eq_true p365
      replace q365 := eq_true q365
      go_wp2_with (first | ((with_reducible refine gate_dst (N := 7) rfl ?_); refine box_event ?hg (N := 7) ?hd (cs := #[.int .i64 0, .int .i64 0, .int .i64 0]) (t := 29) ?hr ?_; (case hd => rfl); (case hg => rfl); (case hr => first | (go_simp; done) | (go_simp; rfl)); intro gb366 hg w13 hbox hb; replace HO_5 := hob_ HO_5 hb; have BK366 := Aside0.mk (hbox); have GW366 := gs_ hg; have GE366 := gs_ hg; replace HB := hbs_ hb; have NB361_366 := nl_ hg BK361; have NB366_361 := nr_ hg BK361; replace BK361 := bkb_ BK361 hb; clear hb hbox hg; have hnb14 := NB366_361.out; have hnc14 := NB361_366.out; have hcz15 := blk_cell BK366.out; have hfz15 := blk_frozen BK366.out; have hcz16 := blk_cell BK361.out; have hfz16 := blk_frozen BK361.out) | (go_at_call 169; (with_reducible refine (impl_factOk.calls ((rd_T29 l0 x11_1).f0.f0) ((rd_T29 l0 x11_1).f0.f1) ((rd_T29 l0 x11_1).f1) true _ A10.out).mono ?_); rintro e w17 ⟨rfl, hb⟩; replace HO_5 := Aside0.mk (Kd.R_below (by (with_reducible repeat (first | apply Kd.R_alloc | apply Kd.R_drewN | apply Kd.R_drew)); exact (Kd.R_mono (Kd.R_far (p := ⟨gb366, 2, none⟩) (Kd.R_far (p := ⟨gb366, 1, none⟩) (Kd.R_far (p := ⟨gb366, 0, none⟩) (Kd.R_types HO_5.out BK366.out (by decide)) (fun _ hk => hk.2) (.int .i64 ((rd_T29 l0 x11_1).f0.f0))) (fun _ hk => hk.2) (.int .i64 ((rd_T29 l0 x11_1).f0.f1))) (fun _ hk => hk.2) (.int .i64 ((rd_T29 l0 x11_1).f1))) (fun _ h_ => h_.1))) hb); replace BK361 := Aside0.mk (blk_below (g := gb361) (o := .cells #[.int .i64 a1_0, .int .i64 a1_1] 27 (0, 0)) (bk_ BK361) hb); replace BK366 := Aside0.mk (blk_below (g := gb366) (o := .cells #[.int .i64 ((rd_T29 l0 x11_1).f0.f0), .int .i64 ((rd_T29 l0 x11_1).f0.f1), .int .i64 ((rd_T29 l0 x11_1).f1)] 29 (0, 0)) (bk_ BK366) hb); replace HB := hbs_ hb; clear hb) | ((with_reducible refine gate_builtin (b := .append) (xs := #[.tmp 24, .tmp 26]) rfl ?_); at_builtin; refine Kd.R_append (Kd.int .i64) (w0 := w) w.heap.size rfl (.tmp 24) (.tmp 26) 32 3 (.int .i64 0) 8 rfl Try.underlying32 info3 rfl (by decide) (by omega) u5 x5_1 x11_1 [.int .i64 x11_1] (fun _ => True) (fun _ => False) rfl rfl ?aP (fun _ hk => hk.elim) ?aF ?aO ?aB ?aS ?aL ?_; (case aP => exact rfl); (case aB => exact bl_); (case aF => exact (fun _ _ => trivial)); (case aO => exact (by (with_reducible repeat (first | apply Kd.R_alloc | apply Kd.R_drewN | apply Kd.R_drew)); exact HO_5.out)); (case aS => exact bls_); (case aL => have := LMc12.out; omega); intro v369 w18 ho hb hg hat; rw [← Ny368.out] at ho; replace BK361 := Aside0.mk (blk_grown (g := gb361) (o := .cells #[.int .i64 a1_0, .int .i64 a1_1] 27 (0, 0)) (bk_ BK361) hg (Kd.R_ne HO_5.out BK361.out (by decide))); replace BK366 := Aside0.mk (blk_grown (g := gb366) (o := .cells #[.int .i64 ((rd_T29 l0 x11_1).f0.f0), .int .i64 ((rd_T29 l0 x11_1).f0.f1), .int .i64 ((rd_T29 l0 x11_1).f1)] 29 (0, 0)) (bk_ BK366) hg (Kd.R_ne HO_5.out BK366.out (by decide))); replace HB := Aside0.mk (hb); have HO370 := Aside0.mk (ho); clear HO_5; clear ho hb hg hat))
      go_roundg k1
      case measure => have := HK1.out; omega
      case rel => exact ⟨(y368), (wrap64 (x11_1 + 1)), rf_, H', ⟨by have := HK1.out; omega⟩, ⟨by (with_reducible repeat (first | apply Kd.R_alloc | apply Kd.R_drewN | apply Kd.R_drew)); exact HO370.out⟩, ⟨bk_ BK361⟩, ⟨bl_⟩⟩
     ·replace c11 := Bool.eq_false_iff.mpr c11
      subst c11
      replace H := ite_f_ H
      have H' := Aside0.mk H
      clear H
      have p365 : 0 ≤ (x11_1 : Int) := od_
      have q365 : x11_1 < (l0.length : Int) := od_
      obtain ⟨ad365, e365, hx365_0, hx365_1, hx365_2⟩ := at_T29 (Kd.C_below HR0.out HB.out) x11_1 p365 q365
      cases e365
      replace p365 := eq_true p365
      replace q365 := eq_true q365
      go_wp2_with (first | ((with_reducible refine gate_dst (N := 7) rfl ?_); refine box_event ?hg (N := 7) ?hd (cs := #[.int .i64 0, .int .i64 0, .int .i64 0]) (t := 29) ?hr ?_; (case hd => rfl); (case hg => rfl); (case hr => first | (go_simp; done) | (go_simp; rfl)); intro gb366 hg w19 hbox hb; replace HO_5 := hob_ HO_5 hb; have BK366 := Aside0.mk (hbox); have GW366 := gs_ hg; have GE366 := gs_ hg; replace HB := hbs_ hb; have NB361_366 := nl_ hg BK361; have NB366_361 := nr_ hg BK361; replace BK361 := bkb_ BK361 hb; clear hb hbox hg; have hnb20 := NB366_361.out; have hnc20 := NB361_366.out; have hcz21 := blk_cell BK366.out; have hfz21 := blk_frozen BK366.out; have hcz22 := blk_cell BK361.out; have hfz22 := blk_frozen BK361.out) | (go_at_call 169; (with_reducible refine (impl_factOk.calls ((rd_T29 l0 x11_1).f0.f0) ((rd_T29 l0 x11_1).f0.f1) ((rd_T29 l0 x11_1).f1) false _ A10.out).mono ?_); rintro e w23 ⟨rfl, hb⟩; replace HO_5 := Aside0.mk (Kd.R_below (by (with_reducible repeat (first | apply Kd.R_alloc | apply Kd.R_drewN | apply Kd.R_drew)); exact (Kd.R_mono (Kd.R_far (p := ⟨gb366, 2, none⟩) (Kd.R_far (p := ⟨gb366, 1, none⟩) (Kd.R_far (p := ⟨gb366, 0, none⟩) (Kd.R_types HO_5.out BK366.out (by decide)) (fun _ hk => hk.2) (.int .i64 ((rd_T29 l0 x11_1).f0.f0))) (fun _ hk => hk.2) (.int .i64 ((rd_T29 l0 x11_1).f0.f1))) (fun _ hk => hk.2) (.int .i64 ((rd_T29 l0 x11_1).f1))) (fun _ h_ => h_.1))) hb); replace BK361 := Aside0.mk (blk_below (g := gb361) (o := .cells #[.int .i64 a1_0, .int .i64 a1_1] 27 (0, 0)) (bk_ BK361) hb); replace BK366 := Aside0.mk (blk_below (g := gb366) (o := .cells #[.int .i64 ((rd_T29 l0 x11_1).f0.f0), .int .i64 ((rd_T29 l0 x11_1).f0.f1), .int .i64 ((rd_T29 l0 x11_1).f1)] 29 (0, 0)) (bk_ BK366) hb); replace HB := hbs_ hb; clear hb))
      go_roundg k1
      case measure => have := HK1.out; omega
      case rel => exact ⟨(x5_1), (wrap64 (x11_1 + 1)), rf_, H', ⟨by have := HK1.out; omega⟩, ⟨by (with_reducible repeat (first | apply Kd.R_alloc | apply Kd.R_drewN | apply Kd.R_drew)); exact HO_5.out⟩, ⟨bk_ BK361⟩, ⟨bl_⟩⟩
    ·rw [if_neg c9] at H
     have c9b0 : (((rd_T29 l0 x11_1).f0.f0) == a1_0 && (((rd_T29 l0 x11_1).f0.f1) == a1_1)) = false := by simpa using c9
     (try (have c9b1 : decide (((rd_T29 l0 x11_1).f0.f0) = a1_0 && (((rd_T29 l0 x11_1).f0.f1) == a1_1)) = false := by simpa using c9))
     (try (have c9b2 : (((rd_T29 l0 x11_1).f0.f0) == a1_0 && (((rd_T29 l0 x11_1).f0.f1) == a1_1)) = false := by simpa using c9))
     (try (have c9b3 : ¬ (((rd_T29 l0 x11_1).f0.f0) = a1_0 && (((rd_T29 l0 x11_1).f0.f1) == a1_1)) := by simpa using c9))
     clear c9
     have H' := Aside0.mk H
     clear H
     have p365 : 0 ≤ (x11_1 : Int) := od_
     have q365 : x11_1 < (l0.length : Int) := od_
     obtain ⟨ad365, e365, hx365_0, hx365_1, hx365_2⟩ := at_T29 (Kd.C_below HR0.out HB.out) x11_1 p365 q365
     cases e365
     replace p365 := eq_true p365
     replace q365 := eq_true q365
     go_wp2_with (first | ((with_reducible refine gate_dst (N := 7) rfl ?_); refine box_event ?hg (N := 7) ?hd (cs := #[.int .i64 0, .int .i64 0, .int .i64 0]) (t := 29) ?hr ?_; (case hd => rfl); (case hg => rfl); (case hr => first | (go_simp; done) | (go_simp; rfl)); intro gb366 hg w24 hbox hb; replace HO_5 := hob_ HO_5 hb; have BK366 := Aside0.mk (hbox); have GW366 := gs_ hg; have GE366 := gs_ hg; replace HB := hbs_ hb; have NB361_366 := nl_ hg BK361; have NB366_361 := nr_ hg BK361; replace BK361 := bkb_ BK361 hb; clear hb hbox hg; have hnb25 := NB366_361.out; have hnc25 := NB361_366.out; have hcz26 := blk_cell BK366.out; have hfz26 := blk_frozen BK366.out; have hcz27 := blk_cell BK361.out; have hfz27 := blk_frozen BK361.out))
     go_roundg k1
     case measure => have := HK1.out; omega
     case rel => exact ⟨(x5_1), (wrap64 (x11_1 + 1)), rf_, H', ⟨by have := HK1.out; omega⟩, ⟨by (with_reducible repeat (first | apply Kd.R_alloc | apply Kd.R_drewN | apply Kd.R_drew)); exact Kd.R_mono (Kd.R_far (p := ⟨gb366, 2, none⟩) (Kd.R_far (p := ⟨gb366, 1, none⟩) (Kd.R_far (p := ⟨gb366, 0, none⟩) (Kd.R_types HO_5.out BK366.out (by decide)) (fun _ hk => hk.2) (.int .i64 ((rd_T29 l0 x11_1).f0.f0))) (fun _ hk => hk.2) (.int .i64 ((rd_T29 l0 x11_1).f0.f1))) (fun _ hk => hk.2) (.int .i64 ((rd_T29 l0 x11_1).f1))) (fun _ hk => trivial)⟩, ⟨bk_ BK361⟩, ⟨bl_⟩⟩
   ·rw [if_neg c6] at H
    have c6b0 : decide (x11_1 < (l0.length : Int)) = false := decide_eq_false c6
    clear c6
    obtain rfl := Option.some.inj H
    go_wp2
    go_ret
    exact ⟨_, eq_, by (with_reducible repeat (first | apply Kd.R_alloc | apply Kd.R_drewN | apply Kd.R_drew)); exact HO_5.out, bl_⟩
end Go.Proofs.Ytppdmcimddhbaaa.PE
