import Derived.Test.YtamhfnedknjjbaaKTPBx15
-- printed by wip/tools
namespace Go.Proofs.Ytamhfnedknjjbaa.PB
open Go.RowKit Go.Proofs.YtamhfnedknjjbaaW.PrintWords Go.Proofs.YtamhfnedknjjbaaW.PrintLast Go.Proofs.YtamhfnedknjjbaaW.PrintMore
attribute [local go_sem] max2_int min2_int max_two min_two max_three min_three max_four min_four
set_option linter.unusedVariables false
set_option linter.unusedSimpArgs false
def impl_NeededFor.l0 : Nat → List (S26) → List (S49) → List (S49) → Int → Int → Option ((List (S49)))
 | 0, _, _, _, _, _ => none
 | k + 1, x5, x6, x16, x17, x18 => if x18 < x17 then (if 0 ≤ x18 then (if x18 < (x16.length : Int) then ((impl_CredOk.f k ((rd_T49 x16 x18).f0) ((rd_T49 x16 x18).f1.f0) ((rd_T49 x16 x18).f1.f1) ((rd_T49 x16 x18).f2) ((rd_T49 x16 x18).f3.f0) ((rd_T49 x16 x18).f3.f1) ((rd_T49 x16 x18).f4.f0) ((rd_T49 x16 x18).f4.f1) ((rd_T49 x16 x18).f5) ((rd_T49 x16 x18).f6)).bind fun t653 => (if t653 = true then ((impl_Role_32.f k x5 ((rd_T49 x16 x18).f1.f0) ((rd_T49 x16 x18).f1.f1)).bind fun t654 => (if t654 = true then ((some (([(⟨(rd_T49 x16 x18).f0, (⟨(rd_T49 x16 x18).f1.f0, (rd_T49 x16 x18).f1.f1⟩ : S26), (rd_T49 x16 x18).f2, (⟨(rd_T49 x16 x18).f3.f0, (rd_T49 x16 x18).f3.f1⟩ : S26), (⟨(rd_T49 x16 x18).f4.f0, (rd_T49 x16 x18).f4.f1⟩ : S26), (rd_T49 x16 x18).f5, (rd_T49 x16 x18).f6⟩ : S49)] : List (S49)) : List (S49))).bind fun y655 => (if x6.length + y655.length < 1759218604441 then (impl_NeededFor.l0 k x5 (x6 ++ y655) x16 x17 (wrap64 (x18 + 1))) else (none))) else (impl_NeededFor.l0 k x5 x6 x16 x17 (wrap64 (x18 + 1))))) else (impl_NeededFor.l0 k x5 x6 x16 x17 (wrap64 (x18 + 1))))) else (none)) else (none)) else (some x6)
def impl_NeededFor.f (k : Nat) (l0 : List (S49)) (a1_0 : Int) (a1_1 : Int) : Option ((List (S49))) := (impl_ReachRoles.f k l0 a1_0 a1_1).bind fun t639 => ((some (([(⟨a1_0, a1_1⟩ : S26)] : List (S26)) : List (S26))).bind fun y642 => (if t639.length + y642.length < 8796093022208 then (impl_NeededFor.l0 k (t639 ++ y642) (([] : List (S49))) l0 (l0.length : Int) 0) else (none)))
set_option maxHeartbeats 8000000 in
set_option maxRecDepth 100000 in
theorem impl_NeededFor.calls (k : Nat) (A0 : Option Addr) (c0 : Nat) (l0 : List (S49)) (a1_0 : Int) (a1_1 : Int) (r : List (S49)) (w : World) (hr0 : Kd.C k49 w A0 l0.length l0) (hc0 : l0.length ≤ c0) (h : impl_NeededFor.f k l0 a1_0 a1_1 = some r) :
  Calls Try.prog 17 #[.slice A0 l0.length c0, .agg #[.int .i64 a1_0, .int .i64 a1_1]] w fun e w' => ∃ v0_ : Value, e = .returned (v0_) ∧ Kd.R k49 49 w' w.heap.size (fun _ => True) v0_ r ∧ Below w.heap.size w w' := by
 have hu26 := Try.underlying26
 have hu49 := Try.underlying49
 have HR0 := Aside0.mk hr0
 have HC0 := Aside0.mk hc0
 clear hr0 hc0
 have HB := Aside0.mk (Below.refl w.heap.size w)
 have H : ((impl_ReachRoles.f k l0 a1_0 a1_1).bind fun t639 => ((some (([(⟨a1_0, a1_1⟩ : S26)] : List (S26)) : List (S26))).bind fun y642 => (if t639.length + y642.length < 8796093022208 then (impl_NeededFor.l0 k (t639 ++ y642) (([] : List (S49))) l0 (l0.length : Int) 0) else (none)))) = some r := h
 clear h
 obtain ⟨t639, A3, H⟩ := bindE_ H
 obtain ⟨y642, hy642⟩ : ∃ y_ : List (S26), y_ = (([(⟨a1_0, a1_1⟩ : S26)] : List (S26))) := ⟨_, rfl⟩
 replace H : (if t639.length + y642.length < 8796093022208 then (impl_NeededFor.l0 k (t639 ++ y642) (([] : List (S49))) l0 (l0.length : Int) 0) else (none)) = some r := rh_ hy642 H
 have Ny642 := Aside0.mk hy642
 clear hy642
 obtain ⟨c4, H⟩ := ifn_ H
 have LMc4 := Aside0.mk c4
 clear c4
 obtain ⟨y645, hy645⟩ : ∃ y_ : List (S26), y_ = (t639 ++ y642) := ⟨_, rfl⟩
 replace H : (impl_NeededFor.l0 k y645 (([] : List (S49))) l0 (l0.length : Int) 0) = some r := rh_ hy645 H
 have Ny645 := Aside0.mk hy645
 clear hy645
 obtain ⟨y648, hy648⟩ : ∃ y_ : List (S49), y_ = (([] : List (S49))) := ⟨_, rfl⟩
 replace H : (impl_NeededFor.l0 k y645 y648 l0 (l0.length : Int) 0) = some r := rh_ hy648 H
 have Ny648 := Aside0.mk hy648
 clear hy648
 have H' := Aside0.mk H
 clear H
 go_enter Try.func17, Try.ntmps17
 try go_wp2_with (first | ((with_reducible refine gate_dst (N := 3) rfl ?_); refine box_event ?hg (N := 3) ?hd (cs := #[.int .i64 a1_0, .int .i64 a1_1]) (t := 26) ?hr ?_; (case hd => rfl); (case hg => rfl); (case hr => first | (go_simp; done) | (go_simp; rfl)); intro gb638 hg w5 hbox hb; have BK638 := Aside0.mk (hbox); have GW638 := gs_ hg; have GE638 := gs_ hg; replace HB := hbs_ hb; clear hb hbox hg))
 replace BK638 := Aside0.mk (blk_drew BK638.out)
 replace HB := Aside0.mk (below_drew1 HB.out)
 refine start_ (n := 7) (S := fun w' => w'.cell? ⟨gb638, 0, none⟩ = some (.int .i64 a1_0) ∧ w'.cell? ⟨gb638, 1, none⟩ = some (.int .i64 a1_1)) (ds := []) #[false, false, false, false, false, false, false] (by kernel_rfl) rfl rfl ⟨(blk_cell BK638.out 0).trans rfl, (blk_cell BK638.out 1).trans rfl⟩ (fun hHeld => ?_)
 generalize w5.drew = w6 at BK638 HB hHeld ⊢
 refine pure_ (i := 0) (N := some 9) (v := ?_) (a' := ?_) #[true, false, false, false, false, false, false] rfl rfl (by kernel_rfl) (fun _ _ _ h => h) (Or.inl ⟨by rfl, ?_⟩) ?_ ?_
 rotate_left
 ·intro w'
  go_simp
  with_reducible rfl
 rotate_left
 ·simp only [Act.put, List.setIfInBounds_toArray, List.set_cons_zero, List.set_cons_succ, i64_w, i32_w]
  rfl
 refine take_ (i := 1) (N := some 10) (v := ?_) (a' := ?_) #[true, true, false, false, false, false, false] rfl rfl (by kernel_rfl) (fun _ _ _ h => h) (Or.inl ⟨by rfl, ?_⟩) hHeld ?_ ?_
 rotate_left
 ·rintro w' ⟨s0, s1⟩
  go_simp
  with_reducible rfl
 rotate_left
 ·simp only [Act.put, List.setIfInBounds_toArray, List.set_cons_zero, List.set_cons_succ, i64_w, i32_w]
  rfl
 refine take_ (i := 3) (N := some 12) (v := ?_) (a' := ?_) #[true, true, false, true, false, false, false] rfl rfl (by kernel_rfl) (fun _ _ _ h => h) (Or.inl ⟨by rfl, ?_⟩) hHeld ?_ ?_
 rotate_left
 ·rintro w' ⟨s0, s1⟩
  go_simp
  with_reducible rfl
 rotate_left
 ·simp only [Act.put, List.setIfInBounds_toArray, List.set_cons_zero, List.set_cons_succ, i64_w, i32_w]
  rfl
 refine join_ (σ := Value × Value) 2 #[true, true, true, true, true, false, false] (fun s_ => [(11, s_.1), (13, s_.2)]) (fun s_ w' => (w'.cell? ⟨gb638, 0, none⟩ = some (.int .i64 a1_0) ∧ w'.cell? ⟨gb638, 1, none⟩ = some (.int .i64 a1_1)) ∧ (Kd.R k26 26 w' w.heap.size (fun k_ => some k_ ≠ (s_.2 : Value).ownBlock ∧ k_ ≠ gb638) s_.1 t639) ∧ (Kd.R k26 26 w' w.heap.size (fun k_ => some k_ ≠ (s_.1 : Value).ownBlock ∧ k_ ≠ gb638) s_.2 y642) ∧ (w'.heap[gb638]? = some (.cells #[.int .i64 a1_0, .int .i64 a1_1] 26 (0, 0))) ∧ (Below w.heap.size w w')) ?_ ?_
 rotate_left
 ·intro hCont
  refine two_ (i := 2) (j := 4) (Ni := some 11) (Nj := some 13) #[true, true, true, true, false, false, false] #[true, true, false, true, true, false, false] rfl rfl rfl rfl (by kernel_rfl) (by decide) (by decide) (fun K hK => ?_) (fun K hK => ?_)
  ·skip
   refine goes_ Try.func12 (by kernel_rfl) rfl #[.slice A0 l0.length c0, .agg #[.int .i64 a1_0, .int .i64 a1_1]] (by rfl) rfl rfl (by (try simp only [List.map_toArray, List.map_cons, List.map_nil]); first | done | rfl | (simp only [List.length_drop, List.length_take]; rfl)) ?_
   with_reducible refine (impl_ReachRoles.calls k _ _ l0 a1_0 a1_1 t639 _ ?side1 ?side2 A3.out).mono ?_
   (case side1 => repeat (first | exact (Kd.C_below HR0.out HB.out) | (with_reducible refine Kd.C_alloc ?_ _) | (with_reducible refine Kd.C_drewN ?_ _) | (with_reducible refine Kd.C_drew ?_)))
   (case side2 => exact HC0.out)
   rintro e w7 ⟨v640, rfl, ho0, hb⟩
   refine ⟨_, rfl, ?_⟩
   have HO641 := Aside0.mk (Kd.R_lower (Kd.R_newB ho0 (g := gb638) (o := .cells #[.int .i64 a1_0, .int .i64 a1_1] 26 (0, 0)) (bk_ BK638)) bls_)
   replace BK638 := bkb_ BK638 hb
   replace HB := hbs_ hb
   (try clear hb)
   (try clear hb2)
   (try clear hk)
   (try clear hi)
   (try clear ho0)
   refine hK.out _ _ ⟨(blk_cell BK638.out 0).trans rfl, (blk_cell BK638.out 1).trans rfl⟩ (fun hHeld => ?_)
   clear hK K
   refine norm_ (a' := ?_) ?_ ?_
   rotate_left
   ·show Act.put _ (some 11) _ = _
    simp only [Act.put, List.setIfInBounds_toArray, List.set_cons_zero, List.set_cons_succ, i64_w, i32_w]
    rfl
   refine one_ (i := 4) (N := some 13) #[true, true, true, true, true, false, false] rfl rfl (by kernel_rfl) (by decide) (fun K hK => ?_)
   refine Kd.R_lit_step k26 _ 26 ?hg (N := 13) ?hd (xs := ([(⟨a1_0, a1_1⟩ : S26)] : List (S26))) (inner := [.int .i64 a1_0, .int .i64 a1_1]) (ok := fun _ => True) (okp := fun _ => True) ?hr ?hp (fun _ hk => hk) trivial (Below.refl _ _) (Nat.le_refl _) (by simp) ?_; (case hd => rfl); (case hg => rfl); (case hr => first | (go_simp; done) | (go_simp; rfl)); (case hp => exact (Reps.c2 (show Kd.M k26 _ _ _ (⟨a1_0, a1_1⟩ : S26) [.int .i64 a1_0, .int .i64 a1_1] from (k26_mkM _ _ _ (⟨a1_0, a1_1⟩ : S26) )) (Reps.none _ _)))
   intro v643 w8 ho9 hb hg_ hnew_
   clear hg_ hnew_
   (first | rw [← Ny642.out] at ho9 | (simp only [Int.reduceToNat] at ho9; rw [← Ny642.out] at ho9))
   have HO644 := Aside0.mk (Kd.R_lower (Kd.R_newB (Kd.R_new' ho9 (Kd.R_lt (rr_ HO641))) (g := gb638) (o := .cells #[.int .i64 a1_0, .int .i64 a1_1] 26 (0, 0)) (bk_ BK638)) bls_)
   replace HO641 := Aside0.mk (Kd.R_elder' (rr_ HO641) (Kd.R_base ho9) hb)
   replace BK638 := bkb_ BK638 hb
   replace HB := hbs_ hb
   clear hb ho9
   refine hK.out _ _ ⟨(blk_cell BK638.out 0).trans rfl, (blk_cell BK638.out 1).trans rfl⟩ (fun hHeld => ?_)
   clear hK K
   refine norm_ (a' := ?_) ?_ ?_
   rotate_left
   ·show Act.put _ (some 13) _ = _
    simp only [Act.put, List.setIfInBounds_toArray, List.set_cons_zero, List.set_cons_succ, i64_w, i32_w]
    rfl
   exact norm_ (by simp only [putAll, Act.put, List.setIfInBounds_toArray, List.set_cons_zero, List.set_cons_succ]) (hCont (v640, v643) _ ⟨hHeld, (by (with_reducible repeat (first | apply Kd.R_alloc | apply Kd.R_drewN | apply Kd.R_drew)); exact Kd.R_mono HO641.out (fun _ hk => ⟨hk.2, hk.1.2⟩)), (by (with_reducible repeat (first | apply Kd.R_alloc | apply Kd.R_drewN | apply Kd.R_drew)); exact Kd.R_mono HO644.out (fun _ hk => ⟨hk.1.2, hk.2⟩)), (bk_ BK638), bl_⟩)
  ·skip
   refine Kd.R_lit_step k26 _ 26 ?hg (N := 13) ?hd (xs := ([(⟨a1_0, a1_1⟩ : S26)] : List (S26))) (inner := [.int .i64 a1_0, .int .i64 a1_1]) (ok := fun _ => True) (okp := fun _ => True) ?hr ?hp (fun _ hk => hk) trivial (Below.refl _ _) (Nat.le_refl _) (by simp) ?_; (case hd => rfl); (case hg => rfl); (case hr => first | (go_simp; done) | (go_simp; rfl)); (case hp => exact (Reps.c2 (show Kd.M k26 _ _ _ (⟨a1_0, a1_1⟩ : S26) [.int .i64 a1_0, .int .i64 a1_1] from (k26_mkM _ _ _ (⟨a1_0, a1_1⟩ : S26) )) (Reps.none _ _)))
   intro v643 w7 ho8 hb hg_ hnew_
   clear hg_ hnew_
   (first | rw [← Ny642.out] at ho8 | (simp only [Int.reduceToNat] at ho8; rw [← Ny642.out] at ho8))
   have HO644 := Aside0.mk (Kd.R_lower (Kd.R_newB ho8 (g := gb638) (o := .cells #[.int .i64 a1_0, .int .i64 a1_1] 26 (0, 0)) (bk_ BK638)) bls_)
   replace BK638 := bkb_ BK638 hb
   replace HB := hbs_ hb
   clear hb ho8
   refine hK.out _ _ ⟨(blk_cell BK638.out 0).trans rfl, (blk_cell BK638.out 1).trans rfl⟩ (fun hHeld => ?_)
   clear hK K
   refine norm_ (a' := ?_) ?_ ?_
   rotate_left
   ·show Act.put _ (some 13) _ = _
    simp only [Act.put, List.setIfInBounds_toArray, List.set_cons_zero, List.set_cons_succ, i64_w, i32_w]
    rfl
   refine one_ (i := 2) (N := some 11) #[true, true, true, true, true, false, false] rfl rfl (by kernel_rfl) (by decide) (fun K hK => ?_)
   refine goes_ Try.func12 (by kernel_rfl) rfl #[.slice A0 l0.length c0, .agg #[.int .i64 a1_0, .int .i64 a1_1]] (by rfl) rfl rfl (by (try simp only [List.map_toArray, List.map_cons, List.map_nil]); first | done | rfl | (simp only [List.length_drop, List.length_take]; rfl)) ?_
   with_reducible refine (impl_ReachRoles.calls k _ _ l0 a1_0 a1_1 t639 _ ?side1 ?side2 A3.out).mono ?_
   (case side1 => repeat (first | exact (Kd.C_below HR0.out HB.out) | (with_reducible refine Kd.C_alloc ?_ _) | (with_reducible refine Kd.C_drewN ?_ _) | (with_reducible refine Kd.C_drew ?_)))
   (case side2 => exact HC0.out)
   rintro e w9 ⟨v640, rfl, ho0, hb⟩
   refine ⟨_, rfl, ?_⟩
   have HO641 := Aside0.mk (Kd.R_lower (Kd.R_newB (Kd.R_new' ho0 (Kd.R_lt (rr_ HO644))) (g := gb638) (o := .cells #[.int .i64 a1_0, .int .i64 a1_1] 26 (0, 0)) (bk_ BK638)) bls_)
   replace HO644 := Aside0.mk (Kd.R_elder' (rr_ HO644) (Kd.R_base ho0) hb)
   replace BK638 := bkb_ BK638 hb
   replace HB := hbs_ hb
   (try clear hb)
   (try clear hb2)
   (try clear hk)
   (try clear hi)
   (try clear ho0)
   refine hK.out _ _ ⟨(blk_cell BK638.out 0).trans rfl, (blk_cell BK638.out 1).trans rfl⟩ (fun hHeld => ?_)
   clear hK K
   refine norm_ (a' := ?_) ?_ ?_
   rotate_left
   ·show Act.put _ (some 11) _ = _
    simp only [Act.put, List.setIfInBounds_toArray, List.set_cons_zero, List.set_cons_succ, i64_w, i32_w]
    rfl
   exact norm_ (by simp only [putAll, Act.put, List.setIfInBounds_toArray, List.set_cons_zero, List.set_cons_succ]) (hCont (v640, v643) _ ⟨hHeld, (by (with_reducible repeat (first | apply Kd.R_alloc | apply Kd.R_drewN | apply Kd.R_drew)); exact Kd.R_mono HO641.out (fun _ hk => ⟨hk.1.2, hk.2⟩)), (by (with_reducible repeat (first | apply Kd.R_alloc | apply Kd.R_drewN | apply Kd.R_drew)); exact Kd.R_mono HO644.out (fun _ hk => ⟨hk.2, hk.1.2⟩)), (bk_ BK638), bl_⟩)
 rintro ⟨v640, v643⟩ w10 ⟨hS_, h0_, h1_, h2_, h3_⟩
 have n0_ : Aside0 (Kd.R k26 26 w10 w.heap.size (fun k_ => some k_ ≠ (v643 : Value).ownBlock ∧ k_ ≠ gb638) v640 t639) := ⟨h0_⟩
 have n1_ : Aside0 (Kd.R k26 26 w10 w.heap.size (fun k_ => some k_ ≠ (v640 : Value).ownBlock ∧ k_ ≠ gb638) v643 y642) := ⟨h1_⟩
 have n2_ : Aside0 (w10.heap[gb638]? = some (.cells #[.int .i64 a1_0, .int .i64 a1_1] 26 (0, 0))) := ⟨h2_⟩
 have n3_ : Aside0 (Below w.heap.size w w10) := ⟨h3_⟩
 clear BK638
 clear HB
 clear h0_ h1_ h2_ h3_
 have HO641 := n0_
 have HO644 := n1_
 have BK638 := n2_
 have HB := n3_
 clear n0_ n1_ n2_ n3_
 have hHeld : w10.cell? ⟨gb638, 0, none⟩ = some (.int .i64 a1_0) ∧ w10.cell? ⟨gb638, 1, none⟩ = some (.int .i64 a1_1) := hS_
 obtain ⟨Ao12, co12, eo12⟩ := Kd.R_slice HO644.out
 (first | subst eo12 | (injection eo12 with f1_ f2_ f3_; have f4_ := f1_.symm; have f5_ := f3_.symm; clear f1_ f2_ f3_; subst f4_; subst f5_))
 refine norm_ (a' := ?_) ?_ ?_
 rotate_left
 ·simp only [putAll, Act.put, List.setIfInBounds_toArray, List.set_cons_zero, List.set_cons_succ]
  rfl
 refine one_ (i := 5) (N := some 14) #[true, true, true, true, true, true, false] rfl rfl (by kernel_rfl) (by decide) (fun K hK => ?_)
 refine Kd.R_append_rows_step k26 (w0 := w) w.heap.size (by rfl) (.tmp 11) (.tmp 13) 35 26 (.agg #[(.int .i64 0), (.int .i64 0)]) 16 rfl Try.underlying35 info26 rfl (by decide) (by omega) v640 t639 y642 _ _ _ (fun k_ => some k_ ≠ (.slice Ao12 y642.length co12 : Value).ownBlock ∧ k_ ≠ gb638) (fun _ => False) rfl rfl ?aO ?aR (fun _ _ h => h) (fun _ h => h.elim) ?aF ?aB ?aS ?aL ?_
 (case aR => repeat (first | exact (Kd.R_reads' HO644.out).2.2 | (with_reducible refine Kd.C_alloc ?_ _) | (with_reducible refine Kd.C_drewN ?_ _) | (with_reducible refine Kd.C_drew ?_)))
 (case aB => exact bl_)
 (case aF => exact (fun k_ hk => ⟨Kd.fresh' (Kd.R_lt (rr_ HO644)) k_ hk, Kd.freshB (g := gb638) (o := .cells #[.int .i64 a1_0, .int .i64 a1_1] 26 (0, 0)) (bk_ BK638) k_ hk⟩))
 (case aO => exact (rr_ HO641))
 (case aS => exact bls_)
 (case aL => have := LMc4.out; omega)
 intro v646 w11 ho hb hg hat
 rw [← Ny645.out] at ho
 replace BK638 := Aside0.mk (blk_grown (g := gb638) (o := .cells #[.int .i64 a1_0, .int .i64 a1_1] 26 (0, 0)) (bk_ BK638) hg (Kd.R_away HO641.out (fun _ hk => hk.2)))
 replace HO644 := Aside0.mk (Kd.R_after (ok := (fun k_ => k_ ≠ gb638)) (by (with_reducible repeat (first | apply Kd.R_alloc | apply Kd.R_drewN | apply Kd.R_drew)); exact Kd.R_mono HO644.out (fun _ hk => ⟨hk.2, hk.1⟩)) hg hat)
 replace HB := Aside0.mk (hb)
 have HO647 := Aside0.mk (ho)
 clear HO641
 clear ho hb hg hat
 refine hK.out _ _ ⟨(blk_cell BK638.out 0).trans rfl, (blk_cell BK638.out 1).trans rfl⟩ (fun hHeld => ?_)
 clear hK K
 refine norm_ (a' := ?_) ?_ ?_
 rotate_left
 ·show Act.put _ (some 14) _ = _
  simp only [Act.put, List.setIfInBounds_toArray, List.set_cons_zero, List.set_cons_succ, i64_w, i32_w]
  rfl
 refine pure_ (i := 6) (N := some 5) (v := ?_) (a' := ?_) #[true, true, true, true, true, true, true] rfl rfl (by kernel_rfl) (fun _ _ _ h => h) (Or.inl ⟨by rfl, ?_⟩) ?_ ?_
 rotate_left
 ·intro w'
  go_simp
  with_reducible rfl
 rotate_left
 ·simp only [Act.put, List.setIfInBounds_toArray, List.set_cons_zero, List.set_cons_succ, i64_w, i32_w]
  rfl
 refine done_ (by kernel_rfl) ?_
 try go_wp2_with (first | ((with_reducible refine gate_dst (N := 15) rfl ?_); refine Kd.R_lit k49 _ 49 ?hg (N := 15) ?hd (xs := ([] : List (S49))) (inner := []) (ok := fun _ => True) (okp := fun _ => True) ?hr ?hp (fun _ hk => hk) trivial (Below.refl _ _) (Nat.le_refl _) (by simp) ?_; (case hd => rfl); (case hg => rfl); (case hr => first | (go_simp; done) | (go_simp; rfl)); (case hp => exact (Reps.none _ _)); intro v649 w13 ho14 hb hg_ hnew_; clear hg_ hnew_; (first | rw [← Ny648.out] at ho14 | (simp only [Int.reduceToNat] at ho14; rw [← Ny648.out] at ho14)); replace HO644 := hob_ HO644 hb; replace HO647 := hob_ HO647 hb; have HO650 := Aside0.mk (Kd.R_lower ho14 bls_); replace BK638 := bkb_ BK638 hb; replace HB := hbs_ hb; clear hb ho14))
 go_loopg [6, 18] k (fun kq v6 v18 w' => ∃ (x6_1 : List (S49)) (x18_1 : Int), v18 = .int .i64 x18_1 ∧ Aside0 (impl_NeededFor.l0 kq y645 x6_1 l0 (l0.length : Int) x18_1 = some r) ∧ Aside0 (kq ≤ k) ∧ Aside0 (Kd.R k26 26 w' w.heap.size (fun k_ => k_ ≠ gb638) v646 y645) ∧ Aside0 (Kd.R k49 49 w' w.heap.size (fun _ => True) v6 x6_1) ∧ Aside0 (w'.heap[gb638]? = some (.cells #[.int .i64 a1_0, .int .i64 a1_1] 26 (0, 0))) ∧ Aside0 (Below w.heap.size w w'))
 case atStart => exact ⟨(y648), (0), rf_, H', ⟨Nat.le_refl _⟩, ⟨by (with_reducible repeat (first | apply Kd.R_alloc | apply Kd.R_drewN | apply Kd.R_drew)); exact Kd.R_mono HO647.out (fun _ hk => hk.2)⟩, ⟨rr_ HO650⟩, ⟨bk_ BK638⟩, ⟨bl_⟩⟩
 case round =>
  clear H'
  try clear c1
  try clear c2
  try clear p2
  try clear c4
  try clear c12
  obtain ⟨x6_1, x18_1, rfl, HA, HK1, HO_5, HO_6, BK638, HB⟩ := hrel
  cases gk with
  | zero => exact absurd HA.out (by simp [impl_NeededFor.l0])
  | succ k1 =>
   have H := HA.out
   clear HA
   simp only [impl_NeededFor.l0] at H
   by_cases c15 : x18_1 < (l0.length : Int)
   ·rw [if_pos c15] at H
    have c15b0 : decide (x18_1 < (l0.length : Int)) = true := decide_eq_true c15
    clear c15
    obtain ⟨c16b0, H⟩ := ifd_ H
    obtain ⟨c17b0, H⟩ := ifd_ H
    obtain ⟨t653, A18, H⟩ := bindE_ H
    by_cases c19 : t653 = true
    ·subst c19
     replace H := ite_t_ H
     obtain ⟨t654, A20, H⟩ := bindE_ H
     have HC21 := Aside0.mk H
     clear H
     have p651 : 0 ≤ (x18_1 : Int) := od_
     have q651 : x18_1 < (l0.length : Int) := od_
     obtain ⟨ad651, e651, hx651_0, hx651_1, hx651_2, hx651_3, hx651_4, hx651_5, hx651_6, hx651_7, hx651_8, hx651_9⟩ := at_T49 (Kd.C_below HR0.out HB.out) x18_1 p651 q651
     cases e651
     replace p651 := eq_true p651
     replace q651 := eq_true q651
     go_upto_if 29 with (first | ((with_reducible refine gate_dst (N := 8) rfl ?_); refine box_event ?hg (N := 8) ?hd (cs := #[.int .i64 0, .int .i64 0, .int .i64 0, .int .i64 0, .int .i64 0, .int .i64 0, .int .i64 0, .int .i64 0, .int .i64 0, .int .i64 0]) (t := 49) ?hr ?_; (case hd => rfl); (case hg => rfl); (case hr => first | (go_simp; done) | (go_simp; rfl)); intro gb652 hg w22 hbox hb; replace HO_5 := hob_ HO_5 hb; replace HO_6 := Aside0.mk (Kd.R_below (Kd.R_elderB (rr_ HO_6) gb652 (Nat.le_of_eq hg.symm)) hb); have BK652 := Aside0.mk (hbox); have GW652 := gs_ hg; have GE652 := gs_ hg; replace HB := hbs_ hb; have NB638_652 := nl_ hg BK638; have NB652_638 := nr_ hg BK638; replace BK638 := bkb_ BK638 hb; clear hb hbox hg; have hnb23 := NB652_638.out; have hnc23 := NB638_652.out; obtain ⟨hcz24, hfz24⟩ := bcf_ BK652) | ((with_reducible refine gate_callee (f := 30) rfl ?_); refine goesC_ (some 23) Try.func30 #[.agg #[.int .i64 ((rd_T49 l0 x18_1).f0), .int .i64 ((rd_T49 l0 x18_1).f1.f0), .int .i64 ((rd_T49 l0 x18_1).f1.f1), .int .i64 ((rd_T49 l0 x18_1).f2), .int .i64 ((rd_T49 l0 x18_1).f3.f0), .int .i64 ((rd_T49 l0 x18_1).f3.f1), .int .i64 ((rd_T49 l0 x18_1).f4.f0), .int .i64 ((rd_T49 l0 x18_1).f4.f1), .int .i64 ((rd_T49 l0 x18_1).f5), .int .i64 ((rd_T49 l0 x18_1).f6)]] ?_; (with_reducible refine (impl_CredOk.calls k1 ((rd_T49 l0 x18_1).f0) ((rd_T49 l0 x18_1).f1.f0) ((rd_T49 l0 x18_1).f1.f1) ((rd_T49 l0 x18_1).f2) ((rd_T49 l0 x18_1).f3.f0) ((rd_T49 l0 x18_1).f3.f1) ((rd_T49 l0 x18_1).f4.f0) ((rd_T49 l0 x18_1).f4.f1) ((rd_T49 l0 x18_1).f5) ((rd_T49 l0 x18_1).f6) true _ A18.out).mono ?_); rintro e w25 ⟨rfl, hb⟩; refine ⟨_, rfl, ?_⟩; replace HO_5 := Aside0.mk (Kd.R_below (by (with_reducible repeat (first | apply Kd.R_alloc | apply Kd.R_drewN | apply Kd.R_drew)); exact (Kd.R_mono (fr10_ (Kd.R_types HO_5.out BK652.out (by decide)) (fun _ hk => hk.2)) (fun _ h_ => h_.1))) hb); replace HO_6 := Aside0.mk (Kd.R_below (by (with_reducible repeat (first | apply Kd.R_alloc | apply Kd.R_drewN | apply Kd.R_drew)); exact (Kd.R_mono (fr10_ (Kd.R_mono HO_6.out (fun k_ hk => (⟨hk, hk.2⟩ : _ ∧ k_ ≠ gb652))) (fun _ hk => hk.2)) (fun _ h_ => h_.1))) hb); replace BK638 := Aside0.mk (blk_below (g := gb638) (o := .cells #[.int .i64 a1_0, .int .i64 a1_1] 26 (0, 0)) (bk_ BK638) hb); replace BK652 := Aside0.mk (blk_below (g := gb652) (o := .cells #[.int .i64 ((rd_T49 l0 x18_1).f0), .int .i64 ((rd_T49 l0 x18_1).f1.f0), .int .i64 ((rd_T49 l0 x18_1).f1.f1), .int .i64 ((rd_T49 l0 x18_1).f2), .int .i64 ((rd_T49 l0 x18_1).f3.f0), .int .i64 ((rd_T49 l0 x18_1).f3.f1), .int .i64 ((rd_T49 l0 x18_1).f4.f0), .int .i64 ((rd_T49 l0 x18_1).f4.f1), .int .i64 ((rd_T49 l0 x18_1).f5), .int .i64 ((rd_T49 l0 x18_1).f6)] 49 (0, 0)) (bk_ BK652) hb); replace HB := hbs_ hb; clear hb; obtain ⟨hcz26, hfz26⟩ := bcf_ BK652; obtain ⟨Ao27, co27, eo27⟩ := Kd.R_slice HO_5.out; subst eo27) | (go_at_call 32; (with_reducible refine (impl_Role_32.calls k1 _ _ y645 ((rd_T49 l0 x18_1).f1.f0) ((rd_T49 l0 x18_1).f1.f1) t654 _ ?side1 ?side2 A20.out).mono ?_); (case side1 => repeat (first | exact (Kd.R_reads' HO_5.out).2.2 | (with_reducible refine Kd.C_alloc ?_ _) | (with_reducible refine Kd.C_drewN ?_ _) | (with_reducible refine Kd.C_drew ?_))); (case side2 => exact (Kd.R_reads' HO_5.out).2.1); rintro e w28 ⟨rfl, hb⟩; replace HO_5 := hob_ HO_5 hb; replace HO_6 := hob_ HO_6 hb; replace BK638 := bkb_ BK638 hb; replace BK652 := bkb_ BK652 hb; replace HB := hbs_ hb; clear hb))
     (try simp only [Act.put, List.setIfInBounds_toArray, List.set_cons_zero, List.set_cons_succ])
     have H := HC21.out
     clear HC21
     by_cases c29 : t654 = true
     ·subst c29
      replace H := ite_t_ H
      obtain ⟨y655, hy655⟩ : ∃ y_ : List (S49), y_ = (([(⟨(rd_T49 l0 x18_1).f0, (⟨(rd_T49 l0 x18_1).f1.f0, (rd_T49 l0 x18_1).f1.f1⟩ : S26), (rd_T49 l0 x18_1).f2, (⟨(rd_T49 l0 x18_1).f3.f0, (rd_T49 l0 x18_1).f3.f1⟩ : S26), (⟨(rd_T49 l0 x18_1).f4.f0, (rd_T49 l0 x18_1).f4.f1⟩ : S26), (rd_T49 l0 x18_1).f5, (rd_T49 l0 x18_1).f6⟩ : S49)] : List (S49))) := ⟨_, rfl⟩
      replace H : (if x6_1.length + y655.length < 1759218604441 then (impl_NeededFor.l0 k1 y645 (x6_1 ++ y655) l0 (l0.length : Int) (wrap64 (x18_1 + 1))) else (none)) = some r := rh_ hy655 H
      have Ny655 := Aside0.mk hy655
      clear hy655
      obtain ⟨c30, H⟩ := ifn_ H
      have LMc30 := Aside0.mk c30
      clear c30
      obtain ⟨y658, hy658⟩ : ∃ y_ : List (S49), y_ = (x6_1 ++ y655) := ⟨_, rfl⟩
      replace H : (impl_NeededFor.l0 k1 y645 y658 l0 (l0.length : Int) (wrap64 (x18_1 + 1))) = some r := rh_ hy658 H
      have Ny658 := Aside0.mk hy658
      clear hy658
      have H' := Aside0.mk H
      clear H
      have hnb31 := NB652_638.out
      have hnc31 := NB638_652.out
      have hcz32 := blk_cell BK652.out
      have hfz32 := blk_frozen BK652.out
      go_wp2_with (first | ((with_reducible refine gate_dst (N := 32) rfl ?_); refine Kd.R_lit k49 _ 49 ?hg (N := 32) ?hd (xs := ([(⟨(rd_T49 l0 x18_1).f0, (⟨(rd_T49 l0 x18_1).f1.f0, (rd_T49 l0 x18_1).f1.f1⟩ : S26), (rd_T49 l0 x18_1).f2, (⟨(rd_T49 l0 x18_1).f3.f0, (rd_T49 l0 x18_1).f3.f1⟩ : S26), (⟨(rd_T49 l0 x18_1).f4.f0, (rd_T49 l0 x18_1).f4.f1⟩ : S26), (rd_T49 l0 x18_1).f5, (rd_T49 l0 x18_1).f6⟩ : S49)] : List (S49))) (inner := [.int .i64 ((rd_T49 l0 x18_1).f0), .int .i64 ((rd_T49 l0 x18_1).f1.f0), .int .i64 ((rd_T49 l0 x18_1).f1.f1), .int .i64 ((rd_T49 l0 x18_1).f2), .int .i64 ((rd_T49 l0 x18_1).f3.f0), .int .i64 ((rd_T49 l0 x18_1).f3.f1), .int .i64 ((rd_T49 l0 x18_1).f4.f0), .int .i64 ((rd_T49 l0 x18_1).f4.f1), .int .i64 ((rd_T49 l0 x18_1).f5), .int .i64 ((rd_T49 l0 x18_1).f6)]) (ok := fun _ => True) (okp := fun _ => True) ?hr ?hp (fun _ hk => hk) trivial (Below.refl _ _) (Nat.le_refl _) (by simp) ?_; (case hd => rfl); (case hg => rfl); (case hr => first | (go_simp; done) | (go_simp; rfl)); (case hp => exact (Reps.c10 (show Kd.M k49 _ _ _ (⟨(rd_T49 l0 x18_1).f0, (⟨(rd_T49 l0 x18_1).f1.f0, (rd_T49 l0 x18_1).f1.f1⟩ : S26), (rd_T49 l0 x18_1).f2, (⟨(rd_T49 l0 x18_1).f3.f0, (rd_T49 l0 x18_1).f3.f1⟩ : S26), (⟨(rd_T49 l0 x18_1).f4.f0, (rd_T49 l0 x18_1).f4.f1⟩ : S26), (rd_T49 l0 x18_1).f5, (rd_T49 l0 x18_1).f6⟩ : S49) [.int .i64 ((rd_T49 l0 x18_1).f0), .int .i64 ((rd_T49 l0 x18_1).f1.f0), .int .i64 ((rd_T49 l0 x18_1).f1.f1), .int .i64 ((rd_T49 l0 x18_1).f2), .int .i64 ((rd_T49 l0 x18_1).f3.f0), .int .i64 ((rd_T49 l0 x18_1).f3.f1), .int .i64 ((rd_T49 l0 x18_1).f4.f0), .int .i64 ((rd_T49 l0 x18_1).f4.f1), .int .i64 ((rd_T49 l0 x18_1).f5), .int .i64 ((rd_T49 l0 x18_1).f6)] from (k49_mkM _ _ _ (⟨(rd_T49 l0 x18_1).f0, (⟨(rd_T49 l0 x18_1).f1.f0, (rd_T49 l0 x18_1).f1.f1⟩ : S26), (rd_T49 l0 x18_1).f2, (⟨(rd_T49 l0 x18_1).f3.f0, (rd_T49 l0 x18_1).f3.f1⟩ : S26), (⟨(rd_T49 l0 x18_1).f4.f0, (rd_T49 l0 x18_1).f4.f1⟩ : S26), (rd_T49 l0 x18_1).f5, (rd_T49 l0 x18_1).f6⟩ : S49) )) (Reps.none _ _))); intro v656 w33 ho34 hb hg_ hnew_; clear hg_ hnew_; (first | rw [← Ny655.out] at ho34 | (simp only [Int.reduceToNat] at ho34; rw [← Ny655.out] at ho34)); replace HO_5 := hob_ HO_5 hb; have HO657 := Aside0.mk (Kd.R_lower (Kd.R_newB (Kd.R_new' ho34 (Kd.R_lt (rr_ HO_6))) (g := gb652) (o := .cells #[.int .i64 ((rd_T49 l0 x18_1).f0), .int .i64 ((rd_T49 l0 x18_1).f1.f0), .int .i64 ((rd_T49 l0 x18_1).f1.f1), .int .i64 ((rd_T49 l0 x18_1).f2), .int .i64 ((rd_T49 l0 x18_1).f3.f0), .int .i64 ((rd_T49 l0 x18_1).f3.f1), .int .i64 ((rd_T49 l0 x18_1).f4.f0), .int .i64 ((rd_T49 l0 x18_1).f4.f1), .int .i64 ((rd_T49 l0 x18_1).f5), .int .i64 ((rd_T49 l0 x18_1).f6)] 49 (0, 0)) (bk_ BK652)) bls_); replace HO_6 := Aside0.mk (Kd.R_elder' (rr_ HO_6) (Kd.R_base ho34) hb); replace BK638 := bkb_ BK638 hb; replace BK652 := bkb_ BK652 hb; replace HB := hbs_ hb; clear hb ho34; obtain ⟨Ao36, co36, eo36⟩ := Kd.R_slice HO657.out; subst eo36) | ((with_reducible refine gate_builtin (b := .append) (xs := #[.tmp 30, .tmp 32]) rfl ?_); at_builtin; refine Kd.R_append_rows k49 (w0 := w) w.heap.size rfl (.tmp 30) (.tmp 32) 24 49 (.agg #[(.int .i64 0), (.int .i64 0), (.int .i64 0), (.int .i64 0), (.int .i64 0), (.int .i64 0), (.int .i64 0), (.int .i64 0), (.int .i64 0), (.int .i64 0)]) 80 rfl Try.underlying24 info49 rfl (by decide) (by omega) u6 x6_1 y655 _ _ _ (fun k_ => some k_ ≠ (.slice Ao36 y655.length co36 : Value).ownBlock ∧ k_ ≠ gb652) (fun _ => False) rfl rfl ?aO ?aR (fun _ _ h => h) (fun _ h => h.elim) ?aF ?aB ?aS ?aL ?_; (case aR => repeat (first | exact (Kd.R_reads' HO657.out).2.2 | (with_reducible refine Kd.C_alloc ?_ _) | (with_reducible refine Kd.C_drewN ?_ _) | (with_reducible refine Kd.C_drew ?_))); (case aB => exact bl_); (case aF => exact (fun k_ hk => ⟨Kd.fresh' (Kd.R_lt (rr_ HO657)) k_ hk, Kd.freshB (g := gb652) (o := .cells #[.int .i64 ((rd_T49 l0 x18_1).f0), .int .i64 ((rd_T49 l0 x18_1).f1.f0), .int .i64 ((rd_T49 l0 x18_1).f1.f1), .int .i64 ((rd_T49 l0 x18_1).f2), .int .i64 ((rd_T49 l0 x18_1).f3.f0), .int .i64 ((rd_T49 l0 x18_1).f3.f1), .int .i64 ((rd_T49 l0 x18_1).f4.f0), .int .i64 ((rd_T49 l0 x18_1).f4.f1), .int .i64 ((rd_T49 l0 x18_1).f5), .int .i64 ((rd_T49 l0 x18_1).f6)] 49 (0, 0)) (bk_ BK652) k_ hk⟩)); (case aO => exact (by (with_reducible repeat (first | apply Kd.R_alloc | apply Kd.R_drewN | apply Kd.R_drew)); exact Kd.R_mono HO_6.out (fun _ hk => ⟨hk.2, hk.1.2⟩))); (case aS => exact bls_); (case aL => have := LMc30.out; omega); intro v659 w35 ho hb hg hat; rw [← Ny658.out] at ho; replace HO_5 := Aside0.mk (Kd.R_over' (rr_ HO_5) (Kd.R_typed (rr_ HO_6)) (by decide) hg); replace BK638 := Aside0.mk (blk_grown (g := gb638) (o := .cells #[.int .i64 a1_0, .int .i64 a1_1] 26 (0, 0)) (bk_ BK638) hg (Kd.R_ne HO_6.out BK638.out (by decide))); replace BK652 := Aside0.mk (blk_grown (g := gb652) (o := .cells #[.int .i64 ((rd_T49 l0 x18_1).f0), .int .i64 ((rd_T49 l0 x18_1).f1.f0), .int .i64 ((rd_T49 l0 x18_1).f1.f1), .int .i64 ((rd_T49 l0 x18_1).f2), .int .i64 ((rd_T49 l0 x18_1).f3.f0), .int .i64 ((rd_T49 l0 x18_1).f3.f1), .int .i64 ((rd_T49 l0 x18_1).f4.f0), .int .i64 ((rd_T49 l0 x18_1).f4.f1), .int .i64 ((rd_T49 l0 x18_1).f5), .int .i64 ((rd_T49 l0 x18_1).f6)] 49 (0, 0)) (bk_ BK652) hg (Kd.R_away HO_6.out (fun _ hk => hk.1.2))); replace HO657 := Aside0.mk (Kd.R_after (ok := (fun k_ => k_ ≠ gb652)) (by (with_reducible repeat (first | apply Kd.R_alloc | apply Kd.R_drewN | apply Kd.R_drew)); exact Kd.R_mono HO657.out (fun _ hk => ⟨hk.2, hk.1.2⟩)) hg hat); replace HB := Aside0.mk (hb); have HO660 := Aside0.mk (ho); clear HO_6; clear ho hb hg hat))
      go_roundg k1
      case measure => have := HK1.out; omega
      case rel => exact ⟨(y658), (wrap64 (x18_1 + 1)), rf_, H', ⟨by have := HK1.out; omega⟩, ⟨rr_ HO_5⟩, ⟨by (with_reducible repeat (first | apply Kd.R_alloc | apply Kd.R_drewN | apply Kd.R_drew)); exact Kd.R_mono HO660.out (fun _ hk => trivial)⟩, ⟨bk_ BK638⟩, ⟨bl_⟩⟩
     ·replace c29 := Bool.eq_false_iff.mpr c29
      subst c29
      replace H := ite_f_ H
      have H' := Aside0.mk H
      clear H
      go_wp2
      go_roundg k1
      case measure => have := HK1.out; omega
      case rel => exact ⟨(x6_1), (wrap64 (x18_1 + 1)), rf_, H', ⟨by have := HK1.out; omega⟩, ⟨rr_ HO_5⟩, ⟨by (with_reducible repeat (first | apply Kd.R_alloc | apply Kd.R_drewN | apply Kd.R_drew)); exact Kd.R_mono HO_6.out (fun _ hk => trivial)⟩, ⟨bk_ BK638⟩, ⟨bl_⟩⟩
    ·replace c19 := Bool.eq_false_iff.mpr c19
     subst c19
     replace H := ite_f_ H
     have H' := Aside0.mk H
     clear H
     have p651 : 0 ≤ (x18_1 : Int) := od_
     have q651 : x18_1 < (l0.length : Int) := od_
     obtain ⟨ad651, e651, hx651_0, hx651_1, hx651_2, hx651_3, hx651_4, hx651_5, hx651_6, hx651_7, hx651_8, hx651_9⟩ := at_T49 (Kd.C_below HR0.out HB.out) x18_1 p651 q651
     cases e651
     replace p651 := eq_true p651
     replace q651 := eq_true q651
     go_wp2_with (first | ((with_reducible refine gate_dst (N := 8) rfl ?_); refine box_event ?hg (N := 8) ?hd (cs := #[.int .i64 0, .int .i64 0, .int .i64 0, .int .i64 0, .int .i64 0, .int .i64 0, .int .i64 0, .int .i64 0, .int .i64 0, .int .i64 0]) (t := 49) ?hr ?_; (case hd => rfl); (case hg => rfl); (case hr => first | (go_simp; done) | (go_simp; rfl)); intro gb652 hg w37 hbox hb; replace HO_5 := hob_ HO_5 hb; replace HO_6 := Aside0.mk (Kd.R_below (Kd.R_elderB (rr_ HO_6) gb652 (Nat.le_of_eq hg.symm)) hb); have BK652 := Aside0.mk (hbox); have GW652 := gs_ hg; have GE652 := gs_ hg; replace HB := hbs_ hb; have NB638_652 := nl_ hg BK638; have NB652_638 := nr_ hg BK638; replace BK638 := bkb_ BK638 hb; clear hb hbox hg; have hnb38 := NB652_638.out; have hnc38 := NB638_652.out; obtain ⟨hcz39, hfz39⟩ := bcf_ BK652) | ((with_reducible refine gate_callee (f := 30) rfl ?_); refine goesC_ (some 23) Try.func30 #[.agg #[.int .i64 ((rd_T49 l0 x18_1).f0), .int .i64 ((rd_T49 l0 x18_1).f1.f0), .int .i64 ((rd_T49 l0 x18_1).f1.f1), .int .i64 ((rd_T49 l0 x18_1).f2), .int .i64 ((rd_T49 l0 x18_1).f3.f0), .int .i64 ((rd_T49 l0 x18_1).f3.f1), .int .i64 ((rd_T49 l0 x18_1).f4.f0), .int .i64 ((rd_T49 l0 x18_1).f4.f1), .int .i64 ((rd_T49 l0 x18_1).f5), .int .i64 ((rd_T49 l0 x18_1).f6)]] ?_; (with_reducible refine (impl_CredOk.calls k1 ((rd_T49 l0 x18_1).f0) ((rd_T49 l0 x18_1).f1.f0) ((rd_T49 l0 x18_1).f1.f1) ((rd_T49 l0 x18_1).f2) ((rd_T49 l0 x18_1).f3.f0) ((rd_T49 l0 x18_1).f3.f1) ((rd_T49 l0 x18_1).f4.f0) ((rd_T49 l0 x18_1).f4.f1) ((rd_T49 l0 x18_1).f5) ((rd_T49 l0 x18_1).f6) false _ A18.out).mono ?_); rintro e w40 ⟨rfl, hb⟩; refine ⟨_, rfl, ?_⟩; replace HO_5 := Aside0.mk (Kd.R_below (by (with_reducible repeat (first | apply Kd.R_alloc | apply Kd.R_drewN | apply Kd.R_drew)); exact (Kd.R_mono (fr10_ (Kd.R_types HO_5.out BK652.out (by decide)) (fun _ hk => hk.2)) (fun _ h_ => h_.1))) hb); replace HO_6 := Aside0.mk (Kd.R_below (by (with_reducible repeat (first | apply Kd.R_alloc | apply Kd.R_drewN | apply Kd.R_drew)); exact (Kd.R_mono (fr10_ (Kd.R_mono HO_6.out (fun k_ hk => (⟨hk, hk.2⟩ : _ ∧ k_ ≠ gb652))) (fun _ hk => hk.2)) (fun _ h_ => h_.1))) hb); replace BK638 := Aside0.mk (blk_below (g := gb638) (o := .cells #[.int .i64 a1_0, .int .i64 a1_1] 26 (0, 0)) (bk_ BK638) hb); replace BK652 := Aside0.mk (blk_below (g := gb652) (o := .cells #[.int .i64 ((rd_T49 l0 x18_1).f0), .int .i64 ((rd_T49 l0 x18_1).f1.f0), .int .i64 ((rd_T49 l0 x18_1).f1.f1), .int .i64 ((rd_T49 l0 x18_1).f2), .int .i64 ((rd_T49 l0 x18_1).f3.f0), .int .i64 ((rd_T49 l0 x18_1).f3.f1), .int .i64 ((rd_T49 l0 x18_1).f4.f0), .int .i64 ((rd_T49 l0 x18_1).f4.f1), .int .i64 ((rd_T49 l0 x18_1).f5), .int .i64 ((rd_T49 l0 x18_1).f6)] 49 (0, 0)) (bk_ BK652) hb); replace HB := hbs_ hb; clear hb))
     go_roundg k1
     case measure => have := HK1.out; omega
     case rel => exact ⟨(x6_1), (wrap64 (x18_1 + 1)), rf_, H', ⟨by have := HK1.out; omega⟩, ⟨rr_ HO_5⟩, ⟨by (with_reducible repeat (first | apply Kd.R_alloc | apply Kd.R_drewN | apply Kd.R_drew)); exact Kd.R_mono HO_6.out (fun _ hk => trivial)⟩, ⟨bk_ BK638⟩, ⟨bl_⟩⟩
   ·rw [if_neg c15] at H
    have c15b0 : decide (x18_1 < (l0.length : Int)) = false := decide_eq_false c15
    clear c15
    obtain rfl := Option.some.inj H
    go_wp2
    go_ret
    exact ⟨_, eq_, by (with_reducible repeat (first | apply Kd.R_alloc | apply Kd.R_drewN | apply Kd.R_drew)); exact HO_6.out, bl_⟩
end Go.Proofs.Ytamhfnedknjjbaa.PB
