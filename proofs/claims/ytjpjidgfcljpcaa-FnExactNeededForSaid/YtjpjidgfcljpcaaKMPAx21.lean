import Derived.Test.YtjpjidgfcljpcaaKMPAx16
-- printed by wip/tools
namespace Go.Proofs.Ytjpjidgfcljpcaa.PA
open Go.RowKit Go.Proofs.YtjpjidgfcljpcaaW.PrintWords Go.Proofs.YtjpjidgfcljpcaaW.PrintLast Go.Proofs.YtjpjidgfcljpcaaW.PrintMore
attribute [local go_sem] max2_int min2_int max_two min_two max_three min_three max_four min_four
set_option linter.unusedVariables false
set_option linter.unusedSimpArgs false
def impl_NeededFor.l0 : Nat → List (S49) → List (S56) → List (S56) → Int → Int → Option ((List (S56)))
 | 0, _, _, _, _, _ => none
 | k + 1, x5, x6, x16, x17, x18 => if x18 < x17 then (if 0 ≤ x18 then (if x18 < (x16.length : Int) then ((impl_CredOk.f k ((rd_T56 x16 x18).f0) ((rd_T56 x16 x18).f1.f0) ((rd_T56 x16 x18).f1.f1) ((rd_T56 x16 x18).f2) ((rd_T56 x16 x18).f3.f0) ((rd_T56 x16 x18).f3.f1) ((rd_T56 x16 x18).f4.f0) ((rd_T56 x16 x18).f4.f1) ((rd_T56 x16 x18).f5) ((rd_T56 x16 x18).f6)).bind fun t605 => (if t605 = true then ((impl_Role_125.f k x5 ((rd_T56 x16 x18).f1.f0) ((rd_T56 x16 x18).f1.f1)).bind fun t606 => (if t606 = true then ((some (([(⟨(rd_T56 x16 x18).f0, (⟨(rd_T56 x16 x18).f1.f0, (rd_T56 x16 x18).f1.f1⟩ : S49), (rd_T56 x16 x18).f2, (⟨(rd_T56 x16 x18).f3.f0, (rd_T56 x16 x18).f3.f1⟩ : S49), (⟨(rd_T56 x16 x18).f4.f0, (rd_T56 x16 x18).f4.f1⟩ : S49), (rd_T56 x16 x18).f5, (rd_T56 x16 x18).f6⟩ : S56)] : List (S56)) : List (S56))).bind fun y607 => (if x6.length + y607.length < 1759218604441 then (impl_NeededFor.l0 k x5 (x6 ++ y607) x16 x17 (wrap64 (x18 + 1))) else (none))) else (impl_NeededFor.l0 k x5 x6 x16 x17 (wrap64 (x18 + 1))))) else (impl_NeededFor.l0 k x5 x6 x16 x17 (wrap64 (x18 + 1))))) else (none)) else (none)) else (some x6)
def impl_NeededFor.f (k : Nat) (l0 : List (S56)) (a1_0 : Int) (a1_1 : Int) : Option ((List (S56))) := (impl_ReachRoles.f k l0 a1_0 a1_1).bind fun t591 => ((some (([(⟨a1_0, a1_1⟩ : S49)] : List (S49)) : List (S49))).bind fun y594 => (if t591.length + y594.length < 8796093022208 then (impl_NeededFor.l0 k (t591 ++ y594) (([] : List (S56))) l0 (l0.length : Int) 0) else (none)))
set_option maxHeartbeats 8000000 in
set_option maxRecDepth 100000 in
theorem impl_NeededFor.calls (k : Nat) (A0 : Option Addr) (c0 : Nat) (l0 : List (S56)) (a1_0 : Int) (a1_1 : Int) (r : List (S56)) (w : World) (hr0 : Kd.C k56 w A0 l0.length l0) (hc0 : l0.length ≤ c0) (h : impl_NeededFor.f k l0 a1_0 a1_1 = some r) :
  Calls Try.prog 77 #[.slice A0 l0.length c0, .agg #[.int .i64 a1_0, .int .i64 a1_1]] w fun e w' => ∃ v0_ : Value, e = .returned (v0_) ∧ Kd.R k56 56 w' w.heap.size (fun _ => True) v0_ r ∧ Below w.heap.size w w' := by
 have hu49 := Try.underlying49
 have hu56 := Try.underlying56
 have HR0 := Aside0.mk hr0
 have HC0 := Aside0.mk hc0
 clear hr0 hc0
 have HB := Aside0.mk (Below.refl w.heap.size w)
 have H : ((impl_ReachRoles.f k l0 a1_0 a1_1).bind fun t591 => ((some (([(⟨a1_0, a1_1⟩ : S49)] : List (S49)) : List (S49))).bind fun y594 => (if t591.length + y594.length < 8796093022208 then (impl_NeededFor.l0 k (t591 ++ y594) (([] : List (S56))) l0 (l0.length : Int) 0) else (none)))) = some r := h
 clear h
 obtain ⟨t591, A3, H⟩ := bindE_ H
 obtain ⟨y594, hy594⟩ : ∃ y_ : List (S49), y_ = (([(⟨a1_0, a1_1⟩ : S49)] : List (S49))) := ⟨_, rfl⟩
 replace H : (if t591.length + y594.length < 8796093022208 then (impl_NeededFor.l0 k (t591 ++ y594) (([] : List (S56))) l0 (l0.length : Int) 0) else (none)) = some r := by first | (rw [hy594]; with_reducible exact H) | (have H2_ := (Option.bind_some _ _).symm.trans H; rw [hy594]; with_reducible exact H2_) | (have H2_ := (Option.bind_some _ _).symm.trans H; with_reducible exact H2_) | with_reducible exact H | (rw [hy594]; exact H) | exact H
 have Ny594 := Aside0.mk hy594
 clear hy594
 obtain ⟨c4, H⟩ := ifn_ H
 have LMc4 := Aside0.mk c4
 clear c4
 obtain ⟨y597, hy597⟩ : ∃ y_ : List (S49), y_ = (t591 ++ y594) := ⟨_, rfl⟩
 replace H : (impl_NeededFor.l0 k y597 (([] : List (S56))) l0 (l0.length : Int) 0) = some r := by first | (rw [hy597]; with_reducible exact H) | (have H2_ := (Option.bind_some _ _).symm.trans H; rw [hy597]; with_reducible exact H2_) | (have H2_ := (Option.bind_some _ _).symm.trans H; with_reducible exact H2_) | with_reducible exact H | (rw [hy597]; exact H) | exact H
 have Ny597 := Aside0.mk hy597
 clear hy597
 obtain ⟨y600, hy600⟩ : ∃ y_ : List (S56), y_ = (([] : List (S56))) := ⟨_, rfl⟩
 replace H : (impl_NeededFor.l0 k y597 y600 l0 (l0.length : Int) 0) = some r := by first | (rw [hy600]; with_reducible exact H) | (have H2_ := (Option.bind_some _ _).symm.trans H; rw [hy600]; with_reducible exact H2_) | (have H2_ := (Option.bind_some _ _).symm.trans H; with_reducible exact H2_) | with_reducible exact H | (rw [hy600]; exact H) | exact H
 have Ny600 := Aside0.mk hy600
 clear hy600
 have H' := Aside0.mk H
 clear H
 go_enter Try.func77, Try.ntmps77
 try go_wp2_with (first | ((with_reducible refine gate_dst (N := 3) rfl ?_); refine box_event ?hg (N := 3) ?hd (cs := #[.int .i64 a1_0, .int .i64 a1_1]) (t := 49) ?hr ?_; (case hd => rfl); (case hg => rfl); (case hr => first | (go_simp; done) | (go_simp; rfl)); intro gb590 hg w5 hbox hb; have BK590 := Aside0.mk (hbox); have GW590 := gs_ hg; have GE590 := gs_ hg; replace HB := hbs_ hb; clear hb hbox hg))
 replace BK590 := Aside0.mk (blk_drew BK590.out)
 replace HB := Aside0.mk (below_drew1 HB.out)
 refine start_ (n := 7) (S := fun w' => w'.cell? ⟨gb590, 0, none⟩ = some (.int .i64 a1_0) ∧ w'.cell? ⟨gb590, 1, none⟩ = some (.int .i64 a1_1)) (ds := []) #[false, false, false, false, false, false, false] (by kernel_rfl) rfl rfl ⟨(blk_cell BK590.out 0).trans rfl, (blk_cell BK590.out 1).trans rfl⟩ (fun hHeld => ?_)
 generalize w5.drew = w6 at BK590 HB hHeld ⊢
 refine pure_ (i := 0) (N := some 9) (v := ?_) (a' := ?_) #[true, false, false, false, false, false, false] rfl rfl (by kernel_rfl) (fun _ _ _ h => h) (Or.inl ⟨by rfl, ?_⟩) ?_ ?_
 rotate_left
 ·intro w'
  go_simp
  with_reducible rfl
 rotate_left
 ·simp only [Act.put, List.setIfInBounds_toArray, List.set_cons_zero, List.set_cons_succ, i64_w, i32_w]
  rfl
 refine take_ (i := 1) (N := some 10) (v := ?_) (a' := ?_) #[true, true, false, false, false, false, false] rfl rfl (by kernel_rfl) (fun _ _ _ h => h) (Or.inl ⟨by rfl, ?_⟩) hHeld ?_ ?_
 rotate_left
 ·rintro w' ⟨s0, s1⟩
  go_simp
  with_reducible rfl
 rotate_left
 ·simp only [Act.put, List.setIfInBounds_toArray, List.set_cons_zero, List.set_cons_succ, i64_w, i32_w]
  rfl
 refine take_ (i := 3) (N := some 12) (v := ?_) (a' := ?_) #[true, true, false, true, false, false, false] rfl rfl (by kernel_rfl) (fun _ _ _ h => h) (Or.inl ⟨by rfl, ?_⟩) hHeld ?_ ?_
 rotate_left
 ·rintro w' ⟨s0, s1⟩
  go_simp
  with_reducible rfl
 rotate_left
 ·simp only [Act.put, List.setIfInBounds_toArray, List.set_cons_zero, List.set_cons_succ, i64_w, i32_w]
  rfl
 refine join_ (σ := Value × Value) 2 #[true, true, true, true, true, false, false] (fun s_ => [(11, s_.1), (13, s_.2)]) (fun s_ w' => (w'.cell? ⟨gb590, 0, none⟩ = some (.int .i64 a1_0) ∧ w'.cell? ⟨gb590, 1, none⟩ = some (.int .i64 a1_1)) ∧ (Kd.R k49 49 w' w.heap.size (fun k_ => some k_ ≠ (s_.2 : Value).ownBlock ∧ k_ ≠ gb590) s_.1 t591) ∧ (Kd.R k49 49 w' w.heap.size (fun k_ => some k_ ≠ (s_.1 : Value).ownBlock ∧ k_ ≠ gb590) s_.2 y594) ∧ (w'.heap[gb590]? = some (.cells #[.int .i64 a1_0, .int .i64 a1_1] 49 (0, 0))) ∧ (Below w.heap.size w w')) ?_ ?_
 rotate_left
 ·intro hCont
  refine two_ (i := 2) (j := 4) (Ni := some 11) (Nj := some 13) #[true, true, true, true, false, false, false] #[true, true, false, true, true, false, false] rfl rfl rfl rfl (by kernel_rfl) (by decide) (by decide) (fun K hK => ?_) (fun K hK => ?_)
  ·skip
   refine goes_ Try.func66 (by kernel_rfl) rfl #[.slice A0 l0.length c0, .agg #[.int .i64 a1_0, .int .i64 a1_1]] (by rfl) rfl rfl (by (try simp only [List.map_toArray, List.map_cons, List.map_nil]); first | done | rfl | (simp only [List.length_drop, List.length_take]; rfl)) ?_
   with_reducible refine (impl_ReachRoles.calls k _ _ l0 a1_0 a1_1 t591 _ ?side1 ?side2 A3.out).mono ?_
   (case side1 => repeat (first | exact (Kd.C_below HR0.out HB.out) | (with_reducible refine Kd.C_alloc ?_ _) | (with_reducible refine Kd.C_drewN ?_ _) | (with_reducible refine Kd.C_drew ?_)))
   (case side2 => exact HC0.out)
   rintro e w7 ⟨v592, rfl, ho0, hb⟩
   refine ⟨_, rfl, ?_⟩
   have HO593 := Aside0.mk (Kd.R_lower (Kd.R_newB ho0 (g := gb590) (o := .cells #[.int .i64 a1_0, .int .i64 a1_1] 49 (0, 0)) (bk_ BK590)) bls_)
   replace BK590 := bkb_ BK590 hb
   replace HB := hbs_ hb
   (try clear hb)
   (try clear hb2)
   (try clear hk)
   (try clear hi)
   (try clear ho0)
   refine hK.out _ _ ⟨(blk_cell BK590.out 0).trans rfl, (blk_cell BK590.out 1).trans rfl⟩ (fun hHeld => ?_)
   clear hK K
   refine norm_ (a' := ?_) ?_ ?_
   rotate_left
   ·show Act.put _ (some 11) _ = _
    simp only [Act.put, List.setIfInBounds_toArray, List.set_cons_zero, List.set_cons_succ, i64_w, i32_w]
    rfl
   refine one_ (i := 4) (N := some 13) #[true, true, true, true, true, false, false] rfl rfl (by kernel_rfl) (by decide) (fun K hK => ?_)
   refine Kd.R_lit_step k49 _ 49 ?hg (N := 13) ?hd (xs := ([(⟨a1_0, a1_1⟩ : S49)] : List (S49))) (inner := [.int .i64 a1_0, .int .i64 a1_1]) (ok := fun _ => True) (okp := fun _ => True) ?hr ?hp (fun _ hk => hk) trivial (Below.refl _ _) (Nat.le_refl _) (by simp) ?_; (case hd => rfl); (case hg => rfl); (case hr => first | (go_simp; done) | (go_simp; rfl)); (case hp => exact (Reps.c2 (show Kd.M k49 _ _ _ (⟨a1_0, a1_1⟩ : S49) [.int .i64 a1_0, .int .i64 a1_1] from (k49_mkM _ _ _ (⟨a1_0, a1_1⟩ : S49) )) (Reps.none _ _)))
   intro v595 w8 ho9 hb hg_ hnew_
   clear hg_ hnew_
   (first | rw [← Ny594.out] at ho9 | (simp only [Int.reduceToNat] at ho9; rw [← Ny594.out] at ho9))
   have HO596 := Aside0.mk (Kd.R_lower (Kd.R_newB (Kd.R_new' ho9 (Kd.R_lt (by (with_reducible repeat (first | apply Kd.R_alloc | apply Kd.R_drewN | apply Kd.R_drew)); exact HO593.out))) (g := gb590) (o := .cells #[.int .i64 a1_0, .int .i64 a1_1] 49 (0, 0)) (bk_ BK590)) bls_)
   replace HO593 := Aside0.mk (Kd.R_elder' (by (with_reducible repeat (first | apply Kd.R_alloc | apply Kd.R_drewN | apply Kd.R_drew)); exact HO593.out) (Kd.R_base ho9) hb)
   replace BK590 := bkb_ BK590 hb
   replace HB := hbs_ hb
   clear hb ho9
   refine hK.out _ _ ⟨(blk_cell BK590.out 0).trans rfl, (blk_cell BK590.out 1).trans rfl⟩ (fun hHeld => ?_)
   clear hK K
   refine norm_ (a' := ?_) ?_ ?_
   rotate_left
   ·show Act.put _ (some 13) _ = _
    simp only [Act.put, List.setIfInBounds_toArray, List.set_cons_zero, List.set_cons_succ, i64_w, i32_w]
    rfl
   exact norm_ (by simp only [putAll, Act.put, List.setIfInBounds_toArray, List.set_cons_zero, List.set_cons_succ]) (hCont (v592, v595) _ ⟨hHeld, (by (with_reducible repeat (first | apply Kd.R_alloc | apply Kd.R_drewN | apply Kd.R_drew)); exact Kd.R_mono HO593.out (fun _ hk => ⟨hk.2, hk.1.2⟩)), (by (with_reducible repeat (first | apply Kd.R_alloc | apply Kd.R_drewN | apply Kd.R_drew)); exact Kd.R_mono HO596.out (fun _ hk => ⟨hk.1.2, hk.2⟩)), (bk_ BK590), bl_⟩)
  ·skip
   refine Kd.R_lit_step k49 _ 49 ?hg (N := 13) ?hd (xs := ([(⟨a1_0, a1_1⟩ : S49)] : List (S49))) (inner := [.int .i64 a1_0, .int .i64 a1_1]) (ok := fun _ => True) (okp := fun _ => True) ?hr ?hp (fun _ hk => hk) trivial (Below.refl _ _) (Nat.le_refl _) (by simp) ?_; (case hd => rfl); (case hg => rfl); (case hr => first | (go_simp; done) | (go_simp; rfl)); (case hp => exact (Reps.c2 (show Kd.M k49 _ _ _ (⟨a1_0, a1_1⟩ : S49) [.int .i64 a1_0, .int .i64 a1_1] from (k49_mkM _ _ _ (⟨a1_0, a1_1⟩ : S49) )) (Reps.none _ _)))
   intro v595 w7 ho8 hb hg_ hnew_
   clear hg_ hnew_
   (first | rw [← Ny594.out] at ho8 | (simp only [Int.reduceToNat] at ho8; rw [← Ny594.out] at ho8))
   have HO596 := Aside0.mk (Kd.R_lower (Kd.R_newB ho8 (g := gb590) (o := .cells #[.int .i64 a1_0, .int .i64 a1_1] 49 (0, 0)) (bk_ BK590)) bls_)
   replace BK590 := bkb_ BK590 hb
   replace HB := hbs_ hb
   clear hb ho8
   refine hK.out _ _ ⟨(blk_cell BK590.out 0).trans rfl, (blk_cell BK590.out 1).trans rfl⟩ (fun hHeld => ?_)
   clear hK K
   refine norm_ (a' := ?_) ?_ ?_
   rotate_left
   ·show Act.put _ (some 13) _ = _
    simp only [Act.put, List.setIfInBounds_toArray, List.set_cons_zero, List.set_cons_succ, i64_w, i32_w]
    rfl
   refine one_ (i := 2) (N := some 11) #[true, true, true, true, true, false, false] rfl rfl (by kernel_rfl) (by decide) (fun K hK => ?_)
   refine goes_ Try.func66 (by kernel_rfl) rfl #[.slice A0 l0.length c0, .agg #[.int .i64 a1_0, .int .i64 a1_1]] (by rfl) rfl rfl (by (try simp only [List.map_toArray, List.map_cons, List.map_nil]); first | done | rfl | (simp only [List.length_drop, List.length_take]; rfl)) ?_
   with_reducible refine (impl_ReachRoles.calls k _ _ l0 a1_0 a1_1 t591 _ ?side1 ?side2 A3.out).mono ?_
   (case side1 => repeat (first | exact (Kd.C_below HR0.out HB.out) | (with_reducible refine Kd.C_alloc ?_ _) | (with_reducible refine Kd.C_drewN ?_ _) | (with_reducible refine Kd.C_drew ?_)))
   (case side2 => exact HC0.out)
   rintro e w9 ⟨v592, rfl, ho0, hb⟩
   refine ⟨_, rfl, ?_⟩
   have HO593 := Aside0.mk (Kd.R_lower (Kd.R_newB (Kd.R_new' ho0 (Kd.R_lt (by (with_reducible repeat (first | apply Kd.R_alloc | apply Kd.R_drewN | apply Kd.R_drew)); exact HO596.out))) (g := gb590) (o := .cells #[.int .i64 a1_0, .int .i64 a1_1] 49 (0, 0)) (bk_ BK590)) bls_)
   replace HO596 := Aside0.mk (Kd.R_elder' (by (with_reducible repeat (first | apply Kd.R_alloc | apply Kd.R_drewN | apply Kd.R_drew)); exact HO596.out) (Kd.R_base ho0) hb)
   replace BK590 := bkb_ BK590 hb
   replace HB := hbs_ hb
   (try clear hb)
   (try clear hb2)
   (try clear hk)
   (try clear hi)
   (try clear ho0)
   refine hK.out _ _ ⟨(blk_cell BK590.out 0).trans rfl, (blk_cell BK590.out 1).trans rfl⟩ (fun hHeld => ?_)
   clear hK K
   refine norm_ (a' := ?_) ?_ ?_
   rotate_left
   ·show Act.put _ (some 11) _ = _
    simp only [Act.put, List.setIfInBounds_toArray, List.set_cons_zero, List.set_cons_succ, i64_w, i32_w]
    rfl
   exact norm_ (by simp only [putAll, Act.put, List.setIfInBounds_toArray, List.set_cons_zero, List.set_cons_succ]) (hCont (v592, v595) _ ⟨hHeld, (by (with_reducible repeat (first | apply Kd.R_alloc | apply Kd.R_drewN | apply Kd.R_drew)); exact Kd.R_mono HO593.out (fun _ hk => ⟨hk.1.2, hk.2⟩)), (by (with_reducible repeat (first | apply Kd.R_alloc | apply Kd.R_drewN | apply Kd.R_drew)); exact Kd.R_mono HO596.out (fun _ hk => ⟨hk.2, hk.1.2⟩)), (bk_ BK590), bl_⟩)
 rintro ⟨v592, v595⟩ w10 ⟨hS_, h0_, h1_, h2_, h3_⟩
 have n0_ : Aside0 (Kd.R k49 49 w10 w.heap.size (fun k_ => some k_ ≠ (v595 : Value).ownBlock ∧ k_ ≠ gb590) v592 t591) := ⟨h0_⟩
 have n1_ : Aside0 (Kd.R k49 49 w10 w.heap.size (fun k_ => some k_ ≠ (v592 : Value).ownBlock ∧ k_ ≠ gb590) v595 y594) := ⟨h1_⟩
 have n2_ : Aside0 (w10.heap[gb590]? = some (.cells #[.int .i64 a1_0, .int .i64 a1_1] 49 (0, 0))) := ⟨h2_⟩
 have n3_ : Aside0 (Below w.heap.size w w10) := ⟨h3_⟩
 clear BK590
 clear HB
 clear h0_ h1_ h2_ h3_
 have HO593 := n0_
 have HO596 := n1_
 have BK590 := n2_
 have HB := n3_
 clear n0_ n1_ n2_ n3_
 have hHeld : w10.cell? ⟨gb590, 0, none⟩ = some (.int .i64 a1_0) ∧ w10.cell? ⟨gb590, 1, none⟩ = some (.int .i64 a1_1) := hS_
 obtain ⟨Ao12, co12, eo12⟩ := Kd.R_slice HO596.out
 (first | subst eo12 | (injection eo12 with f1_ f2_ f3_; have f4_ := f1_.symm; have f5_ := f3_.symm; clear f1_ f2_ f3_; subst f4_; subst f5_))
 refine norm_ (a' := ?_) ?_ ?_
 rotate_left
 ·simp only [putAll, Act.put, List.setIfInBounds_toArray, List.set_cons_zero, List.set_cons_succ]
  rfl
 refine one_ (i := 5) (N := some 14) #[true, true, true, true, true, true, false] rfl rfl (by kernel_rfl) (by decide) (fun K hK => ?_)
 refine Kd.R_append_rows_step k49 (w0 := w) w.heap.size (by rfl) (.tmp 11) (.tmp 13) 69 49 (.agg #[(.int .i64 0), (.int .i64 0)]) 16 rfl Try.underlying69 info49 rfl (by decide) (by omega) v592 t591 y594 _ _ _ (fun k_ => some k_ ≠ (.slice Ao12 y594.length co12 : Value).ownBlock ∧ k_ ≠ gb590) (fun _ => False) rfl rfl ?aO ?aR (fun _ _ h => h) (fun _ h => h.elim) ?aF ?aB ?aS ?aL ?_
 (case aR => repeat (first | exact (Kd.R_reads' HO596.out).2.2 | (with_reducible refine Kd.C_alloc ?_ _) | (with_reducible refine Kd.C_drewN ?_ _) | (with_reducible refine Kd.C_drew ?_)))
 (case aB => exact bl_)
 (case aF => exact (fun k_ hk => ⟨Kd.fresh' (Kd.R_lt (by (with_reducible repeat (first | apply Kd.R_alloc | apply Kd.R_drewN | apply Kd.R_drew)); exact HO596.out)) k_ hk, Kd.freshB (g := gb590) (o := .cells #[.int .i64 a1_0, .int .i64 a1_1] 49 (0, 0)) (bk_ BK590) k_ hk⟩))
 (case aO => exact (by (with_reducible repeat (first | apply Kd.R_alloc | apply Kd.R_drewN | apply Kd.R_drew)); exact HO593.out))
 (case aS => exact bls_)
 (case aL => have := LMc4.out; omega)
 intro v598 w11 ho hb hg hat
 rw [← Ny597.out] at ho
 replace BK590 := Aside0.mk (blk_grown (g := gb590) (o := .cells #[.int .i64 a1_0, .int .i64 a1_1] 49 (0, 0)) (bk_ BK590) hg (Kd.R_away HO593.out (fun _ hk => hk.2)))
 replace HO596 := Aside0.mk (Kd.R_after (ok := (fun k_ => k_ ≠ gb590)) (by (with_reducible repeat (first | apply Kd.R_alloc | apply Kd.R_drewN | apply Kd.R_drew)); exact Kd.R_mono HO596.out (fun _ hk => ⟨hk.2, hk.1⟩)) hg hat)
 replace HB := Aside0.mk (hb)
 have HO599 := Aside0.mk (ho)
 clear HO593
 clear ho hb hg hat
 refine hK.out _ _ ⟨(blk_cell BK590.out 0).trans rfl, (blk_cell BK590.out 1).trans rfl⟩ (fun hHeld => ?_)
 clear hK K
 refine norm_ (a' := ?_) ?_ ?_
 rotate_left
 ·show Act.put _ (some 14) _ = _
  simp only [Act.put, List.setIfInBounds_toArray, List.set_cons_zero, List.set_cons_succ, i64_w, i32_w]
  rfl
 refine pure_ (i := 6) (N := some 5) (v := ?_) (a' := ?_) #[true, true, true, true, true, true, true] rfl rfl (by kernel_rfl) (fun _ _ _ h => h) (Or.inl ⟨by rfl, ?_⟩) ?_ ?_
 rotate_left
 ·intro w'
  go_simp
  with_reducible rfl
 rotate_left
 ·simp only [Act.put, List.setIfInBounds_toArray, List.set_cons_zero, List.set_cons_succ, i64_w, i32_w]
  rfl
 refine done_ (by kernel_rfl) ?_
 try go_wp2_with (first | ((with_reducible refine gate_dst (N := 15) rfl ?_); refine Kd.R_lit k56 _ 56 ?hg (N := 15) ?hd (xs := ([] : List (S56))) (inner := []) (ok := fun _ => True) (okp := fun _ => True) ?hr ?hp (fun _ hk => hk) trivial (Below.refl _ _) (Nat.le_refl _) (by simp) ?_; (case hd => rfl); (case hg => rfl); (case hr => first | (go_simp; done) | (go_simp; rfl)); (case hp => exact (Reps.none _ _)); intro v601 w13 ho14 hb hg_ hnew_; clear hg_ hnew_; (first | rw [← Ny600.out] at ho14 | (simp only [Int.reduceToNat] at ho14; rw [← Ny600.out] at ho14)); replace HO596 := hob_ HO596 hb; replace HO599 := hob_ HO599 hb; have HO602 := Aside0.mk (Kd.R_lower ho14 bls_); replace BK590 := bkb_ BK590 hb; replace HB := hbs_ hb; clear hb ho14))
 go_loopg [6, 18] k (fun kq v6 v18 w' => ∃ (x6_1 : List (S56)) (x18_1 : Int), v18 = .int .i64 x18_1 ∧ Aside0 (impl_NeededFor.l0 kq y597 x6_1 l0 (l0.length : Int) x18_1 = some r) ∧ Aside0 (kq ≤ k) ∧ Aside0 (Kd.R k49 49 w' w.heap.size (fun k_ => k_ ≠ gb590) v598 y597) ∧ Aside0 (Kd.R k56 56 w' w.heap.size (fun _ => True) v6 x6_1) ∧ Aside0 (w'.heap[gb590]? = some (.cells #[.int .i64 a1_0, .int .i64 a1_1] 49 (0, 0))) ∧ Aside0 (Below w.heap.size w w'))
 case atStart => exact ⟨(y600), (0), rf_, H', ⟨Nat.le_refl _⟩, ⟨by (with_reducible repeat (first | apply Kd.R_alloc | apply Kd.R_drewN | apply Kd.R_drew)); exact Kd.R_mono HO599.out (fun _ hk => hk.2)⟩, ⟨by (with_reducible repeat (first | apply Kd.R_alloc | apply Kd.R_drewN | apply Kd.R_drew)); exact HO602.out⟩, ⟨bk_ BK590⟩, ⟨bl_⟩⟩
 case round =>
  clear H'
  try clear c2
  try clear p2
  try clear c4
  try clear c6
  try clear c7
  obtain ⟨x6_1, x18_1, rfl, HA, HK1, HO_5, HO_6, BK590, HB⟩ := hrel
  cases gk with
  | zero => exact absurd HA.out (by simp [impl_NeededFor.l0])
  | succ k1 =>
   have H := HA.out
   clear HA
   simp only [impl_NeededFor.l0] at H
   by_cases c15 : x18_1 < (l0.length : Int)
   ·rw [if_pos c15] at H
    have c15b0 : decide (x18_1 < (l0.length : Int)) = true := decide_eq_true c15
    clear c15
    obtain ⟨c16b0, H⟩ := ifd_ H
    obtain ⟨c17b0, H⟩ := ifd_ H
    obtain ⟨t605, A18, H⟩ := bindE_ H
    by_cases c19 : t605 = true
    ·subst c19
     replace H := ite_t_ H
     obtain ⟨t606, A20, H⟩ := bindE_ H
     by_cases c21 : t606 = true
     ·subst c21
      replace H := ite_t_ H
      obtain ⟨y607, hy607⟩ : ∃ y_ : List (S56), y_ = (([(⟨(rd_T56 l0 x18_1).f0, (⟨(rd_T56 l0 x18_1).f1.f0, (rd_T56 l0 x18_1).f1.f1⟩ : S49), (rd_T56 l0 x18_1).f2, (⟨(rd_T56 l0 x18_1).f3.f0, (rd_T56 l0 x18_1).f3.f1⟩ : S49), (⟨(rd_T56 l0 x18_1).f4.f0, (rd_T56 l0 x18_1).f4.f1⟩ : S49), (rd_T56 l0 x18_1).f5, (rd_T56 l0 x18_1).f6⟩ : S56)] : List (S56))) := ⟨_, rfl⟩
      replace H : (if x6_1.length + y607.length < 1759218604441 then (impl_NeededFor.l0 k1 y597 (x6_1 ++ y607) l0 (l0.length : Int) (wrap64 (x18_1 + 1))) else (none)) = some r := by first | (rw [hy607]; with_reducible exact H) | (have H2_ := (Option.bind_some _ _).symm.trans H; rw [hy607]; with_reducible exact H2_) | (have H2_ := (Option.bind_some _ _).symm.trans H; with_reducible exact H2_) | with_reducible exact H | (rw [hy607]; exact H) | exact H
      have Ny607 := Aside0.mk hy607
      clear hy607
      obtain ⟨c22, H⟩ := ifn_ H
      have LMc22 := Aside0.mk c22
      clear c22
      obtain ⟨y610, hy610⟩ : ∃ y_ : List (S56), y_ = (x6_1 ++ y607) := ⟨_, rfl⟩
      replace H : (impl_NeededFor.l0 k1 y597 y610 l0 (l0.length : Int) (wrap64 (x18_1 + 1))) = some r := by first | (rw [hy610]; with_reducible exact H) | (have H2_ := (Option.bind_some _ _).symm.trans H; rw [hy610]; with_reducible exact H2_) | (have H2_ := (Option.bind_some _ _).symm.trans H; with_reducible exact H2_) | with_reducible exact H | (rw [hy610]; exact H) | exact H
      have Ny610 := Aside0.mk hy610
      clear hy610
      have H' := Aside0.mk H
      clear H
      have p603 : 0 ≤ (x18_1 : Int) := od_
      have q603 : x18_1 < (l0.length : Int) := od_
      obtain ⟨ad603, e603, hx603_0, hx603_1, hx603_2, hx603_3, hx603_4, hx603_5, hx603_6, hx603_7, hx603_8, hx603_9⟩ := at_T56 (Kd.C_below HR0.out HB.out) x18_1 p603 q603
      cases e603
      replace p603 := eq_true p603
      replace q603 := eq_true q603
      go_wp2_with (first | ((with_reducible refine gate_dst (N := 8) rfl ?_); refine box_event ?hg (N := 8) ?hd (cs := #[.int .i64 0, .int .i64 0, .int .i64 0, .int .i64 0, .int .i64 0, .int .i64 0, .int .i64 0, .int .i64 0, .int .i64 0, .int .i64 0]) (t := 56) ?hr ?_; (case hd => rfl); (case hg => rfl); (case hr => first | (go_simp; done) | (go_simp; rfl)); intro gb604 hg w23 hbox hb; replace HO_5 := hob_ HO_5 hb; replace HO_6 := Aside0.mk (Kd.R_below (Kd.R_elderB (by (with_reducible repeat (first | apply Kd.R_alloc | apply Kd.R_drewN | apply Kd.R_drew)); exact HO_6.out) gb604 (Nat.le_of_eq hg.symm)) hb); have BK604 := Aside0.mk (hbox); have GW604 := gs_ hg; have GE604 := gs_ hg; replace HB := hbs_ hb; have NB590_604 := nl_ hg BK590; have NB604_590 := nr_ hg BK590; replace BK590 := bkb_ BK590 hb; clear hb hbox hg; have hnb24 := NB604_590.out; have hnc24 := NB590_604.out; have hcz25 := blk_cell BK604.out; have hfz25 := blk_frozen BK604.out) | ((with_reducible refine gate_callee (f := 96) rfl ?_); refine goesC_ (some 23) Try.func96 #[.agg #[.int .i64 ((rd_T56 l0 x18_1).f0), .int .i64 ((rd_T56 l0 x18_1).f1.f0), .int .i64 ((rd_T56 l0 x18_1).f1.f1), .int .i64 ((rd_T56 l0 x18_1).f2), .int .i64 ((rd_T56 l0 x18_1).f3.f0), .int .i64 ((rd_T56 l0 x18_1).f3.f1), .int .i64 ((rd_T56 l0 x18_1).f4.f0), .int .i64 ((rd_T56 l0 x18_1).f4.f1), .int .i64 ((rd_T56 l0 x18_1).f5), .int .i64 ((rd_T56 l0 x18_1).f6)]] ?_; (with_reducible refine (impl_CredOk.calls k1 ((rd_T56 l0 x18_1).f0) ((rd_T56 l0 x18_1).f1.f0) ((rd_T56 l0 x18_1).f1.f1) ((rd_T56 l0 x18_1).f2) ((rd_T56 l0 x18_1).f3.f0) ((rd_T56 l0 x18_1).f3.f1) ((rd_T56 l0 x18_1).f4.f0) ((rd_T56 l0 x18_1).f4.f1) ((rd_T56 l0 x18_1).f5) ((rd_T56 l0 x18_1).f6) true _ A18.out).mono ?_); rintro e w26 ⟨rfl, hb⟩; refine ⟨_, rfl, ?_⟩; replace HO_5 := Aside0.mk (Kd.R_below (by (with_reducible repeat (first | apply Kd.R_alloc | apply Kd.R_drewN | apply Kd.R_drew)); exact (Kd.R_mono (Kd.R_far (p := ⟨gb604, 9, none⟩) (Kd.R_far (p := ⟨gb604, 8, none⟩) (Kd.R_far (p := ⟨gb604, 7, none⟩) (Kd.R_far (p := ⟨gb604, 6, none⟩) (Kd.R_far (p := ⟨gb604, 5, none⟩) (Kd.R_far (p := ⟨gb604, 4, none⟩) (Kd.R_far (p := ⟨gb604, 3, none⟩) (Kd.R_far (p := ⟨gb604, 2, none⟩) (Kd.R_far (p := ⟨gb604, 1, none⟩) (Kd.R_far (p := ⟨gb604, 0, none⟩) (Kd.R_types HO_5.out BK604.out (by decide)) (fun _ hk => hk.2) (.int .i64 ((rd_T56 l0 x18_1).f0))) (fun _ hk => hk.2) (.int .i64 ((rd_T56 l0 x18_1).f1.f0))) (fun _ hk => hk.2) (.int .i64 ((rd_T56 l0 x18_1).f1.f1))) (fun _ hk => hk.2) (.int .i64 ((rd_T56 l0 x18_1).f2))) (fun _ hk => hk.2) (.int .i64 ((rd_T56 l0 x18_1).f3.f0))) (fun _ hk => hk.2) (.int .i64 ((rd_T56 l0 x18_1).f3.f1))) (fun _ hk => hk.2) (.int .i64 ((rd_T56 l0 x18_1).f4.f0))) (fun _ hk => hk.2) (.int .i64 ((rd_T56 l0 x18_1).f4.f1))) (fun _ hk => hk.2) (.int .i64 ((rd_T56 l0 x18_1).f5))) (fun _ hk => hk.2) (.int .i64 ((rd_T56 l0 x18_1).f6))) (fun _ h_ => h_.1))) hb); replace HO_6 := Aside0.mk (Kd.R_below (by (with_reducible repeat (first | apply Kd.R_alloc | apply Kd.R_drewN | apply Kd.R_drew)); exact (Kd.R_mono (Kd.R_far (p := ⟨gb604, 9, none⟩) (Kd.R_far (p := ⟨gb604, 8, none⟩) (Kd.R_far (p := ⟨gb604, 7, none⟩) (Kd.R_far (p := ⟨gb604, 6, none⟩) (Kd.R_far (p := ⟨gb604, 5, none⟩) (Kd.R_far (p := ⟨gb604, 4, none⟩) (Kd.R_far (p := ⟨gb604, 3, none⟩) (Kd.R_far (p := ⟨gb604, 2, none⟩) (Kd.R_far (p := ⟨gb604, 1, none⟩) (Kd.R_far (p := ⟨gb604, 0, none⟩) (Kd.R_mono HO_6.out (fun k_ hk => (⟨hk, hk.2⟩ : _ ∧ k_ ≠ gb604))) (fun _ hk => hk.2) (.int .i64 ((rd_T56 l0 x18_1).f0))) (fun _ hk => hk.2) (.int .i64 ((rd_T56 l0 x18_1).f1.f0))) (fun _ hk => hk.2) (.int .i64 ((rd_T56 l0 x18_1).f1.f1))) (fun _ hk => hk.2) (.int .i64 ((rd_T56 l0 x18_1).f2))) (fun _ hk => hk.2) (.int .i64 ((rd_T56 l0 x18_1).f3.f0))) (fun _ hk => hk.2) (.int .i64 ((rd_T56 l0 x18_1).f3.f1))) (fun _ hk => hk.2) (.int .i64 ((rd_T56 l0 x18_1).f4.f0))) (fun _ hk => hk.2) (.int .i64 ((rd_T56 l0 x18_1).f4.f1))) (fun _ hk => hk.2) (.int .i64 ((rd_T56 l0 x18_1).f5))) (fun _ hk => hk.2) (.int .i64 ((rd_T56 l0 x18_1).f6))) (fun _ h_ => h_.1))) hb); replace BK590 := Aside0.mk (blk_below (g := gb590) (o := .cells #[.int .i64 a1_0, .int .i64 a1_1] 49 (0, 0)) (bk_ BK590) hb); replace BK604 := Aside0.mk (blk_below (g := gb604) (o := .cells #[.int .i64 ((rd_T56 l0 x18_1).f0), .int .i64 ((rd_T56 l0 x18_1).f1.f0), .int .i64 ((rd_T56 l0 x18_1).f1.f1), .int .i64 ((rd_T56 l0 x18_1).f2), .int .i64 ((rd_T56 l0 x18_1).f3.f0), .int .i64 ((rd_T56 l0 x18_1).f3.f1), .int .i64 ((rd_T56 l0 x18_1).f4.f0), .int .i64 ((rd_T56 l0 x18_1).f4.f1), .int .i64 ((rd_T56 l0 x18_1).f5), .int .i64 ((rd_T56 l0 x18_1).f6)] 56 (0, 0)) (bk_ BK604) hb); replace HB := hbs_ hb; clear hb; have hcz27 := blk_cell BK604.out; have hfz27 := blk_frozen BK604.out; obtain ⟨Ao28, co28, eo28⟩ := Kd.R_slice HO_5.out; subst eo28) | (go_at_call 125; (with_reducible refine (impl_Role_125.calls k1 _ _ y597 ((rd_T56 l0 x18_1).f1.f0) ((rd_T56 l0 x18_1).f1.f1) true _ ?side1 ?side2 A20.out).mono ?_); (case side1 => repeat (first | exact (Kd.R_reads' HO_5.out).2.2 | (with_reducible refine Kd.C_alloc ?_ _) | (with_reducible refine Kd.C_drewN ?_ _) | (with_reducible refine Kd.C_drew ?_))); (case side2 => exact (Kd.R_reads' HO_5.out).2.1); rintro e w29 ⟨rfl, hb⟩; replace HO_5 := hob_ HO_5 hb; replace HO_6 := hob_ HO_6 hb; replace BK590 := bkb_ BK590 hb; replace BK604 := bkb_ BK604 hb; replace HB := hbs_ hb; clear hb; have hcz30 := blk_cell BK604.out; have hfz30 := blk_frozen BK604.out) | ((with_reducible refine gate_dst (N := 32) rfl ?_); refine Kd.R_lit k56 _ 56 ?hg (N := 32) ?hd (xs := ([(⟨(rd_T56 l0 x18_1).f0, (⟨(rd_T56 l0 x18_1).f1.f0, (rd_T56 l0 x18_1).f1.f1⟩ : S49), (rd_T56 l0 x18_1).f2, (⟨(rd_T56 l0 x18_1).f3.f0, (rd_T56 l0 x18_1).f3.f1⟩ : S49), (⟨(rd_T56 l0 x18_1).f4.f0, (rd_T56 l0 x18_1).f4.f1⟩ : S49), (rd_T56 l0 x18_1).f5, (rd_T56 l0 x18_1).f6⟩ : S56)] : List (S56))) (inner := [.int .i64 ((rd_T56 l0 x18_1).f0), .int .i64 ((rd_T56 l0 x18_1).f1.f0), .int .i64 ((rd_T56 l0 x18_1).f1.f1), .int .i64 ((rd_T56 l0 x18_1).f2), .int .i64 ((rd_T56 l0 x18_1).f3.f0), .int .i64 ((rd_T56 l0 x18_1).f3.f1), .int .i64 ((rd_T56 l0 x18_1).f4.f0), .int .i64 ((rd_T56 l0 x18_1).f4.f1), .int .i64 ((rd_T56 l0 x18_1).f5), .int .i64 ((rd_T56 l0 x18_1).f6)]) (ok := fun _ => True) (okp := fun _ => True) ?hr ?hp (fun _ hk => hk) trivial (Below.refl _ _) (Nat.le_refl _) (by simp) ?_; (case hd => rfl); (case hg => rfl); (case hr => first | (go_simp; done) | (go_simp; rfl)); (case hp => exact (Reps.c10 (show Kd.M k56 _ _ _ (⟨(rd_T56 l0 x18_1).f0, (⟨(rd_T56 l0 x18_1).f1.f0, (rd_T56 l0 x18_1).f1.f1⟩ : S49), (rd_T56 l0 x18_1).f2, (⟨(rd_T56 l0 x18_1).f3.f0, (rd_T56 l0 x18_1).f3.f1⟩ : S49), (⟨(rd_T56 l0 x18_1).f4.f0, (rd_T56 l0 x18_1).f4.f1⟩ : S49), (rd_T56 l0 x18_1).f5, (rd_T56 l0 x18_1).f6⟩ : S56) [.int .i64 ((rd_T56 l0 x18_1).f0), .int .i64 ((rd_T56 l0 x18_1).f1.f0), .int .i64 ((rd_T56 l0 x18_1).f1.f1), .int .i64 ((rd_T56 l0 x18_1).f2), .int .i64 ((rd_T56 l0 x18_1).f3.f0), .int .i64 ((rd_T56 l0 x18_1).f3.f1), .int .i64 ((rd_T56 l0 x18_1).f4.f0), .int .i64 ((rd_T56 l0 x18_1).f4.f1), .int .i64 ((rd_T56 l0 x18_1).f5), .int .i64 ((rd_T56 l0 x18_1).f6)] from (k56_mkM _ _ _ (⟨(rd_T56 l0 x18_1).f0, (⟨(rd_T56 l0 x18_1).f1.f0, (rd_T56 l0 x18_1).f1.f1⟩ : S49), (rd_T56 l0 x18_1).f2, (⟨(rd_T56 l0 x18_1).f3.f0, (rd_T56 l0 x18_1).f3.f1⟩ : S49), (⟨(rd_T56 l0 x18_1).f4.f0, (rd_T56 l0 x18_1).f4.f1⟩ : S49), (rd_T56 l0 x18_1).f5, (rd_T56 l0 x18_1).f6⟩ : S56) )) (Reps.none _ _))); intro v608 w31 ho32 hb hg_ hnew_; clear hg_ hnew_; (first | rw [← Ny607.out] at ho32 | (simp only [Int.reduceToNat] at ho32; rw [← Ny607.out] at ho32)); replace HO_5 := hob_ HO_5 hb; have HO609 := Aside0.mk (Kd.R_lower (Kd.R_newB (Kd.R_new' ho32 (Kd.R_lt (by (with_reducible repeat (first | apply Kd.R_alloc | apply Kd.R_drewN | apply Kd.R_drew)); exact HO_6.out))) (g := gb604) (o := .cells #[.int .i64 ((rd_T56 l0 x18_1).f0), .int .i64 ((rd_T56 l0 x18_1).f1.f0), .int .i64 ((rd_T56 l0 x18_1).f1.f1), .int .i64 ((rd_T56 l0 x18_1).f2), .int .i64 ((rd_T56 l0 x18_1).f3.f0), .int .i64 ((rd_T56 l0 x18_1).f3.f1), .int .i64 ((rd_T56 l0 x18_1).f4.f0), .int .i64 ((rd_T56 l0 x18_1).f4.f1), .int .i64 ((rd_T56 l0 x18_1).f5), .int .i64 ((rd_T56 l0 x18_1).f6)] 56 (0, 0)) (bk_ BK604)) bls_); replace HO_6 := Aside0.mk (Kd.R_elder' (by (with_reducible repeat (first | apply Kd.R_alloc | apply Kd.R_drewN | apply Kd.R_drew)); exact HO_6.out) (Kd.R_base ho32) hb); replace BK590 := bkb_ BK590 hb; replace BK604 := bkb_ BK604 hb; replace HB := hbs_ hb; clear hb ho32; obtain ⟨Ao34, co34, eo34⟩ := Kd.R_slice HO609.out; subst eo34) | ((with_reducible refine gate_builtin (b := .append) (xs := #[.tmp 30, .tmp 32]) rfl ?_); at_builtin; refine Kd.R_append_rows k56 (w0 := w) w.heap.size rfl (.tmp 30) (.tmp 32) 32 56 (.agg #[(.int .i64 0), (.int .i64 0), (.int .i64 0), (.int .i64 0), (.int .i64 0), (.int .i64 0), (.int .i64 0), (.int .i64 0), (.int .i64 0), (.int .i64 0)]) 80 rfl Try.underlying32 info56 rfl (by decide) (by omega) u6 x6_1 y607 _ _ _ (fun k_ => some k_ ≠ (.slice Ao34 y607.length co34 : Value).ownBlock ∧ k_ ≠ gb604) (fun _ => False) rfl rfl ?aO ?aR (fun _ _ h => h) (fun _ h => h.elim) ?aF ?aB ?aS ?aL ?_; (case aR => repeat (first | exact (Kd.R_reads' HO609.out).2.2 | (with_reducible refine Kd.C_alloc ?_ _) | (with_reducible refine Kd.C_drewN ?_ _) | (with_reducible refine Kd.C_drew ?_))); (case aB => exact bl_); (case aF => exact (fun k_ hk => ⟨Kd.fresh' (Kd.R_lt (by (with_reducible repeat (first | apply Kd.R_alloc | apply Kd.R_drewN | apply Kd.R_drew)); exact HO609.out)) k_ hk, Kd.freshB (g := gb604) (o := .cells #[.int .i64 ((rd_T56 l0 x18_1).f0), .int .i64 ((rd_T56 l0 x18_1).f1.f0), .int .i64 ((rd_T56 l0 x18_1).f1.f1), .int .i64 ((rd_T56 l0 x18_1).f2), .int .i64 ((rd_T56 l0 x18_1).f3.f0), .int .i64 ((rd_T56 l0 x18_1).f3.f1), .int .i64 ((rd_T56 l0 x18_1).f4.f0), .int .i64 ((rd_T56 l0 x18_1).f4.f1), .int .i64 ((rd_T56 l0 x18_1).f5), .int .i64 ((rd_T56 l0 x18_1).f6)] 56 (0, 0)) (bk_ BK604) k_ hk⟩)); (case aO => exact (by (with_reducible repeat (first | apply Kd.R_alloc | apply Kd.R_drewN | apply Kd.R_drew)); exact Kd.R_mono HO_6.out (fun _ hk => ⟨hk.2, hk.1.2⟩))); (case aS => exact bls_); (case aL => have := LMc22.out; omega); intro v611 w33 ho hb hg hat; rw [← Ny610.out] at ho; replace HO_5 := Aside0.mk (Kd.R_over' (by (with_reducible repeat (first | apply Kd.R_alloc | apply Kd.R_drewN | apply Kd.R_drew)); exact HO_5.out) (Kd.R_typed (by (with_reducible repeat (first | apply Kd.R_alloc | apply Kd.R_drewN | apply Kd.R_drew)); exact HO_6.out)) (by decide) hg); replace BK590 := Aside0.mk (blk_grown (g := gb590) (o := .cells #[.int .i64 a1_0, .int .i64 a1_1] 49 (0, 0)) (bk_ BK590) hg (Kd.R_ne HO_6.out BK590.out (by decide))); replace BK604 := Aside0.mk (blk_grown (g := gb604) (o := .cells #[.int .i64 ((rd_T56 l0 x18_1).f0), .int .i64 ((rd_T56 l0 x18_1).f1.f0), .int .i64 ((rd_T56 l0 x18_1).f1.f1), .int .i64 ((rd_T56 l0 x18_1).f2), .int .i64 ((rd_T56 l0 x18_1).f3.f0), .int .i64 ((rd_T56 l0 x18_1).f3.f1), .int .i64 ((rd_T56 l0 x18_1).f4.f0), .int .i64 ((rd_T56 l0 x18_1).f4.f1), .int .i64 ((rd_T56 l0 x18_1).f5), .int .i64 ((rd_T56 l0 x18_1).f6)] 56 (0, 0)) (bk_ BK604) hg (Kd.R_away HO_6.out (fun _ hk => hk.1.2))); replace HO609 := Aside0.mk (Kd.R_after (ok := (fun k_ => k_ ≠ gb604)) (by (with_reducible repeat (first | apply Kd.R_alloc | apply Kd.R_drewN | apply Kd.R_drew)); exact Kd.R_mono HO609.out (fun _ hk => ⟨hk.2, hk.1.2⟩)) hg hat); replace HB := Aside0.mk (hb); have HO612 := Aside0.mk (ho); clear HO_6; clear ho hb hg hat))
      go_roundg k1
      case measure => have := HK1.out; omega
      case rel => exact ⟨(y610), (wrap64 (x18_1 + 1)), rf_, H', ⟨by have := HK1.out; omega⟩, ⟨by (with_reducible repeat (first | apply Kd.R_alloc | apply Kd.R_drewN | apply Kd.R_drew)); exact HO_5.out⟩, ⟨by (with_reducible repeat (first | apply Kd.R_alloc | apply Kd.R_drewN | apply Kd.R_drew)); exact Kd.R_mono HO612.out (fun _ hk => trivial)⟩, ⟨bk_ BK590⟩, ⟨bl_⟩⟩
     ·replace c21 := Bool.eq_false_iff.mpr c21
      subst c21
      replace H := ite_f_ H
      have H' := Aside0.mk H
      clear H
      have p603 : 0 ≤ (x18_1 : Int) := od_
      have q603 : x18_1 < (l0.length : Int) := od_
      obtain ⟨ad603, e603, hx603_0, hx603_1, hx603_2, hx603_3, hx603_4, hx603_5, hx603_6, hx603_7, hx603_8, hx603_9⟩ := at_T56 (Kd.C_below HR0.out HB.out) x18_1 p603 q603
      cases e603
      replace p603 := eq_true p603
      replace q603 := eq_true q603
      go_wp2_with (first | ((with_reducible refine gate_dst (N := 8) rfl ?_); refine box_event ?hg (N := 8) ?hd (cs := #[.int .i64 0, .int .i64 0, .int .i64 0, .int .i64 0, .int .i64 0, .int .i64 0, .int .i64 0, .int .i64 0, .int .i64 0, .int .i64 0]) (t := 56) ?hr ?_; (case hd => rfl); (case hg => rfl); (case hr => first | (go_simp; done) | (go_simp; rfl)); intro gb604 hg w35 hbox hb; replace HO_5 := hob_ HO_5 hb; replace HO_6 := Aside0.mk (Kd.R_below (Kd.R_elderB (by (with_reducible repeat (first | apply Kd.R_alloc | apply Kd.R_drewN | apply Kd.R_drew)); exact HO_6.out) gb604 (Nat.le_of_eq hg.symm)) hb); have BK604 := Aside0.mk (hbox); have GW604 := gs_ hg; have GE604 := gs_ hg; replace HB := hbs_ hb; have NB590_604 := nl_ hg BK590; have NB604_590 := nr_ hg BK590; replace BK590 := bkb_ BK590 hb; clear hb hbox hg; have hnb36 := NB604_590.out; have hnc36 := NB590_604.out; have hcz37 := blk_cell BK604.out; have hfz37 := blk_frozen BK604.out) | ((with_reducible refine gate_callee (f := 96) rfl ?_); refine goesC_ (some 23) Try.func96 #[.agg #[.int .i64 ((rd_T56 l0 x18_1).f0), .int .i64 ((rd_T56 l0 x18_1).f1.f0), .int .i64 ((rd_T56 l0 x18_1).f1.f1), .int .i64 ((rd_T56 l0 x18_1).f2), .int .i64 ((rd_T56 l0 x18_1).f3.f0), .int .i64 ((rd_T56 l0 x18_1).f3.f1), .int .i64 ((rd_T56 l0 x18_1).f4.f0), .int .i64 ((rd_T56 l0 x18_1).f4.f1), .int .i64 ((rd_T56 l0 x18_1).f5), .int .i64 ((rd_T56 l0 x18_1).f6)]] ?_; (with_reducible refine (impl_CredOk.calls k1 ((rd_T56 l0 x18_1).f0) ((rd_T56 l0 x18_1).f1.f0) ((rd_T56 l0 x18_1).f1.f1) ((rd_T56 l0 x18_1).f2) ((rd_T56 l0 x18_1).f3.f0) ((rd_T56 l0 x18_1).f3.f1) ((rd_T56 l0 x18_1).f4.f0) ((rd_T56 l0 x18_1).f4.f1) ((rd_T56 l0 x18_1).f5) ((rd_T56 l0 x18_1).f6) true _ A18.out).mono ?_); rintro e w38 ⟨rfl, hb⟩; refine ⟨_, rfl, ?_⟩; replace HO_5 := Aside0.mk (Kd.R_below (by (with_reducible repeat (first | apply Kd.R_alloc | apply Kd.R_drewN | apply Kd.R_drew)); exact (Kd.R_mono (Kd.R_far (p := ⟨gb604, 9, none⟩) (Kd.R_far (p := ⟨gb604, 8, none⟩) (Kd.R_far (p := ⟨gb604, 7, none⟩) (Kd.R_far (p := ⟨gb604, 6, none⟩) (Kd.R_far (p := ⟨gb604, 5, none⟩) (Kd.R_far (p := ⟨gb604, 4, none⟩) (Kd.R_far (p := ⟨gb604, 3, none⟩) (Kd.R_far (p := ⟨gb604, 2, none⟩) (Kd.R_far (p := ⟨gb604, 1, none⟩) (Kd.R_far (p := ⟨gb604, 0, none⟩) (Kd.R_types HO_5.out BK604.out (by decide)) (fun _ hk => hk.2) (.int .i64 ((rd_T56 l0 x18_1).f0))) (fun _ hk => hk.2) (.int .i64 ((rd_T56 l0 x18_1).f1.f0))) (fun _ hk => hk.2) (.int .i64 ((rd_T56 l0 x18_1).f1.f1))) (fun _ hk => hk.2) (.int .i64 ((rd_T56 l0 x18_1).f2))) (fun _ hk => hk.2) (.int .i64 ((rd_T56 l0 x18_1).f3.f0))) (fun _ hk => hk.2) (.int .i64 ((rd_T56 l0 x18_1).f3.f1))) (fun _ hk => hk.2) (.int .i64 ((rd_T56 l0 x18_1).f4.f0))) (fun _ hk => hk.2) (.int .i64 ((rd_T56 l0 x18_1).f4.f1))) (fun _ hk => hk.2) (.int .i64 ((rd_T56 l0 x18_1).f5))) (fun _ hk => hk.2) (.int .i64 ((rd_T56 l0 x18_1).f6))) (fun _ h_ => h_.1))) hb); replace HO_6 := Aside0.mk (Kd.R_below (by (with_reducible repeat (first | apply Kd.R_alloc | apply Kd.R_drewN | apply Kd.R_drew)); exact (Kd.R_mono (Kd.R_far (p := ⟨gb604, 9, none⟩) (Kd.R_far (p := ⟨gb604, 8, none⟩) (Kd.R_far (p := ⟨gb604, 7, none⟩) (Kd.R_far (p := ⟨gb604, 6, none⟩) (Kd.R_far (p := ⟨gb604, 5, none⟩) (Kd.R_far (p := ⟨gb604, 4, none⟩) (Kd.R_far (p := ⟨gb604, 3, none⟩) (Kd.R_far (p := ⟨gb604, 2, none⟩) (Kd.R_far (p := ⟨gb604, 1, none⟩) (Kd.R_far (p := ⟨gb604, 0, none⟩) (Kd.R_mono HO_6.out (fun k_ hk => (⟨hk, hk.2⟩ : _ ∧ k_ ≠ gb604))) (fun _ hk => hk.2) (.int .i64 ((rd_T56 l0 x18_1).f0))) (fun _ hk => hk.2) (.int .i64 ((rd_T56 l0 x18_1).f1.f0))) (fun _ hk => hk.2) (.int .i64 ((rd_T56 l0 x18_1).f1.f1))) (fun _ hk => hk.2) (.int .i64 ((rd_T56 l0 x18_1).f2))) (fun _ hk => hk.2) (.int .i64 ((rd_T56 l0 x18_1).f3.f0))) (fun _ hk => hk.2) (.int .i64 ((rd_T56 l0 x18_1).f3.f1))) (fun _ hk => hk.2) (.int .i64 ((rd_T56 l0 x18_1).f4.f0))) (fun _ hk => hk.2) (.int .i64 ((rd_T56 l0 x18_1).f4.f1))) (fun _ hk => hk.2) (.int .i64 ((rd_T56 l0 x18_1).f5))) (fun _ hk => hk.2) (.int .i64 ((rd_T56 l0 x18_1).f6))) (fun _ h_ => h_.1))) hb); replace BK590 := Aside0.mk (blk_below (g := gb590) (o := .cells #[.int .i64 a1_0, .int .i64 a1_1] 49 (0, 0)) (bk_ BK590) hb); replace BK604 := Aside0.mk (blk_below (g := gb604) (o := .cells #[.int .i64 ((rd_T56 l0 x18_1).f0), .int .i64 ((rd_T56 l0 x18_1).f1.f0), .int .i64 ((rd_T56 l0 x18_1).f1.f1), .int .i64 ((rd_T56 l0 x18_1).f2), .int .i64 ((rd_T56 l0 x18_1).f3.f0), .int .i64 ((rd_T56 l0 x18_1).f3.f1), .int .i64 ((rd_T56 l0 x18_1).f4.f0), .int .i64 ((rd_T56 l0 x18_1).f4.f1), .int .i64 ((rd_T56 l0 x18_1).f5), .int .i64 ((rd_T56 l0 x18_1).f6)] 56 (0, 0)) (bk_ BK604) hb); replace HB := hbs_ hb; clear hb; have hcz39 := blk_cell BK604.out; have hfz39 := blk_frozen BK604.out; obtain ⟨Ao40, co40, eo40⟩ := Kd.R_slice HO_5.out; subst eo40) | (go_at_call 125; (with_reducible refine (impl_Role_125.calls k1 _ _ y597 ((rd_T56 l0 x18_1).f1.f0) ((rd_T56 l0 x18_1).f1.f1) false _ ?side1 ?side2 A20.out).mono ?_); (case side1 => repeat (first | exact (Kd.R_reads' HO_5.out).2.2 | (with_reducible refine Kd.C_alloc ?_ _) | (with_reducible refine Kd.C_drewN ?_ _) | (with_reducible refine Kd.C_drew ?_))); (case side2 => exact (Kd.R_reads' HO_5.out).2.1); rintro e w41 ⟨rfl, hb⟩; replace HO_5 := hob_ HO_5 hb; replace HO_6 := hob_ HO_6 hb; replace BK590 := bkb_ BK590 hb; replace BK604 := bkb_ BK604 hb; replace HB := hbs_ hb; clear hb))
      go_roundg k1
      case measure => have := HK1.out; omega
      case rel => exact ⟨(x6_1), (wrap64 (x18_1 + 1)), rf_, H', ⟨by have := HK1.out; omega⟩, ⟨by (with_reducible repeat (first | apply Kd.R_alloc | apply Kd.R_drewN | apply Kd.R_drew)); exact HO_5.out⟩, ⟨by (with_reducible repeat (first | apply Kd.R_alloc | apply Kd.R_drewN | apply Kd.R_drew)); exact Kd.R_mono HO_6.out (fun _ hk => trivial)⟩, ⟨bk_ BK590⟩, ⟨bl_⟩⟩
    ·replace c19 := Bool.eq_false_iff.mpr c19
     subst c19
     replace H := ite_f_ H
     have H' := Aside0.mk H
     clear H
     have p603 : 0 ≤ (x18_1 : Int) := od_
     have q603 : x18_1 < (l0.length : Int) := od_
     obtain ⟨ad603, e603, hx603_0, hx603_1, hx603_2, hx603_3, hx603_4, hx603_5, hx603_6, hx603_7, hx603_8, hx603_9⟩ := at_T56 (Kd.C_below HR0.out HB.out) x18_1 p603 q603
     cases e603
     replace p603 := eq_true p603
     replace q603 := eq_true q603
     go_wp2_with (first | ((with_reducible refine gate_dst (N := 8) rfl ?_); refine box_event ?hg (N := 8) ?hd (cs := #[.int .i64 0, .int .i64 0, .int .i64 0, .int .i64 0, .int .i64 0, .int .i64 0, .int .i64 0, .int .i64 0, .int .i64 0, .int .i64 0]) (t := 56) ?hr ?_; (case hd => rfl); (case hg => rfl); (case hr => first | (go_simp; done) | (go_simp; rfl)); intro gb604 hg w42 hbox hb; replace HO_5 := hob_ HO_5 hb; replace HO_6 := Aside0.mk (Kd.R_below (Kd.R_elderB (by (with_reducible repeat (first | apply Kd.R_alloc | apply Kd.R_drewN | apply Kd.R_drew)); exact HO_6.out) gb604 (Nat.le_of_eq hg.symm)) hb); have BK604 := Aside0.mk (hbox); have GW604 := gs_ hg; have GE604 := gs_ hg; replace HB := hbs_ hb; have NB590_604 := nl_ hg BK590; have NB604_590 := nr_ hg BK590; replace BK590 := bkb_ BK590 hb; clear hb hbox hg; have hnb43 := NB604_590.out; have hnc43 := NB590_604.out; have hcz44 := blk_cell BK604.out; have hfz44 := blk_frozen BK604.out) | ((with_reducible refine gate_callee (f := 96) rfl ?_); refine goesC_ (some 23) Try.func96 #[.agg #[.int .i64 ((rd_T56 l0 x18_1).f0), .int .i64 ((rd_T56 l0 x18_1).f1.f0), .int .i64 ((rd_T56 l0 x18_1).f1.f1), .int .i64 ((rd_T56 l0 x18_1).f2), .int .i64 ((rd_T56 l0 x18_1).f3.f0), .int .i64 ((rd_T56 l0 x18_1).f3.f1), .int .i64 ((rd_T56 l0 x18_1).f4.f0), .int .i64 ((rd_T56 l0 x18_1).f4.f1), .int .i64 ((rd_T56 l0 x18_1).f5), .int .i64 ((rd_T56 l0 x18_1).f6)]] ?_; (with_reducible refine (impl_CredOk.calls k1 ((rd_T56 l0 x18_1).f0) ((rd_T56 l0 x18_1).f1.f0) ((rd_T56 l0 x18_1).f1.f1) ((rd_T56 l0 x18_1).f2) ((rd_T56 l0 x18_1).f3.f0) ((rd_T56 l0 x18_1).f3.f1) ((rd_T56 l0 x18_1).f4.f0) ((rd_T56 l0 x18_1).f4.f1) ((rd_T56 l0 x18_1).f5) ((rd_T56 l0 x18_1).f6) false _ A18.out).mono ?_); rintro e w45 ⟨rfl, hb⟩; refine ⟨_, rfl, ?_⟩; replace HO_5 := Aside0.mk (Kd.R_below (by (with_reducible repeat (first | apply Kd.R_alloc | apply Kd.R_drewN | apply Kd.R_drew)); exact (Kd.R_mono (Kd.R_far (p := ⟨gb604, 9, none⟩) (Kd.R_far (p := ⟨gb604, 8, none⟩) (Kd.R_far (p := ⟨gb604, 7, none⟩) (Kd.R_far (p := ⟨gb604, 6, none⟩) (Kd.R_far (p := ⟨gb604, 5, none⟩) (Kd.R_far (p := ⟨gb604, 4, none⟩) (Kd.R_far (p := ⟨gb604, 3, none⟩) (Kd.R_far (p := ⟨gb604, 2, none⟩) (Kd.R_far (p := ⟨gb604, 1, none⟩) (Kd.R_far (p := ⟨gb604, 0, none⟩) (Kd.R_types HO_5.out BK604.out (by decide)) (fun _ hk => hk.2) (.int .i64 ((rd_T56 l0 x18_1).f0))) (fun _ hk => hk.2) (.int .i64 ((rd_T56 l0 x18_1).f1.f0))) (fun _ hk => hk.2) (.int .i64 ((rd_T56 l0 x18_1).f1.f1))) (fun _ hk => hk.2) (.int .i64 ((rd_T56 l0 x18_1).f2))) (fun _ hk => hk.2) (.int .i64 ((rd_T56 l0 x18_1).f3.f0))) (fun _ hk => hk.2) (.int .i64 ((rd_T56 l0 x18_1).f3.f1))) (fun _ hk => hk.2) (.int .i64 ((rd_T56 l0 x18_1).f4.f0))) (fun _ hk => hk.2) (.int .i64 ((rd_T56 l0 x18_1).f4.f1))) (fun _ hk => hk.2) (.int .i64 ((rd_T56 l0 x18_1).f5))) (fun _ hk => hk.2) (.int .i64 ((rd_T56 l0 x18_1).f6))) (fun _ h_ => h_.1))) hb); replace HO_6 := Aside0.mk (Kd.R_below (by (with_reducible repeat (first | apply Kd.R_alloc | apply Kd.R_drewN | apply Kd.R_drew)); exact (Kd.R_mono (Kd.R_far (p := ⟨gb604, 9, none⟩) (Kd.R_far (p := ⟨gb604, 8, none⟩) (Kd.R_far (p := ⟨gb604, 7, none⟩) (Kd.R_far (p := ⟨gb604, 6, none⟩) (Kd.R_far (p := ⟨gb604, 5, none⟩) (Kd.R_far (p := ⟨gb604, 4, none⟩) (Kd.R_far (p := ⟨gb604, 3, none⟩) (Kd.R_far (p := ⟨gb604, 2, none⟩) (Kd.R_far (p := ⟨gb604, 1, none⟩) (Kd.R_far (p := ⟨gb604, 0, none⟩) (Kd.R_mono HO_6.out (fun k_ hk => (⟨hk, hk.2⟩ : _ ∧ k_ ≠ gb604))) (fun _ hk => hk.2) (.int .i64 ((rd_T56 l0 x18_1).f0))) (fun _ hk => hk.2) (.int .i64 ((rd_T56 l0 x18_1).f1.f0))) (fun _ hk => hk.2) (.int .i64 ((rd_T56 l0 x18_1).f1.f1))) (fun _ hk => hk.2) (.int .i64 ((rd_T56 l0 x18_1).f2))) (fun _ hk => hk.2) (.int .i64 ((rd_T56 l0 x18_1).f3.f0))) (fun _ hk => hk.2) (.int .i64 ((rd_T56 l0 x18_1).f3.f1))) (fun _ hk => hk.2) (.int .i64 ((rd_T56 l0 x18_1).f4.f0))) (fun _ hk => hk.2) (.int .i64 ((rd_T56 l0 x18_1).f4.f1))) (fun _ hk => hk.2) (.int .i64 ((rd_T56 l0 x18_1).f5))) (fun _ hk => hk.2) (.int .i64 ((rd_T56 l0 x18_1).f6))) (fun _ h_ => h_.1))) hb); replace BK590 := Aside0.mk (blk_below (g := gb590) (o := .cells #[.int .i64 a1_0, .int .i64 a1_1] 49 (0, 0)) (bk_ BK590) hb); replace BK604 := Aside0.mk (blk_below (g := gb604) (o := .cells #[.int .i64 ((rd_T56 l0 x18_1).f0), .int .i64 ((rd_T56 l0 x18_1).f1.f0), .int .i64 ((rd_T56 l0 x18_1).f1.f1), .int .i64 ((rd_T56 l0 x18_1).f2), .int .i64 ((rd_T56 l0 x18_1).f3.f0), .int .i64 ((rd_T56 l0 x18_1).f3.f1), .int .i64 ((rd_T56 l0 x18_1).f4.f0), .int .i64 ((rd_T56 l0 x18_1).f4.f1), .int .i64 ((rd_T56 l0 x18_1).f5), .int .i64 ((rd_T56 l0 x18_1).f6)] 56 (0, 0)) (bk_ BK604) hb); replace HB := hbs_ hb; clear hb))
     go_roundg k1
     case measure => have := HK1.out; omega
     case rel => exact ⟨(x6_1), (wrap64 (x18_1 + 1)), rf_, H', ⟨by have := HK1.out; omega⟩, ⟨by (with_reducible repeat (first | apply Kd.R_alloc | apply Kd.R_drewN | apply Kd.R_drew)); exact HO_5.out⟩, ⟨by (with_reducible repeat (first | apply Kd.R_alloc | apply Kd.R_drewN | apply Kd.R_drew)); exact Kd.R_mono HO_6.out (fun _ hk => trivial)⟩, ⟨bk_ BK590⟩, ⟨bl_⟩⟩
   ·rw [if_neg c15] at H
    have c15b0 : decide (x18_1 < (l0.length : Int)) = false := decide_eq_false c15
    clear c15
    obtain rfl := Option.some.inj H
    go_wp2
    go_ret
    exact ⟨_, eq_, by (with_reducible repeat (first | apply Kd.R_alloc | apply Kd.R_drewN | apply Kd.R_drew)); exact HO_6.out, bl_⟩
end Go.Proofs.Ytjpjidgfcljpcaa.PA
