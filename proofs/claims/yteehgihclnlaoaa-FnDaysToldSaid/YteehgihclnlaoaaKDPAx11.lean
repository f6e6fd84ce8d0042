import Derived.Test.YteehgihclnlaoaaKDPAx10
-- printed by wip/tools
namespace Go.Proofs.Yteehgihclnlaoaa.PA
open Go.RowKit Go.Proofs.YteehgihclnlaoaaW.PrintWords Go.Proofs.YteehgihclnlaoaaW.PrintLast Go.Proofs.YteehgihclnlaoaaW.PrintMore
attribute [local go_sem] max2_int min2_int max_two min_two max_three min_three max_four min_four
set_option linter.unusedVariables false
set_option linter.unusedSimpArgs false
attribute [local go_sem high] eqA26 eqA54
def impl_IsMember.f (k : Nat) (l0 : List (S48)) (a1_0 : Int) (a1_1 : Int) (a2 : Int) : Option (Bool) := (impl_FactsOf.f k l0).bind fun t449 => ((impl_Fact_39.f k t449 a1_0 a1_1 a2).bind fun t452 => (some t452))
set_option maxHeartbeats 8000000 in
set_option maxRecDepth 100000 in
theorem impl_IsMember.calls (k : Nat) (A0 : Option Addr) (c0 : Nat) (l0 : List (S48)) (a1_0 : Int) (a1_1 : Int) (a2 : Int) (r : Bool) (w : World) (hr0 : Kd.C k48 w A0 l0.length l0) (hc0 : l0.length ≤ c0) (h : impl_IsMember.f k l0 a1_0 a1_1 a2 = some r) :
  Calls Try.prog 25 #[.slice A0 l0.length c0, .agg #[.int .i64 a1_0, .int .i64 a1_1], .int .i64 a2] w fun e w' => e = .returned (.bool r) ∧ Below w.heap.size w w' := by
 have hu26 := Try.underlying26
 have hu54 := Try.underlying54
 have HR0 := Aside0.mk hr0
 have HC0 := Aside0.mk hc0
 clear hr0 hc0
 have HB := Aside0.mk (Below.refl w.heap.size w)
 have H : ((impl_FactsOf.f k l0).bind fun t449 => ((impl_Fact_39.f k t449 a1_0 a1_1 a2).bind fun t452 => (some t452))) = some r := h
 clear h
 obtain ⟨t449, A4, H⟩ := bindE_ H
 obtain ⟨t452, A5, H⟩ := bindE_ H
 obtain rfl := Option.some.inj H
 go_enter Try.func25, Try.ntmps25
 try go_wp2_with (first | ((with_reducible refine gate_dst (N := 4) rfl ?_); refine box_event ?hg (N := 4) ?hd (cs := #[.int .i64 a1_0, .int .i64 a1_1]) (t := 26) ?hr ?_; (case hd => rfl); (case hg => rfl); (case hr => first | (go_simp; done) | (go_simp; rfl)); intro gb448 hg w6 hbox hb; have BK448 := Aside0.mk (hbox); have GW448 := gs_ hg; have GE448 := gs_ hg; replace HB := hbs_ hb; clear hb hbox hg))
 replace BK448 := Aside0.mk (blk_drew BK448.out)
 replace HB := Aside0.mk (below_drew1 HB.out)
 refine start_ (n := 7) (S := fun w' => w'.cell? ⟨gb448, 0, none⟩ = some (.int .i64 a1_0) ∧ w'.cell? ⟨gb448, 1, none⟩ = some (.int .i64 a1_1)) (ds := []) #[false, false, false, false, false, false, false] (by kernel_rfl) rfl rfl ⟨(blk_cell BK448.out 0).trans rfl, (blk_cell BK448.out 1).trans rfl⟩ (fun hHeld => ?_)
 generalize w6.drew = w7 at BK448 HB hHeld ⊢
 refine pure_ (i := 0) (N := some 7) (v := ?_) (a' := ?_) #[true, false, false, false, false, false, false] rfl rfl (by kernel_rfl) (fun _ _ _ h => h) (Or.inl ⟨by rfl, ?_⟩) ?_ ?_
 rotate_left
 ·intro w'
  go_simp
  with_reducible rfl
 rotate_left
 ·simp only [Act.put, List.setIfInBounds_toArray, List.set_cons_zero, List.set_cons_succ, i64_w, i32_w]
  rfl
 refine pure_ (i := 3) (N := some 10) (v := ?_) (a' := ?_) #[true, false, false, true, false, false, false] rfl rfl (by kernel_rfl) (fun _ _ _ h => h) (Or.inl ⟨by rfl, ?_⟩) ?_ ?_
 rotate_left
 ·intro w'
  go_simp
  with_reducible rfl
 rotate_left
 ·simp only [Act.put, List.setIfInBounds_toArray, List.set_cons_zero, List.set_cons_succ, i64_w, i32_w]
  rfl
 refine take_ (i := 2) (N := some 9) (v := ?_) (a' := ?_) #[true, false, true, true, false, false, false] rfl rfl (by kernel_rfl) (fun _ _ _ h => h) (Or.inl ⟨by rfl, ?_⟩) hHeld ?_ ?_
 rotate_left
 ·rintro w' ⟨s0, s1⟩
  go_simp
  with_reducible rfl
 rotate_left
 ·simp only [Act.put, List.setIfInBounds_toArray, List.set_cons_zero, List.set_cons_succ, i64_w, i32_w]
  rfl
 refine pure_ (i := 4) (N := some 11) (v := ?_) (a' := ?_) #[true, false, true, true, true, false, false] rfl rfl (by kernel_rfl) (fun _ _ _ h => h) (Or.inl ⟨by rfl, ?_⟩) ?_ ?_
 rotate_left
 ·intro w'
  go_simp
  with_reducible rfl
 rotate_left
 ·simp only [Act.put, List.setIfInBounds_toArray, List.set_cons_zero, List.set_cons_succ, i64_w, i32_w]
  rfl
 refine one_ (i := 1) (N := some 8) #[true, true, true, true, true, false, false] rfl rfl (by kernel_rfl) (by decide) (fun K hK => ?_)
 refine goes_ Try.func34 (by kernel_rfl) rfl #[.slice A0 l0.length c0] (by rfl) rfl rfl (by (try simp only [List.map_toArray, List.map_cons, List.map_nil]); first | done | rfl | (simp only [List.length_drop, List.length_take]; rfl)) ?_
 with_reducible refine (impl_FactsOf.calls k _ _ l0 t449 _ ?side1 ?side2 A4.out).mono ?_
 (case side1 => repeat (first | exact (Kd.C_below HR0.out HB.out) | (with_reducible refine Kd.C_alloc ?_ _) | (with_reducible refine Kd.C_drewN ?_ _) | (with_reducible refine Kd.C_drew ?_)))
 (case side2 => exact HC0.out)
 rintro e w8 ⟨v450, rfl, ho0, hb⟩
 refine ⟨_, rfl, ?_⟩
 have HO451 := Aside0.mk (Kd.R_lower ho0 bls_)
 replace BK448 := bkb_ BK448 hb
 replace HB := hbs_ hb
 (try clear hb)
 (try clear hb2)
 (try clear hk)
 (try clear hi)
 (try clear ho0)
 obtain ⟨Ao9, co9, eo9⟩ := Kd.R_slice HO451.out
 (first | subst eo9 | (injection eo9 with f1_ f2_ f3_; have f4_ := f1_.symm; have f5_ := f3_.symm; clear f1_ f2_ f3_; subst f4_; subst f5_))
 refine hK.out _ _ ⟨(blk_cell BK448.out 0).trans rfl, (blk_cell BK448.out 1).trans rfl⟩ (fun hHeld => ?_)
 clear hK K
 refine norm_ (a' := ?_) ?_ ?_
 rotate_left
 ·show Act.put _ (some 8) _ = _
  simp only [Act.put, List.setIfInBounds_toArray, List.set_cons_zero, List.set_cons_succ, i64_w, i32_w]
  rfl
 refine one_ (i := 5) (N := some 12) #[true, true, true, true, true, true, false] rfl rfl (by kernel_rfl) (by decide) (fun K hK => ?_)
 refine goes_ Try.func39 (by kernel_rfl) rfl #[.slice Ao9 t449.length co9, .agg #[.int .i64 a1_0, .int .i64 a1_1, .int .i64 a2]] (by rfl) rfl rfl (by (try simp only [List.map_toArray, List.map_cons, List.map_nil]); first | done | rfl | (simp only [List.length_drop, List.length_take]; rfl)) ?_
 with_reducible refine (impl_Fact_39.calls k _ _ t449 a1_0 a1_1 a2 t452 _ ?side1 ?side2 A5.out).mono ?_
 (case side1 => repeat (first | exact (Kd.R_reads' HO451.out).2.2 | (with_reducible refine Kd.C_alloc ?_ _) | (with_reducible refine Kd.C_drewN ?_ _) | (with_reducible refine Kd.C_drew ?_)))
 (case side2 => exact (Kd.R_reads' HO451.out).2.1)
 rintro e w10 ⟨rfl, hb⟩
 refine ⟨_, rfl, ?_⟩
 replace HO451 := hob_ HO451 hb
 replace BK448 := bkb_ BK448 hb
 replace HB := hbs_ hb
 (try clear hb)
 (try clear hb2)
 (try clear hk)
 (try clear hi)
 refine hK.out _ _ ⟨(blk_cell BK448.out 0).trans rfl, (blk_cell BK448.out 1).trans rfl⟩ (fun hHeld => ?_)
 clear hK K
 refine norm_ (a' := ?_) ?_ ?_
 rotate_left
 ·show Act.put _ (some 12) _ = _
  simp only [Act.put, List.setIfInBounds_toArray, List.set_cons_zero, List.set_cons_succ, i64_w, i32_w]
  rfl
 refine pure_ (i := 6) (N := some 6) (v := ?_) (a' := ?_) #[true, true, true, true, true, true, true] rfl rfl (by kernel_rfl) (fun _ _ _ h => h) (Or.inl ⟨by rfl, ?_⟩) ?_ ?_
 rotate_left
 ·intro w'
  go_simp
  with_reducible rfl
 rotate_left
 ·simp only [Act.put, List.setIfInBounds_toArray, List.set_cons_zero, List.set_cons_succ, i64_w, i32_w]
  rfl
 refine done_ (by kernel_rfl) ?_
 try go_wp2
 go_ret
 exact ⟨eq_, bl_⟩
def impl_Alive.l0 : Nat → Int → List (S48) → List (S48) → Int → Int → Option ((List (S48)))
 | 0, _, _, _, _, _ => none
 | k + 1, x1, x5, x9, x10, x11 => if x11 < x10 then (if 0 ≤ x11 then (if x11 < (x9.length : Int) then ((impl_CredOk.f k ((rd_T48 x9 x11).f0) ((rd_T48 x9 x11).f1.f0) ((rd_T48 x9 x11).f1.f1) ((rd_T48 x9 x11).f2) ((rd_T48 x9 x11).f3.f0) ((rd_T48 x9 x11).f3.f1) ((rd_T48 x9 x11).f4.f0) ((rd_T48 x9 x11).f4.f1) ((rd_T48 x9 x11).f5) ((rd_T48 x9 x11).f6)).bind fun t458 => (if t458 = true then (if ((rd_T48 x9 x11).f5) ≥ x1 then (if x5.length < 1759218604441 then (impl_Alive.l0 k x1 (x5 ++ [(⟨(rd_T48 x9 x11).f0, (⟨(rd_T48 x9 x11).f1.f0, (rd_T48 x9 x11).f1.f1⟩ : S26), (rd_T48 x9 x11).f2, (⟨(rd_T48 x9 x11).f3.f0, (rd_T48 x9 x11).f3.f1⟩ : S26), (⟨(rd_T48 x9 x11).f4.f0, (rd_T48 x9 x11).f4.f1⟩ : S26), (rd_T48 x9 x11).f5, (rd_T48 x9 x11).f6⟩ : S48)]) x9 x10 (wrap64 (x11 + 1))) else (none)) else (impl_Alive.l0 k x1 x5 x9 x10 (wrap64 (x11 + 1)))) else (impl_Alive.l0 k x1 x5 x9 x10 (wrap64 (x11 + 1))))) else (none)) else (none)) else (some x5)
def impl_Alive.f (k : Nat) (l0 : List (S48)) (a1 : Int) : Option ((List (S48))) := impl_Alive.l0 k a1 (([] : List (S48))) l0 (l0.length : Int) 0
set_option maxHeartbeats 8000000 in
set_option maxRecDepth 100000 in
theorem impl_Alive.calls (k : Nat) (A0 : Option Addr) (c0 : Nat) (l0 : List (S48)) (a1 : Int) (r : List (S48)) (w : World) (hr0 : Kd.C k48 w A0 l0.length l0) (hc0 : l0.length ≤ c0) (h : impl_Alive.f k l0 a1 = some r) :
  Calls Try.prog 26 #[.slice A0 l0.length c0, .int .i64 a1] w fun e w' => ∃ v0_ : Value, e = .returned (v0_) ∧ Kd.R k48 48 w' w.heap.size (fun _ => True) v0_ r ∧ Below w.heap.size w w' := by
 have hu48 := Try.underlying48
 have HR0 := Aside0.mk hr0
 have HC0 := Aside0.mk hc0
 clear hr0 hc0
 have HB := Aside0.mk (Below.refl w.heap.size w)
 have H : (impl_Alive.l0 k a1 (([] : List (S48))) l0 (l0.length : Int) 0) = some r := h
 clear h
 obtain ⟨y453, hy453⟩ : ∃ y_ : List (S48), y_ = (([] : List (S48))) := ⟨_, rfl⟩
 replace H : (impl_Alive.l0 k a1 y453 l0 (l0.length : Int) 0) = some r := by first | (rw [hy453]; with_reducible exact H) | (have H2_ := (Option.bind_some _ _).symm.trans H; rw [hy453]; with_reducible exact H2_) | (have H2_ := (Option.bind_some _ _).symm.trans H; with_reducible exact H2_) | with_reducible exact H | (rw [hy453]; exact H) | exact H
 have Ny453 := Aside0.mk hy453
 clear hy453
 have H' := Aside0.mk H
 clear H
 go_enter Try.func26, Try.ntmps26
 go_wp2_with (first | ((with_reducible refine gate_dst (N := 8) rfl ?_); refine Kd.R_lit k48 _ 48 ?hg (N := 8) ?hd (xs := ([] : List (S48))) (inner := []) (ok := fun _ => True) (okp := fun _ => True) ?hr ?hp (fun _ hk => hk) trivial (Below.refl _ _) (Nat.le_refl _) (by simp) ?_; (case hd => rfl); (case hg => rfl); (case hr => first | (go_simp; done) | (go_simp; rfl)); (case hp => exact (Reps.none _ _)); intro v454 w3 ho4 hb hg_ hnew_; clear hg_ hnew_; (first | rw [← Ny453.out] at ho4 | (simp only [Int.reduceToNat] at ho4; rw [← Ny453.out] at ho4)); have HO455 := Aside0.mk (Kd.R_lower ho4 bls_); replace HB := hbs_ hb; clear hb ho4))
 go_loopg [5, 11] k (fun kq v5 v11 w' => ∃ (x5_1 : List (S48)) (x11_1 : Int), v11 = .int .i64 x11_1 ∧ Aside0 (impl_Alive.l0 kq a1 x5_1 l0 (l0.length : Int) x11_1 = some r) ∧ Aside0 (kq ≤ k) ∧ Aside0 (Kd.R k48 48 w' w.heap.size (fun _ => True) v5 x5_1) ∧ Aside0 (Below w.heap.size w w'))
 case atStart => exact ⟨(y453), (0), rf_, H', ⟨Nat.le_refl _⟩, ⟨by (with_reducible repeat (first | apply Kd.R_alloc | apply Kd.R_drewN | apply Kd.R_drew)); exact HO455.out⟩, ⟨bl_⟩⟩
 case round =>
  clear H'
  try clear c2
  try clear p2
  obtain ⟨x5_1, x11_1, rfl, HA, HK1, HO_5, HB⟩ := hrel
  cases gk with
  | zero => exact absurd HA.out (by simp [impl_Alive.l0])
  | succ k1 =>
   have H := HA.out
   clear HA
   simp only [impl_Alive.l0] at H
   by_cases c5 : x11_1 < (l0.length : Int)
   ·rw [if_pos c5] at H
    have c5b0 : decide (x11_1 < (l0.length : Int)) = true := decide_eq_true c5
    clear c5
    obtain ⟨c6b0, H⟩ := ifd_ H
    obtain ⟨c7b0, H⟩ := ifd_ H
    obtain ⟨t458, A8, H⟩ := bindE_ H
    by_cases c9 : t458 = true
    ·subst c9
     replace H := ite_t_ H
     by_cases c10 : ((rd_T48 l0 x11_1).f5) ≥ a1
     ·rw [if_pos c10] at H
      have c10b0 : decide (a1 ≤ ((rd_T48 l0 x11_1).f5)) = true := decide_eq_true c10
      clear c10
      obtain ⟨c11, H⟩ := ifn_ H
      have LMc11 := Aside0.mk c11
      clear c11
      obtain ⟨y459, hy459⟩ : ∃ y_ : List (S48), y_ = (x5_1 ++ [(⟨(rd_T48 l0 x11_1).f0, (⟨(rd_T48 l0 x11_1).f1.f0, (rd_T48 l0 x11_1).f1.f1⟩ : S26), (rd_T48 l0 x11_1).f2, (⟨(rd_T48 l0 x11_1).f3.f0, (rd_T48 l0 x11_1).f3.f1⟩ : S26), (⟨(rd_T48 l0 x11_1).f4.f0, (rd_T48 l0 x11_1).f4.f1⟩ : S26), (rd_T48 l0 x11_1).f5, (rd_T48 l0 x11_1).f6⟩ : S48)]) := ⟨_, rfl⟩
      replace H : (impl_Alive.l0 k1 a1 y459 l0 (l0.length : Int) (wrap64 (x11_1 + 1))) = some r := by first | (rw [hy459]; with_reducible exact H) | (have H2_ := (Option.bind_some _ _).symm.trans H; rw [hy459]; with_reducible exact H2_) | (have H2_ := (Option.bind_some _ _).symm.trans H; with_reducible exact H2_) | with_reducible exact H | (rw [hy459]; exact H) | exact H
      have Ny459 := Aside0.mk hy459
      clear hy459
      have H' := Aside0.mk H
      clear H
      have p456 : 0 ≤ (x11_1 : Int) := od_
      have q456 : x11_1 < (l0.length : Int) := od_
      obtain ⟨ad456, e456, hx456_0, hx456_1, hx456_2, hx456_3, hx456_4, hx456_5, hx456_6, hx456_7, hx456_8, hx456_9⟩ := at_T48 (Kd.C_below HR0.out HB.out) x11_1 p456 q456
      cases e456
      replace p456 := eq_true p456
      replace q456 := eq_true q456
      go_wp2_with (first | ((with_reducible refine gate_dst (N := 7) rfl ?_); refine box_event ?hg (N := 7) ?hd (cs := #[.int .i64 0, .int .i64 0, .int .i64 0, .int .i64 0, .int .i64 0, .int .i64 0, .int .i64 0, .int .i64 0, .int .i64 0, .int .i64 0]) (t := 48) ?hr ?_; (case hd => rfl); (case hg => rfl); (case hr => first | (go_simp; done) | (go_simp; rfl)); intro gb457 hg w12 hbox hb; replace HO_5 := Aside0.mk (Kd.R_below (Kd.R_elderB (by (with_reducible repeat (first | apply Kd.R_alloc | apply Kd.R_drewN | apply Kd.R_drew)); exact HO_5.out) gb457 (Nat.le_of_eq hg.symm)) hb); have BK457 := Aside0.mk (hbox); have GW457 := gs_ hg; have GE457 := gs_ hg; replace HB := hbs_ hb; clear hb hbox hg; have hcz13 := blk_cell BK457.out; have hfz13 := blk_frozen BK457.out) | ((with_reducible refine gate_callee (f := 29) rfl ?_); refine goesC_ (some 16) Try.func29 #[.agg #[.int .i64 ((rd_T48 l0 x11_1).f0), .int .i64 ((rd_T48 l0 x11_1).f1.f0), .int .i64 ((rd_T48 l0 x11_1).f1.f1), .int .i64 ((rd_T48 l0 x11_1).f2), .int .i64 ((rd_T48 l0 x11_1).f3.f0), .int .i64 ((rd_T48 l0 x11_1).f3.f1), .int .i64 ((rd_T48 l0 x11_1).f4.f0), .int .i64 ((rd_T48 l0 x11_1).f4.f1), .int .i64 ((rd_T48 l0 x11_1).f5), .int .i64 ((rd_T48 l0 x11_1).f6)]] ?_; (with_reducible refine (impl_CredOk.calls k1 ((rd_T48 l0 x11_1).f0) ((rd_T48 l0 x11_1).f1.f0) ((rd_T48 l0 x11_1).f1.f1) ((rd_T48 l0 x11_1).f2) ((rd_T48 l0 x11_1).f3.f0) ((rd_T48 l0 x11_1).f3.f1) ((rd_T48 l0 x11_1).f4.f0) ((rd_T48 l0 x11_1).f4.f1) ((rd_T48 l0 x11_1).f5) ((rd_T48 l0 x11_1).f6) true _ A8.out).mono ?_); rintro e w14 ⟨rfl, hb⟩; refine ⟨_, rfl, ?_⟩; replace HO_5 := Aside0.mk (Kd.R_below (by (with_reducible repeat (first | apply Kd.R_alloc | apply Kd.R_drewN | apply Kd.R_drew)); exact (Kd.R_mono (Kd.R_far (p := ⟨gb457, 9, none⟩) (Kd.R_far (p := ⟨gb457, 8, none⟩) (Kd.R_far (p := ⟨gb457, 7, none⟩) (Kd.R_far (p := ⟨gb457, 6, none⟩) (Kd.R_far (p := ⟨gb457, 5, none⟩) (Kd.R_far (p := ⟨gb457, 4, none⟩) (Kd.R_far (p := ⟨gb457, 3, none⟩) (Kd.R_far (p := ⟨gb457, 2, none⟩) (Kd.R_far (p := ⟨gb457, 1, none⟩) (Kd.R_far (p := ⟨gb457, 0, none⟩) (Kd.R_mono HO_5.out (fun k_ hk => (⟨hk, hk.2⟩ : _ ∧ k_ ≠ gb457))) (fun _ hk => hk.2) (.int .i64 ((rd_T48 l0 x11_1).f0))) (fun _ hk => hk.2) (.int .i64 ((rd_T48 l0 x11_1).f1.f0))) (fun _ hk => hk.2) (.int .i64 ((rd_T48 l0 x11_1).f1.f1))) (fun _ hk => hk.2) (.int .i64 ((rd_T48 l0 x11_1).f2))) (fun _ hk => hk.2) (.int .i64 ((rd_T48 l0 x11_1).f3.f0))) (fun _ hk => hk.2) (.int .i64 ((rd_T48 l0 x11_1).f3.f1))) (fun _ hk => hk.2) (.int .i64 ((rd_T48 l0 x11_1).f4.f0))) (fun _ hk => hk.2) (.int .i64 ((rd_T48 l0 x11_1).f4.f1))) (fun _ hk => hk.2) (.int .i64 ((rd_T48 l0 x11_1).f5))) (fun _ hk => hk.2) (.int .i64 ((rd_T48 l0 x11_1).f6))) (fun _ h_ => h_.1))) hb); replace BK457 := Aside0.mk (blk_below (g := gb457) (o := .cells #[.int .i64 ((rd_T48 l0 x11_1).f0), .int .i64 ((rd_T48 l0 x11_1).f1.f0), .int .i64 ((rd_T48 l0 x11_1).f1.f1), .int .i64 ((rd_T48 l0 x11_1).f2), .int .i64 ((rd_T48 l0 x11_1).f3.f0), .int .i64 ((rd_T48 l0 x11_1).f3.f1), .int .i64 ((rd_T48 l0 x11_1).f4.f0), .int .i64 ((rd_T48 l0 x11_1).f4.f1), .int .i64 ((rd_T48 l0 x11_1).f5), .int .i64 ((rd_T48 l0 x11_1).f6)] 48 (0, 0)) (bk_ BK457) hb); replace HB := hbs_ hb; clear hb; have hcz15 := blk_cell BK457.out; have hfz15 := blk_frozen BK457.out) | ((with_reducible refine gate_builtin (b := .append) (xs := #[.tmp 23, .tmp 25]) rfl ?_); at_builtin; refine Kd.R_append k48 (w0 := w) w.heap.size rfl (.tmp 23) (.tmp 25) 24 48 (.agg #[(.int .i64 0), (.int .i64 0), (.int .i64 0), (.int .i64 0), (.int .i64 0), (.int .i64 0), (.int .i64 0), (.int .i64 0), (.int .i64 0), (.int .i64 0)]) 80 rfl Try.underlying24 info48 rfl (by decide) (by omega) u5 x5_1 (⟨(rd_T48 l0 x11_1).f0, (⟨(rd_T48 l0 x11_1).f1.f0, (rd_T48 l0 x11_1).f1.f1⟩ : S26), (rd_T48 l0 x11_1).f2, (⟨(rd_T48 l0 x11_1).f3.f0, (rd_T48 l0 x11_1).f3.f1⟩ : S26), (⟨(rd_T48 l0 x11_1).f4.f0, (rd_T48 l0 x11_1).f4.f1⟩ : S26), (rd_T48 l0 x11_1).f5, (rd_T48 l0 x11_1).f6⟩ : S48) [.int .i64 ((rd_T48 l0 x11_1).f0), .int .i64 ((rd_T48 l0 x11_1).f1.f0), .int .i64 ((rd_T48 l0 x11_1).f1.f1), .int .i64 ((rd_T48 l0 x11_1).f2), .int .i64 ((rd_T48 l0 x11_1).f3.f0), .int .i64 ((rd_T48 l0 x11_1).f3.f1), .int .i64 ((rd_T48 l0 x11_1).f4.f0), .int .i64 ((rd_T48 l0 x11_1).f4.f1), .int .i64 ((rd_T48 l0 x11_1).f5), .int .i64 ((rd_T48 l0 x11_1).f6)] (fun k_ => k_ ≠ gb457) (fun _ => False) rfl rfl ?aP (fun _ hk => hk.elim) ?aF ?aO ?aB ?aS ?aL ?_; (case aP => exact k48_mkM _ _ _ (⟨(rd_T48 l0 x11_1).f0, (⟨(rd_T48 l0 x11_1).f1.f0, (rd_T48 l0 x11_1).f1.f1⟩ : S26), (rd_T48 l0 x11_1).f2, (⟨(rd_T48 l0 x11_1).f3.f0, (rd_T48 l0 x11_1).f3.f1⟩ : S26), (⟨(rd_T48 l0 x11_1).f4.f0, (rd_T48 l0 x11_1).f4.f1⟩ : S26), (rd_T48 l0 x11_1).f5, (rd_T48 l0 x11_1).f6⟩ : S48)); (case aB => exact bl_); (case aF => exact (fun k_ hk => Kd.freshB (g := gb457) (o := .cells #[.int .i64 ((rd_T48 l0 x11_1).f0), .int .i64 ((rd_T48 l0 x11_1).f1.f0), .int .i64 ((rd_T48 l0 x11_1).f1.f1), .int .i64 ((rd_T48 l0 x11_1).f2), .int .i64 ((rd_T48 l0 x11_1).f3.f0), .int .i64 ((rd_T48 l0 x11_1).f3.f1), .int .i64 ((rd_T48 l0 x11_1).f4.f0), .int .i64 ((rd_T48 l0 x11_1).f4.f1), .int .i64 ((rd_T48 l0 x11_1).f5), .int .i64 ((rd_T48 l0 x11_1).f6)] 48 (0, 0)) (bk_ BK457) k_ hk)); (case aO => exact (by (with_reducible repeat (first | apply Kd.R_alloc | apply Kd.R_drewN | apply Kd.R_drew)); exact Kd.R_mono HO_5.out (fun _ hk => hk.2))); (case aS => exact bls_); (case aL => have := LMc11.out; omega); intro v460 w16 ho hb hg hat; rw [← Ny459.out] at ho; replace BK457 := Aside0.mk (blk_grown (g := gb457) (o := .cells #[.int .i64 ((rd_T48 l0 x11_1).f0), .int .i64 ((rd_T48 l0 x11_1).f1.f0), .int .i64 ((rd_T48 l0 x11_1).f1.f1), .int .i64 ((rd_T48 l0 x11_1).f2), .int .i64 ((rd_T48 l0 x11_1).f3.f0), .int .i64 ((rd_T48 l0 x11_1).f3.f1), .int .i64 ((rd_T48 l0 x11_1).f4.f0), .int .i64 ((rd_T48 l0 x11_1).f4.f1), .int .i64 ((rd_T48 l0 x11_1).f5), .int .i64 ((rd_T48 l0 x11_1).f6)] 48 (0, 0)) (bk_ BK457) hg (Kd.R_away HO_5.out (fun _ hk => hk.2))); replace HB := Aside0.mk (hb); have HO461 := Aside0.mk (ho); clear HO_5; clear ho hb hg hat))
      go_roundg k1
      case measure => have := HK1.out; omega
      case rel => exact ⟨(y459), (wrap64 (x11_1 + 1)), rf_, H', ⟨by have := HK1.out; omega⟩, ⟨by (with_reducible repeat (first | apply Kd.R_alloc | apply Kd.R_drewN | apply Kd.R_drew)); exact Kd.R_mono HO461.out (fun _ hk => trivial)⟩, ⟨bl_⟩⟩
     ·rw [if_neg c10] at H
      have c10b0 : decide (a1 ≤ ((rd_T48 l0 x11_1).f5)) = false := decide_eq_false c10
      clear c10
      have H' := Aside0.mk H
      clear H
      have p456 : 0 ≤ (x11_1 : Int) := od_
      have q456 : x11_1 < (l0.length : Int) := od_
      obtain ⟨ad456, e456, hx456_0, hx456_1, hx456_2, hx456_3, hx456_4, hx456_5, hx456_6, hx456_7, hx456_8, hx456_9⟩ := at_T48 (Kd.C_below HR0.out HB.out) x11_1 p456 q456
      cases e456
      replace p456 := eq_true p456
      replace q456 := eq_true q456
      go_wp2_with (first | ((with_reducible refine gate_dst (N := 7) rfl ?_); refine box_event ?hg (N := 7) ?hd (cs := #[.int .i64 0, .int .i64 0, .int .i64 0, .int .i64 0, .int .i64 0, .int .i64 0, .int .i64 0, .int .i64 0, .int .i64 0, .int .i64 0]) (t := 48) ?hr ?_; (case hd => rfl); (case hg => rfl); (case hr => first | (go_simp; done) | (go_simp; rfl)); intro gb457 hg w17 hbox hb; replace HO_5 := Aside0.mk (Kd.R_below (Kd.R_elderB (by (with_reducible repeat (first | apply Kd.R_alloc | apply Kd.R_drewN | apply Kd.R_drew)); exact HO_5.out) gb457 (Nat.le_of_eq hg.symm)) hb); have BK457 := Aside0.mk (hbox); have GW457 := gs_ hg; have GE457 := gs_ hg; replace HB := hbs_ hb; clear hb hbox hg; have hcz18 := blk_cell BK457.out; have hfz18 := blk_frozen BK457.out) | ((with_reducible refine gate_callee (f := 29) rfl ?_); refine goesC_ (some 16) Try.func29 #[.agg #[.int .i64 ((rd_T48 l0 x11_1).f0), .int .i64 ((rd_T48 l0 x11_1).f1.f0), .int .i64 ((rd_T48 l0 x11_1).f1.f1), .int .i64 ((rd_T48 l0 x11_1).f2), .int .i64 ((rd_T48 l0 x11_1).f3.f0), .int .i64 ((rd_T48 l0 x11_1).f3.f1), .int .i64 ((rd_T48 l0 x11_1).f4.f0), .int .i64 ((rd_T48 l0 x11_1).f4.f1), .int .i64 ((rd_T48 l0 x11_1).f5), .int .i64 ((rd_T48 l0 x11_1).f6)]] ?_; (with_reducible refine (impl_CredOk.calls k1 ((rd_T48 l0 x11_1).f0) ((rd_T48 l0 x11_1).f1.f0) ((rd_T48 l0 x11_1).f1.f1) ((rd_T48 l0 x11_1).f2) ((rd_T48 l0 x11_1).f3.f0) ((rd_T48 l0 x11_1).f3.f1) ((rd_T48 l0 x11_1).f4.f0) ((rd_T48 l0 x11_1).f4.f1) ((rd_T48 l0 x11_1).f5) ((rd_T48 l0 x11_1).f6) true _ A8.out).mono ?_); rintro e w19 ⟨rfl, hb⟩; refine ⟨_, rfl, ?_⟩; replace HO_5 := Aside0.mk (Kd.R_below (by (with_reducible repeat (first | apply Kd.R_alloc | apply Kd.R_drewN | apply Kd.R_drew)); exact (Kd.R_mono (Kd.R_far (p := ⟨gb457, 9, none⟩) (Kd.R_far (p := ⟨gb457, 8, none⟩) (Kd.R_far (p := ⟨gb457, 7, none⟩) (Kd.R_far (p := ⟨gb457, 6, none⟩) (Kd.R_far (p := ⟨gb457, 5, none⟩) (Kd.R_far (p := ⟨gb457, 4, none⟩) (Kd.R_far (p := ⟨gb457, 3, none⟩) (Kd.R_far (p := ⟨gb457, 2, none⟩) (Kd.R_far (p := ⟨gb457, 1, none⟩) (Kd.R_far (p := ⟨gb457, 0, none⟩) (Kd.R_mono HO_5.out (fun k_ hk => (⟨hk, hk.2⟩ : _ ∧ k_ ≠ gb457))) (fun _ hk => hk.2) (.int .i64 ((rd_T48 l0 x11_1).f0))) (fun _ hk => hk.2) (.int .i64 ((rd_T48 l0 x11_1).f1.f0))) (fun _ hk => hk.2) (.int .i64 ((rd_T48 l0 x11_1).f1.f1))) (fun _ hk => hk.2) (.int .i64 ((rd_T48 l0 x11_1).f2))) (fun _ hk => hk.2) (.int .i64 ((rd_T48 l0 x11_1).f3.f0))) (fun _ hk => hk.2) (.int .i64 ((rd_T48 l0 x11_1).f3.f1))) (fun _ hk => hk.2) (.int .i64 ((rd_T48 l0 x11_1).f4.f0))) (fun _ hk => hk.2) (.int .i64 ((rd_T48 l0 x11_1).f4.f1))) (fun _ hk => hk.2) (.int .i64 ((rd_T48 l0 x11_1).f5))) (fun _ hk => hk.2) (.int .i64 ((rd_T48 l0 x11_1).f6))) (fun _ h_ => h_.1))) hb); replace BK457 := Aside0.mk (blk_below (g := gb457) (o := .cells #[.int .i64 ((rd_T48 l0 x11_1).f0), .int .i64 ((rd_T48 l0 x11_1).f1.f0), .int .i64 ((rd_T48 l0 x11_1).f1.f1), .int .i64 ((rd_T48 l0 x11_1).f2), .int .i64 ((rd_T48 l0 x11_1).f3.f0), .int .i64 ((rd_T48 l0 x11_1).f3.f1), .int .i64 ((rd_T48 l0 x11_1).f4.f0), .int .i64 ((rd_T48 l0 x11_1).f4.f1), .int .i64 ((rd_T48 l0 x11_1).f5), .int .i64 ((rd_T48 l0 x11_1).f6)] 48 (0, 0)) (bk_ BK457) hb); replace HB := hbs_ hb; clear hb; have hcz20 := blk_cell BK457.out; have hfz20 := blk_frozen BK457.out))
      go_roundg k1
      case measure => have := HK1.out; omega
      case rel => exact ⟨(x5_1), (wrap64 (x11_1 + 1)), rf_, H', ⟨by have := HK1.out; omega⟩, ⟨by (with_reducible repeat (first | apply Kd.R_alloc | apply Kd.R_drewN | apply Kd.R_drew)); exact Kd.R_mono HO_5.out (fun _ hk => trivial)⟩, ⟨bl_⟩⟩
    ·replace c9 := Bool.eq_false_iff.mpr c9
     subst c9
     replace H := ite_f_ H
     have H' := Aside0.mk H
     clear H
     have p456 : 0 ≤ (x11_1 : Int) := od_
     have q456 : x11_1 < (l0.length : Int) := od_
     obtain ⟨ad456, e456, hx456_0, hx456_1, hx456_2, hx456_3, hx456_4, hx456_5, hx456_6, hx456_7, hx456_8, hx456_9⟩ := at_T48 (Kd.C_below HR0.out HB.out) x11_1 p456 q456
     cases e456
     replace p456 := eq_true p456
     replace q456 := eq_true q456
     go_wp2_with (first | ((with_reducible refine gate_dst (N := 7) rfl ?_); refine box_event ?hg (N := 7) ?hd (cs := #[.int .i64 0, .int .i64 0, .int .i64 0, .int .i64 0, .int .i64 0, .int .i64 0, .int .i64 0, .int .i64 0, .int .i64 0, .int .i64 0]) (t := 48) ?hr ?_; (case hd => rfl); (case hg => rfl); (case hr => first | (go_simp; done) | (go_simp; rfl)); intro gb457 hg w21 hbox hb; replace HO_5 := Aside0.mk (Kd.R_below (Kd.R_elderB (by (with_reducible repeat (first | apply Kd.R_alloc | apply Kd.R_drewN | apply Kd.R_drew)); exact HO_5.out) gb457 (Nat.le_of_eq hg.symm)) hb); have BK457 := Aside0.mk (hbox); have GW457 := gs_ hg; have GE457 := gs_ hg; replace HB := hbs_ hb; clear hb hbox hg; have hcz22 := blk_cell BK457.out; have hfz22 := blk_frozen BK457.out) | ((with_reducible refine gate_callee (f := 29) rfl ?_); refine goesC_ (some 16) Try.func29 #[.agg #[.int .i64 ((rd_T48 l0 x11_1).f0), .int .i64 ((rd_T48 l0 x11_1).f1.f0), .int .i64 ((rd_T48 l0 x11_1).f1.f1), .int .i64 ((rd_T48 l0 x11_1).f2), .int .i64 ((rd_T48 l0 x11_1).f3.f0), .int .i64 ((rd_T48 l0 x11_1).f3.f1), .int .i64 ((rd_T48 l0 x11_1).f4.f0), .int .i64 ((rd_T48 l0 x11_1).f4.f1), .int .i64 ((rd_T48 l0 x11_1).f5), .int .i64 ((rd_T48 l0 x11_1).f6)]] ?_; (with_reducible refine (impl_CredOk.calls k1 ((rd_T48 l0 x11_1).f0) ((rd_T48 l0 x11_1).f1.f0) ((rd_T48 l0 x11_1).f1.f1) ((rd_T48 l0 x11_1).f2) ((rd_T48 l0 x11_1).f3.f0) ((rd_T48 l0 x11_1).f3.f1) ((rd_T48 l0 x11_1).f4.f0) ((rd_T48 l0 x11_1).f4.f1) ((rd_T48 l0 x11_1).f5) ((rd_T48 l0 x11_1).f6) false _ A8.out).mono ?_); rintro e w23 ⟨rfl, hb⟩; refine ⟨_, rfl, ?_⟩; replace HO_5 := Aside0.mk (Kd.R_below (by (with_reducible repeat (first | apply Kd.R_alloc | apply Kd.R_drewN | apply Kd.R_drew)); exact (Kd.R_mono (Kd.R_far (p := ⟨gb457, 9, none⟩) (Kd.R_far (p := ⟨gb457, 8, none⟩) (Kd.R_far (p := ⟨gb457, 7, none⟩) (Kd.R_far (p := ⟨gb457, 6, none⟩) (Kd.R_far (p := ⟨gb457, 5, none⟩) (Kd.R_far (p := ⟨gb457, 4, none⟩) (Kd.R_far (p := ⟨gb457, 3, none⟩) (Kd.R_far (p := ⟨gb457, 2, none⟩) (Kd.R_far (p := ⟨gb457, 1, none⟩) (Kd.R_far (p := ⟨gb457, 0, none⟩) (Kd.R_mono HO_5.out (fun k_ hk => (⟨hk, hk.2⟩ : _ ∧ k_ ≠ gb457))) (fun _ hk => hk.2) (.int .i64 ((rd_T48 l0 x11_1).f0))) (fun _ hk => hk.2) (.int .i64 ((rd_T48 l0 x11_1).f1.f0))) (fun _ hk => hk.2) (.int .i64 ((rd_T48 l0 x11_1).f1.f1))) (fun _ hk => hk.2) (.int .i64 ((rd_T48 l0 x11_1).f2))) (fun _ hk => hk.2) (.int .i64 ((rd_T48 l0 x11_1).f3.f0))) (fun _ hk => hk.2) (.int .i64 ((rd_T48 l0 x11_1).f3.f1))) (fun _ hk => hk.2) (.int .i64 ((rd_T48 l0 x11_1).f4.f0))) (fun _ hk => hk.2) (.int .i64 ((rd_T48 l0 x11_1).f4.f1))) (fun _ hk => hk.2) (.int .i64 ((rd_T48 l0 x11_1).f5))) (fun _ hk => hk.2) (.int .i64 ((rd_T48 l0 x11_1).f6))) (fun _ h_ => h_.1))) hb); replace BK457 := Aside0.mk (blk_below (g := gb457) (o := .cells #[.int .i64 ((rd_T48 l0 x11_1).f0), .int .i64 ((rd_T48 l0 x11_1).f1.f0), .int .i64 ((rd_T48 l0 x11_1).f1.f1), .int .i64 ((rd_T48 l0 x11_1).f2), .int .i64 ((rd_T48 l0 x11_1).f3.f0), .int .i64 ((rd_T48 l0 x11_1).f3.f1), .int .i64 ((rd_T48 l0 x11_1).f4.f0), .int .i64 ((rd_T48 l0 x11_1).f4.f1), .int .i64 ((rd_T48 l0 x11_1).f5), .int .i64 ((rd_T48 l0 x11_1).f6)] 48 (0, 0)) (bk_ BK457) hb); replace HB := hbs_ hb; clear hb))
     go_roundg k1
     case measure => have := HK1.out; omega
     case rel => exact ⟨(x5_1), (wrap64 (x11_1 + 1)), rf_, H', ⟨by have := HK1.out; omega⟩, ⟨by (with_reducible repeat (first | apply Kd.R_alloc | apply Kd.R_drewN | apply Kd.R_drew)); exact Kd.R_mono HO_5.out (fun _ hk => trivial)⟩, ⟨bl_⟩⟩
   ·rw [if_neg c5] at H
    have c5b0 : decide (x11_1 < (l0.length : Int)) = false := decide_eq_false c5
    clear c5
    obtain rfl := Option.some.inj H
    go_wp2
    go_ret
    exact ⟨_, eq_, by (with_reducible repeat (first | apply Kd.R_alloc | apply Kd.R_drewN | apply Kd.R_drew)); exact HO_5.out, bl_⟩
def impl_HoldsAt.f (k : Nat) (l0 : List (S48)) (a1_0 : Int) (a1_1 : Int) (a2 : Int) (a3 : Int) : Option (Bool) := (impl_Alive.f k l0 a3).bind fun t463 => ((impl_IsMember.f k t463 a1_0 a1_1 a2).bind fun t466 => (some t466))
set_option maxHeartbeats 8000000 in
set_option maxRecDepth 100000 in
theorem impl_HoldsAt.calls (k : Nat) (A0 : Option Addr) (c0 : Nat) (l0 : List (S48)) (a1_0 : Int) (a1_1 : Int) (a2 : Int) (a3 : Int) (r : Bool) (w : World) (hr0 : Kd.C k48 w A0 l0.length l0) (hc0 : l0.length ≤ c0) (h : impl_HoldsAt.f k l0 a1_0 a1_1 a2 a3 = some r) :
  Calls Try.prog 8 #[.slice A0 l0.length c0, .agg #[.int .i64 a1_0, .int .i64 a1_1], .int .i64 a2, .int .i64 a3] w fun e w' => e = .returned (.bool r) ∧ Below w.heap.size w w' := by
 have hu26 := Try.underlying26
 have HR0 := Aside0.mk hr0
 have HC0 := Aside0.mk hc0
 clear hr0 hc0
 have HB := Aside0.mk (Below.refl w.heap.size w)
 have H : ((impl_Alive.f k l0 a3).bind fun t463 => ((impl_IsMember.f k t463 a1_0 a1_1 a2).bind fun t466 => (some t466))) = some r := h
 clear h
 obtain ⟨t463, A5, H⟩ := bindE_ H
 obtain ⟨t466, A6, H⟩ := bindE_ H
 obtain rfl := Option.some.inj H
 go_enter Try.func8, Try.ntmps8
 try go_wp2_with (first | ((with_reducible refine gate_dst (N := 5) rfl ?_); refine box_event ?hg (N := 5) ?hd (cs := #[.int .i64 a1_0, .int .i64 a1_1]) (t := 26) ?hr ?_; (case hd => rfl); (case hg => rfl); (case hr => first | (go_simp; done) | (go_simp; rfl)); intro gb462 hg w7 hbox hb; have BK462 := Aside0.mk (hbox); have GW462 := gs_ hg; have GE462 := gs_ hg; replace HB := hbs_ hb; clear hb hbox hg))
 replace BK462 := Aside0.mk (blk_drew BK462.out)
 replace HB := Aside0.mk (below_drew1 HB.out)
 refine start_ (n := 7) (S := fun w' => w'.cell? ⟨gb462, 0, none⟩ = some (.int .i64 a1_0) ∧ w'.cell? ⟨gb462, 1, none⟩ = some (.int .i64 a1_1)) (ds := []) #[false, false, false, false, false, false, false] (by kernel_rfl) rfl rfl ⟨(blk_cell BK462.out 0).trans rfl, (blk_cell BK462.out 1).trans rfl⟩ (fun hHeld => ?_)
 generalize w7.drew = w8 at BK462 HB hHeld ⊢
 refine pure_ (i := 0) (N := some 9) (v := ?_) (a' := ?_) #[true, false, false, false, false, false, false] rfl rfl (by kernel_rfl) (fun _ _ _ h => h) (Or.inl ⟨by rfl, ?_⟩) ?_ ?_
 rotate_left
 ·intro w'
  go_simp
  with_reducible rfl
 rotate_left
 ·simp only [Act.put, List.setIfInBounds_toArray, List.set_cons_zero, List.set_cons_succ, i64_w, i32_w]
  rfl
 refine pure_ (i := 1) (N := some 10) (v := ?_) (a' := ?_) #[true, true, false, false, false, false, false] rfl rfl (by kernel_rfl) (fun _ _ _ h => h) (Or.inl ⟨by rfl, ?_⟩) ?_ ?_
 rotate_left
 ·intro w'
  go_simp
  with_reducible rfl
 rotate_left
 ·simp only [Act.put, List.setIfInBounds_toArray, List.set_cons_zero, List.set_cons_succ, i64_w, i32_w]
  rfl
 refine pure_ (i := 4) (N := some 13) (v := ?_) (a' := ?_) #[true, true, false, false, true, false, false] rfl rfl (by kernel_rfl) (fun _ _ _ h => h) (Or.inl ⟨by rfl, ?_⟩) ?_ ?_
 rotate_left
 ·intro w'
  go_simp
  with_reducible rfl
 rotate_left
 ·simp only [Act.put, List.setIfInBounds_toArray, List.set_cons_zero, List.set_cons_succ, i64_w, i32_w]
  rfl
 refine take_ (i := 3) (N := some 12) (v := ?_) (a' := ?_) #[true, true, false, true, true, false, false] rfl rfl (by kernel_rfl) (fun _ _ _ h => h) (Or.inl ⟨by rfl, ?_⟩) hHeld ?_ ?_
 rotate_left
 ·rintro w' ⟨s0, s1⟩
  go_simp
  with_reducible rfl
 rotate_left
 ·simp only [Act.put, List.setIfInBounds_toArray, List.set_cons_zero, List.set_cons_succ, i64_w, i32_w]
  rfl
 refine one_ (i := 2) (N := some 11) #[true, true, true, true, true, false, false] rfl rfl (by kernel_rfl) (by decide) (fun K hK => ?_)
 refine goes_ Try.func26 (by kernel_rfl) rfl #[.slice A0 l0.length c0, .int .i64 a3] (by rfl) rfl rfl (by (try simp only [List.map_toArray, List.map_cons, List.map_nil]); first | done | rfl | (simp only [List.length_drop, List.length_take]; rfl)) ?_
 with_reducible refine (impl_Alive.calls k _ _ l0 a3 t463 _ ?side1 ?side2 A5.out).mono ?_
 (case side1 => repeat (first | exact (Kd.C_below HR0.out HB.out) | (with_reducible refine Kd.C_alloc ?_ _) | (with_reducible refine Kd.C_drewN ?_ _) | (with_reducible refine Kd.C_drew ?_)))
 (case side2 => exact HC0.out)
 rintro e w9 ⟨v464, rfl, ho0, hb⟩
 refine ⟨_, rfl, ?_⟩
 have HO465 := Aside0.mk (Kd.R_lower ho0 bls_)
 replace BK462 := bkb_ BK462 hb
 replace HB := hbs_ hb
 (try clear hb)
 (try clear hb2)
 (try clear hk)
 (try clear hi)
 (try clear ho0)
 obtain ⟨Ao10, co10, eo10⟩ := Kd.R_slice HO465.out
 (first | subst eo10 | (injection eo10 with f1_ f2_ f3_; have f4_ := f1_.symm; have f5_ := f3_.symm; clear f1_ f2_ f3_; subst f4_; subst f5_))
 refine hK.out _ _ ⟨(blk_cell BK462.out 0).trans rfl, (blk_cell BK462.out 1).trans rfl⟩ (fun hHeld => ?_)
 clear hK K
 refine norm_ (a' := ?_) ?_ ?_
 rotate_left
 ·show Act.put _ (some 11) _ = _
  simp only [Act.put, List.setIfInBounds_toArray, List.set_cons_zero, List.set_cons_succ, i64_w, i32_w]
  rfl
 refine one_ (i := 5) (N := some 14) #[true, true, true, true, true, true, false] rfl rfl (by kernel_rfl) (by decide) (fun K hK => ?_)
 refine goes_ Try.func25 (by kernel_rfl) rfl #[.slice Ao10 t463.length co10, .agg #[.int .i64 a1_0, .int .i64 a1_1], .int .i64 a2] (by rfl) rfl rfl (by (try simp only [List.map_toArray, List.map_cons, List.map_nil]); first | done | rfl | (simp only [List.length_drop, List.length_take]; rfl)) ?_
 with_reducible refine (impl_IsMember.calls k _ _ t463 a1_0 a1_1 a2 t466 _ ?side1 ?side2 A6.out).mono ?_
 (case side1 => repeat (first | exact (Kd.R_reads' HO465.out).2.2 | (with_reducible refine Kd.C_alloc ?_ _) | (with_reducible refine Kd.C_drewN ?_ _) | (with_reducible refine Kd.C_drew ?_)))
 (case side2 => exact (Kd.R_reads' HO465.out).2.1)
 rintro e w11 ⟨rfl, hb⟩
 refine ⟨_, rfl, ?_⟩
 replace HO465 := hob_ HO465 hb
 replace BK462 := bkb_ BK462 hb
 replace HB := hbs_ hb
 (try clear hb)
 (try clear hb2)
 (try clear hk)
 (try clear hi)
 refine hK.out _ _ ⟨(blk_cell BK462.out 0).trans rfl, (blk_cell BK462.out 1).trans rfl⟩ (fun hHeld => ?_)
 clear hK K
 refine norm_ (a' := ?_) ?_ ?_
 rotate_left
 ·show Act.put _ (some 14) _ = _
  simp only [Act.put, List.setIfInBounds_toArray, List.set_cons_zero, List.set_cons_succ, i64_w, i32_w]
  rfl
 refine pure_ (i := 6) (N := some 8) (v := ?_) (a' := ?_) #[true, true, true, true, true, true, true] rfl rfl (by kernel_rfl) (fun _ _ _ h => h) (Or.inl ⟨by rfl, ?_⟩) ?_ ?_
 rotate_left
 ·intro w'
  go_simp
  with_reducible rfl
 rotate_left
 ·simp only [Act.put, List.setIfInBounds_toArray, List.set_cons_zero, List.set_cons_succ, i64_w, i32_w]
  rfl
 refine done_ (by kernel_rfl) ?_
 try go_wp2
 go_ret
 exact ⟨eq_, bl_⟩
def spec_l01In.f (a0 : Int) (a1 : Int) (a2 : Int) : Option (Bool) := if a0 ≥ a1 then (some (decide (a0 ≤ a2))) else (some false)
set_option maxHeartbeats 8000000 in
set_option maxRecDepth 100000 in
theorem spec_l01In.calls (a0 : Int) (a1 : Int) (a2 : Int) (r : Bool) (w : World) (h : spec_l01In.f a0 a1 a2 = some r) :
  Calls Try.prog 40 #[.int .i64 a0, .int .i64 a1, .int .i64 a2] w fun e w' => e = .returned (.bool r) ∧ Drawn0 w w' := by
 have H : (if a0 ≥ a1 then (some (decide (a0 ≤ a2))) else (some false)) = some r := h
 clear h
 by_cases c4 : a0 ≥ a1
 ·rw [if_pos c4] at H
  have c4b0 : decide (a1 ≤ a0) = true := decide_eq_true c4
  clear c4
  obtain rfl := Option.some.inj H
  go_enter Try.func40, Try.ntmps40
  go_wp2
  go_ret
  exact ⟨by first | rfl | (simp; done) | (simp [*]; done), by repeat (first | exact Drawn0.refl _ | apply Drawn0.step)⟩
 ·rw [if_neg c4] at H
  have c4b0 : decide (a1 ≤ a0) = false := decide_eq_false c4
  clear c4
  obtain rfl := Option.some.inj H
  go_enter Try.func40, Try.ntmps40
  go_wp2
  go_ret
  exact ⟨by first | rfl | (simp; done) | (simp [*]; done), by repeat (first | exact Drawn0.refl _ | apply Drawn0.step)⟩
def spec_RoleOk.f (a0_0 : Int) (a0_1 : Int) : Option (Bool) := (spec_l01In.f a0_0 0 5).bind fun t468 => (if t468 = true then ((spec_l01In.f a0_1 0 3).bind fun t469 => (some t469)) else (some false))
set_option maxHeartbeats 8000000 in
set_option maxRecDepth 100000 in
theorem spec_RoleOk.calls (a0_0 : Int) (a0_1 : Int) (r : Bool) (w : World) (h : spec_RoleOk.f a0_0 a0_1 = some r) :
  Calls Try.prog 50 #[.agg #[.int .i64 a0_0, .int .i64 a0_1]] w fun e w' => e = .returned (.bool r) ∧ Below w.heap.size w w' := by
 have hu26 := Try.underlying26
 have HB := Aside0.mk (Below.refl w.heap.size w)
 have H : ((spec_l01In.f a0_0 0 5).bind fun t468 => (if t468 = true then ((spec_l01In.f a0_1 0 3).bind fun t469 => (some t469)) else (some false))) = some r := h
 clear h
 obtain ⟨t468, A2, H⟩ := bindE_ H
 by_cases c3 : t468 = true
 ·subst c3
  replace H := ite_t_ H
  obtain ⟨t469, A4, H⟩ := bindE_ H
  obtain rfl := Option.some.inj H
  go_enter Try.func50, Try.ntmps50
  go_wp2_with (first | ((with_reducible refine gate_dst (N := 1) rfl ?_); refine box_event ?hg (N := 1) ?hd (cs := #[.int .i64 a0_0, .int .i64 a0_1]) (t := 26) ?hr ?_; (case hd => rfl); (case hg => rfl); (case hr => first | (go_simp; done) | (go_simp; rfl)); intro gb467 hg w5 hbox hb; have BK467 := Aside0.mk (hbox); have GW467 := gs_ hg; have GE467 := gs_ hg; replace HB := hbs_ hb; clear hb hbox hg; have hcz6 := blk_cell BK467.out; have hfz6 := blk_frozen BK467.out) | ((with_reducible refine gate_callee (f := 40) rfl ?_); refine goesC_ (some 5) Try.func40 #[.int .i64 a0_0, .int .i64 0, .int .i64 5] ?_; (with_reducible refine (spec_l01In.calls a0_0 0 5 true _ A2.out).mono ?_); rintro e w' ⟨rfl, ⟨nd, rfl⟩⟩; refine ⟨_, rfl, ?_⟩) | (go_at_call 40; (with_reducible refine (spec_l01In.calls a0_1 0 3 t469 _ A4.out).mono ?_); rintro e w' ⟨rfl, ⟨nd, rfl⟩⟩))
  go_ret
  exact ⟨eq_, bl_⟩
 ·replace c3 := Bool.eq_false_iff.mpr c3
  subst c3
  replace H := ite_f_ H
  obtain rfl := Option.some.inj H
  go_enter Try.func50, Try.ntmps50
  go_wp2_with (first | ((with_reducible refine gate_dst (N := 1) rfl ?_); refine box_event ?hg (N := 1) ?hd (cs := #[.int .i64 a0_0, .int .i64 a0_1]) (t := 26) ?hr ?_; (case hd => rfl); (case hg => rfl); (case hr => first | (go_simp; done) | (go_simp; rfl)); intro gb467 hg w7 hbox hb; have BK467 := Aside0.mk (hbox); have GW467 := gs_ hg; have GE467 := gs_ hg; replace HB := hbs_ hb; clear hb hbox hg; have hcz8 := blk_cell BK467.out; have hfz8 := blk_frozen BK467.out) | ((with_reducible refine gate_callee (f := 40) rfl ?_); refine goesC_ (some 5) Try.func40 #[.int .i64 a0_0, .int .i64 0, .int .i64 5] ?_; (with_reducible refine (spec_l01In.calls a0_0 0 5 false _ A2.out).mono ?_); rintro e w' ⟨rfl, ⟨nd, rfl⟩⟩; refine ⟨_, rfl, ?_⟩))
  go_ret
  exact ⟨eq_, bl_⟩
def spec_CredOk.j0 : Nat → Bool → Int → Int → Int → Int → Int → Int → Int → Int → Int → Int → Option (Bool)
 | 0, _, _, _, _, _, _, _, _, _, _, _ => none
 | k + 1, x19, x471000, x471001, x471002, x471003, x471004, x471005, x471006, x471007, x471008, x471009 => if x19 = true then (some false) else (if x471000 = 1 then ((spec_l01In.f x471003 0 5).bind fun t475 => (if t475 = true then (if (x471004 == 0 && (x471005 == 0)) = true then (some (x471006 == 0 && (x471007 == 0))) else (some false)) else (some false))) else (if x471000 = 2 then (if x471003 = 0 then ((spec_RoleOk.f x471004 x471005).bind fun t476 => (if t476 = true then (some (x471006 == 0 && (x471007 == 0))) else (some false))) else (some false)) else (if x471000 = 3 then (if x471003 = 0 then ((spec_RoleOk.f x471004 x471005).bind fun t477 => (if t477 = true then ((spec_RoleOk.f x471006 x471007).bind fun t478 => (if t478 = true then (some (x471006 == 0)) else (some false))) else (some false))) else (some false)) else (if x471000 = 4 then (if x471003 = 0 then ((spec_RoleOk.f x471004 x471005).bind fun t479 => (if t479 = true then ((spec_RoleOk.f x471006 x471007).bind fun t480 => (some t480)) else (some false))) else (some false)) else (some false)))))
def spec_CredOk.f (k : Nat) (a0_0 : Int) (a0_1 : Int) (a0_2 : Int) (a0_3 : Int) (a0_4 : Int) (a0_5 : Int) (a0_6 : Int) (a0_7 : Int) (a0_8 : Int) (a0_9 : Int) : Option (Bool) := (spec_RoleOk.f a0_1 a0_2).bind fun t471 => (if t471 = true then ((spec_l01In.f a0_8 1 9999).bind fun t472 => (if t472 = true then ((spec_l01In.f a0_9 0 99).bind fun t473 => (spec_CredOk.j0 k (!t473) a0_0 a0_1 a0_2 a0_3 a0_4 a0_5 a0_6 a0_7 a0_8 a0_9)) else (spec_CredOk.j0 k true a0_0 a0_1 a0_2 a0_3 a0_4 a0_5 a0_6 a0_7 a0_8 a0_9))) else (spec_CredOk.j0 k true a0_0 a0_1 a0_2 a0_3 a0_4 a0_5 a0_6 a0_7 a0_8 a0_9))
set_option maxHeartbeats 8000000 in
set_option maxRecDepth 100000 in
theorem spec_CredOk.calls (k : Nat) (a0_0 : Int) (a0_1 : Int) (a0_2 : Int) (a0_3 : Int) (a0_4 : Int) (a0_5 : Int) (a0_6 : Int) (a0_7 : Int) (a0_8 : Int) (a0_9 : Int) (r : Bool) (w : World) (h : spec_CredOk.f k a0_0 a0_1 a0_2 a0_3 a0_4 a0_5 a0_6 a0_7 a0_8 a0_9 = some r) :
  Calls Try.prog 32 #[.agg #[.int .i64 a0_0, .int .i64 a0_1, .int .i64 a0_2, .int .i64 a0_3, .int .i64 a0_4, .int .i64 a0_5, .int .i64 a0_6, .int .i64 a0_7, .int .i64 a0_8, .int .i64 a0_9]] w fun e w' => e = .returned (.bool r) ∧ Below w.heap.size w w' := by
 have hu48 := Try.underlying48
 have hu26 := Try.underlying26
 have HB := Aside0.mk (Below.refl w.heap.size w)
 have H : ((spec_RoleOk.f a0_1 a0_2).bind fun t471 => (if t471 = true then ((spec_l01In.f a0_8 1 9999).bind fun t472 => (if t472 = true then ((spec_l01In.f a0_9 0 99).bind fun t473 => (spec_CredOk.j0 k (!t473) a0_0 a0_1 a0_2 a0_3 a0_4 a0_5 a0_6 a0_7 a0_8 a0_9)) else (spec_CredOk.j0 k true a0_0 a0_1 a0_2 a0_3 a0_4 a0_5 a0_6 a0_7 a0_8 a0_9))) else (spec_CredOk.j0 k true a0_0 a0_1 a0_2 a0_3 a0_4 a0_5 a0_6 a0_7 a0_8 a0_9))) = some r := h
 clear h
 have HC2 := Aside0.mk H
 clear H
 go_enter Try.func32, Try.ntmps32
 go_upto_region 1 with (first | ((with_reducible refine gate_dst (N := 1) rfl ?_); refine box_event ?hg (N := 1) ?hd (cs := #[.int .i64 a0_0, .int .i64 a0_1, .int .i64 a0_2, .int .i64 a0_3, .int .i64 a0_4, .int .i64 a0_5, .int .i64 a0_6, .int .i64 a0_7, .int .i64 a0_8, .int .i64 a0_9]) (t := 48) ?hr ?_; (case hd => rfl); (case hg => rfl); (case hr => first | (go_simp; done) | (go_simp; rfl)); intro gb470 hg w3 hbox hb; have BK470 := Aside0.mk (hbox); have GW470 := gs_ hg; have GE470 := gs_ hg; replace HB := hbs_ hb; clear hb hbox hg))
 (try simp only [Act.put, List.setIfInBounds_toArray, List.set_cons_zero, List.set_cons_succ])
 go_cut [19] (fun v19 wc => ∃ (kq : Nat) (x19_1 : Bool), v19 = .bool x19_1 ∧ Aside0 (spec_CredOk.j0 kq x19_1 a0_0 a0_1 a0_2 a0_3 a0_4 a0_5 a0_6 a0_7 a0_8 a0_9 = some r) ∧ Aside0 (kq ≤ k) ∧ Aside0 (wc.heap[gb470]? = some (.cells #[.int .i64 a0_0, .int .i64 a0_1, .int .i64 a0_2, .int .i64 a0_3, .int .i64 a0_4, .int .i64 a0_5, .int .i64 a0_6, .int .i64 a0_7, .int .i64 a0_8, .int .i64 a0_9] 48 (0, 0))) ∧ Aside0 (Below w.heap.size w wc))
 case first =>
  have H := HC2.out
  clear HC2
  obtain ⟨t471, A4, H⟩ := bindE_ H
  by_cases c5 : t471 = true
  ·subst c5
   replace H := ite_t_ H
   obtain ⟨t472, A6, H⟩ := bindE_ H
   by_cases c7 : t472 = true
   ·subst c7
    replace H := ite_t_ H
    obtain ⟨t473, A8, H⟩ := bindE_ H
    have H' := Aside0.mk H
    clear H
    have hcz9 := blk_cell BK470.out
    have hfz9 := blk_frozen BK470.out
    go_wp2_with (first | ((with_reducible refine gate_callee (f := 50) rfl ?_); refine goesC_ (some 6) Try.func50 #[.agg #[.int .i64 a0_1, .int .i64 a0_2]] ?_; (with_reducible refine (spec_RoleOk.calls a0_1 a0_2 true _ A4.out).mono ?_); rintro e w10 ⟨rfl, hb⟩; refine ⟨_, rfl, ?_⟩; replace BK470 := bkb_ BK470 hb; replace HB := hbs_ hb; clear hb; have hcz11 := blk_cell BK470.out; have hfz11 := blk_frozen BK470.out) | (go_at_call 40; (with_reducible refine (spec_l01In.calls a0_8 1 9999 true _ A6.out).mono ?_); rintro e w' ⟨rfl, ⟨nd, rfl⟩⟩) | (go_at_call 40; (with_reducible refine (spec_l01In.calls a0_9 0 99 t473 _ A8.out).mono ?_); rintro e w' ⟨rfl, ⟨nd, rfl⟩⟩))
    go_meet
    case rel => exact ⟨_, (!t473), rf_, H', ⟨by first | omega | exact Nat.le_refl _⟩, ⟨bk_ BK470⟩, ⟨bl_⟩⟩
   ·replace c7 := Bool.eq_false_iff.mpr c7
    subst c7
    replace H := ite_f_ H
    have H' := Aside0.mk H
    clear H
    have hcz12 := blk_cell BK470.out
    have hfz12 := blk_frozen BK470.out
    go_wp2_with (first | ((with_reducible refine gate_callee (f := 50) rfl ?_); refine goesC_ (some 6) Try.func50 #[.agg #[.int .i64 a0_1, .int .i64 a0_2]] ?_; (with_reducible refine (spec_RoleOk.calls a0_1 a0_2 true _ A4.out).mono ?_); rintro e w13 ⟨rfl, hb⟩; refine ⟨_, rfl, ?_⟩; replace BK470 := bkb_ BK470 hb; replace HB := hbs_ hb; clear hb; have hcz14 := blk_cell BK470.out; have hfz14 := blk_frozen BK470.out) | (go_at_call 40; (with_reducible refine (spec_l01In.calls a0_8 1 9999 false _ A6.out).mono ?_); rintro e w' ⟨rfl, ⟨nd, rfl⟩⟩))
    go_meet
    case rel => exact ⟨_, (true), rf_, H', ⟨by first | omega | exact Nat.le_refl _⟩, ⟨bk_ BK470⟩, ⟨bl_⟩⟩
  ·replace c5 := Bool.eq_false_iff.mpr c5
   subst c5
   replace H := ite_f_ H
   have H' := Aside0.mk H
   clear H
   have hcz15 := blk_cell BK470.out
   have hfz15 := blk_frozen BK470.out
   go_wp2_with (first | ((with_reducible refine gate_callee (f := 50) rfl ?_); refine goesC_ (some 6) Try.func50 #[.agg #[.int .i64 a0_1, .int .i64 a0_2]] ?_; (with_reducible refine (spec_RoleOk.calls a0_1 a0_2 false _ A4.out).mono ?_); rintro e w16 ⟨rfl, hb⟩; refine ⟨_, rfl, ?_⟩; replace BK470 := bkb_ BK470 hb; replace HB := hbs_ hb; clear hb))
   go_meet
   case rel => exact ⟨_, (true), rf_, H', ⟨by first | omega | exact Nat.le_refl _⟩, ⟨bk_ BK470⟩, ⟨bl_⟩⟩
 case rest =>
  clear HC2
  try clear p2
  try clear c3
  try clear c5
  try clear c7
  try clear hcz11
  try clear hcz12
  try clear hcz14
  try clear hcz15
  try clear hcz9
  try clear hfz11
  try clear hfz12
  try clear hfz14
  try clear hfz15
  try clear hfz9
  obtain ⟨kq, x19_1, rfl, HA, HJ1, BK470, HB⟩ := hcut
  cases kq with
  | zero => exact absurd HA.out (by simp [spec_CredOk.j0])
  | succ kj1 =>
   have H := HA.out
   clear HA
   simp only [spec_CredOk.j0] at H
   by_cases c17 : x19_1 = true
   ·subst c17
    replace H := ite_t_ H
    obtain rfl := Option.some.inj H
    go_wp2
    go_ret
    exact ⟨eq_, bl_⟩
   ·replace c17 := Bool.eq_false_iff.mpr c17
    subst c17
    replace H := ite_f_ H
    by_cases c18 : a0_0 = 1
    ·rw [if_pos c18] at H
     have c18b0 : (a0_0 == 1) = true := beq_iff_eq.mpr c18
     have c18b1 : (a0_0 != 1) = false := bne_eq_false_iff_eq.mpr c18
     clear c18
     obtain ⟨t475, A19, H⟩ := bindE_ H
     by_cases c20 : t475 = true
     ·subst c20
      replace H := ite_t_ H
      by_cases c21 : (a0_4 == 0 && (a0_5 == 0)) = true
      ·rw [if_pos c21] at H
       have c21b0 : (a0_4 == 0 && (a0_5 == 0)) = true := c21
       (try (have c21b1 : decide (a0_4 = 0 && (a0_5 == 0)) = true := by simpa using c21))
       (try (have c21b2 : (a0_4 == 0 && (a0_5 == 0)) = true := by simpa using c21))
       clear c21
       obtain rfl := Option.some.inj H
       go_wp2_with (first | ((with_reducible refine gate_dst (N := 3) rfl ?_); refine box_event ?hg (N := 3) ?hd (cs := #[.int .i64 0, .int .i64 0]) (t := 26) ?hr ?_; (case hd => rfl); (case hg => rfl); (case hr => first | (go_simp; done) | (go_simp; rfl)); intro gb474 hg w22 hbox hb; have BK474 := Aside0.mk (hbox); have GW474 := gs_ hg; have GE474 := gs_ hg; replace HB := hbs_ hb; have NB470_474 := nl_ hg BK470; have NB474_470 := nr_ hg BK470; replace BK470 := bkb_ BK470 hb; clear hb hbox hg; have hnb23 := NB474_470.out; have hnc23 := NB470_474.out; have hcz24 := blk_cell BK474.out; have hfz24 := blk_frozen BK474.out; have hcz25 := blk_cell BK470.out; have hfz25 := blk_frozen BK470.out) | ((with_reducible refine gate_callee (f := 40) rfl ?_); refine goesC_ (some 27) Try.func40 #[.int .i64 a0_3, .int .i64 0, .int .i64 5] ?_; (with_reducible refine (spec_l01In.calls a0_3 0 5 true _ A19.out).mono ?_); rintro e w' ⟨rfl, ⟨nd, rfl⟩⟩; refine ⟨_, rfl, ?_⟩))
       go_ret
       exact ⟨eq_, bl_⟩
      ·rw [if_neg c21] at H
       have c21b0 : (a0_4 == 0 && (a0_5 == 0)) = false := by simpa using c21
       (try (have c21b1 : decide (a0_4 = 0 && (a0_5 == 0)) = false := by simpa using c21))
       (try (have c21b2 : (a0_4 == 0 && (a0_5 == 0)) = false := by simpa using c21))
       (try (have c21b3 : ¬ (a0_4 = 0 && (a0_5 == 0)) := by simpa using c21))
       clear c21
       obtain rfl := Option.some.inj H
       go_wp2_with (first | ((with_reducible refine gate_dst (N := 3) rfl ?_); refine box_event ?hg (N := 3) ?hd (cs := #[.int .i64 0, .int .i64 0]) (t := 26) ?hr ?_; (case hd => rfl); (case hg => rfl); (case hr => first | (go_simp; done) | (go_simp; rfl)); intro gb474 hg w26 hbox hb; have BK474 := Aside0.mk (hbox); have GW474 := gs_ hg; have GE474 := gs_ hg; replace HB := hbs_ hb; have NB470_474 := nl_ hg BK470; have NB474_470 := nr_ hg BK470; replace BK470 := bkb_ BK470 hb; clear hb hbox hg; have hnb27 := NB474_470.out; have hnc27 := NB470_474.out; have hcz28 := blk_cell BK474.out; have hfz28 := blk_frozen BK474.out; have hcz29 := blk_cell BK470.out; have hfz29 := blk_frozen BK470.out) | ((with_reducible refine gate_callee (f := 40) rfl ?_); refine goesC_ (some 27) Try.func40 #[.int .i64 a0_3, .int .i64 0, .int .i64 5] ?_; (with_reducible refine (spec_l01In.calls a0_3 0 5 true _ A19.out).mono ?_); rintro e w' ⟨rfl, ⟨nd, rfl⟩⟩; refine ⟨_, rfl, ?_⟩))
       go_ret
       exact ⟨eq_, bl_⟩
     ·replace c20 := Bool.eq_false_iff.mpr c20
      subst c20
      replace H := ite_f_ H
      obtain rfl := Option.some.inj H
      go_wp2_with (first | ((with_reducible refine gate_dst (N := 3) rfl ?_); refine box_event ?hg (N := 3) ?hd (cs := #[.int .i64 0, .int .i64 0]) (t := 26) ?hr ?_; (case hd => rfl); (case hg => rfl); (case hr => first | (go_simp; done) | (go_simp; rfl)); intro gb474 hg w30 hbox hb; have BK474 := Aside0.mk (hbox); have GW474 := gs_ hg; have GE474 := gs_ hg; replace HB := hbs_ hb; have NB470_474 := nl_ hg BK470; have NB474_470 := nr_ hg BK470; replace BK470 := bkb_ BK470 hb; clear hb hbox hg; have hnb31 := NB474_470.out; have hnc31 := NB470_474.out; have hcz32 := blk_cell BK474.out; have hfz32 := blk_frozen BK474.out; have hcz33 := blk_cell BK470.out; have hfz33 := blk_frozen BK470.out) | ((with_reducible refine gate_callee (f := 40) rfl ?_); refine goesC_ (some 27) Try.func40 #[.int .i64 a0_3, .int .i64 0, .int .i64 5] ?_; (with_reducible refine (spec_l01In.calls a0_3 0 5 false _ A19.out).mono ?_); rintro e w' ⟨rfl, ⟨nd, rfl⟩⟩; refine ⟨_, rfl, ?_⟩))
      go_ret
      exact ⟨eq_, bl_⟩
    ·rw [if_neg c18] at H
     have c18b0 : (a0_0 == 1) = false := beq_eq_false_iff_ne.mpr c18
     have c18b1 : (a0_0 != 1) = true := bne_iff_ne.mpr c18
     by_cases c34 : a0_0 = 2
     ·rw [if_pos c34] at H
      have c34b0 : (a0_0 == 2) = true := beq_iff_eq.mpr c34
      have c34b1 : (a0_0 != 2) = false := bne_eq_false_iff_eq.mpr c34
      clear c34
      by_cases c35 : a0_3 = 0
      ·rw [if_pos c35] at H
       have c35b0 : (a0_3 == 0) = true := beq_iff_eq.mpr c35
       have c35b1 : (a0_3 != 0) = false := bne_eq_false_iff_eq.mpr c35
       clear c35
       obtain ⟨t476, A36, H⟩ := bindE_ H
       by_cases c37 : t476 = true
       ·subst c37
        replace H := ite_t_ H
        obtain rfl := Option.some.inj H
        go_wp2_with (first | ((with_reducible refine gate_dst (N := 3) rfl ?_); refine box_event ?hg (N := 3) ?hd (cs := #[.int .i64 0, .int .i64 0]) (t := 26) ?hr ?_; (case hd => rfl); (case hg => rfl); (case hr => first | (go_simp; done) | (go_simp; rfl)); intro gb474 hg w38 hbox hb; have BK474 := Aside0.mk (hbox); have GW474 := gs_ hg; have GE474 := gs_ hg; replace HB := hbs_ hb; have NB470_474 := nl_ hg BK470; have NB474_470 := nr_ hg BK470; replace BK470 := bkb_ BK470 hb; clear hb hbox hg; have hnb39 := NB474_470.out; have hnc39 := NB470_474.out; have hcz40 := blk_cell BK474.out; have hfz40 := blk_frozen BK474.out; have hcz41 := blk_cell BK470.out; have hfz41 := blk_frozen BK470.out) | (go_at_call 50; (with_reducible refine (spec_RoleOk.calls a0_4 a0_5 true _ A36.out).mono ?_); rintro e w42 ⟨rfl, hb⟩; replace BK470 := Aside0.mk (blk_below (g := gb470) (o := .cells #[.int .i64 a0_0, .int .i64 a0_1, .int .i64 a0_2, .int .i64 a0_3, .int .i64 a0_4, .int .i64 a0_5, .int .i64 a0_6, .int .i64 a0_7, .int .i64 a0_8, .int .i64 a0_9] 48 (0, 0)) (bk_ BK470) hb); replace BK474 := Aside0.mk (blk_below (g := gb474) (o := .cells #[.int .i64 0, .int .i64 0] 26 (0, 0)) (bk_ BK474) hb); replace HB := hbs_ hb; clear hb; have hcz43 := blk_cell BK470.out; have hfz43 := blk_frozen BK470.out; have hcz44 := blk_cell BK474.out; have hfz44 := blk_frozen BK474.out))
        go_ret
        exact ⟨eq_, bl_⟩
       ·replace c37 := Bool.eq_false_iff.mpr c37
        subst c37
        replace H := ite_f_ H
        obtain rfl := Option.some.inj H
        go_wp2_with (first | ((with_reducible refine gate_dst (N := 3) rfl ?_); refine box_event ?hg (N := 3) ?hd (cs := #[.int .i64 0, .int .i64 0]) (t := 26) ?hr ?_; (case hd => rfl); (case hg => rfl); (case hr => first | (go_simp; done) | (go_simp; rfl)); intro gb474 hg w45 hbox hb; have BK474 := Aside0.mk (hbox); have GW474 := gs_ hg; have GE474 := gs_ hg; replace HB := hbs_ hb; have NB470_474 := nl_ hg BK470; have NB474_470 := nr_ hg BK470; replace BK470 := bkb_ BK470 hb; clear hb hbox hg; have hnb46 := NB474_470.out; have hnc46 := NB470_474.out; have hcz47 := blk_cell BK474.out; have hfz47 := blk_frozen BK474.out; have hcz48 := blk_cell BK470.out; have hfz48 := blk_frozen BK470.out) | (go_at_call 50; (with_reducible refine (spec_RoleOk.calls a0_4 a0_5 false _ A36.out).mono ?_); rintro e w49 ⟨rfl, hb⟩; replace BK470 := Aside0.mk (blk_below (g := gb470) (o := .cells #[.int .i64 a0_0, .int .i64 a0_1, .int .i64 a0_2, .int .i64 a0_3, .int .i64 a0_4, .int .i64 a0_5, .int .i64 a0_6, .int .i64 a0_7, .int .i64 a0_8, .int .i64 a0_9] 48 (0, 0)) (bk_ BK470) hb); replace BK474 := Aside0.mk (blk_below (g := gb474) (o := .cells #[.int .i64 0, .int .i64 0] 26 (0, 0)) (bk_ BK474) hb); replace HB := hbs_ hb; clear hb))
        go_ret
        exact ⟨eq_, bl_⟩
      ·rw [if_neg c35] at H
       have c35b0 : (a0_3 == 0) = false := beq_eq_false_iff_ne.mpr c35
       have c35b1 : (a0_3 != 0) = true := bne_iff_ne.mpr c35
       obtain rfl := Option.some.inj H
       go_wp2_with (first | ((with_reducible refine gate_dst (N := 3) rfl ?_); refine box_event ?hg (N := 3) ?hd (cs := #[.int .i64 0, .int .i64 0]) (t := 26) ?hr ?_; (case hd => rfl); (case hg => rfl); (case hr => first | (go_simp; done) | (go_simp; rfl)); intro gb474 hg w50 hbox hb; have BK474 := Aside0.mk (hbox); have GW474 := gs_ hg; have GE474 := gs_ hg; replace HB := hbs_ hb; have NB470_474 := nl_ hg BK470; have NB474_470 := nr_ hg BK470; replace BK470 := bkb_ BK470 hb; clear hb hbox hg; have hnb51 := NB474_470.out; have hnc51 := NB470_474.out; have hcz52 := blk_cell BK474.out; have hfz52 := blk_frozen BK474.out; have hcz53 := blk_cell BK470.out; have hfz53 := blk_frozen BK470.out))
       go_ret
       exact ⟨eq_, bl_⟩
     ·rw [if_neg c34] at H
      have c34b0 : (a0_0 == 2) = false := beq_eq_false_iff_ne.mpr c34
      have c34b1 : (a0_0 != 2) = true := bne_iff_ne.mpr c34
      by_cases c54 : a0_0 = 3
      ·rw [if_pos c54] at H
       have c54b0 : (a0_0 == 3) = true := beq_iff_eq.mpr c54
       have c54b1 : (a0_0 != 3) = false := bne_eq_false_iff_eq.mpr c54
       clear c54
       by_cases c55 : a0_3 = 0
       ·rw [if_pos c55] at H
        have c55b0 : (a0_3 == 0) = true := beq_iff_eq.mpr c55
        have c55b1 : (a0_3 != 0) = false := bne_eq_false_iff_eq.mpr c55
        clear c55
        obtain ⟨t477, A56, H⟩ := bindE_ H
        by_cases c57 : t477 = true
        ·subst c57
         replace H := ite_t_ H
         obtain ⟨t478, A58, H⟩ := bindE_ H
         by_cases c59 : t478 = true
         ·subst c59
          replace H := ite_t_ H
          obtain rfl := Option.some.inj H
          go_wp2_with (first | ((with_reducible refine gate_dst (N := 3) rfl ?_); refine box_event ?hg (N := 3) ?hd (cs := #[.int .i64 0, .int .i64 0]) (t := 26) ?hr ?_; (case hd => rfl); (case hg => rfl); (case hr => first | (go_simp; done) | (go_simp; rfl)); intro gb474 hg w60 hbox hb; have BK474 := Aside0.mk (hbox); have GW474 := gs_ hg; have GE474 := gs_ hg; replace HB := hbs_ hb; have NB470_474 := nl_ hg BK470; have NB474_470 := nr_ hg BK470; replace BK470 := bkb_ BK470 hb; clear hb hbox hg; have hnb61 := NB474_470.out; have hnc61 := NB470_474.out; have hcz62 := blk_cell BK474.out; have hfz62 := blk_frozen BK474.out; have hcz63 := blk_cell BK470.out; have hfz63 := blk_frozen BK470.out) | (go_at_call 50; (with_reducible refine (spec_RoleOk.calls a0_4 a0_5 true _ A56.out).mono ?_); rintro e w64 ⟨rfl, hb⟩; replace BK470 := Aside0.mk (blk_below (g := gb470) (o := .cells #[.int .i64 a0_0, .int .i64 a0_1, .int .i64 a0_2, .int .i64 a0_3, .int .i64 a0_4, .int .i64 a0_5, .int .i64 a0_6, .int .i64 a0_7, .int .i64 a0_8, .int .i64 a0_9] 48 (0, 0)) (bk_ BK470) hb); replace BK474 := Aside0.mk (blk_below (g := gb474) (o := .cells #[.int .i64 0, .int .i64 0] 26 (0, 0)) (bk_ BK474) hb); replace HB := hbs_ hb; clear hb; have hcz65 := blk_cell BK470.out; have hfz65 := blk_frozen BK470.out) | (go_at_call 50; (with_reducible refine (spec_RoleOk.calls a0_6 a0_7 true _ A58.out).mono ?_); rintro e w66 ⟨rfl, hb⟩; replace BK470 := bkb_ BK470 hb; replace BK474 := bkb_ BK474 hb; replace HB := hbs_ hb; clear hb; have hcz67 := blk_cell BK470.out; have hfz67 := blk_frozen BK470.out))
          go_ret
          exact ⟨eq_, bl_⟩
         ·replace c59 := Bool.eq_false_iff.mpr c59
          subst c59
          replace H := ite_f_ H
          obtain rfl := Option.some.inj H
          go_wp2_with (first | ((with_reducible refine gate_dst (N := 3) rfl ?_); refine box_event ?hg (N := 3) ?hd (cs := #[.int .i64 0, .int .i64 0]) (t := 26) ?hr ?_; (case hd => rfl); (case hg => rfl); (case hr => first | (go_simp; done) | (go_simp; rfl)); intro gb474 hg w68 hbox hb; have BK474 := Aside0.mk (hbox); have GW474 := gs_ hg; have GE474 := gs_ hg; replace HB := hbs_ hb; have NB470_474 := nl_ hg BK470; have NB474_470 := nr_ hg BK470; replace BK470 := bkb_ BK470 hb; clear hb hbox hg; have hnb69 := NB474_470.out; have hnc69 := NB470_474.out; have hcz70 := blk_cell BK474.out; have hfz70 := blk_frozen BK474.out; have hcz71 := blk_cell BK470.out; have hfz71 := blk_frozen BK470.out) | (go_at_call 50; (with_reducible refine (spec_RoleOk.calls a0_4 a0_5 true _ A56.out).mono ?_); rintro e w72 ⟨rfl, hb⟩; replace BK470 := Aside0.mk (blk_below (g := gb470) (o := .cells #[.int .i64 a0_0, .int .i64 a0_1, .int .i64 a0_2, .int .i64 a0_3, .int .i64 a0_4, .int .i64 a0_5, .int .i64 a0_6, .int .i64 a0_7, .int .i64 a0_8, .int .i64 a0_9] 48 (0, 0)) (bk_ BK470) hb); replace BK474 := Aside0.mk (blk_below (g := gb474) (o := .cells #[.int .i64 0, .int .i64 0] 26 (0, 0)) (bk_ BK474) hb); replace HB := hbs_ hb; clear hb; have hcz73 := blk_cell BK470.out; have hfz73 := blk_frozen BK470.out) | (go_at_call 50; (with_reducible refine (spec_RoleOk.calls a0_6 a0_7 false _ A58.out).mono ?_); rintro e w74 ⟨rfl, hb⟩; replace BK470 := bkb_ BK470 hb; replace BK474 := bkb_ BK474 hb; replace HB := hbs_ hb; clear hb))
          go_ret
          exact ⟨eq_, bl_⟩
        ·replace c57 := Bool.eq_false_iff.mpr c57
         subst c57
         replace H := ite_f_ H
         obtain rfl := Option.some.inj H
         go_wp2_with (first | ((with_reducible refine gate_dst (N := 3) rfl ?_); refine box_event ?hg (N := 3) ?hd (cs := #[.int .i64 0, .int .i64 0]) (t := 26) ?hr ?_; (case hd => rfl); (case hg => rfl); (case hr => first | (go_simp; done) | (go_simp; rfl)); intro gb474 hg w75 hbox hb; have BK474 := Aside0.mk (hbox); have GW474 := gs_ hg; have GE474 := gs_ hg; replace HB := hbs_ hb; have NB470_474 := nl_ hg BK470; have NB474_470 := nr_ hg BK470; replace BK470 := bkb_ BK470 hb; clear hb hbox hg; have hnb76 := NB474_470.out; have hnc76 := NB470_474.out; have hcz77 := blk_cell BK474.out; have hfz77 := blk_frozen BK474.out; have hcz78 := blk_cell BK470.out; have hfz78 := blk_frozen BK470.out) | (go_at_call 50; (with_reducible refine (spec_RoleOk.calls a0_4 a0_5 false _ A56.out).mono ?_); rintro e w79 ⟨rfl, hb⟩; replace BK470 := Aside0.mk (blk_below (g := gb470) (o := .cells #[.int .i64 a0_0, .int .i64 a0_1, .int .i64 a0_2, .int .i64 a0_3, .int .i64 a0_4, .int .i64 a0_5, .int .i64 a0_6, .int .i64 a0_7, .int .i64 a0_8, .int .i64 a0_9] 48 (0, 0)) (bk_ BK470) hb); replace BK474 := Aside0.mk (blk_below (g := gb474) (o := .cells #[.int .i64 0, .int .i64 0] 26 (0, 0)) (bk_ BK474) hb); replace HB := hbs_ hb; clear hb))
         go_ret
         exact ⟨eq_, bl_⟩
       ·rw [if_neg c55] at H
        have c55b0 : (a0_3 == 0) = false := beq_eq_false_iff_ne.mpr c55
        have c55b1 : (a0_3 != 0) = true := bne_iff_ne.mpr c55
        obtain rfl := Option.some.inj H
        go_wp2_with (first | ((with_reducible refine gate_dst (N := 3) rfl ?_); refine box_event ?hg (N := 3) ?hd (cs := #[.int .i64 0, .int .i64 0]) (t := 26) ?hr ?_; (case hd => rfl); (case hg => rfl); (case hr => first | (go_simp; done) | (go_simp; rfl)); intro gb474 hg w80 hbox hb; have BK474 := Aside0.mk (hbox); have GW474 := gs_ hg; have GE474 := gs_ hg; replace HB := hbs_ hb; have NB470_474 := nl_ hg BK470; have NB474_470 := nr_ hg BK470; replace BK470 := bkb_ BK470 hb; clear hb hbox hg; have hnb81 := NB474_470.out; have hnc81 := NB470_474.out; have hcz82 := blk_cell BK474.out; have hfz82 := blk_frozen BK474.out; have hcz83 := blk_cell BK470.out; have hfz83 := blk_frozen BK470.out))
        go_ret
        exact ⟨eq_, bl_⟩
      ·rw [if_neg c54] at H
       have c54b0 : (a0_0 == 3) = false := beq_eq_false_iff_ne.mpr c54
       have c54b1 : (a0_0 != 3) = true := bne_iff_ne.mpr c54
       by_cases c84 : a0_0 = 4
       ·rw [if_pos c84] at H
        have c84b0 : (a0_0 == 4) = true := beq_iff_eq.mpr c84
        have c84b1 : (a0_0 != 4) = false := bne_eq_false_iff_eq.mpr c84
        clear c84
        by_cases c85 : a0_3 = 0
        ·rw [if_pos c85] at H
         have c85b0 : (a0_3 == 0) = true := beq_iff_eq.mpr c85
         have c85b1 : (a0_3 != 0) = false := bne_eq_false_iff_eq.mpr c85
         clear c85
         obtain ⟨t479, A86, H⟩ := bindE_ H
         by_cases c87 : t479 = true
         ·subst c87
          replace H := ite_t_ H
          obtain ⟨t480, A88, H⟩ := bindE_ H
          obtain rfl := Option.some.inj H
          go_wp2_with (first | ((with_reducible refine gate_dst (N := 3) rfl ?_); refine box_event ?hg (N := 3) ?hd (cs := #[.int .i64 0, .int .i64 0]) (t := 26) ?hr ?_; (case hd => rfl); (case hg => rfl); (case hr => first | (go_simp; done) | (go_simp; rfl)); intro gb474 hg w89 hbox hb; have BK474 := Aside0.mk (hbox); have GW474 := gs_ hg; have GE474 := gs_ hg; replace HB := hbs_ hb; have NB470_474 := nl_ hg BK470; have NB474_470 := nr_ hg BK470; replace BK470 := bkb_ BK470 hb; clear hb hbox hg; have hnb90 := NB474_470.out; have hnc90 := NB470_474.out; have hcz91 := blk_cell BK474.out; have hfz91 := blk_frozen BK474.out; have hcz92 := blk_cell BK470.out; have hfz92 := blk_frozen BK470.out) | (go_at_call 50; (with_reducible refine (spec_RoleOk.calls a0_4 a0_5 true _ A86.out).mono ?_); rintro e w93 ⟨rfl, hb⟩; replace BK470 := Aside0.mk (blk_below (g := gb470) (o := .cells #[.int .i64 a0_0, .int .i64 a0_1, .int .i64 a0_2, .int .i64 a0_3, .int .i64 a0_4, .int .i64 a0_5, .int .i64 a0_6, .int .i64 a0_7, .int .i64 a0_8, .int .i64 a0_9] 48 (0, 0)) (bk_ BK470) hb); replace BK474 := Aside0.mk (blk_below (g := gb474) (o := .cells #[.int .i64 0, .int .i64 0] 26 (0, 0)) (bk_ BK474) hb); replace HB := hbs_ hb; clear hb; have hcz94 := blk_cell BK470.out; have hfz94 := blk_frozen BK470.out) | (go_at_call 50; (with_reducible refine (spec_RoleOk.calls a0_6 a0_7 t480 _ A88.out).mono ?_); rintro e w95 ⟨rfl, hb⟩; replace BK470 := bkb_ BK470 hb; replace BK474 := bkb_ BK474 hb; replace HB := hbs_ hb; clear hb))
          go_ret
          exact ⟨eq_, bl_⟩
         ·replace c87 := Bool.eq_false_iff.mpr c87
          subst c87
          replace H := ite_f_ H
          obtain rfl := Option.some.inj H
          go_wp2_with (first | ((with_reducible refine gate_dst (N := 3) rfl ?_); refine box_event ?hg (N := 3) ?hd (cs := #[.int .i64 0, .int .i64 0]) (t := 26) ?hr ?_; (case hd => rfl); (case hg => rfl); (case hr => first | (go_simp; done) | (go_simp; rfl)); intro gb474 hg w96 hbox hb; have BK474 := Aside0.mk (hbox); have GW474 := gs_ hg; have GE474 := gs_ hg; replace HB := hbs_ hb; have NB470_474 := nl_ hg BK470; have NB474_470 := nr_ hg BK470; replace BK470 := bkb_ BK470 hb; clear hb hbox hg; have hnb97 := NB474_470.out; have hnc97 := NB470_474.out; have hcz98 := blk_cell BK474.out; have hfz98 := blk_frozen BK474.out; have hcz99 := blk_cell BK470.out; have hfz99 := blk_frozen BK470.out) | (go_at_call 50; (with_reducible refine (spec_RoleOk.calls a0_4 a0_5 false _ A86.out).mono ?_); rintro e w100 ⟨rfl, hb⟩; replace BK470 := Aside0.mk (blk_below (g := gb470) (o := .cells #[.int .i64 a0_0, .int .i64 a0_1, .int .i64 a0_2, .int .i64 a0_3, .int .i64 a0_4, .int .i64 a0_5, .int .i64 a0_6, .int .i64 a0_7, .int .i64 a0_8, .int .i64 a0_9] 48 (0, 0)) (bk_ BK470) hb); replace BK474 := Aside0.mk (blk_below (g := gb474) (o := .cells #[.int .i64 0, .int .i64 0] 26 (0, 0)) (bk_ BK474) hb); replace HB := hbs_ hb; clear hb))
          go_ret
          exact ⟨eq_, bl_⟩
        ·rw [if_neg c85] at H
         have c85b0 : (a0_3 == 0) = false := beq_eq_false_iff_ne.mpr c85
         have c85b1 : (a0_3 != 0) = true := bne_iff_ne.mpr c85
         obtain rfl := Option.some.inj H
         go_wp2_with (first | ((with_reducible refine gate_dst (N := 3) rfl ?_); refine box_event ?hg (N := 3) ?hd (cs := #[.int .i64 0, .int .i64 0]) (t := 26) ?hr ?_; (case hd => rfl); (case hg => rfl); (case hr => first | (go_simp; done) | (go_simp; rfl)); intro gb474 hg w101 hbox hb; have BK474 := Aside0.mk (hbox); have GW474 := gs_ hg; have GE474 := gs_ hg; replace HB := hbs_ hb; have NB470_474 := nl_ hg BK470; have NB474_470 := nr_ hg BK470; replace BK470 := bkb_ BK470 hb; clear hb hbox hg; have hnb102 := NB474_470.out; have hnc102 := NB470_474.out; have hcz103 := blk_cell BK474.out; have hfz103 := blk_frozen BK474.out; have hcz104 := blk_cell BK470.out; have hfz104 := blk_frozen BK470.out))
         go_ret
         exact ⟨eq_, bl_⟩
       ·rw [if_neg c84] at H
        have c84b0 : (a0_0 == 4) = false := beq_eq_false_iff_ne.mpr c84
        have c84b1 : (a0_0 != 4) = true := bne_iff_ne.mpr c84
        obtain rfl := Option.some.inj H
        go_wp2_with (first | ((with_reducible refine gate_dst (N := 3) rfl ?_); refine box_event ?hg (N := 3) ?hd (cs := #[.int .i64 0, .int .i64 0]) (t := 26) ?hr ?_; (case hd => rfl); (case hg => rfl); (case hr => first | (go_simp; done) | (go_simp; rfl)); intro gb474 hg w105 hbox hb; have BK474 := Aside0.mk (hbox); have GW474 := gs_ hg; have GE474 := gs_ hg; replace HB := hbs_ hb; have NB470_474 := nl_ hg BK470; have NB474_470 := nr_ hg BK470; replace BK470 := bkb_ BK470 hb; clear hb hbox hg; have hnb106 := NB474_470.out; have hnc106 := NB470_474.out; have hcz107 := blk_cell BK474.out; have hfz107 := blk_frozen BK474.out; have hcz108 := blk_cell BK470.out; have hfz108 := blk_frozen BK470.out))
        go_ret
        exact ⟨eq_, bl_⟩
def spec_l06Has.l0 : Nat → List (S54) → Int → Int → Int → Int → Option (Bool)
 | 0, _, _, _, _, _ => none
 | k + 1, x0, x5, x482000, x482001, x482002 => if x5 < (x0.length : Int) then (if 0 ≤ x5 then (if ((((rd_T54 x0 x5).f0.f0) == x482000 && (((rd_T54 x0 x5).f0.f1) == x482001)) && (((rd_T54 x0 x5).f1) == x482002)) = true then (some true) else (spec_l06Has.l0 k x0 (wrap64 (x5 + 1)) x482000 x482001 x482002)) else (none)) else (some false)
def spec_l06Has.f (k : Nat) (l0 : List (S54)) (a1_0 : Int) (a1_1 : Int) (a1_2 : Int) : Option (Bool) := spec_l06Has.l0 k l0 0 a1_0 a1_1 a1_2
set_option maxHeartbeats 8000000 in
set_option maxRecDepth 100000 in
theorem spec_l06Has.calls (k : Nat) (A0 : Option Addr) (c0 : Nat) (l0 : List (S54)) (a1_0 : Int) (a1_1 : Int) (a1_2 : Int) (r : Bool) (w : World) (hr0 : Kd.C k54 w A0 l0.length l0) (hc0 : l0.length ≤ c0) (h : spec_l06Has.f k l0 a1_0 a1_1 a1_2 = some r) :
  Calls Try.prog 41 #[.slice A0 l0.length c0, .agg #[.int .i64 a1_0, .int .i64 a1_1, .int .i64 a1_2]] w fun e w' => e = .returned (.bool r) ∧ Below w.heap.size w w' := by
 have hu54 := Try.underlying54
 have HR0 := Aside0.mk hr0
 have HC0 := Aside0.mk hc0
 clear hr0 hc0
 have HB := Aside0.mk (Below.refl w.heap.size w)
 have H : (spec_l06Has.l0 k l0 0 a1_0 a1_1 a1_2) = some r := h
 clear h
 have H' := Aside0.mk H
 clear H
 go_enter Try.func41, Try.ntmps41
 go_wp2_with (first | ((with_reducible refine gate_dst (N := 3) rfl ?_); refine box_event ?hg (N := 3) ?hd (cs := #[.int .i64 a1_0, .int .i64 a1_1, .int .i64 a1_2]) (t := 54) ?hr ?_; (case hd => rfl); (case hg => rfl); (case hr => first | (go_simp; done) | (go_simp; rfl)); intro gb481 hg w3 hbox hb; have BK481 := Aside0.mk (hbox); have GW481 := gs_ hg; have GE481 := gs_ hg; replace HB := hbs_ hb; clear hb hbox hg))
 repeat (go_quiet (first | ((with_reducible refine gate_dst (N := 3) rfl ?_); refine box_event ?hg (N := 3) ?hd (cs := #[.int .i64 a1_0, .int .i64 a1_1, .int .i64 a1_2]) (t := 54) ?hr ?_; (case hd => rfl); (case hg => rfl); (case hr => first | (go_simp; done) | (go_simp; rfl)); intro gb481 hg w3 hbox hb; have BK481 := Aside0.mk (hbox); have GW481 := gs_ hg; have GE481 := gs_ hg; replace HB := hbs_ hb; clear hb hbox hg)); try go_wp2_with (first | ((with_reducible refine gate_dst (N := 3) rfl ?_); refine box_event ?hg (N := 3) ?hd (cs := #[.int .i64 a1_0, .int .i64 a1_1, .int .i64 a1_2]) (t := 54) ?hr ?_; (case hd => rfl); (case hg => rfl); (case hr => first | (go_simp; done) | (go_simp; rfl)); intro gb481 hg w3 hbox hb; have BK481 := Aside0.mk (hbox); have GW481 := gs_ hg; have GE481 := gs_ hg; replace HB := hbs_ hb; clear hb hbox hg)))
 go_loopg [5] k (fun kq v5 w' => ∃ (x5_1 : Int), v5 = .int .i64 x5_1 ∧ Aside0 (spec_l06Has.l0 kq l0 x5_1 a1_0 a1_1 a1_2 = some r) ∧ Aside0 (kq ≤ k) ∧ Aside0 (w'.heap[gb481]? = some (.cells #[.int .i64 a1_0, .int .i64 a1_1, .int .i64 a1_2] 54 (0, 0))) ∧ Aside0 (Below w.heap.size w w'))
 case atStart => exact ⟨(0), rf_, H', ⟨Nat.le_refl _⟩, ⟨bk_ BK481⟩, ⟨bl_⟩⟩
 case round =>
  clear H'
  try clear p2
  obtain ⟨x5_1, rfl, HA, HK1, BK481, HB⟩ := hrel
  cases gk with
  | zero => exact absurd HA.out (by simp [spec_l06Has.l0])
  | succ k1 =>
   have H := HA.out
   clear HA
   simp only [spec_l06Has.l0] at H
   by_cases c4 : x5_1 < (l0.length : Int)
   ·rw [if_pos c4] at H
    have c4b0 : decide (x5_1 < (l0.length : Int)) = true := decide_eq_true c4
    clear c4
    obtain ⟨c5b0, H⟩ := ifd_ H
    by_cases c6 : ((((rd_T54 l0 x5_1).f0.f0) == a1_0 && (((rd_T54 l0 x5_1).f0.f1) == a1_1)) && (((rd_T54 l0 x5_1).f1) == a1_2)) = true
    ·rw [if_pos c6] at H
     have c6b0 : ((((rd_T54 l0 x5_1).f0.f0) == a1_0 && (((rd_T54 l0 x5_1).f0.f1) == a1_1)) && (((rd_T54 l0 x5_1).f1) == a1_2)) = true := c6
     clear c6
     obtain rfl := Option.some.inj H
     have p482 : 0 ≤ (x5_1 : Int) := od_
     have q482 : x5_1 < (l0.length : Int) := od_
     obtain ⟨ad482, e482, hx482_0, hx482_1, hx482_2⟩ := at_T54 (Kd.C_below HR0.out HB.out) x5_1 p482 q482
     cases e482
     replace p482 := eq_true p482
     replace q482 := eq_true q482
     have hcz7 := blk_cell BK481.out
     have hfz7 := blk_frozen BK481.out
     go_wp2
     repeat (go_quiet (fail); try go_wp2)
     go_ret
     exact ⟨eq_, bl_⟩
    ·rw [if_neg c6] at H
     have c6b0 : ((((rd_T54 l0 x5_1).f0.f0) == a1_0 && (((rd_T54 l0 x5_1).f0.f1) == a1_1)) && (((rd_T54 l0 x5_1).f1) == a1_2)) = false := by simpa using c6
     clear c6
     have H' := Aside0.mk H
     clear H
     have p482 : 0 ≤ (x5_1 : Int) := od_
     have q482 : x5_1 < (l0.length : Int) := od_
     obtain ⟨ad482, e482, hx482_0, hx482_1, hx482_2⟩ := at_T54 (Kd.C_below HR0.out HB.out) x5_1 p482 q482
     cases e482
     replace p482 := eq_true p482
     replace q482 := eq_true q482
     have hcz8 := blk_cell BK481.out
     have hfz8 := blk_frozen BK481.out
     go_wp2
     repeat (go_quiet (fail); try go_wp2)
     go_roundg k1
     case measure => have := HK1.out; omega
     case rel => exact ⟨(wrap64 (x5_1 + 1)), rf_, H', ⟨by have := HK1.out; omega⟩, ⟨bk_ BK481⟩, ⟨bl_⟩⟩
   ·rw [if_neg c4] at H
    have c4b0 : decide (x5_1 < (l0.length : Int)) = false := decide_eq_false c4
    clear c4
    obtain rfl := Option.some.inj H
    go_wp2
    repeat (go_quiet (fail); try go_wp2)
    go_ret
    exact ⟨eq_, bl_⟩
end Go.Proofs.Yteehgihclnlaoaa.PA
