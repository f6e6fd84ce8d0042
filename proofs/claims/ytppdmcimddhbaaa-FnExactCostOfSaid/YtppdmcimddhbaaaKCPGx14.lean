import Derived.Test.YtppdmcimddhbaaaKCPGx13
-- printed by wip/tools
namespace Go.Proofs.Ytppdmcimddhbaaa.PG
open Go.RowKit Go.Proofs.YtppdmcimddhbaaaW.PrintWords Go.Proofs.YtppdmcimddhbaaaW.PrintLast Go.Proofs.YtppdmcimddhbaaaW.PrintMore
attribute [local go_sem] max2_int min2_int max_two min_two max_three min_three max_four min_four
set_option linter.unusedVariables false
set_option linter.unusedSimpArgs false
attribute [local go_sem high] eqA29
def impl_CostOf.l0 : Nat → Int → List (S142) → Int → Int → Int → Int → Option (Int)
 | 0, _, _, _, _, _, _ => none
 | k + 1, x2, x10, x11, x12, x418000, x418001 => if x12 < x11 then (if 0 ≤ x12 then (if x12 < (x10.length : Int) then (if ((((rd_T142 x10 x12).f0.f0.f0) == x418000 && (((rd_T142 x10 x12).f0.f0.f1) == x418001)) && (((rd_T142 x10 x12).f0.f1) == x2)) = true then (some ((rd_T142 x10 x12).f1)) else (impl_CostOf.l0 k x2 x10 x11 (wrap64 (x12 + 1)) x418000 x418001)) else (none)) else (none)) else (some 0)
def impl_CostOf.f (k : Nat) (l0 : List (S46)) (a1_0 : Int) (a1_1 : Int) (a2 : Int) : Option (Int) := (impl_CostsOf.f k l0).bind fun t418 => (impl_CostOf.l0 k a2 t418 (t418.length : Int) 0 a1_0 a1_1)
set_option maxHeartbeats 8000000 in
set_option maxRecDepth 100000 in
theorem impl_CostOf.calls (k : Nat) (A0 : Option Addr) (c0 : Nat) (l0 : List (S46)) (a1_0 : Int) (a1_1 : Int) (a2 : Int) (r : Int) (w : World) (hr0 : Kd.C k46 w A0 l0.length l0) (hc0 : l0.length ≤ c0) (h : impl_CostOf.f k l0 a1_0 a1_1 a2 = some r) :
  Calls Try.prog 69 #[.slice A0 l0.length c0, .agg #[.int .i64 a1_0, .int .i64 a1_1], .int .i64 a2] w fun e w' => e = .returned (.int .i64 r) ∧ Below w.heap.size w w' := by
 have hu27 := Try.underlying27
 have hu142 := Try.underlying142
 have hu29 := Try.underlying29
 have HR0 := Aside0.mk hr0
 have HC0 := Aside0.mk hc0
 clear hr0 hc0
 have HB := Aside0.mk (Below.refl w.heap.size w)
 have H : ((impl_CostsOf.f k l0).bind fun t418 => (impl_CostOf.l0 k a2 t418 (t418.length : Int) 0 a1_0 a1_1)) = some r := h
 clear h
 obtain ⟨t418, A4, H⟩ := bindE_ H
 have H' := Aside0.mk H
 clear H
 go_enter Try.func69, Try.ntmps69
 go_wp2_with (first | ((with_reducible refine gate_dst (N := 4) rfl ?_); refine box_event ?hg (N := 4) ?hd (cs := #[.int .i64 a1_0, .int .i64 a1_1]) (t := 27) ?hr ?_; (case hd => rfl); (case hg => rfl); (case hr => first | (go_simp; done) | (go_simp; rfl)); intro gb417 hg w5 hbox hb; have BK417 := Aside0.mk (hbox); have GW417 := gs_ hg; have GE417 := gs_ hg; replace HB := hbs_ hb; clear hb hbox hg) | ((with_reducible refine gate_callee (f := 119) rfl ?_); refine goesC_ (some 10) Try.func119 #[.slice A0 l0.length c0] ?_; (with_reducible refine (impl_CostsOf.calls k _ _ l0 t418 _ ?side1 ?side2 A4.out).mono ?_); (case side1 => repeat (first | exact (Kd.C_below HR0.out HB.out) | (with_reducible refine Kd.C_alloc ?_ _) | (with_reducible refine Kd.C_drewN ?_ _) | (with_reducible refine Kd.C_drew ?_))); (case side2 => exact HC0.out); rintro e w6 ⟨v419, rfl, ho0, hb⟩; refine ⟨_, rfl, ?_⟩; have HO420 := Aside0.mk (Kd.R_lower ho0 bls_); replace BK417 := bkb_ BK417 hb; replace HB := hbs_ hb; (try clear hb); (try clear hb2); (try clear hk); (try clear hi); (try clear ho0); obtain ⟨Ao7, co7, eo7⟩ := Kd.R_slice HO420.out; subst eo7))
 go_loopg [12] k (fun kq v12 w' => ∃ (x12_1 : Int), v12 = .int .i64 x12_1 ∧ Aside0 (impl_CostOf.l0 kq a2 t418 (t418.length : Int) x12_1 a1_0 a1_1 = some r) ∧ Aside0 (kq ≤ k) ∧ Aside0 (Kd.R k142 142 w' w.heap.size (fun _ => True) (.slice Ao7 t418.length co7) t418) ∧ Aside0 (w'.heap[gb417]? = some (.cells #[.int .i64 a1_0, .int .i64 a1_1] 27 (0, 0))) ∧ Aside0 (Below w.heap.size w w'))
 case atStart => exact ⟨(0), rf_, H', ⟨Nat.le_refl _⟩, ⟨by (with_reducible repeat (first | apply Kd.R_alloc | apply Kd.R_drewN | apply Kd.R_drew)); exact HO420.out⟩, ⟨bk_ BK417⟩, ⟨bl_⟩⟩
 case round =>
  clear H'
  try clear c1
  try clear p2
  try clear c6
  obtain ⟨x12_1, rfl, HA, HK1, HO_10, BK417, HB⟩ := hrel
  cases gk with
  | zero => exact absurd HA.out (by simp [impl_CostOf.l0])
  | succ k1 =>
   have H := HA.out
   clear HA
   simp only [impl_CostOf.l0] at H
   by_cases c8 : x12_1 < (t418.length : Int)
   ·rw [if_pos c8] at H
    have c8b0 : decide (x12_1 < (t418.length : Int)) = true := decide_eq_true c8
    clear c8
    obtain ⟨c9b0, H⟩ := ifd_ H
    obtain ⟨c10b0, H⟩ := ifd_ H
    by_cases c11 : ((((rd_T142 t418 x12_1).f0.f0.f0) == a1_0 && (((rd_T142 t418 x12_1).f0.f0.f1) == a1_1)) && (((rd_T142 t418 x12_1).f0.f1) == a2)) = true
    ·rw [if_pos c11] at H
     have c11b0 : ((((rd_T142 t418 x12_1).f0.f0.f0) == a1_0 && (((rd_T142 t418 x12_1).f0.f0.f1) == a1_1)) && (((rd_T142 t418 x12_1).f0.f1) == a2)) = true := c11
     clear c11
     obtain rfl := Option.some.inj H
     have p421 : 0 ≤ (x12_1 : Int) := od_
     have q421 : x12_1 < (t418.length : Int) := od_
     obtain ⟨ad421, e421, hx421_0, hx421_1, hx421_2, hx421_3⟩ := at_T142 (Kd.R_reads' HO_10.out).2.2 x12_1 p421 q421
     cases e421
     replace p421 := eq_true p421
     replace q421 := eq_true q421
     go_wp2_with (first | ((with_reducible refine gate_dst (N := 8) rfl ?_); refine box_event ?hg (N := 8) ?hd (cs := #[.int .i64 0, .int .i64 0, .int .i64 0, .int .i64 0]) (t := 142) ?hr ?_; (case hd => rfl); (case hg => rfl); (case hr => first | (go_simp; done) | (go_simp; rfl)); intro gb422 hg w12 hbox hb; replace HO_10 := Aside0.mk (Kd.R_below (Kd.R_elderB (by (with_reducible repeat (first | apply Kd.R_alloc | apply Kd.R_drewN | apply Kd.R_drew)); exact HO_10.out) gb422 (Nat.le_of_eq hg.symm)) hb); have BK422 := Aside0.mk (hbox); have GW422 := gs_ hg; have GE422 := gs_ hg; replace HB := hbs_ hb; have NB417_422 := nl_ hg BK417; have NB422_417 := nr_ hg BK417; replace BK417 := bkb_ BK417 hb; clear hb hbox hg; have hnb13 := NB422_417.out; have hnc13 := NB417_422.out; have hcz14 := blk_cell BK422.out; have hfz14 := blk_frozen BK422.out; have hcz15 := blk_cell BK417.out; have hfz15 := blk_frozen BK417.out))
     go_ret
     exact ⟨eq_, bl_⟩
    ·rw [if_neg c11] at H
     have c11b0 : ((((rd_T142 t418 x12_1).f0.f0.f0) == a1_0 && (((rd_T142 t418 x12_1).f0.f0.f1) == a1_1)) && (((rd_T142 t418 x12_1).f0.f1) == a2)) = false := by simpa using c11
     clear c11
     have H' := Aside0.mk H
     clear H
     have p421 : 0 ≤ (x12_1 : Int) := od_
     have q421 : x12_1 < (t418.length : Int) := od_
     obtain ⟨ad421, e421, hx421_0, hx421_1, hx421_2, hx421_3⟩ := at_T142 (Kd.R_reads' HO_10.out).2.2 x12_1 p421 q421
     cases e421
     replace p421 := eq_true p421
     replace q421 := eq_true q421
     go_wp2_with (first | ((with_reducible refine gate_dst (N := 8) rfl ?_); refine box_event ?hg (N := 8) ?hd (cs := #[.int .i64 0, .int .i64 0, .int .i64 0, .int .i64 0]) (t := 142) ?hr ?_; (case hd => rfl); (case hg => rfl); (case hr => first | (go_simp; done) | (go_simp; rfl)); intro gb422 hg w16 hbox hb; replace HO_10 := Aside0.mk (Kd.R_below (Kd.R_elderB (by (with_reducible repeat (first | apply Kd.R_alloc | apply Kd.R_drewN | apply Kd.R_drew)); exact HO_10.out) gb422 (Nat.le_of_eq hg.symm)) hb); have BK422 := Aside0.mk (hbox); have GW422 := gs_ hg; have GE422 := gs_ hg; replace HB := hbs_ hb; have NB417_422 := nl_ hg BK417; have NB422_417 := nr_ hg BK417; replace BK417 := bkb_ BK417 hb; clear hb hbox hg; have hnb17 := NB422_417.out; have hnc17 := NB417_422.out; have hcz18 := blk_cell BK422.out; have hfz18 := blk_frozen BK422.out; have hcz19 := blk_cell BK417.out; have hfz19 := blk_frozen BK417.out))
     go_roundg k1
     case measure => have := HK1.out; omega
     case rel => exact ⟨(wrap64 (x12_1 + 1)), rf_, H', ⟨by have := HK1.out; omega⟩, ⟨by (with_reducible repeat (first | apply Kd.R_alloc | apply Kd.R_drewN | apply Kd.R_drew)); exact Kd.R_mono (Kd.R_far (p := ⟨gb422, 3, none⟩) (Kd.R_far (p := ⟨gb422, 2, none⟩) (Kd.R_far (p := ⟨gb422, 1, none⟩) (Kd.R_far (p := ⟨gb422, 0, none⟩) (Kd.R_mono HO_10.out (fun k_ hk => (⟨hk, hk.2⟩ : _ ∧ k_ ≠ gb422))) (fun _ hk => hk.2) (.int .i64 ((rd_T142 t418 x12_1).f0.f0.f0))) (fun _ hk => hk.2) (.int .i64 ((rd_T142 t418 x12_1).f0.f0.f1))) (fun _ hk => hk.2) (.int .i64 ((rd_T142 t418 x12_1).f0.f1))) (fun _ hk => hk.2) (.int .i64 ((rd_T142 t418 x12_1).f1))) (fun _ hk => trivial)⟩, ⟨bk_ BK417⟩, ⟨bl_⟩⟩
   ·rw [if_neg c8] at H
    have c8b0 : decide (x12_1 < (t418.length : Int)) = false := decide_eq_false c8
    clear c8
    obtain rfl := Option.some.inj H
    go_wp2
    go_ret
    exact ⟨eq_, bl_⟩
def laws_FnExactCostOf.f (k : Nat) (l0 : List (S111)) (a1_0 : Int) (a1_1 : Int) (a2 : Int) : Option (Bool) := (laws_szCredS.f l0 1048576).bind fun t424 => (if t424 < 0 then (some true) else ((laws_toCredS.f k l0).bind fun t425 => ((laws_toRole.f a1_0 a1_1).bind fun bt428 => ((spec_CostOf.f k t425 bt428.1 bt428.2 a2).bind fun t430 => ((laws_toCredS.f k l0).bind fun t431 => ((laws_toRole.f a1_0 a1_1).bind fun bt434 => ((impl_CostOf.f k t431 bt434.1 bt434.2 a2).bind fun t436 => (if t436 = t430 then ((laws_toCredS.f k l0).bind fun t437 => ((laws_eqCredS.f k t431 t437).bind fun t440 => (if t440 = true then (some true) else (some false)))) else (some false)))))))))
set_option maxHeartbeats 8000000 in
set_option maxRecDepth 100000 in
theorem laws_FnExactCostOf.calls (k : Nat) (A0 : Option Addr) (c0 : Nat) (l0 : List (S111)) (a1_0 : Int) (a1_1 : Int) (a2 : Int) (r : Bool) (w : World) (hr0 : Kd.C k111 w A0 l0.length l0) (hc0 : l0.length ≤ c0) (h : laws_FnExactCostOf.f k l0 a1_0 a1_1 a2 = some r) :
  Calls Try.prog 13 #[.slice A0 l0.length c0, .agg #[.int .i64 a1_0, .int .i64 a1_1], .int .i64 a2] w fun e w' => e = .returned (.bool r) ∧ Below w.heap.size w w' := by
 have hu58 := Try.underlying58
 have HR0 := Aside0.mk hr0
 have HC0 := Aside0.mk hc0
 clear hr0 hc0
 have HB := Aside0.mk (Below.refl w.heap.size w)
 have H : ((laws_szCredS.f l0 1048576).bind fun t424 => (if t424 < 0 then (some true) else ((laws_toCredS.f k l0).bind fun t425 => ((laws_toRole.f a1_0 a1_1).bind fun bt428 => ((spec_CostOf.f k t425 bt428.1 bt428.2 a2).bind fun t430 => ((laws_toCredS.f k l0).bind fun t431 => ((laws_toRole.f a1_0 a1_1).bind fun bt434 => ((impl_CostOf.f k t431 bt434.1 bt434.2 a2).bind fun t436 => (if t436 = t430 then ((laws_toCredS.f k l0).bind fun t437 => ((laws_eqCredS.f k t431 t437).bind fun t440 => (if t440 = true then (some true) else (some false)))) else (some false)))))))))) = some r := h
 clear h
 obtain ⟨t424, A4, H⟩ := bindE_ H
 by_cases c5 : t424 < 0
 ·rw [if_pos c5] at H
  have c5b0 : decide (t424 < 0) = true := decide_eq_true c5
  clear c5
  obtain rfl := Option.some.inj H
  go_enter Try.func13, Try.ntmps13
  go_wp2_with (first | ((with_reducible refine gate_dst (N := 4) rfl ?_); refine box_event ?hg (N := 4) ?hd (cs := #[.int .i64 a1_0, .int .i64 a1_1]) (t := 58) ?hr ?_; (case hd => rfl); (case hg => rfl); (case hr => first | (go_simp; done) | (go_simp; rfl)); intro gb423 hg w6 hbox hb; have BK423 := Aside0.mk (hbox); have GW423 := gs_ hg; have GE423 := gs_ hg; replace HB := hbs_ hb; clear hb hbox hg) | ((with_reducible refine gate_callee (f := 36) rfl ?_); refine goesC_ (some 13) Try.func36 #[.slice A0 l0.length c0, .int .i64 1048576] ?_; (with_reducible refine (laws_szCredS.calls _ _ l0 1048576 t424 _ ?side1 ?side2 A4.out).mono ?_); (case side1 => repeat (first | exact (Kd.C_below HR0.out HB.out) | (with_reducible refine Kd.C_alloc ?_ _) | (with_reducible refine Kd.C_drewN ?_ _) | (with_reducible refine Kd.C_drew ?_))); (case side2 => exact HC0.out); rintro e w' ⟨rfl, ⟨nd, rfl⟩⟩; refine ⟨_, rfl, ?_⟩))
  go_ret
  exact ⟨eq_, bl_⟩
 ·rw [if_neg c5] at H
  have c5b0 : decide (t424 < 0) = false := decide_eq_false c5
  clear c5
  obtain ⟨t425, A7, H⟩ := bindE_ H
  obtain ⟨⟨t428, t429⟩, A8, H⟩ := bindE_ H
  replace H : ((spec_CostOf.f k t425 t428 t429 a2).bind fun t430 => ((laws_toCredS.f k l0).bind fun t431 => ((laws_toRole.f a1_0 a1_1).bind fun bt434 => ((impl_CostOf.f k t431 bt434.1 bt434.2 a2).bind fun t436 => (if t436 = t430 then ((laws_toCredS.f k l0).bind fun t437 => ((laws_eqCredS.f k t431 t437).bind fun t440 => (if t440 = true then (some true) else (some false)))) else (some false)))))) = some r := H
  obtain ⟨t430, A9, H⟩ := bindE_ H
  obtain ⟨t431, A10, H⟩ := bindE_ H
  obtain ⟨⟨t434, t435⟩, A11, H⟩ := bindE_ H
  replace H : ((impl_CostOf.f k t431 t434 t435 a2).bind fun t436 => (if t436 = t430 then ((laws_toCredS.f k l0).bind fun t437 => ((laws_eqCredS.f k t431 t437).bind fun t440 => (if t440 = true then (some true) else (some false)))) else (some false))) = some r := H
  obtain ⟨t436, A12, H⟩ := bindE_ H
  by_cases c13 : t436 = t430
  ·rw [if_pos c13] at H
   have c13b0 : (t436 == t430) = true := beq_iff_eq.mpr c13
   have c13b1 : (t436 != t430) = false := bne_eq_false_iff_eq.mpr c13
   clear c13
   obtain ⟨t437, A14, H⟩ := bindE_ H
   obtain ⟨t440, A15, H⟩ := bindE_ H
   by_cases c16 : t440 = true
   ·subst c16
    replace H := ite_t_ H
    obtain rfl := Option.some.inj H
    go_enter Try.func13, Try.ntmps13
    try go_wp2_with (first | ((with_reducible refine gate_dst (N := 4) rfl ?_); refine box_event ?hg (N := 4) ?hd (cs := #[.int .i64 a1_0, .int .i64 a1_1]) (t := 58) ?hr ?_; (case hd => rfl); (case hg => rfl); (case hr => first | (go_simp; done) | (go_simp; rfl)); intro gb423 hg w17 hbox hb; have BK423 := Aside0.mk (hbox); have GW423 := gs_ hg; have GE423 := gs_ hg; replace HB := hbs_ hb; clear hb hbox hg) | ((with_reducible refine gate_callee (f := 36) rfl ?_); refine goesC_ (some 13) Try.func36 #[.slice A0 l0.length c0, .int .i64 1048576] ?_; (with_reducible refine (laws_szCredS.calls _ _ l0 1048576 t424 _ ?side1 ?side2 A4.out).mono ?_); (case side1 => repeat (first | exact (Kd.C_below HR0.out HB.out) | (with_reducible refine Kd.C_alloc ?_ _) | (with_reducible refine Kd.C_drewN ?_ _) | (with_reducible refine Kd.C_drew ?_))); (case side2 => exact HC0.out); rintro e w' ⟨rfl, ⟨nd, rfl⟩⟩; refine ⟨_, rfl, ?_⟩))
    (try (rw [drewN_self w17]; generalize hq_ : World.drewN w17 _ = w17; have n0_ : Aside0 (w17.heap[gb423]? = some (.cells #[.int .i64 a1_0, .int .i64 a1_1] 58 (0, 0))) := ⟨by rw [← hq_]; exact (bk_ BK423)⟩; have n1_ : Aside0 (Below w.heap.size w w17) := ⟨by rw [← hq_]; exact bl_⟩; clear BK423 HB hq_; have BK423 := n0_; have HB := n1_; clear n0_ n1_))
    replace BK423 := Aside0.mk (blk_drew BK423.out)
    replace HB := Aside0.mk (below_drew1 HB.out)
    refine start_ (n := 7) (S := fun w' => w'.cell? ⟨gb423, 0, none⟩ = some (.int .i64 a1_0) ∧ w'.cell? ⟨gb423, 1, none⟩ = some (.int .i64 a1_1)) (ds := []) #[false, false, false, false, false, false, false] (by kernel_rfl) rfl rfl ⟨(blk_cell BK423.out 0).trans rfl, (blk_cell BK423.out 1).trans rfl⟩ (fun hHeld => ?_)
    generalize w17.drew = w18 at BK423 HB hHeld ⊢
    refine pure_ (i := 0) (N := some 16) (v := ?_) (a' := ?_) #[true, false, false, false, false, false, false] rfl rfl (by kernel_rfl) (fun _ _ _ h => h) (Or.inl ⟨by rfl, ?_⟩) ?_ ?_
    rotate_left
    ·intro w'
     go_simp
     with_reducible rfl
    rotate_left
    ·simp only [Act.put, List.setIfInBounds_toArray, List.set_cons_zero, List.set_cons_succ, i64_w, i32_w]
     rfl
    refine pure_ (i := 4) (N := some 20) (v := ?_) (a' := ?_) #[true, false, false, false, true, false, false] rfl rfl (by kernel_rfl) (fun _ _ _ h => h) (Or.inl ⟨by rfl, ?_⟩) ?_ ?_
    rotate_left
    ·intro w'
     go_simp
     with_reducible rfl
    rotate_left
    ·simp only [Act.put, List.setIfInBounds_toArray, List.set_cons_zero, List.set_cons_succ, i64_w, i32_w]
     rfl
    refine take_ (i := 2) (N := some 18) (v := ?_) (a' := ?_) #[true, false, true, false, true, false, false] rfl rfl (by kernel_rfl) (fun _ _ _ h => h) (Or.inl ⟨by rfl, ?_⟩) hHeld ?_ ?_
    rotate_left
    ·rintro w' ⟨s0, s1⟩
     go_simp
     with_reducible rfl
    rotate_left
    ·simp only [Act.put, List.setIfInBounds_toArray, List.set_cons_zero, List.set_cons_succ, i64_w, i32_w]
     rfl
    refine one_ (i := 1) (N := some 17) #[true, true, true, false, true, false, false] rfl rfl (by kernel_rfl) (by decide) (fun K hK => ?_)
    refine goes_ Try.func38 (by kernel_rfl) rfl #[.slice A0 l0.length c0] (by rfl) rfl rfl (by (try simp only [List.map_toArray, List.map_cons, List.map_nil]); first | done | rfl | (simp only [List.length_drop, List.length_take]; rfl)) ?_
    with_reducible refine (laws_toCredS.calls k _ _ l0 t425 _ ?side1 ?side2 A7.out).mono ?_
    (case side1 => repeat (first | exact (Kd.C_below HR0.out HB.out) | (with_reducible refine Kd.C_alloc ?_ _) | (with_reducible refine Kd.C_drewN ?_ _) | (with_reducible refine Kd.C_drew ?_)))
    (case side2 => exact HC0.out)
    rintro e w19 ⟨v426, rfl, ho0, hb⟩
    refine ⟨_, rfl, ?_⟩
    have HO427 := Aside0.mk (Kd.R_lower ho0 bls_)
    replace BK423 := bkb_ BK423 hb
    replace HB := hbs_ hb
    (try clear hb)
    (try clear hb2)
    (try clear hk)
    (try clear hi)
    (try clear ho0)
    refine hK.out _ _ ⟨(blk_cell BK423.out 0).trans rfl, (blk_cell BK423.out 1).trans rfl⟩ (fun hHeld => ?_)
    clear hK K
    refine norm_ (a' := ?_) ?_ ?_
    rotate_left
    ·show Act.put _ (some 17) _ = _
     simp only [Act.put, List.setIfInBounds_toArray, List.set_cons_zero, List.set_cons_succ, i64_w, i32_w]
     rfl
    refine one_ (i := 3) (N := some 19) #[true, true, true, true, true, false, false] rfl rfl (by kernel_rfl) (by decide) (fun K hK => ?_)
    refine goes_ Try.func39 (by kernel_rfl) rfl #[.agg #[.int .i64 a1_0, .int .i64 a1_1]] (by rfl) rfl rfl (by (try simp only [List.map_toArray, List.map_cons, List.map_nil]); first | done | rfl | (simp only [List.length_drop, List.length_take]; rfl)) ?_
    with_reducible refine (laws_toRole.calls a1_0 a1_1 t428 t429 _ A8.out).mono ?_
    rintro e w20 ⟨rfl, hb⟩
    refine ⟨_, rfl, ?_⟩
    replace HO427 := hob_ HO427 hb
    replace BK423 := bkb_ BK423 hb
    replace HB := hbs_ hb
    (try clear hb)
    (try clear hb2)
    (try clear hk)
    (try clear hi)
    obtain ⟨Ao21, co21, eo21⟩ := Kd.R_slice HO427.out
    (first | subst eo21 | (injection eo21 with f1_ f2_ f3_; have f4_ := f1_.symm; have f5_ := f3_.symm; clear f1_ f2_ f3_; subst f4_; subst f5_))
    refine hK.out _ _ ⟨(blk_cell BK423.out 0).trans rfl, (blk_cell BK423.out 1).trans rfl⟩ (fun hHeld => ?_)
    clear hK K
    refine norm_ (a' := ?_) ?_ ?_
    rotate_left
    ·show Act.put _ (some 19) _ = _
     simp only [Act.put, List.setIfInBounds_toArray, List.set_cons_zero, List.set_cons_succ, i64_w, i32_w]
     rfl
    refine one_ (i := 5) (N := some 21) #[true, true, true, true, true, true, false] rfl rfl (by kernel_rfl) (by decide) (fun K hK => ?_)
    refine goes_ Try.func68 (by kernel_rfl) rfl #[.slice Ao21 t425.length co21, .agg #[.int .i64 t428, .int .i64 t429], .int .i64 a2] (by rfl) rfl rfl (by (try simp only [List.map_toArray, List.map_cons, List.map_nil]); first | done | rfl | (simp only [List.length_drop, List.length_take]; rfl)) ?_
    with_reducible refine (spec_CostOf.calls k _ _ t425 t428 t429 a2 t430 _ ?side1 ?side2 A9.out).mono ?_
    (case side1 => repeat (first | exact (Kd.R_reads' HO427.out).2.2 | (with_reducible refine Kd.C_alloc ?_ _) | (with_reducible refine Kd.C_drewN ?_ _) | (with_reducible refine Kd.C_drew ?_)))
    (case side2 => exact (Kd.R_reads' HO427.out).2.1)
    rintro e w22 ⟨rfl, hb⟩
    refine ⟨_, rfl, ?_⟩
    replace HO427 := hob_ HO427 hb
    replace BK423 := bkb_ BK423 hb
    replace HB := hbs_ hb
    (try clear hb)
    (try clear hb2)
    (try clear hk)
    (try clear hi)
    refine hK.out _ _ ⟨(blk_cell BK423.out 0).trans rfl, (blk_cell BK423.out 1).trans rfl⟩ (fun hHeld => ?_)
    clear hK K
    refine norm_ (a' := ?_) ?_ ?_
    rotate_left
    ·show Act.put _ (some 21) _ = _
     simp only [Act.put, List.setIfInBounds_toArray, List.set_cons_zero, List.set_cons_succ, i64_w, i32_w]
     rfl
    refine pure_ (i := 6) (N := some 8) (v := ?_) (a' := ?_) #[true, true, true, true, true, true, true] rfl rfl (by kernel_rfl) (fun _ _ _ h => h) (Or.inl ⟨by rfl, ?_⟩) ?_ ?_
    rotate_left
    ·intro w'
     go_simp
     with_reducible rfl
    rotate_left
    ·simp only [Act.put, List.setIfInBounds_toArray, List.set_cons_zero, List.set_cons_succ, i64_w, i32_w]
     rfl
    refine done_ (by kernel_rfl) ?_
    try go_wp2_with (first | ((with_reducible refine gate_callee (f := 38) rfl ?_); refine goesC_ (some 23) Try.func38 #[.slice A0 l0.length c0] ?_; (with_reducible refine (laws_toCredS.calls k _ _ l0 t431 _ ?side1 ?side2 A10.out).mono ?_); (case side1 => repeat (first | exact (Kd.C_below HR0.out HB.out) | (with_reducible refine Kd.C_alloc ?_ _) | (with_reducible refine Kd.C_drewN ?_ _) | (with_reducible refine Kd.C_drew ?_))); (case side2 => exact HC0.out); rintro e w23 ⟨v432, rfl, ho0, hb⟩; refine ⟨_, rfl, ?_⟩; have HO433 := Aside0.mk (Kd.R_lower (Kd.R_new' ho0 (Kd.R_lt (by (with_reducible repeat (first | apply Kd.R_alloc | apply Kd.R_drewN | apply Kd.R_drew)); exact HO427.out))) bls_); replace HO427 := Aside0.mk (Kd.R_elder' (by (with_reducible repeat (first | apply Kd.R_alloc | apply Kd.R_drewN | apply Kd.R_drew)); exact HO427.out) (Kd.R_base ho0) hb); replace BK423 := bkb_ BK423 hb; replace HB := hbs_ hb; (try clear hb); (try clear hb2); (try clear hk); (try clear hi); (try clear ho0); have hcz24 := blk_cell BK423.out; have hfz24 := blk_frozen BK423.out) | ((with_reducible refine gate_callee (f := 39) rfl ?_); refine goesC_ (some 26) Try.func39 #[.agg #[.int .i64 a1_0, .int .i64 a1_1]] ?_; (with_reducible refine (laws_toRole.calls a1_0 a1_1 t434 t435 _ A11.out).mono ?_); rintro e w25 ⟨rfl, hb⟩; refine ⟨_, rfl, ?_⟩; replace HO427 := hob_ HO427 hb; replace HO433 := hob_ HO433 hb; replace BK423 := bkb_ BK423 hb; replace HB := hbs_ hb; clear hb; obtain ⟨Ao26, co26, eo26⟩ := Kd.R_slice HO433.out; subst eo26) | ((with_reducible refine gate_callee (f := 69) rfl ?_); refine goesC_ (some 28) Try.func69 #[.slice Ao26 t431.length co26, .agg #[.int .i64 t434, .int .i64 t435], .int .i64 a2] ?_; (with_reducible refine (impl_CostOf.calls k _ _ t431 t434 t435 a2 t436 _ ?side1 ?side2 A12.out).mono ?_); (case side1 => repeat (first | exact (Kd.R_reads' HO433.out).2.2 | (with_reducible refine Kd.C_alloc ?_ _) | (with_reducible refine Kd.C_drewN ?_ _) | (with_reducible refine Kd.C_drew ?_))); (case side2 => exact (Kd.R_reads' HO433.out).2.1); rintro e w27 ⟨rfl, hb⟩; refine ⟨_, rfl, ?_⟩; replace HO427 := hob_ HO427 hb; replace HO433 := hob_ HO433 hb; replace BK423 := bkb_ BK423 hb; replace HB := hbs_ hb; clear hb) | ((with_reducible refine gate_callee (f := 38) rfl ?_); refine goesC_ (some 34) Try.func38 #[.slice A0 l0.length c0] ?_; (with_reducible refine (laws_toCredS.calls k _ _ l0 t437 _ ?side1 ?side2 A14.out).mono ?_); (case side1 => repeat (first | exact (Kd.C_below HR0.out HB.out) | (with_reducible refine Kd.C_alloc ?_ _) | (with_reducible refine Kd.C_drewN ?_ _) | (with_reducible refine Kd.C_drew ?_))); (case side2 => exact HC0.out); rintro e w28 ⟨v438, rfl, ho0, hb⟩; refine ⟨_, rfl, ?_⟩; have HO439 := Aside0.mk (Kd.R_lower (Kd.R_new' (Kd.R_new' ho0 (Kd.R_lt (by (with_reducible repeat (first | apply Kd.R_alloc | apply Kd.R_drewN | apply Kd.R_drew)); exact HO427.out))) (Kd.R_lt (by (with_reducible repeat (first | apply Kd.R_alloc | apply Kd.R_drewN | apply Kd.R_drew)); exact HO433.out))) bls_); replace HO427 := Aside0.mk (Kd.R_elder' (by (with_reducible repeat (first | apply Kd.R_alloc | apply Kd.R_drewN | apply Kd.R_drew)); exact HO427.out) (Kd.R_base ho0) hb); replace HO433 := Aside0.mk (Kd.R_elder' (by (with_reducible repeat (first | apply Kd.R_alloc | apply Kd.R_drewN | apply Kd.R_drew)); exact HO433.out) (Kd.R_base ho0) hb); replace BK423 := bkb_ BK423 hb; replace HB := hbs_ hb; (try clear hb); (try clear hb2); (try clear hk); (try clear hi); (try clear ho0); obtain ⟨Ao29, co29, eo29⟩ := Kd.R_slice HO439.out; subst eo29) | ((with_reducible refine gate_callee (f := 41) rfl ?_); refine goesC_ (some 35) Try.func41 #[.slice Ao26 t431.length co26, .slice Ao29 t437.length co29] ?_; (with_reducible refine (laws_eqCredS.calls k _ _ t431 _ _ t437 true _ ?side1 ?side2 ?side3 ?side4 A15.out).mono ?_); (case side1 => repeat (first | exact (Kd.R_reads' HO433.out).2.2 | (with_reducible refine Kd.C_alloc ?_ _) | (with_reducible refine Kd.C_drewN ?_ _) | (with_reducible refine Kd.C_drew ?_))); (case side2 => exact (Kd.R_reads' HO433.out).2.1); (case side3 => repeat (first | exact (Kd.R_reads' HO439.out).2.2 | (with_reducible refine Kd.C_alloc ?_ _) | (with_reducible refine Kd.C_drewN ?_ _) | (with_reducible refine Kd.C_drew ?_))); (case side4 => exact (Kd.R_reads' HO439.out).2.1); rintro e w30 ⟨rfl, hb⟩; refine ⟨_, rfl, ?_⟩; replace HO427 := hob_ HO427 hb; replace HO433 := hob_ HO433 hb; replace HO439 := hob_ HO439 hb; replace BK423 := bkb_ BK423 hb; replace HB := hbs_ hb; clear hb))
    go_ret
    exact ⟨eq_, bl_⟩
   ·replace c16 := Bool.eq_false_iff.mpr c16
    subst c16
    replace H := ite_f_ H
    obtain rfl := Option.some.inj H
    go_enter Try.func13, Try.ntmps13
    try go_wp2_with (first | ((with_reducible refine gate_dst (N := 4) rfl ?_); refine box_event ?hg (N := 4) ?hd (cs := #[.int .i64 a1_0, .int .i64 a1_1]) (t := 58) ?hr ?_; (case hd => rfl); (case hg => rfl); (case hr => first | (go_simp; done) | (go_simp; rfl)); intro gb423 hg w31 hbox hb; have BK423 := Aside0.mk (hbox); have GW423 := gs_ hg; have GE423 := gs_ hg; replace HB := hbs_ hb; clear hb hbox hg) | ((with_reducible refine gate_callee (f := 36) rfl ?_); refine goesC_ (some 13) Try.func36 #[.slice A0 l0.length c0, .int .i64 1048576] ?_; (with_reducible refine (laws_szCredS.calls _ _ l0 1048576 t424 _ ?side1 ?side2 A4.out).mono ?_); (case side1 => repeat (first | exact (Kd.C_below HR0.out HB.out) | (with_reducible refine Kd.C_alloc ?_ _) | (with_reducible refine Kd.C_drewN ?_ _) | (with_reducible refine Kd.C_drew ?_))); (case side2 => exact HC0.out); rintro e w' ⟨rfl, ⟨nd, rfl⟩⟩; refine ⟨_, rfl, ?_⟩))
    (try (rw [drewN_self w31]; generalize hq_ : World.drewN w31 _ = w31; have n0_ : Aside0 (w31.heap[gb423]? = some (.cells #[.int .i64 a1_0, .int .i64 a1_1] 58 (0, 0))) := ⟨by rw [← hq_]; exact (bk_ BK423)⟩; have n1_ : Aside0 (Below w.heap.size w w31) := ⟨by rw [← hq_]; exact bl_⟩; clear BK423 HB hq_; have BK423 := n0_; have HB := n1_; clear n0_ n1_))
    replace BK423 := Aside0.mk (blk_drew BK423.out)
    replace HB := Aside0.mk (below_drew1 HB.out)
    refine start_ (n := 7) (S := fun w' => w'.cell? ⟨gb423, 0, none⟩ = some (.int .i64 a1_0) ∧ w'.cell? ⟨gb423, 1, none⟩ = some (.int .i64 a1_1)) (ds := []) #[false, false, false, false, false, false, false] (by kernel_rfl) rfl rfl ⟨(blk_cell BK423.out 0).trans rfl, (blk_cell BK423.out 1).trans rfl⟩ (fun hHeld => ?_)
    generalize w31.drew = w32 at BK423 HB hHeld ⊢
    refine pure_ (i := 0) (N := some 16) (v := ?_) (a' := ?_) #[true, false, false, false, false, false, false] rfl rfl (by kernel_rfl) (fun _ _ _ h => h) (Or.inl ⟨by rfl, ?_⟩) ?_ ?_
    rotate_left
    ·intro w'
     go_simp
     with_reducible rfl
    rotate_left
    ·simp only [Act.put, List.setIfInBounds_toArray, List.set_cons_zero, List.set_cons_succ, i64_w, i32_w]
     rfl
    refine pure_ (i := 4) (N := some 20) (v := ?_) (a' := ?_) #[true, false, false, false, true, false, false] rfl rfl (by kernel_rfl) (fun _ _ _ h => h) (Or.inl ⟨by rfl, ?_⟩) ?_ ?_
    rotate_left
    ·intro w'
     go_simp
     with_reducible rfl
    rotate_left
    ·simp only [Act.put, List.setIfInBounds_toArray, List.set_cons_zero, List.set_cons_succ, i64_w, i32_w]
     rfl
    refine take_ (i := 2) (N := some 18) (v := ?_) (a' := ?_) #[true, false, true, false, true, false, false] rfl rfl (by kernel_rfl) (fun _ _ _ h => h) (Or.inl ⟨by rfl, ?_⟩) hHeld ?_ ?_
    rotate_left
    ·rintro w' ⟨s0, s1⟩
     go_simp
     with_reducible rfl
    rotate_left
    ·simp only [Act.put, List.setIfInBounds_toArray, List.set_cons_zero, List.set_cons_succ, i64_w, i32_w]
     rfl
    refine one_ (i := 1) (N := some 17) #[true, true, true, false, true, false, false] rfl rfl (by kernel_rfl) (by decide) (fun K hK => ?_)
    refine goes_ Try.func38 (by kernel_rfl) rfl #[.slice A0 l0.length c0] (by rfl) rfl rfl (by (try simp only [List.map_toArray, List.map_cons, List.map_nil]); first | done | rfl | (simp only [List.length_drop, List.length_take]; rfl)) ?_
    with_reducible refine (laws_toCredS.calls k _ _ l0 t425 _ ?side1 ?side2 A7.out).mono ?_
    (case side1 => repeat (first | exact (Kd.C_below HR0.out HB.out) | (with_reducible refine Kd.C_alloc ?_ _) | (with_reducible refine Kd.C_drewN ?_ _) | (with_reducible refine Kd.C_drew ?_)))
    (case side2 => exact HC0.out)
    rintro e w33 ⟨v426, rfl, ho0, hb⟩
    refine ⟨_, rfl, ?_⟩
    have HO427 := Aside0.mk (Kd.R_lower ho0 bls_)
    replace BK423 := bkb_ BK423 hb
    replace HB := hbs_ hb
    (try clear hb)
    (try clear hb2)
    (try clear hk)
    (try clear hi)
    (try clear ho0)
    refine hK.out _ _ ⟨(blk_cell BK423.out 0).trans rfl, (blk_cell BK423.out 1).trans rfl⟩ (fun hHeld => ?_)
    clear hK K
    refine norm_ (a' := ?_) ?_ ?_
    rotate_left
    ·show Act.put _ (some 17) _ = _
     simp only [Act.put, List.setIfInBounds_toArray, List.set_cons_zero, List.set_cons_succ, i64_w, i32_w]
     rfl
    refine one_ (i := 3) (N := some 19) #[true, true, true, true, true, false, false] rfl rfl (by kernel_rfl) (by decide) (fun K hK => ?_)
    refine goes_ Try.func39 (by kernel_rfl) rfl #[.agg #[.int .i64 a1_0, .int .i64 a1_1]] (by rfl) rfl rfl (by (try simp only [List.map_toArray, List.map_cons, List.map_nil]); first | done | rfl | (simp only [List.length_drop, List.length_take]; rfl)) ?_
    with_reducible refine (laws_toRole.calls a1_0 a1_1 t428 t429 _ A8.out).mono ?_
    rintro e w34 ⟨rfl, hb⟩
    refine ⟨_, rfl, ?_⟩
    replace HO427 := hob_ HO427 hb
    replace BK423 := bkb_ BK423 hb
    replace HB := hbs_ hb
    (try clear hb)
    (try clear hb2)
    (try clear hk)
    (try clear hi)
    obtain ⟨Ao35, co35, eo35⟩ := Kd.R_slice HO427.out
    (first | subst eo35 | (injection eo35 with f1_ f2_ f3_; have f4_ := f1_.symm; have f5_ := f3_.symm; clear f1_ f2_ f3_; subst f4_; subst f5_))
    refine hK.out _ _ ⟨(blk_cell BK423.out 0).trans rfl, (blk_cell BK423.out 1).trans rfl⟩ (fun hHeld => ?_)
    clear hK K
    refine norm_ (a' := ?_) ?_ ?_
    rotate_left
    ·show Act.put _ (some 19) _ = _
     simp only [Act.put, List.setIfInBounds_toArray, List.set_cons_zero, List.set_cons_succ, i64_w, i32_w]
     rfl
    refine one_ (i := 5) (N := some 21) #[true, true, true, true, true, true, false] rfl rfl (by kernel_rfl) (by decide) (fun K hK => ?_)
    refine goes_ Try.func68 (by kernel_rfl) rfl #[.slice Ao35 t425.length co35, .agg #[.int .i64 t428, .int .i64 t429], .int .i64 a2] (by rfl) rfl rfl (by (try simp only [List.map_toArray, List.map_cons, List.map_nil]); first | done | rfl | (simp only [List.length_drop, List.length_take]; rfl)) ?_
    with_reducible refine (spec_CostOf.calls k _ _ t425 t428 t429 a2 t430 _ ?side1 ?side2 A9.out).mono ?_
    (case side1 => repeat (first | exact (Kd.R_reads' HO427.out).2.2 | (with_reducible refine Kd.C_alloc ?_ _) | (with_reducible refine Kd.C_drewN ?_ _) | (with_reducible refine Kd.C_drew ?_)))
    (case side2 => exact (Kd.R_reads' HO427.out).2.1)
    rintro e w36 ⟨rfl, hb⟩
    refine ⟨_, rfl, ?_⟩
    replace HO427 := hob_ HO427 hb
    replace BK423 := bkb_ BK423 hb
    replace HB := hbs_ hb
    (try clear hb)
    (try clear hb2)
    (try clear hk)
    (try clear hi)
    refine hK.out _ _ ⟨(blk_cell BK423.out 0).trans rfl, (blk_cell BK423.out 1).trans rfl⟩ (fun hHeld => ?_)
    clear hK K
    refine norm_ (a' := ?_) ?_ ?_
    rotate_left
    ·show Act.put _ (some 21) _ = _
     simp only [Act.put, List.setIfInBounds_toArray, List.set_cons_zero, List.set_cons_succ, i64_w, i32_w]
     rfl
    refine pure_ (i := 6) (N := some 8) (v := ?_) (a' := ?_) #[true, true, true, true, true, true, true] rfl rfl (by kernel_rfl) (fun _ _ _ h => h) (Or.inl ⟨by rfl, ?_⟩) ?_ ?_
    rotate_left
    ·intro w'
     go_simp
     with_reducible rfl
    rotate_left
    ·simp only [Act.put, List.setIfInBounds_toArray, List.set_cons_zero, List.set_cons_succ, i64_w, i32_w]
     rfl
    refine done_ (by kernel_rfl) ?_
    try go_wp2_with (first | ((with_reducible refine gate_callee (f := 38) rfl ?_); refine goesC_ (some 23) Try.func38 #[.slice A0 l0.length c0] ?_; (with_reducible refine (laws_toCredS.calls k _ _ l0 t431 _ ?side1 ?side2 A10.out).mono ?_); (case side1 => repeat (first | exact (Kd.C_below HR0.out HB.out) | (with_reducible refine Kd.C_alloc ?_ _) | (with_reducible refine Kd.C_drewN ?_ _) | (with_reducible refine Kd.C_drew ?_))); (case side2 => exact HC0.out); rintro e w37 ⟨v432, rfl, ho0, hb⟩; refine ⟨_, rfl, ?_⟩; have HO433 := Aside0.mk (Kd.R_lower (Kd.R_new' ho0 (Kd.R_lt (by (with_reducible repeat (first | apply Kd.R_alloc | apply Kd.R_drewN | apply Kd.R_drew)); exact HO427.out))) bls_); replace HO427 := Aside0.mk (Kd.R_elder' (by (with_reducible repeat (first | apply Kd.R_alloc | apply Kd.R_drewN | apply Kd.R_drew)); exact HO427.out) (Kd.R_base ho0) hb); replace BK423 := bkb_ BK423 hb; replace HB := hbs_ hb; (try clear hb); (try clear hb2); (try clear hk); (try clear hi); (try clear ho0); have hcz38 := blk_cell BK423.out; have hfz38 := blk_frozen BK423.out) | ((with_reducible refine gate_callee (f := 39) rfl ?_); refine goesC_ (some 26) Try.func39 #[.agg #[.int .i64 a1_0, .int .i64 a1_1]] ?_; (with_reducible refine (laws_toRole.calls a1_0 a1_1 t434 t435 _ A11.out).mono ?_); rintro e w39 ⟨rfl, hb⟩; refine ⟨_, rfl, ?_⟩; replace HO427 := hob_ HO427 hb; replace HO433 := hob_ HO433 hb; replace BK423 := bkb_ BK423 hb; replace HB := hbs_ hb; clear hb; obtain ⟨Ao40, co40, eo40⟩ := Kd.R_slice HO433.out; subst eo40) | ((with_reducible refine gate_callee (f := 69) rfl ?_); refine goesC_ (some 28) Try.func69 #[.slice Ao40 t431.length co40, .agg #[.int .i64 t434, .int .i64 t435], .int .i64 a2] ?_; (with_reducible refine (impl_CostOf.calls k _ _ t431 t434 t435 a2 t436 _ ?side1 ?side2 A12.out).mono ?_); (case side1 => repeat (first | exact (Kd.R_reads' HO433.out).2.2 | (with_reducible refine Kd.C_alloc ?_ _) | (with_reducible refine Kd.C_drewN ?_ _) | (with_reducible refine Kd.C_drew ?_))); (case side2 => exact (Kd.R_reads' HO433.out).2.1); rintro e w41 ⟨rfl, hb⟩; refine ⟨_, rfl, ?_⟩; replace HO427 := hob_ HO427 hb; replace HO433 := hob_ HO433 hb; replace BK423 := bkb_ BK423 hb; replace HB := hbs_ hb; clear hb) | ((with_reducible refine gate_callee (f := 38) rfl ?_); refine goesC_ (some 34) Try.func38 #[.slice A0 l0.length c0] ?_; (with_reducible refine (laws_toCredS.calls k _ _ l0 t437 _ ?side1 ?side2 A14.out).mono ?_); (case side1 => repeat (first | exact (Kd.C_below HR0.out HB.out) | (with_reducible refine Kd.C_alloc ?_ _) | (with_reducible refine Kd.C_drewN ?_ _) | (with_reducible refine Kd.C_drew ?_))); (case side2 => exact HC0.out); rintro e w42 ⟨v438, rfl, ho0, hb⟩; refine ⟨_, rfl, ?_⟩; have HO439 := Aside0.mk (Kd.R_lower (Kd.R_new' (Kd.R_new' ho0 (Kd.R_lt (by (with_reducible repeat (first | apply Kd.R_alloc | apply Kd.R_drewN | apply Kd.R_drew)); exact HO427.out))) (Kd.R_lt (by (with_reducible repeat (first | apply Kd.R_alloc | apply Kd.R_drewN | apply Kd.R_drew)); exact HO433.out))) bls_); replace HO427 := Aside0.mk (Kd.R_elder' (by (with_reducible repeat (first | apply Kd.R_alloc | apply Kd.R_drewN | apply Kd.R_drew)); exact HO427.out) (Kd.R_base ho0) hb); replace HO433 := Aside0.mk (Kd.R_elder' (by (with_reducible repeat (first | apply Kd.R_alloc | apply Kd.R_drewN | apply Kd.R_drew)); exact HO433.out) (Kd.R_base ho0) hb); replace BK423 := bkb_ BK423 hb; replace HB := hbs_ hb; (try clear hb); (try clear hb2); (try clear hk); (try clear hi); (try clear ho0); obtain ⟨Ao43, co43, eo43⟩ := Kd.R_slice HO439.out; subst eo43) | ((with_reducible refine gate_callee (f := 41) rfl ?_); refine goesC_ (some 35) Try.func41 #[.slice Ao40 t431.length co40, .slice Ao43 t437.length co43] ?_; (with_reducible refine (laws_eqCredS.calls k _ _ t431 _ _ t437 false _ ?side1 ?side2 ?side3 ?side4 A15.out).mono ?_); (case side1 => repeat (first | exact (Kd.R_reads' HO433.out).2.2 | (with_reducible refine Kd.C_alloc ?_ _) | (with_reducible refine Kd.C_drewN ?_ _) | (with_reducible refine Kd.C_drew ?_))); (case side2 => exact (Kd.R_reads' HO433.out).2.1); (case side3 => repeat (first | exact (Kd.R_reads' HO439.out).2.2 | (with_reducible refine Kd.C_alloc ?_ _) | (with_reducible refine Kd.C_drewN ?_ _) | (with_reducible refine Kd.C_drew ?_))); (case side4 => exact (Kd.R_reads' HO439.out).2.1); rintro e w44 ⟨rfl, hb⟩; refine ⟨_, rfl, ?_⟩; replace HO427 := hob_ HO427 hb; replace HO433 := hob_ HO433 hb; replace HO439 := hob_ HO439 hb; replace BK423 := bkb_ BK423 hb; replace HB := hbs_ hb; clear hb))
    go_ret
    exact ⟨eq_, bl_⟩
  ·rw [if_neg c13] at H
   have c13b0 : (t436 == t430) = false := beq_eq_false_iff_ne.mpr c13
   have c13b1 : (t436 != t430) = true := bne_iff_ne.mpr c13
   obtain rfl := Option.some.inj H
   go_enter Try.func13, Try.ntmps13
   try go_wp2_with (first | ((with_reducible refine gate_dst (N := 4) rfl ?_); refine box_event ?hg (N := 4) ?hd (cs := #[.int .i64 a1_0, .int .i64 a1_1]) (t := 58) ?hr ?_; (case hd => rfl); (case hg => rfl); (case hr => first | (go_simp; done) | (go_simp; rfl)); intro gb423 hg w45 hbox hb; have BK423 := Aside0.mk (hbox); have GW423 := gs_ hg; have GE423 := gs_ hg; replace HB := hbs_ hb; clear hb hbox hg) | ((with_reducible refine gate_callee (f := 36) rfl ?_); refine goesC_ (some 13) Try.func36 #[.slice A0 l0.length c0, .int .i64 1048576] ?_; (with_reducible refine (laws_szCredS.calls _ _ l0 1048576 t424 _ ?side1 ?side2 A4.out).mono ?_); (case side1 => repeat (first | exact (Kd.C_below HR0.out HB.out) | (with_reducible refine Kd.C_alloc ?_ _) | (with_reducible refine Kd.C_drewN ?_ _) | (with_reducible refine Kd.C_drew ?_))); (case side2 => exact HC0.out); rintro e w' ⟨rfl, ⟨nd, rfl⟩⟩; refine ⟨_, rfl, ?_⟩))
   (try (rw [drewN_self w45]; generalize hq_ : World.drewN w45 _ = w45; have n0_ : Aside0 (w45.heap[gb423]? = some (.cells #[.int .i64 a1_0, .int .i64 a1_1] 58 (0, 0))) := ⟨by rw [← hq_]; exact (bk_ BK423)⟩; have n1_ : Aside0 (Below w.heap.size w w45) := ⟨by rw [← hq_]; exact bl_⟩; clear BK423 HB hq_; have BK423 := n0_; have HB := n1_; clear n0_ n1_))
   replace BK423 := Aside0.mk (blk_drew BK423.out)
   replace HB := Aside0.mk (below_drew1 HB.out)
   refine start_ (n := 7) (S := fun w' => w'.cell? ⟨gb423, 0, none⟩ = some (.int .i64 a1_0) ∧ w'.cell? ⟨gb423, 1, none⟩ = some (.int .i64 a1_1)) (ds := []) #[false, false, false, false, false, false, false] (by kernel_rfl) rfl rfl ⟨(blk_cell BK423.out 0).trans rfl, (blk_cell BK423.out 1).trans rfl⟩ (fun hHeld => ?_)
   generalize w45.drew = w46 at BK423 HB hHeld ⊢
   refine pure_ (i := 0) (N := some 16) (v := ?_) (a' := ?_) #[true, false, false, false, false, false, false] rfl rfl (by kernel_rfl) (fun _ _ _ h => h) (Or.inl ⟨by rfl, ?_⟩) ?_ ?_
   rotate_left
   ·intro w'
    go_simp
    with_reducible rfl
   rotate_left
   ·simp only [Act.put, List.setIfInBounds_toArray, List.set_cons_zero, List.set_cons_succ, i64_w, i32_w]
    rfl
   refine pure_ (i := 4) (N := some 20) (v := ?_) (a' := ?_) #[true, false, false, false, true, false, false] rfl rfl (by kernel_rfl) (fun _ _ _ h => h) (Or.inl ⟨by rfl, ?_⟩) ?_ ?_
   rotate_left
   ·intro w'
    go_simp
    with_reducible rfl
   rotate_left
   ·simp only [Act.put, List.setIfInBounds_toArray, List.set_cons_zero, List.set_cons_succ, i64_w, i32_w]
    rfl
   refine take_ (i := 2) (N := some 18) (v := ?_) (a' := ?_) #[true, false, true, false, true, false, false] rfl rfl (by kernel_rfl) (fun _ _ _ h => h) (Or.inl ⟨by rfl, ?_⟩) hHeld ?_ ?_
   rotate_left
   ·rintro w' ⟨s0, s1⟩
    go_simp
    with_reducible rfl
   rotate_left
   ·simp only [Act.put, List.setIfInBounds_toArray, List.set_cons_zero, List.set_cons_succ, i64_w, i32_w]
    rfl
   refine one_ (i := 1) (N := some 17) #[true, true, true, false, true, false, false] rfl rfl (by kernel_rfl) (by decide) (fun K hK => ?_)
   refine goes_ Try.func38 (by kernel_rfl) rfl #[.slice A0 l0.length c0] (by rfl) rfl rfl (by (try simp only [List.map_toArray, List.map_cons, List.map_nil]); first | done | rfl | (simp only [List.length_drop, List.length_take]; rfl)) ?_
   with_reducible refine (laws_toCredS.calls k _ _ l0 t425 _ ?side1 ?side2 A7.out).mono ?_
   (case side1 => repeat (first | exact (Kd.C_below HR0.out HB.out) | (with_reducible refine Kd.C_alloc ?_ _) | (with_reducible refine Kd.C_drewN ?_ _) | (with_reducible refine Kd.C_drew ?_)))
   (case side2 => exact HC0.out)
   rintro e w47 ⟨v426, rfl, ho0, hb⟩
   refine ⟨_, rfl, ?_⟩
   have HO427 := Aside0.mk (Kd.R_lower ho0 bls_)
   replace BK423 := bkb_ BK423 hb
   replace HB := hbs_ hb
   (try clear hb)
   (try clear hb2)
   (try clear hk)
   (try clear hi)
   (try clear ho0)
   refine hK.out _ _ ⟨(blk_cell BK423.out 0).trans rfl, (blk_cell BK423.out 1).trans rfl⟩ (fun hHeld => ?_)
   clear hK K
   refine norm_ (a' := ?_) ?_ ?_
   rotate_left
   ·show Act.put _ (some 17) _ = _
    simp only [Act.put, List.setIfInBounds_toArray, List.set_cons_zero, List.set_cons_succ, i64_w, i32_w]
    rfl
   refine one_ (i := 3) (N := some 19) #[true, true, true, true, true, false, false] rfl rfl (by kernel_rfl) (by decide) (fun K hK => ?_)
   refine goes_ Try.func39 (by kernel_rfl) rfl #[.agg #[.int .i64 a1_0, .int .i64 a1_1]] (by rfl) rfl rfl (by (try simp only [List.map_toArray, List.map_cons, List.map_nil]); first | done | rfl | (simp only [List.length_drop, List.length_take]; rfl)) ?_
   with_reducible refine (laws_toRole.calls a1_0 a1_1 t428 t429 _ A8.out).mono ?_
   rintro e w48 ⟨rfl, hb⟩
   refine ⟨_, rfl, ?_⟩
   replace HO427 := hob_ HO427 hb
   replace BK423 := bkb_ BK423 hb
   replace HB := hbs_ hb
   (try clear hb)
   (try clear hb2)
   (try clear hk)
   (try clear hi)
   obtain ⟨Ao49, co49, eo49⟩ := Kd.R_slice HO427.out
   (first | subst eo49 | (injection eo49 with f1_ f2_ f3_; have f4_ := f1_.symm; have f5_ := f3_.symm; clear f1_ f2_ f3_; subst f4_; subst f5_))
   refine hK.out _ _ ⟨(blk_cell BK423.out 0).trans rfl, (blk_cell BK423.out 1).trans rfl⟩ (fun hHeld => ?_)
   clear hK K
   refine norm_ (a' := ?_) ?_ ?_
   rotate_left
   ·show Act.put _ (some 19) _ = _
    simp only [Act.put, List.setIfInBounds_toArray, List.set_cons_zero, List.set_cons_succ, i64_w, i32_w]
    rfl
   refine one_ (i := 5) (N := some 21) #[true, true, true, true, true, true, false] rfl rfl (by kernel_rfl) (by decide) (fun K hK => ?_)
   refine goes_ Try.func68 (by kernel_rfl) rfl #[.slice Ao49 t425.length co49, .agg #[.int .i64 t428, .int .i64 t429], .int .i64 a2] (by rfl) rfl rfl (by (try simp only [List.map_toArray, List.map_cons, List.map_nil]); first | done | rfl | (simp only [List.length_drop, List.length_take]; rfl)) ?_
   with_reducible refine (spec_CostOf.calls k _ _ t425 t428 t429 a2 t430 _ ?side1 ?side2 A9.out).mono ?_
   (case side1 => repeat (first | exact (Kd.R_reads' HO427.out).2.2 | (with_reducible refine Kd.C_alloc ?_ _) | (with_reducible refine Kd.C_drewN ?_ _) | (with_reducible refine Kd.C_drew ?_)))
   (case side2 => exact (Kd.R_reads' HO427.out).2.1)
   rintro e w50 ⟨rfl, hb⟩
   refine ⟨_, rfl, ?_⟩
   replace HO427 := hob_ HO427 hb
   replace BK423 := bkb_ BK423 hb
   replace HB := hbs_ hb
   (try clear hb)
   (try clear hb2)
   (try clear hk)
   (try clear hi)
   refine hK.out _ _ ⟨(blk_cell BK423.out 0).trans rfl, (blk_cell BK423.out 1).trans rfl⟩ (fun hHeld => ?_)
   clear hK K
   refine norm_ (a' := ?_) ?_ ?_
   rotate_left
   ·show Act.put _ (some 21) _ = _
    simp only [Act.put, List.setIfInBounds_toArray, List.set_cons_zero, List.set_cons_succ, i64_w, i32_w]
    rfl
   refine pure_ (i := 6) (N := some 8) (v := ?_) (a' := ?_) #[true, true, true, true, true, true, true] rfl rfl (by kernel_rfl) (fun _ _ _ h => h) (Or.inl ⟨by rfl, ?_⟩) ?_ ?_
   rotate_left
   ·intro w'
    go_simp
    with_reducible rfl
   rotate_left
   ·simp only [Act.put, List.setIfInBounds_toArray, List.set_cons_zero, List.set_cons_succ, i64_w, i32_w]
    rfl
   refine done_ (by kernel_rfl) ?_
   try go_wp2_with (first | ((with_reducible refine gate_callee (f := 38) rfl ?_); refine goesC_ (some 23) Try.func38 #[.slice A0 l0.length c0] ?_; (with_reducible refine (laws_toCredS.calls k _ _ l0 t431 _ ?side1 ?side2 A10.out).mono ?_); (case side1 => repeat (first | exact (Kd.C_below HR0.out HB.out) | (with_reducible refine Kd.C_alloc ?_ _) | (with_reducible refine Kd.C_drewN ?_ _) | (with_reducible refine Kd.C_drew ?_))); (case side2 => exact HC0.out); rintro e w51 ⟨v432, rfl, ho0, hb⟩; refine ⟨_, rfl, ?_⟩; have HO433 := Aside0.mk (Kd.R_lower (Kd.R_new' ho0 (Kd.R_lt (by (with_reducible repeat (first | apply Kd.R_alloc | apply Kd.R_drewN | apply Kd.R_drew)); exact HO427.out))) bls_); replace HO427 := Aside0.mk (Kd.R_elder' (by (with_reducible repeat (first | apply Kd.R_alloc | apply Kd.R_drewN | apply Kd.R_drew)); exact HO427.out) (Kd.R_base ho0) hb); replace BK423 := bkb_ BK423 hb; replace HB := hbs_ hb; (try clear hb); (try clear hb2); (try clear hk); (try clear hi); (try clear ho0); have hcz52 := blk_cell BK423.out; have hfz52 := blk_frozen BK423.out) | ((with_reducible refine gate_callee (f := 39) rfl ?_); refine goesC_ (some 26) Try.func39 #[.agg #[.int .i64 a1_0, .int .i64 a1_1]] ?_; (with_reducible refine (laws_toRole.calls a1_0 a1_1 t434 t435 _ A11.out).mono ?_); rintro e w53 ⟨rfl, hb⟩; refine ⟨_, rfl, ?_⟩; replace HO427 := hob_ HO427 hb; replace HO433 := hob_ HO433 hb; replace BK423 := bkb_ BK423 hb; replace HB := hbs_ hb; clear hb; obtain ⟨Ao54, co54, eo54⟩ := Kd.R_slice HO433.out; subst eo54) | ((with_reducible refine gate_callee (f := 69) rfl ?_); refine goesC_ (some 28) Try.func69 #[.slice Ao54 t431.length co54, .agg #[.int .i64 t434, .int .i64 t435], .int .i64 a2] ?_; (with_reducible refine (impl_CostOf.calls k _ _ t431 t434 t435 a2 t436 _ ?side1 ?side2 A12.out).mono ?_); (case side1 => repeat (first | exact (Kd.R_reads' HO433.out).2.2 | (with_reducible refine Kd.C_alloc ?_ _) | (with_reducible refine Kd.C_drewN ?_ _) | (with_reducible refine Kd.C_drew ?_))); (case side2 => exact (Kd.R_reads' HO433.out).2.1); rintro e w55 ⟨rfl, hb⟩; refine ⟨_, rfl, ?_⟩; replace HO427 := hob_ HO427 hb; replace HO433 := hob_ HO433 hb; replace BK423 := bkb_ BK423 hb; replace HB := hbs_ hb; clear hb))
   go_ret
   exact ⟨eq_, bl_⟩
end Go.Proofs.Ytppdmcimddhbaaa.PG
