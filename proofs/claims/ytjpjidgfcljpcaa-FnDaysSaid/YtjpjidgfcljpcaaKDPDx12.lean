import Derived.Test.YtjpjidgfcljpcaaKDPDx11
-- A text of this claim: written by the session's own program out of the translation (wip/tools). Lean checks it.
namespace Go.Proofs.Ytjpjidgfcljpcaa.PD
open Go.RowKit Go.Proofs.YtjpjidgfcljpcaaW.PrintWords Go.Proofs.YtjpjidgfcljpcaaW.PrintLast Go.Proofs.YtjpjidgfcljpcaaW.PrintMore
attribute [local go_sem] max2_int min2_int max_two min_two max_three min_three max_four min_four   -- for this text's walks alone
set_option linter.unusedVariables false
set_option linter.unusedSimpArgs false
attribute [local go_sem high] eqA51
def impl_IsMember.f (k : Nat) (l0 : List (S56)) (a1_0 : Int) (a1_1 : Int) (a2 : Int) : Option (Bool) := (impl_FactsOf.f k l0).bind fun t413 => ((impl_Fact_119.f k t413 a1_0 a1_1 a2).bind fun t416 => (some t416))
set_option maxHeartbeats 8000000 in
set_option maxRecDepth 100000 in
theorem impl_IsMember.calls (k : Nat) (A0 : Option Addr) (c0 : Nat) (l0 : List (S56)) (a1_0 : Int) (a1_1 : Int) (a2 : Int) (r : Bool) (w : World) (hr0 : Kd.C k56 w A0 l0.length l0) (hc0 : l0.length ≤ c0) (h : impl_IsMember.f k l0 a1_0 a1_1 a2 = some r) :
  Calls Try.prog 131 #[.slice A0 l0.length c0, .agg #[.int .i64 a1_0, .int .i64 a1_1], .int .i64 a2] w fun e w' => e = .returned (.bool r) ∧ Below w.heap.size w w' := by
 have hu49 := Try.underlying49
 have hu51 := Try.underlying51
 have HR0 := Aside0.mk hr0
 have HC0 := Aside0.mk hc0
 clear hr0 hc0
 have HB := Aside0.mk (Below.refl w.heap.size w)
 have H : ((impl_FactsOf.f k l0).bind fun t413 => ((impl_Fact_119.f k t413 a1_0 a1_1 a2).bind fun t416 => (some t416))) = some r := h
 clear h
 obtain ⟨t413, A4, H⟩ := bindE_ H
 obtain ⟨t416, A5, H⟩ := bindE_ H
 obtain rfl := Option.some.inj H
 go_enter Try.func131, Try.ntmps131
 try go_wp2_with (first | ((with_reducible refine gate_dst (N := 4) rfl ?_); refine box_event ?hg (N := 4) ?hd (cs := #[.int .i64 a1_0, .int .i64 a1_1]) (t := 49) ?hr ?_; (case hd => rfl); (case hg => rfl); (case hr => first | (go_simp; done) | (go_simp; rfl)); intro gb412 hg w6 hbox hb; have BK412 := Aside0.mk (hbox); have GW412 := gs_ hg; have GE412 := gs_ hg; replace HB := hbs_ hb; clear hb hbox hg))
 replace BK412 := Aside0.mk (blk_drew BK412.out)
 replace HB := Aside0.mk (below_drew1 HB.out)
 refine start_ (n := 7) (S := fun w' => w'.cell? ⟨gb412, 0, none⟩ = some (.int .i64 a1_0) ∧ w'.cell? ⟨gb412, 1, none⟩ = some (.int .i64 a1_1)) (ds := []) #[false, false, false, false, false, false, false] (by kernel_rfl) rfl rfl ⟨(blk_cell BK412.out 0).trans rfl, (blk_cell BK412.out 1).trans rfl⟩ (fun hHeld => ?_)
 generalize w6.drew = w7 at BK412 HB hHeld ⊢
 refine pure_ (i := 0) (N := some 7) (v := ?_) (a' := ?_) #[true, false, false, false, false, false, false] rfl rfl (by kernel_rfl) (fun _ _ _ h => h) (Or.inl ⟨by rfl, ?_⟩) ?_ ?_
 rotate_left
 ·intro w'
  go_simp
  with_reducible rfl
 rotate_left
 ·simp only [Act.put, List.setIfInBounds_toArray, List.set_cons_zero, List.set_cons_succ, i64_w, i32_w]
  rfl
 refine pure_ (i := 3) (N := some 10) (v := ?_) (a' := ?_) #[true, false, false, true, false, false, false] rfl rfl (by kernel_rfl) (fun _ _ _ h => h) (Or.inl ⟨by rfl, ?_⟩) ?_ ?_
 rotate_left
 ·intro w'
  go_simp
  with_reducible rfl
 rotate_left
 ·simp only [Act.put, List.setIfInBounds_toArray, List.set_cons_zero, List.set_cons_succ, i64_w, i32_w]
  rfl
 refine take_ (i := 2) (N := some 9) (v := ?_) (a' := ?_) #[true, false, true, true, false, false, false] rfl rfl (by kernel_rfl) (fun _ _ _ h => h) (Or.inl ⟨by rfl, ?_⟩) hHeld ?_ ?_
 rotate_left
 ·rintro w' ⟨s0, s1⟩
  go_simp
  with_reducible rfl
 rotate_left
 ·simp only [Act.put, List.setIfInBounds_toArray, List.set_cons_zero, List.set_cons_succ, i64_w, i32_w]
  rfl
 refine pure_ (i := 4) (N := some 11) (v := ?_) (a' := ?_) #[true, false, true, true, true, false, false] rfl rfl (by kernel_rfl) (fun _ _ _ h => h) (Or.inl ⟨by rfl, ?_⟩) ?_ ?_
 rotate_left
 ·intro w'
  go_simp
  with_reducible rfl
 rotate_left
 ·simp only [Act.put, List.setIfInBounds_toArray, List.set_cons_zero, List.set_cons_succ, i64_w, i32_w]
  rfl
 refine one_ (i := 1) (N := some 8) #[true, true, true, true, true, false, false] rfl rfl (by kernel_rfl) (by decide) (fun K hK => ?_)
 refine goes_ Try.func90 (by kernel_rfl) rfl #[.slice A0 l0.length c0] (by rfl) rfl rfl (by (try simp only [List.map_toArray, List.map_cons, List.map_nil]); first | done | rfl | (simp only [List.length_drop, List.length_take]; rfl)) ?_
 with_reducible refine (impl_FactsOf.calls k _ _ l0 t413 _ ?side1 ?side2 A4.out).mono ?_
 (case side1 => repeat (first | exact (Kd.C_below HR0.out HB.out) | (with_reducible refine Kd.C_alloc ?_ _) | (with_reducible refine Kd.C_drewN ?_ _) | (with_reducible refine Kd.C_drew ?_)))
 (case side2 => exact HC0.out)
 rintro e w8 ⟨v414, rfl, ho0, hb⟩
 refine ⟨_, rfl, ?_⟩
 have HO415 := Aside0.mk (Kd.R_lower ho0 bls_)
 replace BK412 := bkb_ BK412 hb
 replace HB := hbs_ hb
 (try clear hb)
 (try clear hb2)
 (try clear hk)
 (try clear hi)
 (try clear ho0)
 obtain ⟨Ao9, co9, eo9⟩ := Kd.R_slice HO415.out
 (first | subst eo9 | (injection eo9 with f1_ f2_ f3_; have f4_ := f1_.symm; have f5_ := f3_.symm; clear f1_ f2_ f3_; subst f4_; subst f5_))
 refine hK.out _ _ ⟨(blk_cell BK412.out 0).trans rfl, (blk_cell BK412.out 1).trans rfl⟩ (fun hHeld => ?_)
 clear hK K
 refine norm_ (a' := ?_) ?_ ?_
 rotate_left
 ·show Act.put _ (some 8) _ = _
  simp only [Act.put, List.setIfInBounds_toArray, List.set_cons_zero, List.set_cons_succ, i64_w, i32_w]
  rfl
 refine one_ (i := 5) (N := some 12) #[true, true, true, true, true, true, false] rfl rfl (by kernel_rfl) (by decide) (fun K hK => ?_)
 refine goes_ Try.func119 (by kernel_rfl) rfl #[.slice Ao9 t413.length co9, .agg #[.int .i64 a1_0, .int .i64 a1_1, .int .i64 a2]] (by rfl) rfl rfl (by (try simp only [List.map_toArray, List.map_cons, List.map_nil]); first | done | rfl | (simp only [List.length_drop, List.length_take]; rfl)) ?_
 with_reducible refine (impl_Fact_119.calls k _ _ t413 a1_0 a1_1 a2 t416 _ ?side1 ?side2 A5.out).mono ?_
 (case side1 => repeat (first | exact (Kd.R_reads' HO415.out).2.2 | (with_reducible refine Kd.C_alloc ?_ _) | (with_reducible refine Kd.C_drewN ?_ _) | (with_reducible refine Kd.C_drew ?_)))
 (case side2 => exact (Kd.R_reads' HO415.out).2.1)
 rintro e w10 ⟨rfl, hb⟩
 refine ⟨_, rfl, ?_⟩
 replace HO415 := Aside0.mk (Kd.R_below (by (with_reducible repeat (first | apply Kd.R_alloc | apply Kd.R_drewN | apply Kd.R_drew)); exact HO415.out) hb)
 replace BK412 := bkb_ BK412 hb
 replace HB := hbs_ hb
 (try clear hb)
 (try clear hb2)
 (try clear hk)
 (try clear hi)
 refine hK.out _ _ ⟨(blk_cell BK412.out 0).trans rfl, (blk_cell BK412.out 1).trans rfl⟩ (fun hHeld => ?_)
 clear hK K
 refine norm_ (a' := ?_) ?_ ?_
 rotate_left
 ·show Act.put _ (some 12) _ = _
  simp only [Act.put, List.setIfInBounds_toArray, List.set_cons_zero, List.set_cons_succ, i64_w, i32_w]
  rfl
 refine pure_ (i := 6) (N := some 6) (v := ?_) (a' := ?_) #[true, true, true, true, true, true, true] rfl rfl (by kernel_rfl) (fun _ _ _ h => h) (Or.inl ⟨by rfl, ?_⟩) ?_ ?_
 rotate_left
 ·intro w'
  go_simp
  with_reducible rfl
 rotate_left
 ·simp only [Act.put, List.setIfInBounds_toArray, List.set_cons_zero, List.set_cons_succ, i64_w, i32_w]
  rfl
 refine done_ (by kernel_rfl) ?_
 try go_wp2
 go_ret
 exact ⟨eq_, bl_⟩
def impl_Alive.l0 : Nat → Int → List (S56) → List (S56) → Int → Int → Option ((List (S56)))
 | 0, _, _, _, _, _ => none
 | k + 1, x1, x5, x9, x10, x11 => if x11 < x10 then (if 0 ≤ x11 then (if x11 < (x9.length : Int) then ((impl_CredOk.f k ((rd_T56 x9 x11).f0) ((rd_T56 x9 x11).f1.f0) ((rd_T56 x9 x11).f1.f1) ((rd_T56 x9 x11).f2) ((rd_T56 x9 x11).f3.f0) ((rd_T56 x9 x11).f3.f1) ((rd_T56 x9 x11).f4.f0) ((rd_T56 x9 x11).f4.f1) ((rd_T56 x9 x11).f5) ((rd_T56 x9 x11).f6)).bind fun t422 => (if t422 = true then (if ((rd_T56 x9 x11).f5) ≥ x1 then (if x5.length < 1759218604441 then (impl_Alive.l0 k x1 (x5 ++ [(⟨(rd_T56 x9 x11).f0, (⟨(rd_T56 x9 x11).f1.f0, (rd_T56 x9 x11).f1.f1⟩ : S49), (rd_T56 x9 x11).f2, (⟨(rd_T56 x9 x11).f3.f0, (rd_T56 x9 x11).f3.f1⟩ : S49), (⟨(rd_T56 x9 x11).f4.f0, (rd_T56 x9 x11).f4.f1⟩ : S49), (rd_T56 x9 x11).f5, (rd_T56 x9 x11).f6⟩ : S56)]) x9 x10 (wrap64 (x11 + 1))) else (none)) else (impl_Alive.l0 k x1 x5 x9 x10 (wrap64 (x11 + 1)))) else (impl_Alive.l0 k x1 x5 x9 x10 (wrap64 (x11 + 1))))) else (none)) else (none)) else (some x5)
def impl_Alive.f (k : Nat) (l0 : List (S56)) (a1 : Int) : Option ((List (S56))) := impl_Alive.l0 k a1 (([] : List (S56))) l0 (l0.length : Int) 0
set_option maxHeartbeats 8000000 in
set_option maxRecDepth 100000 in
theorem impl_Alive.calls (k : Nat) (A0 : Option Addr) (c0 : Nat) (l0 : List (S56)) (a1 : Int) (r : List (S56)) (w : World) (hr0 : Kd.C k56 w A0 l0.length l0) (hc0 : l0.length ≤ c0) (h : impl_Alive.f k l0 a1 = some r) :
  Calls Try.prog 132 #[.slice A0 l0.length c0, .int .i64 a1] w fun e w' => ∃ v0_ : Value, e = .returned (v0_) ∧ Kd.R k56 56 w' w.heap.size (fun _ => True) v0_ r ∧ Below w.heap.size w w' := by
 have hu56 := Try.underlying56
 have HR0 := Aside0.mk hr0
 have HC0 := Aside0.mk hc0
 clear hr0 hc0
 have HB := Aside0.mk (Below.refl w.heap.size w)
 have H : (impl_Alive.l0 k a1 (([] : List (S56))) l0 (l0.length : Int) 0) = some r := h
 clear h
 obtain ⟨y417, hy417⟩ : ∃ y_ : List (S56), y_ = (([] : List (S56))) := ⟨_, rfl⟩
 replace H : (impl_Alive.l0 k a1 y417 l0 (l0.length : Int) 0) = some r := by first | (rw [hy417]; with_reducible exact H) | (have H2_ := (Option.bind_some _ _).symm.trans H; rw [hy417]; with_reducible exact H2_) | (have H2_ := (Option.bind_some _ _).symm.trans H; with_reducible exact H2_) | with_reducible exact H | (rw [hy417]; exact H) | exact H
 have Ny417 := Aside0.mk hy417
 clear hy417
 have H' := Aside0.mk H
 clear H
 go_enter Try.func132, Try.ntmps132
 go_wp2_with (first | ((with_reducible refine gate_dst (N := 8) rfl ?_); refine Kd.R_lit k56 _ 56 ?hg (N := 8) ?hd (xs := ([] : List (S56))) (inner := []) (ok := fun _ => True) (okp := fun _ => True) ?hr ?hp (fun _ hk => hk) trivial (Below.refl _ _) (Nat.le_refl _) (by simp) ?_; (case hd => rfl); (case hg => rfl); (case hr => first | (go_simp; done) | (go_simp; rfl)); (case hp => exact (Reps.none _ _)); intro v418 w3 ho4 hb hg_ hnew_; clear hg_ hnew_; (first | rw [← Ny417.out] at ho4 | (simp only [Int.reduceToNat] at ho4; rw [← Ny417.out] at ho4)); have HO419 := Aside0.mk (Kd.R_lower ho4 bls_); replace HB := hbs_ hb; clear hb ho4))
 go_loopg [5, 11] k (fun kq v5 v11 w' => ∃ (x5_1 : List (S56)) (x11_1 : Int), v11 = .int .i64 x11_1 ∧ Aside0 (impl_Alive.l0 kq a1 x5_1 l0 (l0.length : Int) x11_1 = some r) ∧ Aside0 (kq ≤ k) ∧ Aside0 (Kd.R k56 56 w' w.heap.size (fun _ => True) v5 x5_1) ∧ Aside0 (Below w.heap.size w w'))
 case atStart => exact ⟨(y417), (0), (by first | rfl | (simp; done) | (simp [*]; done)), H', ⟨Nat.le_refl _⟩, ⟨by (with_reducible repeat (first | apply Kd.R_alloc | apply Kd.R_drewN | apply Kd.R_drew)); exact HO419.out⟩, ⟨bl_⟩⟩
 case round =>
  clear H'
  try clear c1
  try clear p2
  obtain ⟨x5_1, x11_1, rfl, HA, HK1, HO_5, HB⟩ := hrel
  cases gk with
  | zero => exact absurd HA.out (by simp [impl_Alive.l0])
  | succ k1 =>
   have H := HA.out
   clear HA
   simp only [impl_Alive.l0] at H
   by_cases c5 : x11_1 < (l0.length : Int)
   ·rw [if_pos c5] at H
    have c5b0 : decide (x11_1 < (l0.length : Int)) = true := decide_eq_true c5
    clear c5
    by_cases c6 : 0 ≤ x11_1
    ·rw [if_pos c6] at H
     have c6b0 : decide (0 ≤ x11_1) = true := decide_eq_true c6
     clear c6
     by_cases c7 : x11_1 < (l0.length : Int)
     ·rw [if_pos c7] at H
      have c7b0 : decide (x11_1 < (l0.length : Int)) = true := decide_eq_true c7
      clear c7
      obtain ⟨t422, A8, H⟩ := bindE_ H
      by_cases c9 : t422 = true
      ·subst c9
       replace H := ite_t_ H
       by_cases c10 : ((rd_T56 l0 x11_1).f5) ≥ a1
       ·rw [if_pos c10] at H
        have c10b0 : decide (a1 ≤ ((rd_T56 l0 x11_1).f5)) = true := decide_eq_true c10
        clear c10
        by_cases c11 : x5_1.length < 1759218604441
        ·rw [if_pos c11] at H
         have LMc11 := Aside0.mk c11
         clear c11
         obtain ⟨y423, hy423⟩ : ∃ y_ : List (S56), y_ = (x5_1 ++ [(⟨(rd_T56 l0 x11_1).f0, (⟨(rd_T56 l0 x11_1).f1.f0, (rd_T56 l0 x11_1).f1.f1⟩ : S49), (rd_T56 l0 x11_1).f2, (⟨(rd_T56 l0 x11_1).f3.f0, (rd_T56 l0 x11_1).f3.f1⟩ : S49), (⟨(rd_T56 l0 x11_1).f4.f0, (rd_T56 l0 x11_1).f4.f1⟩ : S49), (rd_T56 l0 x11_1).f5, (rd_T56 l0 x11_1).f6⟩ : S56)]) := ⟨_, rfl⟩
         replace H : (impl_Alive.l0 k1 a1 y423 l0 (l0.length : Int) (wrap64 (x11_1 + 1))) = some r := by first | (rw [hy423]; with_reducible exact H) | (have H2_ := (Option.bind_some _ _).symm.trans H; rw [hy423]; with_reducible exact H2_) | (have H2_ := (Option.bind_some _ _).symm.trans H; with_reducible exact H2_) | with_reducible exact H | (rw [hy423]; exact H) | exact H
         have Ny423 := Aside0.mk hy423
         clear hy423
         have H' := Aside0.mk H
         clear H
         have p420 : 0 ≤ (x11_1 : Int) := of_decide_eq_true (by first | (with_reducible assumption) | assumption)
         have q420 : x11_1 < (l0.length : Int) := of_decide_eq_true (by first | (with_reducible assumption) | assumption)
         obtain ⟨ad420, e420, hx420_0, hx420_1, hx420_2, hx420_3, hx420_4, hx420_5, hx420_6, hx420_7, hx420_8, hx420_9⟩ := at_T56 (Kd.C_below HR0.out HB.out) x11_1 p420 q420
         cases e420
         replace p420 := eq_true p420
         replace q420 := eq_true q420
         go_wp2_with (first | ((with_reducible refine gate_dst (N := 7) rfl ?_); refine box_event ?hg (N := 7) ?hd (cs := #[.int .i64 0, .int .i64 0, .int .i64 0, .int .i64 0, .int .i64 0, .int .i64 0, .int .i64 0, .int .i64 0, .int .i64 0, .int .i64 0]) (t := 56) ?hr ?_; (case hd => rfl); (case hg => rfl); (case hr => first | (go_simp; done) | (go_simp; rfl)); intro gb421 hg w12 hbox hb; replace HO_5 := Aside0.mk (Kd.R_below (Kd.R_elderB (by (with_reducible repeat (first | apply Kd.R_alloc | apply Kd.R_drewN | apply Kd.R_drew)); exact HO_5.out) gb421 (Nat.le_of_eq hg.symm)) hb); have BK421 := Aside0.mk (hbox); have GW421 := gs_ hg; have GE421 := gs_ hg; replace HB := hbs_ hb; clear hb hbox hg; have hcz13 := blk_cell BK421.out; have hfz13 := blk_frozen BK421.out) | ((with_reducible refine gate_callee (f := 96) rfl ?_); refine goesC_ (some 16) Try.func96 #[.agg #[.int .i64 ((rd_T56 l0 x11_1).f0), .int .i64 ((rd_T56 l0 x11_1).f1.f0), .int .i64 ((rd_T56 l0 x11_1).f1.f1), .int .i64 ((rd_T56 l0 x11_1).f2), .int .i64 ((rd_T56 l0 x11_1).f3.f0), .int .i64 ((rd_T56 l0 x11_1).f3.f1), .int .i64 ((rd_T56 l0 x11_1).f4.f0), .int .i64 ((rd_T56 l0 x11_1).f4.f1), .int .i64 ((rd_T56 l0 x11_1).f5), .int .i64 ((rd_T56 l0 x11_1).f6)]] ?_; (with_reducible refine (impl_CredOk.calls k1 ((rd_T56 l0 x11_1).f0) ((rd_T56 l0 x11_1).f1.f0) ((rd_T56 l0 x11_1).f1.f1) ((rd_T56 l0 x11_1).f2) ((rd_T56 l0 x11_1).f3.f0) ((rd_T56 l0 x11_1).f3.f1) ((rd_T56 l0 x11_1).f4.f0) ((rd_T56 l0 x11_1).f4.f1) ((rd_T56 l0 x11_1).f5) ((rd_T56 l0 x11_1).f6) true _ A8.out).mono ?_); rintro e w14 ⟨rfl, hb⟩; refine ⟨_, rfl, ?_⟩; replace HO_5 := Aside0.mk (Kd.R_below (by (with_reducible repeat (first | apply Kd.R_alloc | apply Kd.R_drewN | apply Kd.R_drew)); exact (Kd.R_mono (Kd.R_far (p := ⟨gb421, 9, none⟩) (Kd.R_far (p := ⟨gb421, 8, none⟩) (Kd.R_far (p := ⟨gb421, 7, none⟩) (Kd.R_far (p := ⟨gb421, 6, none⟩) (Kd.R_far (p := ⟨gb421, 5, none⟩) (Kd.R_far (p := ⟨gb421, 4, none⟩) (Kd.R_far (p := ⟨gb421, 3, none⟩) (Kd.R_far (p := ⟨gb421, 2, none⟩) (Kd.R_far (p := ⟨gb421, 1, none⟩) (Kd.R_far (p := ⟨gb421, 0, none⟩) (Kd.R_mono HO_5.out (fun k_ hk => (⟨hk, hk.2⟩ : _ ∧ k_ ≠ gb421))) (fun _ hk => hk.2) (.int .i64 ((rd_T56 l0 x11_1).f0))) (fun _ hk => hk.2) (.int .i64 ((rd_T56 l0 x11_1).f1.f0))) (fun _ hk => hk.2) (.int .i64 ((rd_T56 l0 x11_1).f1.f1))) (fun _ hk => hk.2) (.int .i64 ((rd_T56 l0 x11_1).f2))) (fun _ hk => hk.2) (.int .i64 ((rd_T56 l0 x11_1).f3.f0))) (fun _ hk => hk.2) (.int .i64 ((rd_T56 l0 x11_1).f3.f1))) (fun _ hk => hk.2) (.int .i64 ((rd_T56 l0 x11_1).f4.f0))) (fun _ hk => hk.2) (.int .i64 ((rd_T56 l0 x11_1).f4.f1))) (fun _ hk => hk.2) (.int .i64 ((rd_T56 l0 x11_1).f5))) (fun _ hk => hk.2) (.int .i64 ((rd_T56 l0 x11_1).f6))) (fun _ h_ => h_.1))) hb); replace BK421 := Aside0.mk (blk_below (g := gb421) (o := .cells #[.int .i64 ((rd_T56 l0 x11_1).f0), .int .i64 ((rd_T56 l0 x11_1).f1.f0), .int .i64 ((rd_T56 l0 x11_1).f1.f1), .int .i64 ((rd_T56 l0 x11_1).f2), .int .i64 ((rd_T56 l0 x11_1).f3.f0), .int .i64 ((rd_T56 l0 x11_1).f3.f1), .int .i64 ((rd_T56 l0 x11_1).f4.f0), .int .i64 ((rd_T56 l0 x11_1).f4.f1), .int .i64 ((rd_T56 l0 x11_1).f5), .int .i64 ((rd_T56 l0 x11_1).f6)] 56 (0, 0)) (bk_ BK421) hb); replace HB := hbs_ hb; clear hb; have hcz15 := blk_cell BK421.out; have hfz15 := blk_frozen BK421.out) | ((with_reducible refine gate_builtin (b := .append) (xs := #[.tmp 23, .tmp 25]) rfl ?_); at_builtin; refine Kd.R_append k56 (w0 := w) w.heap.size rfl (.tmp 23) (.tmp 25) 32 56 (.agg #[(.int .i64 0), (.int .i64 0), (.int .i64 0), (.int .i64 0), (.int .i64 0), (.int .i64 0), (.int .i64 0), (.int .i64 0), (.int .i64 0), (.int .i64 0)]) 80 rfl Try.underlying32 info56 rfl (by decide) (by omega) u5 x5_1 (⟨(rd_T56 l0 x11_1).f0, (⟨(rd_T56 l0 x11_1).f1.f0, (rd_T56 l0 x11_1).f1.f1⟩ : S49), (rd_T56 l0 x11_1).f2, (⟨(rd_T56 l0 x11_1).f3.f0, (rd_T56 l0 x11_1).f3.f1⟩ : S49), (⟨(rd_T56 l0 x11_1).f4.f0, (rd_T56 l0 x11_1).f4.f1⟩ : S49), (rd_T56 l0 x11_1).f5, (rd_T56 l0 x11_1).f6⟩ : S56) [.int .i64 ((rd_T56 l0 x11_1).f0), .int .i64 ((rd_T56 l0 x11_1).f1.f0), .int .i64 ((rd_T56 l0 x11_1).f1.f1), .int .i64 ((rd_T56 l0 x11_1).f2), .int .i64 ((rd_T56 l0 x11_1).f3.f0), .int .i64 ((rd_T56 l0 x11_1).f3.f1), .int .i64 ((rd_T56 l0 x11_1).f4.f0), .int .i64 ((rd_T56 l0 x11_1).f4.f1), .int .i64 ((rd_T56 l0 x11_1).f5), .int .i64 ((rd_T56 l0 x11_1).f6)] (fun k_ => k_ ≠ gb421) (fun _ => False) rfl rfl ?aP (fun _ hk => hk.elim) ?aF ?aO ?aB ?aS ?aL ?_; (case aP => exact k56_mkM _ _ _ (⟨(rd_T56 l0 x11_1).f0, (⟨(rd_T56 l0 x11_1).f1.f0, (rd_T56 l0 x11_1).f1.f1⟩ : S49), (rd_T56 l0 x11_1).f2, (⟨(rd_T56 l0 x11_1).f3.f0, (rd_T56 l0 x11_1).f3.f1⟩ : S49), (⟨(rd_T56 l0 x11_1).f4.f0, (rd_T56 l0 x11_1).f4.f1⟩ : S49), (rd_T56 l0 x11_1).f5, (rd_T56 l0 x11_1).f6⟩ : S56)); (case aB => exact bl_); (case aF => exact (fun k_ hk => Kd.freshB (g := gb421) (o := .cells #[.int .i64 ((rd_T56 l0 x11_1).f0), .int .i64 ((rd_T56 l0 x11_1).f1.f0), .int .i64 ((rd_T56 l0 x11_1).f1.f1), .int .i64 ((rd_T56 l0 x11_1).f2), .int .i64 ((rd_T56 l0 x11_1).f3.f0), .int .i64 ((rd_T56 l0 x11_1).f3.f1), .int .i64 ((rd_T56 l0 x11_1).f4.f0), .int .i64 ((rd_T56 l0 x11_1).f4.f1), .int .i64 ((rd_T56 l0 x11_1).f5), .int .i64 ((rd_T56 l0 x11_1).f6)] 56 (0, 0)) (bk_ BK421) k_ hk)); (case aO => exact (by (with_reducible repeat (first | apply Kd.R_alloc | apply Kd.R_drewN | apply Kd.R_drew)); exact Kd.R_mono HO_5.out (fun _ hk => hk.2))); (case aS => exact bls_); (case aL => have := LMc11.out; omega); intro v424 w16 ho hb hg hat; rw [← Ny423.out] at ho; replace BK421 := Aside0.mk (blk_grown (g := gb421) (o := .cells #[.int .i64 ((rd_T56 l0 x11_1).f0), .int .i64 ((rd_T56 l0 x11_1).f1.f0), .int .i64 ((rd_T56 l0 x11_1).f1.f1), .int .i64 ((rd_T56 l0 x11_1).f2), .int .i64 ((rd_T56 l0 x11_1).f3.f0), .int .i64 ((rd_T56 l0 x11_1).f3.f1), .int .i64 ((rd_T56 l0 x11_1).f4.f0), .int .i64 ((rd_T56 l0 x11_1).f4.f1), .int .i64 ((rd_T56 l0 x11_1).f5), .int .i64 ((rd_T56 l0 x11_1).f6)] 56 (0, 0)) (bk_ BK421) hg (Kd.R_away HO_5.out (fun _ hk => hk.2))); replace HB := Aside0.mk (hb); have HO425 := Aside0.mk (ho); clear HO_5; clear ho hb hg hat))
         go_roundg k1
         case measure => have := HK1.out; omega
         case rel => exact ⟨(y423), (wrap64 (x11_1 + 1)), (by first | rfl | (simp; done) | (simp [*]; done)), H', ⟨by have := HK1.out; omega⟩, ⟨by (with_reducible repeat (first | apply Kd.R_alloc | apply Kd.R_drewN | apply Kd.R_drew)); exact Kd.R_mono HO425.out (fun _ hk => trivial)⟩, ⟨bl_⟩⟩
        ·rw [if_neg c11] at H
         exact absurd H (by simp)
       ·rw [if_neg c10] at H
        have c10b0 : decide (a1 ≤ ((rd_T56 l0 x11_1).f5)) = false := decide_eq_false c10
        clear c10
        have H' := Aside0.mk H
        clear H
        have p420 : 0 ≤ (x11_1 : Int) := of_decide_eq_true (by first | (with_reducible assumption) | assumption)
        have q420 : x11_1 < (l0.length : Int) := of_decide_eq_true (by first | (with_reducible assumption) | assumption)
        obtain ⟨ad420, e420, hx420_0, hx420_1, hx420_2, hx420_3, hx420_4, hx420_5, hx420_6, hx420_7, hx420_8, hx420_9⟩ := at_T56 (Kd.C_below HR0.out HB.out) x11_1 p420 q420
        cases e420
        replace p420 := eq_true p420
        replace q420 := eq_true q420
        go_wp2_with (first | ((with_reducible refine gate_dst (N := 7) rfl ?_); refine box_event ?hg (N := 7) ?hd (cs := #[.int .i64 0, .int .i64 0, .int .i64 0, .int .i64 0, .int .i64 0, .int .i64 0, .int .i64 0, .int .i64 0, .int .i64 0, .int .i64 0]) (t := 56) ?hr ?_; (case hd => rfl); (case hg => rfl); (case hr => first | (go_simp; done) | (go_simp; rfl)); intro gb421 hg w17 hbox hb; replace HO_5 := Aside0.mk (Kd.R_below (Kd.R_elderB (by (with_reducible repeat (first | apply Kd.R_alloc | apply Kd.R_drewN | apply Kd.R_drew)); exact HO_5.out) gb421 (Nat.le_of_eq hg.symm)) hb); have BK421 := Aside0.mk (hbox); have GW421 := gs_ hg; have GE421 := gs_ hg; replace HB := hbs_ hb; clear hb hbox hg; have hcz18 := blk_cell BK421.out; have hfz18 := blk_frozen BK421.out) | ((with_reducible refine gate_callee (f := 96) rfl ?_); refine goesC_ (some 16) Try.func96 #[.agg #[.int .i64 ((rd_T56 l0 x11_1).f0), .int .i64 ((rd_T56 l0 x11_1).f1.f0), .int .i64 ((rd_T56 l0 x11_1).f1.f1), .int .i64 ((rd_T56 l0 x11_1).f2), .int .i64 ((rd_T56 l0 x11_1).f3.f0), .int .i64 ((rd_T56 l0 x11_1).f3.f1), .int .i64 ((rd_T56 l0 x11_1).f4.f0), .int .i64 ((rd_T56 l0 x11_1).f4.f1), .int .i64 ((rd_T56 l0 x11_1).f5), .int .i64 ((rd_T56 l0 x11_1).f6)]] ?_; (with_reducible refine (impl_CredOk.calls k1 ((rd_T56 l0 x11_1).f0) ((rd_T56 l0 x11_1).f1.f0) ((rd_T56 l0 x11_1).f1.f1) ((rd_T56 l0 x11_1).f2) ((rd_T56 l0 x11_1).f3.f0) ((rd_T56 l0 x11_1).f3.f1) ((rd_T56 l0 x11_1).f4.f0) ((rd_T56 l0 x11_1).f4.f1) ((rd_T56 l0 x11_1).f5) ((rd_T56 l0 x11_1).f6) true _ A8.out).mono ?_); rintro e w19 ⟨rfl, hb⟩; refine ⟨_, rfl, ?_⟩; replace HO_5 := Aside0.mk (Kd.R_below (by (with_reducible repeat (first | apply Kd.R_alloc | apply Kd.R_drewN | apply Kd.R_drew)); exact (Kd.R_mono (Kd.R_far (p := ⟨gb421, 9, none⟩) (Kd.R_far (p := ⟨gb421, 8, none⟩) (Kd.R_far (p := ⟨gb421, 7, none⟩) (Kd.R_far (p := ⟨gb421, 6, none⟩) (Kd.R_far (p := ⟨gb421, 5, none⟩) (Kd.R_far (p := ⟨gb421, 4, none⟩) (Kd.R_far (p := ⟨gb421, 3, none⟩) (Kd.R_far (p := ⟨gb421, 2, none⟩) (Kd.R_far (p := ⟨gb421, 1, none⟩) (Kd.R_far (p := ⟨gb421, 0, none⟩) (Kd.R_mono HO_5.out (fun k_ hk => (⟨hk, hk.2⟩ : _ ∧ k_ ≠ gb421))) (fun _ hk => hk.2) (.int .i64 ((rd_T56 l0 x11_1).f0))) (fun _ hk => hk.2) (.int .i64 ((rd_T56 l0 x11_1).f1.f0))) (fun _ hk => hk.2) (.int .i64 ((rd_T56 l0 x11_1).f1.f1))) (fun _ hk => hk.2) (.int .i64 ((rd_T56 l0 x11_1).f2))) (fun _ hk => hk.2) (.int .i64 ((rd_T56 l0 x11_1).f3.f0))) (fun _ hk => hk.2) (.int .i64 ((rd_T56 l0 x11_1).f3.f1))) (fun _ hk => hk.2) (.int .i64 ((rd_T56 l0 x11_1).f4.f0))) (fun _ hk => hk.2) (.int .i64 ((rd_T56 l0 x11_1).f4.f1))) (fun _ hk => hk.2) (.int .i64 ((rd_T56 l0 x11_1).f5))) (fun _ hk => hk.2) (.int .i64 ((rd_T56 l0 x11_1).f6))) (fun _ h_ => h_.1))) hb); replace BK421 := Aside0.mk (blk_below (g := gb421) (o := .cells #[.int .i64 ((rd_T56 l0 x11_1).f0), .int .i64 ((rd_T56 l0 x11_1).f1.f0), .int .i64 ((rd_T56 l0 x11_1).f1.f1), .int .i64 ((rd_T56 l0 x11_1).f2), .int .i64 ((rd_T56 l0 x11_1).f3.f0), .int .i64 ((rd_T56 l0 x11_1).f3.f1), .int .i64 ((rd_T56 l0 x11_1).f4.f0), .int .i64 ((rd_T56 l0 x11_1).f4.f1), .int .i64 ((rd_T56 l0 x11_1).f5), .int .i64 ((rd_T56 l0 x11_1).f6)] 56 (0, 0)) (bk_ BK421) hb); replace HB := hbs_ hb; clear hb; have hcz20 := blk_cell BK421.out; have hfz20 := blk_frozen BK421.out))
        go_roundg k1
        case measure => have := HK1.out; omega
        case rel => exact ⟨(x5_1), (wrap64 (x11_1 + 1)), (by first | rfl | (simp; done) | (simp [*]; done)), H', ⟨by have := HK1.out; omega⟩, ⟨by (with_reducible repeat (first | apply Kd.R_alloc | apply Kd.R_drewN | apply Kd.R_drew)); exact Kd.R_mono HO_5.out (fun _ hk => trivial)⟩, ⟨bl_⟩⟩
      ·replace c9 := Bool.eq_false_iff.mpr c9
       subst c9
       replace H := ite_f_ H
       have H' := Aside0.mk H
       clear H
       have p420 : 0 ≤ (x11_1 : Int) := of_decide_eq_true (by first | (with_reducible assumption) | assumption)
       have q420 : x11_1 < (l0.length : Int) := of_decide_eq_true (by first | (with_reducible assumption) | assumption)
       obtain ⟨ad420, e420, hx420_0, hx420_1, hx420_2, hx420_3, hx420_4, hx420_5, hx420_6, hx420_7, hx420_8, hx420_9⟩ := at_T56 (Kd.C_below HR0.out HB.out) x11_1 p420 q420
       cases e420
       replace p420 := eq_true p420
       replace q420 := eq_true q420
       go_wp2_with (first | ((with_reducible refine gate_dst (N := 7) rfl ?_); refine box_event ?hg (N := 7) ?hd (cs := #[.int .i64 0, .int .i64 0, .int .i64 0, .int .i64 0, .int .i64 0, .int .i64 0, .int .i64 0, .int .i64 0, .int .i64 0, .int .i64 0]) (t := 56) ?hr ?_; (case hd => rfl); (case hg => rfl); (case hr => first | (go_simp; done) | (go_simp; rfl)); intro gb421 hg w21 hbox hb; replace HO_5 := Aside0.mk (Kd.R_below (Kd.R_elderB (by (with_reducible repeat (first | apply Kd.R_alloc | apply Kd.R_drewN | apply Kd.R_drew)); exact HO_5.out) gb421 (Nat.le_of_eq hg.symm)) hb); have BK421 := Aside0.mk (hbox); have GW421 := gs_ hg; have GE421 := gs_ hg; replace HB := hbs_ hb; clear hb hbox hg; have hcz22 := blk_cell BK421.out; have hfz22 := blk_frozen BK421.out) | ((with_reducible refine gate_callee (f := 96) rfl ?_); refine goesC_ (some 16) Try.func96 #[.agg #[.int .i64 ((rd_T56 l0 x11_1).f0), .int .i64 ((rd_T56 l0 x11_1).f1.f0), .int .i64 ((rd_T56 l0 x11_1).f1.f1), .int .i64 ((rd_T56 l0 x11_1).f2), .int .i64 ((rd_T56 l0 x11_1).f3.f0), .int .i64 ((rd_T56 l0 x11_1).f3.f1), .int .i64 ((rd_T56 l0 x11_1).f4.f0), .int .i64 ((rd_T56 l0 x11_1).f4.f1), .int .i64 ((rd_T56 l0 x11_1).f5), .int .i64 ((rd_T56 l0 x11_1).f6)]] ?_; (with_reducible refine (impl_CredOk.calls k1 ((rd_T56 l0 x11_1).f0) ((rd_T56 l0 x11_1).f1.f0) ((rd_T56 l0 x11_1).f1.f1) ((rd_T56 l0 x11_1).f2) ((rd_T56 l0 x11_1).f3.f0) ((rd_T56 l0 x11_1).f3.f1) ((rd_T56 l0 x11_1).f4.f0) ((rd_T56 l0 x11_1).f4.f1) ((rd_T56 l0 x11_1).f5) ((rd_T56 l0 x11_1).f6) false _ A8.out).mono ?_); rintro e w23 ⟨rfl, hb⟩; refine ⟨_, rfl, ?_⟩; replace HO_5 := Aside0.mk (Kd.R_below (by (with_reducible repeat (first | apply Kd.R_alloc | apply Kd.R_drewN | apply Kd.R_drew)); exact (Kd.R_mono (Kd.R_far (p := ⟨gb421, 9, none⟩) (Kd.R_far (p := ⟨gb421, 8, none⟩) (Kd.R_far (p := ⟨gb421, 7, none⟩) (Kd.R_far (p := ⟨gb421, 6, none⟩) (Kd.R_far (p := ⟨gb421, 5, none⟩) (Kd.R_far (p := ⟨gb421, 4, none⟩) (Kd.R_far (p := ⟨gb421, 3, none⟩) (Kd.R_far (p := ⟨gb421, 2, none⟩) (Kd.R_far (p := ⟨gb421, 1, none⟩) (Kd.R_far (p := ⟨gb421, 0, none⟩) (Kd.R_mono HO_5.out (fun k_ hk => (⟨hk, hk.2⟩ : _ ∧ k_ ≠ gb421))) (fun _ hk => hk.2) (.int .i64 ((rd_T56 l0 x11_1).f0))) (fun _ hk => hk.2) (.int .i64 ((rd_T56 l0 x11_1).f1.f0))) (fun _ hk => hk.2) (.int .i64 ((rd_T56 l0 x11_1).f1.f1))) (fun _ hk => hk.2) (.int .i64 ((rd_T56 l0 x11_1).f2))) (fun _ hk => hk.2) (.int .i64 ((rd_T56 l0 x11_1).f3.f0))) (fun _ hk => hk.2) (.int .i64 ((rd_T56 l0 x11_1).f3.f1))) (fun _ hk => hk.2) (.int .i64 ((rd_T56 l0 x11_1).f4.f0))) (fun _ hk => hk.2) (.int .i64 ((rd_T56 l0 x11_1).f4.f1))) (fun _ hk => hk.2) (.int .i64 ((rd_T56 l0 x11_1).f5))) (fun _ hk => hk.2) (.int .i64 ((rd_T56 l0 x11_1).f6))) (fun _ h_ => h_.1))) hb); replace BK421 := Aside0.mk (blk_below (g := gb421) (o := .cells #[.int .i64 ((rd_T56 l0 x11_1).f0), .int .i64 ((rd_T56 l0 x11_1).f1.f0), .int .i64 ((rd_T56 l0 x11_1).f1.f1), .int .i64 ((rd_T56 l0 x11_1).f2), .int .i64 ((rd_T56 l0 x11_1).f3.f0), .int .i64 ((rd_T56 l0 x11_1).f3.f1), .int .i64 ((rd_T56 l0 x11_1).f4.f0), .int .i64 ((rd_T56 l0 x11_1).f4.f1), .int .i64 ((rd_T56 l0 x11_1).f5), .int .i64 ((rd_T56 l0 x11_1).f6)] 56 (0, 0)) (bk_ BK421) hb); replace HB := hbs_ hb; clear hb))
       go_roundg k1
       case measure => have := HK1.out; omega
       case rel => exact ⟨(x5_1), (wrap64 (x11_1 + 1)), (by first | rfl | (simp; done) | (simp [*]; done)), H', ⟨by have := HK1.out; omega⟩, ⟨by (with_reducible repeat (first | apply Kd.R_alloc | apply Kd.R_drewN | apply Kd.R_drew)); exact Kd.R_mono HO_5.out (fun _ hk => trivial)⟩, ⟨bl_⟩⟩
     ·rw [if_neg c7] at H
      exact absurd H (by simp)
    ·rw [if_neg c6] at H
     exact absurd H (by simp)
   ·rw [if_neg c5] at H
    have c5b0 : decide (x11_1 < (l0.length : Int)) = false := decide_eq_false c5
    clear c5
    obtain rfl := Option.some.inj H
    go_wp2
    go_ret
    exact ⟨_, eq_, by (with_reducible repeat (first | apply Kd.R_alloc | apply Kd.R_drewN | apply Kd.R_drew)); exact HO_5.out, bl_⟩
def impl_HoldsAt.f (k : Nat) (l0 : List (S56)) (a1_0 : Int) (a1_1 : Int) (a2 : Int) (a3 : Int) : Option (Bool) := (impl_Alive.f k l0 a3).bind fun t427 => ((impl_IsMember.f k t427 a1_0 a1_1 a2).bind fun t430 => (some t430))
set_option maxHeartbeats 8000000 in
set_option maxRecDepth 100000 in
theorem impl_HoldsAt.calls (k : Nat) (A0 : Option Addr) (c0 : Nat) (l0 : List (S56)) (a1_0 : Int) (a1_1 : Int) (a2 : Int) (a3 : Int) (r : Bool) (w : World) (hr0 : Kd.C k56 w A0 l0.length l0) (hc0 : l0.length ≤ c0) (h : impl_HoldsAt.f k l0 a1_0 a1_1 a2 a3 = some r) :
  Calls Try.prog 61 #[.slice A0 l0.length c0, .agg #[.int .i64 a1_0, .int .i64 a1_1], .int .i64 a2, .int .i64 a3] w fun e w' => e = .returned (.bool r) ∧ Below w.heap.size w w' := by
 have hu49 := Try.underlying49
 have HR0 := Aside0.mk hr0
 have HC0 := Aside0.mk hc0
 clear hr0 hc0
 have HB := Aside0.mk (Below.refl w.heap.size w)
 have H : ((impl_Alive.f k l0 a3).bind fun t427 => ((impl_IsMember.f k t427 a1_0 a1_1 a2).bind fun t430 => (some t430))) = some r := h
 clear h
 obtain ⟨t427, A5, H⟩ := bindE_ H
 obtain ⟨t430, A6, H⟩ := bindE_ H
 obtain rfl := Option.some.inj H
 go_enter Try.func61, Try.ntmps61
 try go_wp2_with (first | ((with_reducible refine gate_dst (N := 5) rfl ?_); refine box_event ?hg (N := 5) ?hd (cs := #[.int .i64 a1_0, .int .i64 a1_1]) (t := 49) ?hr ?_; (case hd => rfl); (case hg => rfl); (case hr => first | (go_simp; done) | (go_simp; rfl)); intro gb426 hg w7 hbox hb; have BK426 := Aside0.mk (hbox); have GW426 := gs_ hg; have GE426 := gs_ hg; replace HB := hbs_ hb; clear hb hbox hg))
 replace BK426 := Aside0.mk (blk_drew BK426.out)
 replace HB := Aside0.mk (below_drew1 HB.out)
 refine start_ (n := 7) (S := fun w' => w'.cell? ⟨gb426, 0, none⟩ = some (.int .i64 a1_0) ∧ w'.cell? ⟨gb426, 1, none⟩ = some (.int .i64 a1_1)) (ds := []) #[false, false, false, false, false, false, false] (by kernel_rfl) rfl rfl ⟨(blk_cell BK426.out 0).trans rfl, (blk_cell BK426.out 1).trans rfl⟩ (fun hHeld => ?_)
 generalize w7.drew = w8 at BK426 HB hHeld ⊢
 refine pure_ (i := 0) (N := some 9) (v := ?_) (a' := ?_) #[true, false, false, false, false, false, false] rfl rfl (by kernel_rfl) (fun _ _ _ h => h) (Or.inl ⟨by rfl, ?_⟩) ?_ ?_
 rotate_left
 ·intro w'
  go_simp
  with_reducible rfl
 rotate_left
 ·simp only [Act.put, List.setIfInBounds_toArray, List.set_cons_zero, List.set_cons_succ, i64_w, i32_w]
  rfl
 refine pure_ (i := 1) (N := some 10) (v := ?_) (a' := ?_) #[true, true, false, false, false, false, false] rfl rfl (by kernel_rfl) (fun _ _ _ h => h) (Or.inl ⟨by rfl, ?_⟩) ?_ ?_
 rotate_left
 ·intro w'
  go_simp
  with_reducible rfl
 rotate_left
 ·simp only [Act.put, List.setIfInBounds_toArray, List.set_cons_zero, List.set_cons_succ, i64_w, i32_w]
  rfl
 refine pure_ (i := 4) (N := some 13) (v := ?_) (a' := ?_) #[true, true, false, false, true, false, false] rfl rfl (by kernel_rfl) (fun _ _ _ h => h) (Or.inl ⟨by rfl, ?_⟩) ?_ ?_
 rotate_left
 ·intro w'
  go_simp
  with_reducible rfl
 rotate_left
 ·simp only [Act.put, List.setIfInBounds_toArray, List.set_cons_zero, List.set_cons_succ, i64_w, i32_w]
  rfl
 refine take_ (i := 3) (N := some 12) (v := ?_) (a' := ?_) #[true, true, false, true, true, false, false] rfl rfl (by kernel_rfl) (fun _ _ _ h => h) (Or.inl ⟨by rfl, ?_⟩) hHeld ?_ ?_
 rotate_left
 ·rintro w' ⟨s0, s1⟩
  go_simp
  with_reducible rfl
 rotate_left
 ·simp only [Act.put, List.setIfInBounds_toArray, List.set_cons_zero, List.set_cons_succ, i64_w, i32_w]
  rfl
 refine one_ (i := 2) (N := some 11) #[true, true, true, true, true, false, false] rfl rfl (by kernel_rfl) (by decide) (fun K hK => ?_)
 refine goes_ Try.func132 (by kernel_rfl) rfl #[.slice A0 l0.length c0, .int .i64 a3] (by rfl) rfl rfl (by (try simp only [List.map_toArray, List.map_cons, List.map_nil]); first | done | rfl | (simp only [List.length_drop, List.length_take]; rfl)) ?_
 with_reducible refine (impl_Alive.calls k _ _ l0 a3 t427 _ ?side1 ?side2 A5.out).mono ?_
 (case side1 => repeat (first | exact (Kd.C_below HR0.out HB.out) | (with_reducible refine Kd.C_alloc ?_ _) | (with_reducible refine Kd.C_drewN ?_ _) | (with_reducible refine Kd.C_drew ?_)))
 (case side2 => exact HC0.out)
 rintro e w9 ⟨v428, rfl, ho0, hb⟩
 refine ⟨_, rfl, ?_⟩
 have HO429 := Aside0.mk (Kd.R_lower ho0 bls_)
 replace BK426 := bkb_ BK426 hb
 replace HB := hbs_ hb
 (try clear hb)
 (try clear hb2)
 (try clear hk)
 (try clear hi)
 (try clear ho0)
 obtain ⟨Ao10, co10, eo10⟩ := Kd.R_slice HO429.out
 (first | subst eo10 | (injection eo10 with f1_ f2_ f3_; have f4_ := f1_.symm; have f5_ := f3_.symm; clear f1_ f2_ f3_; subst f4_; subst f5_))
 refine hK.out _ _ ⟨(blk_cell BK426.out 0).trans rfl, (blk_cell BK426.out 1).trans rfl⟩ (fun hHeld => ?_)
 clear hK K
 refine norm_ (a' := ?_) ?_ ?_
 rotate_left
 ·show Act.put _ (some 11) _ = _
  simp only [Act.put, List.setIfInBounds_toArray, List.set_cons_zero, List.set_cons_succ, i64_w, i32_w]
  rfl
 refine one_ (i := 5) (N := some 14) #[true, true, true, true, true, true, false] rfl rfl (by kernel_rfl) (by decide) (fun K hK => ?_)
 refine goes_ Try.func131 (by kernel_rfl) rfl #[.slice Ao10 t427.length co10, .agg #[.int .i64 a1_0, .int .i64 a1_1], .int .i64 a2] (by rfl) rfl rfl (by (try simp only [List.map_toArray, List.map_cons, List.map_nil]); first | done | rfl | (simp only [List.length_drop, List.length_take]; rfl)) ?_
 with_reducible refine (impl_IsMember.calls k _ _ t427 a1_0 a1_1 a2 t430 _ ?side1 ?side2 A6.out).mono ?_
 (case side1 => repeat (first | exact (Kd.R_reads' HO429.out).2.2 | (with_reducible refine Kd.C_alloc ?_ _) | (with_reducible refine Kd.C_drewN ?_ _) | (with_reducible refine Kd.C_drew ?_)))
 (case side2 => exact (Kd.R_reads' HO429.out).2.1)
 rintro e w11 ⟨rfl, hb⟩
 refine ⟨_, rfl, ?_⟩
 replace HO429 := Aside0.mk (Kd.R_below (by (with_reducible repeat (first | apply Kd.R_alloc | apply Kd.R_drewN | apply Kd.R_drew)); exact HO429.out) hb)
 replace BK426 := bkb_ BK426 hb
 replace HB := hbs_ hb
 (try clear hb)
 (try clear hb2)
 (try clear hk)
 (try clear hi)
 refine hK.out _ _ ⟨(blk_cell BK426.out 0).trans rfl, (blk_cell BK426.out 1).trans rfl⟩ (fun hHeld => ?_)
 clear hK K
 refine norm_ (a' := ?_) ?_ ?_
 rotate_left
 ·show Act.put _ (some 14) _ = _
  simp only [Act.put, List.setIfInBounds_toArray, List.set_cons_zero, List.set_cons_succ, i64_w, i32_w]
  rfl
 refine pure_ (i := 6) (N := some 8) (v := ?_) (a' := ?_) #[true, true, true, true, true, true, true] rfl rfl (by kernel_rfl) (fun _ _ _ h => h) (Or.inl ⟨by rfl, ?_⟩) ?_ ?_
 rotate_left
 ·intro w'
  go_simp
  with_reducible rfl
 rotate_left
 ·simp only [Act.put, List.setIfInBounds_toArray, List.set_cons_zero, List.set_cons_succ, i64_w, i32_w]
  rfl
 refine done_ (by kernel_rfl) ?_
 try go_wp2
 go_ret
 exact ⟨eq_, bl_⟩
def impl_LastDay.l0 : Nat → List (S56) → Int → Int → List (S56) → Int → Int → Int → Int → Option (Int)
 | 0, _, _, _, _, _, _, _, _ => none
 | k + 1, x0, x2, x7, x10, x11, x12, x432000, x432001 => if x12 < x11 then (if 0 ≤ x12 then (if x12 < (x10.length : Int) then ((impl_CredOk.f k ((rd_T56 x10 x12).f0) ((rd_T56 x10 x12).f1.f0) ((rd_T56 x10 x12).f1.f1) ((rd_T56 x10 x12).f2) ((rd_T56 x10 x12).f3.f0) ((rd_T56 x10 x12).f3.f1) ((rd_T56 x10 x12).f4.f0) ((rd_T56 x10 x12).f4.f1) ((rd_T56 x10 x12).f5) ((rd_T56 x10 x12).f6)).bind fun t434 => (if t434 = true then (if ((rd_T56 x10 x12).f5) > x7 then ((impl_HoldsAt.f k x0 x432000 x432001 x2 ((rd_T56 x10 x12).f5)).bind fun t435 => (if t435 = true then (impl_LastDay.l0 k x0 x2 ((rd_T56 x10 x12).f5) x10 x11 (wrap64 (x12 + 1)) x432000 x432001) else (impl_LastDay.l0 k x0 x2 x7 x10 x11 (wrap64 (x12 + 1)) x432000 x432001))) else (impl_LastDay.l0 k x0 x2 x7 x10 x11 (wrap64 (x12 + 1)) x432000 x432001)) else (impl_LastDay.l0 k x0 x2 x7 x10 x11 (wrap64 (x12 + 1)) x432000 x432001))) else (none)) else (none)) else (some x7)
def impl_LastDay.f (k : Nat) (l0 : List (S56)) (a1_0 : Int) (a1_1 : Int) (a2 : Int) : Option (Int) := impl_LastDay.l0 k l0 a2 0 l0 (l0.length : Int) 0 a1_0 a1_1
set_option maxHeartbeats 8000000 in
set_option maxRecDepth 100000 in
theorem impl_LastDay.calls (k : Nat) (A0 : Option Addr) (c0 : Nat) (l0 : List (S56)) (a1_0 : Int) (a1_1 : Int) (a2 : Int) (r : Int) (w : World) (hr0 : Kd.C k56 w A0 l0.length l0) (hc0 : l0.length ≤ c0) (h : impl_LastDay.f k l0 a1_0 a1_1 a2 = some r) :
  Calls Try.prog 60 #[.slice A0 l0.length c0, .agg #[.int .i64 a1_0, .int .i64 a1_1], .int .i64 a2] w fun e w' => e = .returned (.int .i64 r) ∧ Below w.heap.size w w' := by
 have hu49 := Try.underlying49
 have hu56 := Try.underlying56
 have HR0 := Aside0.mk hr0
 have HC0 := Aside0.mk hc0
 clear hr0 hc0
 have HB := Aside0.mk (Below.refl w.heap.size w)
 have H : (impl_LastDay.l0 k l0 a2 0 l0 (l0.length : Int) 0 a1_0 a1_1) = some r := h
 clear h
 have H' := Aside0.mk H
 clear H
 go_enter Try.func60, Try.ntmps60
 go_wp2_with (first | ((with_reducible refine gate_dst (N := 4) rfl ?_); refine box_event ?hg (N := 4) ?hd (cs := #[.int .i64 a1_0, .int .i64 a1_1]) (t := 49) ?hr ?_; (case hd => rfl); (case hg => rfl); (case hr => first | (go_simp; done) | (go_simp; rfl)); intro gb431 hg w4 hbox hb; have BK431 := Aside0.mk (hbox); have GW431 := gs_ hg; have GE431 := gs_ hg; replace HB := hbs_ hb; clear hb hbox hg))
 go_loopg [7, 12] k (fun kq v7 v12 w' => ∃ (x7_1 : Int) (x12_1 : Int), v7 = .int .i64 x7_1 ∧ v12 = .int .i64 x12_1 ∧ Aside0 (impl_LastDay.l0 kq l0 a2 x7_1 l0 (l0.length : Int) x12_1 a1_0 a1_1 = some r) ∧ Aside0 (kq ≤ k) ∧ Aside0 (w'.heap[gb431]? = some (.cells #[.int .i64 a1_0, .int .i64 a1_1] 49 (0, 0))) ∧ Aside0 (Below w.heap.size w w'))
 case atStart => exact ⟨(0), (0), (by first | rfl | (simp; done) | (simp [*]; done)), (by first | rfl | (simp; done) | (simp [*]; done)), H', ⟨Nat.le_refl _⟩, ⟨bk_ BK431⟩, ⟨bl_⟩⟩
 case round =>
  clear H'
  try clear p2
  obtain ⟨x7_1, x12_1, rfl, rfl, HA, HK1, BK431, HB⟩ := hrel
  cases gk with
  | zero => exact absurd HA.out (by simp [impl_LastDay.l0])
  | succ k1 =>
   have H := HA.out
   clear HA
   simp only [impl_LastDay.l0] at H
   by_cases c5 : x12_1 < (l0.length : Int)
   ·rw [if_pos c5] at H
    have c5b0 : decide (x12_1 < (l0.length : Int)) = true := decide_eq_true c5
    clear c5
    by_cases c6 : 0 ≤ x12_1
    ·rw [if_pos c6] at H
     have c6b0 : decide (0 ≤ x12_1) = true := decide_eq_true c6
     clear c6
     by_cases c7 : x12_1 < (l0.length : Int)
     ·rw [if_pos c7] at H
      have c7b0 : decide (x12_1 < (l0.length : Int)) = true := decide_eq_true c7
      clear c7
      obtain ⟨t434, A8, H⟩ := bindE_ H
      by_cases c9 : t434 = true
      ·subst c9
       replace H := ite_t_ H
       by_cases c10 : ((rd_T56 l0 x12_1).f5) > x7_1
       ·rw [if_pos c10] at H
        have c10b0 : decide (x7_1 < ((rd_T56 l0 x12_1).f5)) = true := decide_eq_true c10
        clear c10
        obtain ⟨t435, A11, H⟩ := bindE_ H
        by_cases c12 : t435 = true
        ·subst c12
         replace H := ite_t_ H
         have H' := Aside0.mk H
         clear H
         have p432 : 0 ≤ (x12_1 : Int) := of_decide_eq_true (by first | (with_reducible assumption) | assumption)
         have q432 : x12_1 < (l0.length : Int) := of_decide_eq_true (by first | (with_reducible assumption) | assumption)
         obtain ⟨ad432, e432, hx432_0, hx432_1, hx432_2, hx432_3, hx432_4, hx432_5, hx432_6, hx432_7, hx432_8, hx432_9⟩ := at_T56 (Kd.C_below HR0.out HB.out) x12_1 p432 q432
         cases e432
         replace p432 := eq_true p432
         replace q432 := eq_true q432
         go_wp2_with (first | ((with_reducible refine gate_dst (N := 9) rfl ?_); refine box_event ?hg (N := 9) ?hd (cs := #[.int .i64 0, .int .i64 0, .int .i64 0, .int .i64 0, .int .i64 0, .int .i64 0, .int .i64 0, .int .i64 0, .int .i64 0, .int .i64 0]) (t := 56) ?hr ?_; (case hd => rfl); (case hg => rfl); (case hr => first | (go_simp; done) | (go_simp; rfl)); intro gb433 hg w13 hbox hb; have BK433 := Aside0.mk (hbox); have GW433 := gs_ hg; have GE433 := gs_ hg; replace HB := hbs_ hb; have NB431_433 := Aside0.mk ((by rw [hg]; exact Nat.ne_of_lt (blk_lt (g := gb431) (o := .cells #[.int .i64 a1_0, .int .i64 a1_1] 49 (0, 0)) (bk_ BK431)) : gb431 ≠ gb433)); have NB433_431 := Aside0.mk ((by rw [hg]; exact Nat.ne_of_gt (blk_lt (g := gb431) (o := .cells #[.int .i64 a1_0, .int .i64 a1_1] 49 (0, 0)) (bk_ BK431)) : gb433 ≠ gb431)); replace BK431 := bkb_ BK431 hb; clear hb hbox hg; have hnb14 := NB433_431.out; have hnc14 := NB431_433.out; have hcz15 := blk_cell BK433.out; have hfz15 := blk_frozen BK433.out) | ((with_reducible refine gate_callee (f := 96) rfl ?_); refine goesC_ (some 17) Try.func96 #[.agg #[.int .i64 ((rd_T56 l0 x12_1).f0), .int .i64 ((rd_T56 l0 x12_1).f1.f0), .int .i64 ((rd_T56 l0 x12_1).f1.f1), .int .i64 ((rd_T56 l0 x12_1).f2), .int .i64 ((rd_T56 l0 x12_1).f3.f0), .int .i64 ((rd_T56 l0 x12_1).f3.f1), .int .i64 ((rd_T56 l0 x12_1).f4.f0), .int .i64 ((rd_T56 l0 x12_1).f4.f1), .int .i64 ((rd_T56 l0 x12_1).f5), .int .i64 ((rd_T56 l0 x12_1).f6)]] ?_; (with_reducible refine (impl_CredOk.calls k1 ((rd_T56 l0 x12_1).f0) ((rd_T56 l0 x12_1).f1.f0) ((rd_T56 l0 x12_1).f1.f1) ((rd_T56 l0 x12_1).f2) ((rd_T56 l0 x12_1).f3.f0) ((rd_T56 l0 x12_1).f3.f1) ((rd_T56 l0 x12_1).f4.f0) ((rd_T56 l0 x12_1).f4.f1) ((rd_T56 l0 x12_1).f5) ((rd_T56 l0 x12_1).f6) true _ A8.out).mono ?_); rintro e w16 ⟨rfl, hb⟩; refine ⟨_, rfl, ?_⟩; replace BK431 := Aside0.mk (blk_below (g := gb431) (o := .cells #[.int .i64 a1_0, .int .i64 a1_1] 49 (0, 0)) (bk_ BK431) hb); replace BK433 := Aside0.mk (blk_below (g := gb433) (o := .cells #[.int .i64 ((rd_T56 l0 x12_1).f0), .int .i64 ((rd_T56 l0 x12_1).f1.f0), .int .i64 ((rd_T56 l0 x12_1).f1.f1), .int .i64 ((rd_T56 l0 x12_1).f2), .int .i64 ((rd_T56 l0 x12_1).f3.f0), .int .i64 ((rd_T56 l0 x12_1).f3.f1), .int .i64 ((rd_T56 l0 x12_1).f4.f0), .int .i64 ((rd_T56 l0 x12_1).f4.f1), .int .i64 ((rd_T56 l0 x12_1).f5), .int .i64 ((rd_T56 l0 x12_1).f6)] 56 (0, 0)) (bk_ BK433) hb); replace HB := hbs_ hb; clear hb; have hcz17 := blk_cell BK433.out; have hfz17 := blk_frozen BK433.out; have hcz18 := blk_cell BK431.out; have hfz18 := blk_frozen BK431.out) | (go_at_call 61; (with_reducible refine (impl_HoldsAt.calls k1 _ _ l0 a1_0 a1_1 a2 ((rd_T56 l0 x12_1).f5) true _ ?side1 ?side2 A11.out).mono ?_); (case side1 => repeat (first | exact (Kd.C_below HR0.out HB.out) | (with_reducible refine Kd.C_alloc ?_ _) | (with_reducible refine Kd.C_drewN ?_ _) | (with_reducible refine Kd.C_drew ?_))); (case side2 => exact HC0.out); rintro e w19 ⟨rfl, hb⟩; replace BK431 := bkb_ BK431 hb; replace BK433 := bkb_ BK433 hb; replace HB := hbs_ hb; clear hb; have hcz20 := blk_cell BK433.out; have hfz20 := blk_frozen BK433.out))
         go_roundg k1
         case measure => have := HK1.out; omega
         case rel => exact ⟨((rd_T56 l0 x12_1).f5), (wrap64 (x12_1 + 1)), (by first | rfl | (simp; done) | (simp [*]; done)), (by first | rfl | (simp; done) | (simp [*]; done)), H', ⟨by have := HK1.out; omega⟩, ⟨bk_ BK431⟩, ⟨bl_⟩⟩
        ·replace c12 := Bool.eq_false_iff.mpr c12
         subst c12
         replace H := ite_f_ H
         have H' := Aside0.mk H
         clear H
         have p432 : 0 ≤ (x12_1 : Int) := of_decide_eq_true (by first | (with_reducible assumption) | assumption)
         have q432 : x12_1 < (l0.length : Int) := of_decide_eq_true (by first | (with_reducible assumption) | assumption)
         obtain ⟨ad432, e432, hx432_0, hx432_1, hx432_2, hx432_3, hx432_4, hx432_5, hx432_6, hx432_7, hx432_8, hx432_9⟩ := at_T56 (Kd.C_below HR0.out HB.out) x12_1 p432 q432
         cases e432
         replace p432 := eq_true p432
         replace q432 := eq_true q432
         go_wp2_with (first | ((with_reducible refine gate_dst (N := 9) rfl ?_); refine box_event ?hg (N := 9) ?hd (cs := #[.int .i64 0, .int .i64 0, .int .i64 0, .int .i64 0, .int .i64 0, .int .i64 0, .int .i64 0, .int .i64 0, .int .i64 0, .int .i64 0]) (t := 56) ?hr ?_; (case hd => rfl); (case hg => rfl); (case hr => first | (go_simp; done) | (go_simp; rfl)); intro gb433 hg w21 hbox hb; have BK433 := Aside0.mk (hbox); have GW433 := gs_ hg; have GE433 := gs_ hg; replace HB := hbs_ hb; have NB431_433 := Aside0.mk ((by rw [hg]; exact Nat.ne_of_lt (blk_lt (g := gb431) (o := .cells #[.int .i64 a1_0, .int .i64 a1_1] 49 (0, 0)) (bk_ BK431)) : gb431 ≠ gb433)); have NB433_431 := Aside0.mk ((by rw [hg]; exact Nat.ne_of_gt (blk_lt (g := gb431) (o := .cells #[.int .i64 a1_0, .int .i64 a1_1] 49 (0, 0)) (bk_ BK431)) : gb433 ≠ gb431)); replace BK431 := bkb_ BK431 hb; clear hb hbox hg; have hnb22 := NB433_431.out; have hnc22 := NB431_433.out; have hcz23 := blk_cell BK433.out; have hfz23 := blk_frozen BK433.out) | ((with_reducible refine gate_callee (f := 96) rfl ?_); refine goesC_ (some 17) Try.func96 #[.agg #[.int .i64 ((rd_T56 l0 x12_1).f0), .int .i64 ((rd_T56 l0 x12_1).f1.f0), .int .i64 ((rd_T56 l0 x12_1).f1.f1), .int .i64 ((rd_T56 l0 x12_1).f2), .int .i64 ((rd_T56 l0 x12_1).f3.f0), .int .i64 ((rd_T56 l0 x12_1).f3.f1), .int .i64 ((rd_T56 l0 x12_1).f4.f0), .int .i64 ((rd_T56 l0 x12_1).f4.f1), .int .i64 ((rd_T56 l0 x12_1).f5), .int .i64 ((rd_T56 l0 x12_1).f6)]] ?_; (with_reducible refine (impl_CredOk.calls k1 ((rd_T56 l0 x12_1).f0) ((rd_T56 l0 x12_1).f1.f0) ((rd_T56 l0 x12_1).f1.f1) ((rd_T56 l0 x12_1).f2) ((rd_T56 l0 x12_1).f3.f0) ((rd_T56 l0 x12_1).f3.f1) ((rd_T56 l0 x12_1).f4.f0) ((rd_T56 l0 x12_1).f4.f1) ((rd_T56 l0 x12_1).f5) ((rd_T56 l0 x12_1).f6) true _ A8.out).mono ?_); rintro e w24 ⟨rfl, hb⟩; refine ⟨_, rfl, ?_⟩; replace BK431 := Aside0.mk (blk_below (g := gb431) (o := .cells #[.int .i64 a1_0, .int .i64 a1_1] 49 (0, 0)) (bk_ BK431) hb); replace BK433 := Aside0.mk (blk_below (g := gb433) (o := .cells #[.int .i64 ((rd_T56 l0 x12_1).f0), .int .i64 ((rd_T56 l0 x12_1).f1.f0), .int .i64 ((rd_T56 l0 x12_1).f1.f1), .int .i64 ((rd_T56 l0 x12_1).f2), .int .i64 ((rd_T56 l0 x12_1).f3.f0), .int .i64 ((rd_T56 l0 x12_1).f3.f1), .int .i64 ((rd_T56 l0 x12_1).f4.f0), .int .i64 ((rd_T56 l0 x12_1).f4.f1), .int .i64 ((rd_T56 l0 x12_1).f5), .int .i64 ((rd_T56 l0 x12_1).f6)] 56 (0, 0)) (bk_ BK433) hb); replace HB := hbs_ hb; clear hb; have hcz25 := blk_cell BK433.out; have hfz25 := blk_frozen BK433.out; have hcz26 := blk_cell BK431.out; have hfz26 := blk_frozen BK431.out) | (go_at_call 61; (with_reducible refine (impl_HoldsAt.calls k1 _ _ l0 a1_0 a1_1 a2 ((rd_T56 l0 x12_1).f5) false _ ?side1 ?side2 A11.out).mono ?_); (case side1 => repeat (first | exact (Kd.C_below HR0.out HB.out) | (with_reducible refine Kd.C_alloc ?_ _) | (with_reducible refine Kd.C_drewN ?_ _) | (with_reducible refine Kd.C_drew ?_))); (case side2 => exact HC0.out); rintro e w27 ⟨rfl, hb⟩; replace BK431 := bkb_ BK431 hb; replace BK433 := bkb_ BK433 hb; replace HB := hbs_ hb; clear hb))
         go_roundg k1
         case measure => have := HK1.out; omega
         case rel => exact ⟨(x7_1), (wrap64 (x12_1 + 1)), (by first | rfl | (simp; done) | (simp [*]; done)), (by first | rfl | (simp; done) | (simp [*]; done)), H', ⟨by have := HK1.out; omega⟩, ⟨bk_ BK431⟩, ⟨bl_⟩⟩
       ·rw [if_neg c10] at H
        have c10b0 : decide (x7_1 < ((rd_T56 l0 x12_1).f5)) = false := decide_eq_false c10
        clear c10
        have H' := Aside0.mk H
        clear H
        have p432 : 0 ≤ (x12_1 : Int) := of_decide_eq_true (by first | (with_reducible assumption) | assumption)
        have q432 : x12_1 < (l0.length : Int) := of_decide_eq_true (by first | (with_reducible assumption) | assumption)
        obtain ⟨ad432, e432, hx432_0, hx432_1, hx432_2, hx432_3, hx432_4, hx432_5, hx432_6, hx432_7, hx432_8, hx432_9⟩ := at_T56 (Kd.C_below HR0.out HB.out) x12_1 p432 q432
        cases e432
        replace p432 := eq_true p432
        replace q432 := eq_true q432
        go_wp2_with (first | ((with_reducible refine gate_dst (N := 9) rfl ?_); refine box_event ?hg (N := 9) ?hd (cs := #[.int .i64 0, .int .i64 0, .int .i64 0, .int .i64 0, .int .i64 0, .int .i64 0, .int .i64 0, .int .i64 0, .int .i64 0, .int .i64 0]) (t := 56) ?hr ?_; (case hd => rfl); (case hg => rfl); (case hr => first | (go_simp; done) | (go_simp; rfl)); intro gb433 hg w28 hbox hb; have BK433 := Aside0.mk (hbox); have GW433 := gs_ hg; have GE433 := gs_ hg; replace HB := hbs_ hb; have NB431_433 := Aside0.mk ((by rw [hg]; exact Nat.ne_of_lt (blk_lt (g := gb431) (o := .cells #[.int .i64 a1_0, .int .i64 a1_1] 49 (0, 0)) (bk_ BK431)) : gb431 ≠ gb433)); have NB433_431 := Aside0.mk ((by rw [hg]; exact Nat.ne_of_gt (blk_lt (g := gb431) (o := .cells #[.int .i64 a1_0, .int .i64 a1_1] 49 (0, 0)) (bk_ BK431)) : gb433 ≠ gb431)); replace BK431 := bkb_ BK431 hb; clear hb hbox hg; have hnb29 := NB433_431.out; have hnc29 := NB431_433.out; have hcz30 := blk_cell BK433.out; have hfz30 := blk_frozen BK433.out) | ((with_reducible refine gate_callee (f := 96) rfl ?_); refine goesC_ (some 17) Try.func96 #[.agg #[.int .i64 ((rd_T56 l0 x12_1).f0), .int .i64 ((rd_T56 l0 x12_1).f1.f0), .int .i64 ((rd_T56 l0 x12_1).f1.f1), .int .i64 ((rd_T56 l0 x12_1).f2), .int .i64 ((rd_T56 l0 x12_1).f3.f0), .int .i64 ((rd_T56 l0 x12_1).f3.f1), .int .i64 ((rd_T56 l0 x12_1).f4.f0), .int .i64 ((rd_T56 l0 x12_1).f4.f1), .int .i64 ((rd_T56 l0 x12_1).f5), .int .i64 ((rd_T56 l0 x12_1).f6)]] ?_; (with_reducible refine (impl_CredOk.calls k1 ((rd_T56 l0 x12_1).f0) ((rd_T56 l0 x12_1).f1.f0) ((rd_T56 l0 x12_1).f1.f1) ((rd_T56 l0 x12_1).f2) ((rd_T56 l0 x12_1).f3.f0) ((rd_T56 l0 x12_1).f3.f1) ((rd_T56 l0 x12_1).f4.f0) ((rd_T56 l0 x12_1).f4.f1) ((rd_T56 l0 x12_1).f5) ((rd_T56 l0 x12_1).f6) true _ A8.out).mono ?_); rintro e w31 ⟨rfl, hb⟩; refine ⟨_, rfl, ?_⟩; replace BK431 := Aside0.mk (blk_below (g := gb431) (o := .cells #[.int .i64 a1_0, .int .i64 a1_1] 49 (0, 0)) (bk_ BK431) hb); replace BK433 := Aside0.mk (blk_below (g := gb433) (o := .cells #[.int .i64 ((rd_T56 l0 x12_1).f0), .int .i64 ((rd_T56 l0 x12_1).f1.f0), .int .i64 ((rd_T56 l0 x12_1).f1.f1), .int .i64 ((rd_T56 l0 x12_1).f2), .int .i64 ((rd_T56 l0 x12_1).f3.f0), .int .i64 ((rd_T56 l0 x12_1).f3.f1), .int .i64 ((rd_T56 l0 x12_1).f4.f0), .int .i64 ((rd_T56 l0 x12_1).f4.f1), .int .i64 ((rd_T56 l0 x12_1).f5), .int .i64 ((rd_T56 l0 x12_1).f6)] 56 (0, 0)) (bk_ BK433) hb); replace HB := hbs_ hb; clear hb; have hcz32 := blk_cell BK433.out; have hfz32 := blk_frozen BK433.out))
        go_roundg k1
        case measure => have := HK1.out; omega
        case rel => exact ⟨(x7_1), (wrap64 (x12_1 + 1)), (by first | rfl | (simp; done) | (simp [*]; done)), (by first | rfl | (simp; done) | (simp [*]; done)), H', ⟨by have := HK1.out; omega⟩, ⟨bk_ BK431⟩, ⟨bl_⟩⟩
      ·replace c9 := Bool.eq_false_iff.mpr c9
       subst c9
       replace H := ite_f_ H
       have H' := Aside0.mk H
       clear H
       have p432 : 0 ≤ (x12_1 : Int) := of_decide_eq_true (by first | (with_reducible assumption) | assumption)
       have q432 : x12_1 < (l0.length : Int) := of_decide_eq_true (by first | (with_reducible assumption) | assumption)
       obtain ⟨ad432, e432, hx432_0, hx432_1, hx432_2, hx432_3, hx432_4, hx432_5, hx432_6, hx432_7, hx432_8, hx432_9⟩ := at_T56 (Kd.C_below HR0.out HB.out) x12_1 p432 q432
       cases e432
       replace p432 := eq_true p432
       replace q432 := eq_true q432
       go_wp2_with (first | ((with_reducible refine gate_dst (N := 9) rfl ?_); refine box_event ?hg (N := 9) ?hd (cs := #[.int .i64 0, .int .i64 0, .int .i64 0, .int .i64 0, .int .i64 0, .int .i64 0, .int .i64 0, .int .i64 0, .int .i64 0, .int .i64 0]) (t := 56) ?hr ?_; (case hd => rfl); (case hg => rfl); (case hr => first | (go_simp; done) | (go_simp; rfl)); intro gb433 hg w33 hbox hb; have BK433 := Aside0.mk (hbox); have GW433 := gs_ hg; have GE433 := gs_ hg; replace HB := hbs_ hb; have NB431_433 := Aside0.mk ((by rw [hg]; exact Nat.ne_of_lt (blk_lt (g := gb431) (o := .cells #[.int .i64 a1_0, .int .i64 a1_1] 49 (0, 0)) (bk_ BK431)) : gb431 ≠ gb433)); have NB433_431 := Aside0.mk ((by rw [hg]; exact Nat.ne_of_gt (blk_lt (g := gb431) (o := .cells #[.int .i64 a1_0, .int .i64 a1_1] 49 (0, 0)) (bk_ BK431)) : gb433 ≠ gb431)); replace BK431 := bkb_ BK431 hb; clear hb hbox hg; have hnb34 := NB433_431.out; have hnc34 := NB431_433.out; have hcz35 := blk_cell BK433.out; have hfz35 := blk_frozen BK433.out) | ((with_reducible refine gate_callee (f := 96) rfl ?_); refine goesC_ (some 17) Try.func96 #[.agg #[.int .i64 ((rd_T56 l0 x12_1).f0), .int .i64 ((rd_T56 l0 x12_1).f1.f0), .int .i64 ((rd_T56 l0 x12_1).f1.f1), .int .i64 ((rd_T56 l0 x12_1).f2), .int .i64 ((rd_T56 l0 x12_1).f3.f0), .int .i64 ((rd_T56 l0 x12_1).f3.f1), .int .i64 ((rd_T56 l0 x12_1).f4.f0), .int .i64 ((rd_T56 l0 x12_1).f4.f1), .int .i64 ((rd_T56 l0 x12_1).f5), .int .i64 ((rd_T56 l0 x12_1).f6)]] ?_; (with_reducible refine (impl_CredOk.calls k1 ((rd_T56 l0 x12_1).f0) ((rd_T56 l0 x12_1).f1.f0) ((rd_T56 l0 x12_1).f1.f1) ((rd_T56 l0 x12_1).f2) ((rd_T56 l0 x12_1).f3.f0) ((rd_T56 l0 x12_1).f3.f1) ((rd_T56 l0 x12_1).f4.f0) ((rd_T56 l0 x12_1).f4.f1) ((rd_T56 l0 x12_1).f5) ((rd_T56 l0 x12_1).f6) false _ A8.out).mono ?_); rintro e w36 ⟨rfl, hb⟩; refine ⟨_, rfl, ?_⟩; replace BK431 := Aside0.mk (blk_below (g := gb431) (o := .cells #[.int .i64 a1_0, .int .i64 a1_1] 49 (0, 0)) (bk_ BK431) hb); replace BK433 := Aside0.mk (blk_below (g := gb433) (o := .cells #[.int .i64 ((rd_T56 l0 x12_1).f0), .int .i64 ((rd_T56 l0 x12_1).f1.f0), .int .i64 ((rd_T56 l0 x12_1).f1.f1), .int .i64 ((rd_T56 l0 x12_1).f2), .int .i64 ((rd_T56 l0 x12_1).f3.f0), .int .i64 ((rd_T56 l0 x12_1).f3.f1), .int .i64 ((rd_T56 l0 x12_1).f4.f0), .int .i64 ((rd_T56 l0 x12_1).f4.f1), .int .i64 ((rd_T56 l0 x12_1).f5), .int .i64 ((rd_T56 l0 x12_1).f6)] 56 (0, 0)) (bk_ BK433) hb); replace HB := hbs_ hb; clear hb))
       go_roundg k1
       case measure => have := HK1.out; omega
       case rel => exact ⟨(x7_1), (wrap64 (x12_1 + 1)), (by first | rfl | (simp; done) | (simp [*]; done)), (by first | rfl | (simp; done) | (simp [*]; done)), H', ⟨by have := HK1.out; omega⟩, ⟨bk_ BK431⟩, ⟨bl_⟩⟩
     ·rw [if_neg c7] at H
      exact absurd H (by simp)
    ·rw [if_neg c6] at H
     exact absurd H (by simp)
   ·rw [if_neg c5] at H
    have c5b0 : decide (x12_1 < (l0.length : Int)) = false := decide_eq_false c5
    clear c5
    obtain rfl := Option.some.inj H
    go_wp2
    go_ret
    exact ⟨eq_, bl_⟩
def laws_hasFact.l0 : Nat → List (S51) → Int → Int → Int → Int → Option (Bool)
 | 0, _, _, _, _, _ => none
 | k + 1, x0, x5, x437000, x437001, x437002 => if x5 < (x0.length : Int) then (if 0 ≤ x5 then (if ((((rd_T51 x0 x5).f0.f0) == x437000 && (((rd_T51 x0 x5).f0.f1) == x437001)) && (((rd_T51 x0 x5).f1) == x437002)) = true then (some true) else (laws_hasFact.l0 k x0 (wrap64 (x5 + 1)) x437000 x437001 x437002)) else (none)) else (some false)
def laws_hasFact.f (k : Nat) (l0 : List (S51)) (a1_0 : Int) (a1_1 : Int) (a1_2 : Int) : Option (Bool) := laws_hasFact.l0 k l0 0 a1_0 a1_1 a1_2
set_option maxHeartbeats 8000000 in
set_option maxRecDepth 100000 in
theorem laws_hasFact.calls (k : Nat) (A0 : Option Addr) (c0 : Nat) (l0 : List (S51)) (a1_0 : Int) (a1_1 : Int) (a1_2 : Int) (r : Bool) (w : World) (hr0 : Kd.C k51 w A0 l0.length l0) (hc0 : l0.length ≤ c0) (h : laws_hasFact.f k l0 a1_0 a1_1 a1_2 = some r) :
  Calls Try.prog 62 #[.slice A0 l0.length c0, .agg #[.int .i64 a1_0, .int .i64 a1_1, .int .i64 a1_2]] w fun e w' => e = .returned (.bool r) ∧ Below w.heap.size w w' := by
 have hu51 := Try.underlying51
 have HR0 := Aside0.mk hr0
 have HC0 := Aside0.mk hc0
 clear hr0 hc0
 have HB := Aside0.mk (Below.refl w.heap.size w)
 have H : (laws_hasFact.l0 k l0 0 a1_0 a1_1 a1_2) = some r := h
 clear h
 have H' := Aside0.mk H
 clear H
 go_enter Try.func62, Try.ntmps62
 go_wp2_with (first | ((with_reducible refine gate_dst (N := 3) rfl ?_); refine box_event ?hg (N := 3) ?hd (cs := #[.int .i64 a1_0, .int .i64 a1_1, .int .i64 a1_2]) (t := 51) ?hr ?_; (case hd => rfl); (case hg => rfl); (case hr => first | (go_simp; done) | (go_simp; rfl)); intro gb436 hg w3 hbox hb; have BK436 := Aside0.mk (hbox); have GW436 := gs_ hg; have GE436 := gs_ hg; replace HB := hbs_ hb; clear hb hbox hg))
 repeat (go_quiet (first | ((with_reducible refine gate_dst (N := 3) rfl ?_); refine box_event ?hg (N := 3) ?hd (cs := #[.int .i64 a1_0, .int .i64 a1_1, .int .i64 a1_2]) (t := 51) ?hr ?_; (case hd => rfl); (case hg => rfl); (case hr => first | (go_simp; done) | (go_simp; rfl)); intro gb436 hg w3 hbox hb; have BK436 := Aside0.mk (hbox); have GW436 := gs_ hg; have GE436 := gs_ hg; replace HB := hbs_ hb; clear hb hbox hg)); try go_wp2_with (first | ((with_reducible refine gate_dst (N := 3) rfl ?_); refine box_event ?hg (N := 3) ?hd (cs := #[.int .i64 a1_0, .int .i64 a1_1, .int .i64 a1_2]) (t := 51) ?hr ?_; (case hd => rfl); (case hg => rfl); (case hr => first | (go_simp; done) | (go_simp; rfl)); intro gb436 hg w3 hbox hb; have BK436 := Aside0.mk (hbox); have GW436 := gs_ hg; have GE436 := gs_ hg; replace HB := hbs_ hb; clear hb hbox hg)))
 go_loopg [5] k (fun kq v5 w' => ∃ (x5_1 : Int), v5 = .int .i64 x5_1 ∧ Aside0 (laws_hasFact.l0 kq l0 x5_1 a1_0 a1_1 a1_2 = some r) ∧ Aside0 (kq ≤ k) ∧ Aside0 (w'.heap[gb436]? = some (.cells #[.int .i64 a1_0, .int .i64 a1_1, .int .i64 a1_2] 51 (0, 0))) ∧ Aside0 (Below w.heap.size w w'))
 case atStart => exact ⟨(0), (by first | rfl | (simp; done) | (simp [*]; done)), H', ⟨Nat.le_refl _⟩, ⟨bk_ BK436⟩, ⟨bl_⟩⟩
 case round =>
  clear H'
  try clear p2
  obtain ⟨x5_1, rfl, HA, HK1, BK436, HB⟩ := hrel
  cases gk with
  | zero => exact absurd HA.out (by simp [laws_hasFact.l0])
  | succ k1 =>
   have H := HA.out
   clear HA
   simp only [laws_hasFact.l0] at H
   by_cases c4 : x5_1 < (l0.length : Int)
   ·rw [if_pos c4] at H
    have c4b0 : decide (x5_1 < (l0.length : Int)) = true := decide_eq_true c4
    clear c4
    by_cases c5 : 0 ≤ x5_1
    ·rw [if_pos c5] at H
     have c5b0 : decide (0 ≤ x5_1) = true := decide_eq_true c5
     clear c5
     by_cases c6 : ((((rd_T51 l0 x5_1).f0.f0) == a1_0 && (((rd_T51 l0 x5_1).f0.f1) == a1_1)) && (((rd_T51 l0 x5_1).f1) == a1_2)) = true
     ·rw [if_pos c6] at H
      have c6b0 : ((((rd_T51 l0 x5_1).f0.f0) == a1_0 && (((rd_T51 l0 x5_1).f0.f1) == a1_1)) && (((rd_T51 l0 x5_1).f1) == a1_2)) = true := c6
      clear c6
      obtain rfl := Option.some.inj H
      have p437 : 0 ≤ (x5_1 : Int) := of_decide_eq_true (by first | (with_reducible assumption) | assumption)
      have q437 : x5_1 < (l0.length : Int) := of_decide_eq_true (by first | (with_reducible assumption) | assumption)
      obtain ⟨ad437, e437, hx437_0, hx437_1, hx437_2⟩ := at_T51 (Kd.C_below HR0.out HB.out) x5_1 p437 q437
      cases e437
      replace p437 := eq_true p437
      replace q437 := eq_true q437
      have hcz7 := blk_cell BK436.out
      have hfz7 := blk_frozen BK436.out
      go_wp2
      repeat (go_quiet (fail); try go_wp2)
      go_ret
      exact ⟨eq_, bl_⟩
     ·rw [if_neg c6] at H
      have c6b0 : ((((rd_T51 l0 x5_1).f0.f0) == a1_0 && (((rd_T51 l0 x5_1).f0.f1) == a1_1)) && (((rd_T51 l0 x5_1).f1) == a1_2)) = false := by simpa using c6
      clear c6
      have H' := Aside0.mk H
      clear H
      have p437 : 0 ≤ (x5_1 : Int) := of_decide_eq_true (by first | (with_reducible assumption) | assumption)
      have q437 : x5_1 < (l0.length : Int) := of_decide_eq_true (by first | (with_reducible assumption) | assumption)
      obtain ⟨ad437, e437, hx437_0, hx437_1, hx437_2⟩ := at_T51 (Kd.C_below HR0.out HB.out) x5_1 p437 q437
      cases e437
      replace p437 := eq_true p437
      replace q437 := eq_true q437
      have hcz8 := blk_cell BK436.out
      have hfz8 := blk_frozen BK436.out
      go_wp2
      repeat (go_quiet (fail); try go_wp2)
      go_roundg k1
      case measure => have := HK1.out; omega
      case rel => exact ⟨(wrap64 (x5_1 + 1)), (by first | rfl | (simp; done) | (simp [*]; done)), H', ⟨by have := HK1.out; omega⟩, ⟨bk_ BK436⟩, ⟨bl_⟩⟩
    ·rw [if_neg c5] at H
     exact absurd H (by simp)
   ·rw [if_neg c4] at H
    have c4b0 : decide (x5_1 < (l0.length : Int)) = false := decide_eq_false c4
    clear c4
    obtain rfl := Option.some.inj H
    go_wp2
    repeat (go_quiet (fail); try go_wp2)
    go_ret
    exact ⟨eq_, bl_⟩
def impl_StillAt.f (k : Nat) (l0 : List (S56)) (a1 : Int) : Option ((List (S51))) := (impl_Alive.f k l0 a1).bind fun t438 => ((impl_FactsOf.f k t438).bind fun t441 => (some t441))
set_option maxHeartbeats 8000000 in
set_option maxRecDepth 100000 in
theorem impl_StillAt.calls (k : Nat) (A0 : Option Addr) (c0 : Nat) (l0 : List (S56)) (a1 : Int) (r : List (S51)) (w : World) (hr0 : Kd.C k56 w A0 l0.length l0) (hc0 : l0.length ≤ c0) (h : impl_StillAt.f k l0 a1 = some r) :
  Calls Try.prog 64 #[.slice A0 l0.length c0, .int .i64 a1] w fun e w' => ∃ v0_ : Value, e = .returned (v0_) ∧ Kd.R k51 51 w' w.heap.size (fun _ => True) v0_ r ∧ Below w.heap.size w w' := by
 have HR0 := Aside0.mk hr0
 have HC0 := Aside0.mk hc0
 clear hr0 hc0
 have HB := Aside0.mk (Below.refl w.heap.size w)
 have H : ((impl_Alive.f k l0 a1).bind fun t438 => ((impl_FactsOf.f k t438).bind fun t441 => (some t441))) = some r := h
 clear h
 obtain ⟨t438, A3, H⟩ := bindE_ H
 obtain ⟨t441, A4, H⟩ := bindE_ H
 obtain rfl := Option.some.inj H
 go_enter Try.func64, Try.ntmps64
 go_wp2_with (first | ((with_reducible refine gate_callee (f := 132) rfl ?_); refine goesC_ (some 7) Try.func132 #[.slice A0 l0.length c0, .int .i64 a1] ?_; (with_reducible refine (impl_Alive.calls k _ _ l0 a1 t438 _ ?side1 ?side2 A3.out).mono ?_); (case side1 => repeat (first | exact HR0.out | (with_reducible refine Kd.C_alloc ?_ _) | (with_reducible refine Kd.C_drewN ?_ _) | (with_reducible refine Kd.C_drew ?_))); (case side2 => exact HC0.out); rintro e w5 ⟨v439, rfl, ho0, hb⟩; refine ⟨_, rfl, ?_⟩; have HO440 := Aside0.mk (Kd.R_lower ho0 bls_); replace HB := hbs_ hb; (try clear hb); (try clear hb2); (try clear hk); (try clear hi); (try clear ho0); obtain ⟨Ao6, co6, eo6⟩ := Kd.R_slice HO440.out; subst eo6) | ((with_reducible refine gate_callee (f := 90) rfl ?_); refine goesC_ (some 8) Try.func90 #[.slice Ao6 t438.length co6] ?_; (with_reducible refine (impl_FactsOf.calls k _ _ t438 t441 _ ?side1 ?side2 A4.out).mono ?_); (case side1 => repeat (first | exact (Kd.R_reads' HO440.out).2.2 | (with_reducible refine Kd.C_alloc ?_ _) | (with_reducible refine Kd.C_drewN ?_ _) | (with_reducible refine Kd.C_drew ?_))); (case side2 => exact (Kd.R_reads' HO440.out).2.1); rintro e w7 ⟨v442, rfl, ho0, hb⟩; refine ⟨_, rfl, ?_⟩; replace HO440 := Aside0.mk (Kd.R_below (by (with_reducible repeat (first | apply Kd.R_alloc | apply Kd.R_drewN | apply Kd.R_drew)); exact HO440.out) hb); have HO443 := Aside0.mk (Kd.R_lower ho0 bls_); replace HB := hbs_ hb; (try clear hb); (try clear hb2); (try clear hk); (try clear hi); (try clear ho0)))
 go_ret
 exact ⟨_, eq_, by (with_reducible repeat (first | apply Kd.R_alloc | apply Kd.R_drewN | apply Kd.R_drew)); exact HO443.out, bl_⟩
-- NOT PRINTED: function 182 (impl_Fact_182)
-- NOT PRINTED: function 133 (impl_Fact_133)
-- NOT PRINTED: function 134 (impl_LostAt_1)
end Go.Proofs.Ytjpjidgfcljpcaa.PD
