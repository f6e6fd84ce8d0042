import Derived.Test.YtcgnegnljffkmaaKFnExactHoldsAtPBx0
import Derived.Test.YtcgnegnljffkmaaKFnExactHoldsAtPBx5
import Derived.Test.YtcgnegnljffkmaaKFnExactHoldsAtPBx11
import Derived.Test.YtcgnegnljffkmaaKFnExactHoldsAtPBx13
import Derived.Test.YtcgnegnljffkmaaKFnExactHoldsAtPBx16
import Derived.Test.YtcgnegnljffkmaaKFnExactHoldsAtPBx17
import Derived.Test.YtcgnegnljffkmaaKFnExactHoldsAtPBx1
import Derived.Test.YtcgnegnljffkmaaKFnExactHoldsAtPBx2
import Derived.Test.YtcgnegnljffkmaaKFnExactHoldsAtPBx3
-- A text of this claim: written by the session's own program out of the translation (wip/tools). Lean checks it.
namespace Go.Proofs.Ytcgnegnljffkmaa.PB
open Go.RowKit Go.Proofs.YtcgnegnljffkmaaW.PrintWords Go.Proofs.YtcgnegnljffkmaaW.PrintLast Go.Proofs.YtcgnegnljffkmaaW.PrintMore
attribute [local go_sem] max2_int min2_int max_two min_two max_three min_three max_four min_four   -- for this text's walks alone
set_option linter.unusedVariables false
set_option linter.unusedSimpArgs false
def spec_IsMember.f (k : Nat) (l0 : List (S29)) (a1_0 : Int) (a1_1 : Int) (a2 : Int) : Option (Bool) := (spec_FactsOf.f k l0).bind fun t764 => ((spec_l06Has.f k t764 a1_0 a1_1 a2).bind fun t767 => (some t767))
set_option maxHeartbeats 8000000 in
set_option maxRecDepth 100000 in
theorem spec_IsMember.calls (k : Nat) (A0 : Option Addr) (c0 : Nat) (l0 : List (S29)) (a1_0 : Int) (a1_1 : Int) (a2 : Int) (r : Bool) (w : World) (hr0 : Kd.C k29 w A0 l0.length l0) (hc0 : l0.length ≤ c0) (h : spec_IsMember.f k l0 a1_0 a1_1 a2 = some r) :
  Calls Try.prog 120 #[.slice A0 l0.length c0, .agg #[.int .i64 a1_0, .int .i64 a1_1], .int .i64 a2] w fun e w' => e = .returned (.bool r) ∧ Below w.heap.size w w' := by
 have hu27 := Try.underlying27
 have hu55 := Try.underlying55
 have HR0 := Aside0.mk hr0
 have HC0 := Aside0.mk hc0
 clear hr0 hc0
 have HB := Aside0.mk (Below.refl w.heap.size w)
 have H : ((spec_FactsOf.f k l0).bind fun t764 => ((spec_l06Has.f k t764 a1_0 a1_1 a2).bind fun t767 => (some t767))) = some r := h
 clear h
 obtain ⟨t764, A4, H⟩ := bindE_ H
 obtain ⟨t767, A5, H⟩ := bindE_ H
 obtain rfl := Option.some.inj H
 go_enter Try.func120, Try.ntmps120
 try go_wp2_with (first | ((with_reducible refine gate_dst (N := 4) rfl ?_); refine box_event ?hg (N := 4) ?hd (cs := #[.int .i64 a1_0, .int .i64 a1_1]) (t := 27) ?hr ?_; (case hd => rfl); (case hg => rfl); (case hr => first | (go_simp; done) | (go_simp; rfl)); intro gb763 hg w6 hbox hb; have BK763 := Aside0.mk (hbox); have GW763 := gs_ hg; have GE763 := gs_ hg; replace HB := hbs_ hb; clear hb hbox hg))
 replace BK763 := Aside0.mk (blk_drew BK763.out)
 replace HB := Aside0.mk (below_drew1 HB.out)
 refine start_ (n := 7) (S := fun w' => w'.cell? ⟨gb763, 0, none⟩ = some (.int .i64 a1_0) ∧ w'.cell? ⟨gb763, 1, none⟩ = some (.int .i64 a1_1)) (ds := []) #[false, false, false, false, false, false, false] (by kernel_rfl) rfl rfl ⟨(blk_cell BK763.out 0).trans rfl, (blk_cell BK763.out 1).trans rfl⟩ (fun hHeld => ?_)
 generalize w6.drew = w7 at BK763 HB hHeld ⊢
 refine pure_ (i := 0) (N := some 7) (v := ?_) (a' := ?_) #[true, false, false, false, false, false, false] rfl rfl (by kernel_rfl) (fun _ _ _ h => h) (Or.inl ⟨by rfl, ?_⟩) ?_ ?_
 rotate_left
 ·intro w'
  go_simp
  with_reducible rfl
 rotate_left
 ·simp only [Act.put, List.setIfInBounds_toArray, List.set_cons_zero, List.set_cons_succ, i64_w, i32_w]
  rfl
 refine pure_ (i := 3) (N := some 10) (v := ?_) (a' := ?_) #[true, false, false, true, false, false, false] rfl rfl (by kernel_rfl) (fun _ _ _ h => h) (Or.inl ⟨by rfl, ?_⟩) ?_ ?_
 rotate_left
 ·intro w'
  go_simp
  with_reducible rfl
 rotate_left
 ·simp only [Act.put, List.setIfInBounds_toArray, List.set_cons_zero, List.set_cons_succ, i64_w, i32_w]
  rfl
 refine take_ (i := 2) (N := some 9) (v := ?_) (a' := ?_) #[true, false, true, true, false, false, false] rfl rfl (by kernel_rfl) (fun _ _ _ h => h) (Or.inl ⟨by rfl, ?_⟩) hHeld ?_ ?_
 rotate_left
 ·rintro w' ⟨s0, s1⟩
  go_simp
  with_reducible rfl
 rotate_left
 ·simp only [Act.put, List.setIfInBounds_toArray, List.set_cons_zero, List.set_cons_succ, i64_w, i32_w]
  rfl
 refine pure_ (i := 4) (N := some 11) (v := ?_) (a' := ?_) #[true, false, true, true, true, false, false] rfl rfl (by kernel_rfl) (fun _ _ _ h => h) (Or.inl ⟨by rfl, ?_⟩) ?_ ?_
 rotate_left
 ·intro w'
  go_simp
  with_reducible rfl
 rotate_left
 ·simp only [Act.put, List.setIfInBounds_toArray, List.set_cons_zero, List.set_cons_succ, i64_w, i32_w]
  rfl
 refine one_ (i := 1) (N := some 8) #[true, true, true, true, true, false, false] rfl rfl (by kernel_rfl) (by decide) (fun K hK => ?_)
 refine goes_ Try.func91 (by kernel_rfl) rfl #[.slice A0 l0.length c0] (by rfl) rfl rfl (by (try simp only [List.map_toArray, List.map_cons, List.map_nil]); first | done | rfl | (simp only [List.length_drop, List.length_take]; rfl)) ?_
 with_reducible refine (spec_FactsOf.calls k _ _ l0 t764 _ ?side1 ?side2 A4.out).mono ?_
 (case side1 => repeat (first | exact (Kd.C_below HR0.out HB.out) | (with_reducible refine Kd.C_alloc ?_ _) | (with_reducible refine Kd.C_drewN ?_ _) | (with_reducible refine Kd.C_drew ?_)))
 (case side2 => exact HC0.out)
 rintro e w8 ⟨v765, rfl, ho0, hb⟩
 refine ⟨_, rfl, ?_⟩
 have HO766 := Aside0.mk (Kd.R_lower ho0 bls_)
 replace BK763 := bkb_ BK763 hb
 replace HB := hbs_ hb
 (try clear hb)
 (try clear hb2)
 (try clear hk)
 (try clear hi)
 (try clear ho0)
 obtain ⟨Ao9, co9, eo9⟩ := Kd.R_slice HO766.out
 (first | subst eo9 | (injection eo9 with f1_ f2_ f3_; have f4_ := f1_.symm; have f5_ := f3_.symm; clear f1_ f2_ f3_; subst f4_; subst f5_))
 refine hK.out _ _ ⟨(blk_cell BK763.out 0).trans rfl, (blk_cell BK763.out 1).trans rfl⟩ (fun hHeld => ?_)
 clear hK K
 refine norm_ (a' := ?_) ?_ ?_
 rotate_left
 ·show Act.put _ (some 8) _ = _
  simp only [Act.put, List.setIfInBounds_toArray, List.set_cons_zero, List.set_cons_succ, i64_w, i32_w]
  rfl
 refine one_ (i := 5) (N := some 12) #[true, true, true, true, true, true, false] rfl rfl (by kernel_rfl) (by decide) (fun K hK => ?_)
 refine goes_ Try.func142 (by kernel_rfl) rfl #[.slice Ao9 t764.length co9, .agg #[.int .i64 a1_0, .int .i64 a1_1, .int .i64 a2]] (by rfl) rfl rfl (by (try simp only [List.map_toArray, List.map_cons, List.map_nil]); first | done | rfl | (simp only [List.length_drop, List.length_take]; rfl)) ?_
 with_reducible refine (spec_l06Has.calls k _ _ t764 a1_0 a1_1 a2 t767 _ ?side1 ?side2 A5.out).mono ?_
 (case side1 => repeat (first | exact (Kd.R_reads' HO766.out).2.2 | (with_reducible refine Kd.C_alloc ?_ _) | (with_reducible refine Kd.C_drewN ?_ _) | (with_reducible refine Kd.C_drew ?_)))
 (case side2 => exact (Kd.R_reads' HO766.out).2.1)
 rintro e w10 ⟨rfl, hb⟩
 refine ⟨_, rfl, ?_⟩
 replace HO766 := Aside0.mk (Kd.R_below (by (with_reducible repeat (first | apply Kd.R_alloc | apply Kd.R_drewN | apply Kd.R_drew)); exact HO766.out) hb)
 replace BK763 := bkb_ BK763 hb
 replace HB := hbs_ hb
 (try clear hb)
 (try clear hb2)
 (try clear hk)
 (try clear hi)
 refine hK.out _ _ ⟨(blk_cell BK763.out 0).trans rfl, (blk_cell BK763.out 1).trans rfl⟩ (fun hHeld => ?_)
 clear hK K
 refine norm_ (a' := ?_) ?_ ?_
 rotate_left
 ·show Act.put _ (some 12) _ = _
  simp only [Act.put, List.setIfInBounds_toArray, List.set_cons_zero, List.set_cons_succ, i64_w, i32_w]
  rfl
 refine pure_ (i := 6) (N := some 6) (v := ?_) (a' := ?_) #[true, true, true, true, true, true, true] rfl rfl (by kernel_rfl) (fun _ _ _ h => h) (Or.inl ⟨by rfl, ?_⟩) ?_ ?_
 rotate_left
 ·intro w'
  go_simp
  with_reducible rfl
 rotate_left
 ·simp only [Act.put, List.setIfInBounds_toArray, List.set_cons_zero, List.set_cons_succ, i64_w, i32_w]
  rfl
 refine done_ (by kernel_rfl) ?_
 try go_wp2
 go_ret
 exact ⟨eq_, bl_⟩
def spec_Alive.l0 : Nat → List (S29) → Int → List (S29) → Int → Option ((List (S29)))
 | 0, _, _, _, _ => none
 | k + 1, x0, x1, x5, x6 => if x6 < (x0.length : Int) then (if 0 ≤ x6 then ((spec_CredOk.f k ((rd_T29 x0 x6).f0) ((rd_T29 x0 x6).f1.f0) ((rd_T29 x0 x6).f1.f1) ((rd_T29 x0 x6).f2) ((rd_T29 x0 x6).f3.f0) ((rd_T29 x0 x6).f3.f1) ((rd_T29 x0 x6).f4.f0) ((rd_T29 x0 x6).f4.f1) ((rd_T29 x0 x6).f5) ((rd_T29 x0 x6).f6)).bind fun t772 => (if t772 = true then (if ((rd_T29 x0 x6).f5) ≥ x1 then (if x5.length < 1759218604441 then (spec_Alive.l0 k x0 x1 (x5 ++ [(⟨(rd_T29 x0 x6).f0, (⟨(rd_T29 x0 x6).f1.f0, (rd_T29 x0 x6).f1.f1⟩ : S27), (rd_T29 x0 x6).f2, (⟨(rd_T29 x0 x6).f3.f0, (rd_T29 x0 x6).f3.f1⟩ : S27), (⟨(rd_T29 x0 x6).f4.f0, (rd_T29 x0 x6).f4.f1⟩ : S27), (rd_T29 x0 x6).f5, (rd_T29 x0 x6).f6⟩ : S29)]) (wrap64 (x6 + 1))) else (none)) else (spec_Alive.l0 k x0 x1 x5 (wrap64 (x6 + 1)))) else (spec_Alive.l0 k x0 x1 x5 (wrap64 (x6 + 1))))) else (none)) else (some x5)
def spec_Alive.f (k : Nat) (l0 : List (S29)) (a1 : Int) : Option ((List (S29))) := spec_Alive.l0 k l0 a1 (([] : List (S29))) 0
set_option maxHeartbeats 8000000 in
set_option maxRecDepth 100000 in
theorem spec_Alive.calls (k : Nat) (A0 : Option Addr) (c0 : Nat) (l0 : List (S29)) (a1 : Int) (r : List (S29)) (w : World) (hr0 : Kd.C k29 w A0 l0.length l0) (hc0 : l0.length ≤ c0) (h : spec_Alive.f k l0 a1 = some r) :
  Calls Try.prog 121 #[.slice A0 l0.length c0, .int .i64 a1] w fun e w' => ∃ v0_ : Value, e = .returned (v0_) ∧ Kd.R k29 29 w' w.heap.size (fun _ => True) v0_ r ∧ Below w.heap.size w w' := by
 have hu29 := Try.underlying29
 have HR0 := Aside0.mk hr0
 have HC0 := Aside0.mk hc0
 clear hr0 hc0
 have HB := Aside0.mk (Below.refl w.heap.size w)
 have H : (spec_Alive.l0 k l0 a1 (([] : List (S29))) 0) = some r := h
 clear h
 obtain ⟨y768, hy768⟩ : ∃ y_ : List (S29), y_ = (([] : List (S29))) := ⟨_, rfl⟩
 replace H : (spec_Alive.l0 k l0 a1 y768 0) = some r := by first | (rw [hy768]; with_reducible exact H) | (have H2_ := (Option.bind_some _ _).symm.trans H; rw [hy768]; with_reducible exact H2_) | (have H2_ := (Option.bind_some _ _).symm.trans H; with_reducible exact H2_) | with_reducible exact H | (rw [hy768]; exact H) | exact H
 have Ny768 := Aside0.mk hy768
 clear hy768
 have H' := Aside0.mk H
 clear H
 go_enter Try.func121, Try.ntmps121
 go_wp2_with (first | ((with_reducible refine gate_dst (N := 7) rfl ?_); refine Kd.R_lit k29 _ 29 ?hg (N := 7) ?hd (xs := ([] : List (S29))) (inner := []) (ok := fun _ => True) (okp := fun _ => True) ?hr ?hp (fun _ hk => hk) trivial (Below.refl _ _) (Nat.le_refl _) (by simp) ?_; (case hd => rfl); (case hg => rfl); (case hr => first | (go_simp; done) | (go_simp; rfl)); (case hp => exact (Reps.none _ _)); intro v769 w3 ho4 hb hg_ hnew_; clear hg_ hnew_; (first | rw [← Ny768.out] at ho4 | (simp only [Int.reduceToNat] at ho4; rw [← Ny768.out] at ho4)); have HO770 := Aside0.mk (Kd.R_lower ho4 bls_); replace HB := hbs_ hb; clear hb ho4))
 go_loopg [5, 6] k (fun kq v5 v6 w' => ∃ (x5_1 : List (S29)) (x6_1 : Int), v6 = .int .i64 x6_1 ∧ Aside0 (spec_Alive.l0 kq l0 a1 x5_1 x6_1 = some r) ∧ Aside0 (kq ≤ k) ∧ Aside0 (Kd.R k29 29 w' w.heap.size (fun _ => True) v5 x5_1) ∧ Aside0 (Below w.heap.size w w'))
 case atStart => exact ⟨(y768), (0), (by first | rfl | (simp; done) | (simp [*]; done)), H', ⟨Nat.le_refl _⟩, ⟨by (with_reducible repeat (first | apply Kd.R_alloc | apply Kd.R_drewN | apply Kd.R_drew)); exact HO770.out⟩, ⟨bl_⟩⟩
 case round =>
  clear H'
  try clear c1
  try clear p2
  obtain ⟨x5_1, x6_1, rfl, HA, HK1, HO_5, HB⟩ := hrel
  cases gk with
  | zero => exact absurd HA.out (by simp [spec_Alive.l0])
  | succ k1 =>
   have H := HA.out
   clear HA
   simp only [spec_Alive.l0] at H
   by_cases c5 : x6_1 < (l0.length : Int)
   ·rw [if_pos c5] at H
    have c5b0 : decide (x6_1 < (l0.length : Int)) = true := decide_eq_true c5
    clear c5
    by_cases c6 : 0 ≤ x6_1
    ·rw [if_pos c6] at H
     have c6b0 : decide (0 ≤ x6_1) = true := decide_eq_true c6
     clear c6
     obtain ⟨t772, A7, H⟩ := bindE_ H
     by_cases c8 : t772 = true
     ·subst c8
      replace H := ite_t_ H
      by_cases c9 : ((rd_T29 l0 x6_1).f5) ≥ a1
      ·rw [if_pos c9] at H
       have c9b0 : decide (a1 ≤ ((rd_T29 l0 x6_1).f5)) = true := decide_eq_true c9
       clear c9
       by_cases c10 : x5_1.length < 1759218604441
       ·rw [if_pos c10] at H
        have LMc10 := Aside0.mk c10
        clear c10
        obtain ⟨y775, hy775⟩ : ∃ y_ : List (S29), y_ = (x5_1 ++ [(⟨(rd_T29 l0 x6_1).f0, (⟨(rd_T29 l0 x6_1).f1.f0, (rd_T29 l0 x6_1).f1.f1⟩ : S27), (rd_T29 l0 x6_1).f2, (⟨(rd_T29 l0 x6_1).f3.f0, (rd_T29 l0 x6_1).f3.f1⟩ : S27), (⟨(rd_T29 l0 x6_1).f4.f0, (rd_T29 l0 x6_1).f4.f1⟩ : S27), (rd_T29 l0 x6_1).f5, (rd_T29 l0 x6_1).f6⟩ : S29)]) := ⟨_, rfl⟩
        replace H : (spec_Alive.l0 k1 l0 a1 y775 (wrap64 (x6_1 + 1))) = some r := by first | (rw [hy775]; with_reducible exact H) | (have H2_ := (Option.bind_some _ _).symm.trans H; rw [hy775]; with_reducible exact H2_) | (have H2_ := (Option.bind_some _ _).symm.trans H; with_reducible exact H2_) | with_reducible exact H | (rw [hy775]; exact H) | exact H
        have Ny775 := Aside0.mk hy775
        clear hy775
        have H' := Aside0.mk H
        clear H
        have p771 : 0 ≤ (x6_1 : Int) := of_decide_eq_true (by first | (with_reducible assumption) | assumption)
        have q771 : x6_1 < (l0.length : Int) := of_decide_eq_true (by first | (with_reducible assumption) | assumption)
        obtain ⟨ad771, e771, hx771_0, hx771_1, hx771_2, hx771_3, hx771_4, hx771_5, hx771_6, hx771_7, hx771_8, hx771_9⟩ := at_T29 (Kd.C_below HR0.out HB.out) x6_1 p771 q771
        cases e771
        replace p771 := eq_true p771
        replace q771 := eq_true q771
        go_wp2_with (first | ((with_reducible refine gate_callee (f := 68) rfl ?_); refine goesC_ (some 18) Try.func68 #[.agg #[.int .i64 ((rd_T29 l0 x6_1).f0), .int .i64 ((rd_T29 l0 x6_1).f1.f0), .int .i64 ((rd_T29 l0 x6_1).f1.f1), .int .i64 ((rd_T29 l0 x6_1).f2), .int .i64 ((rd_T29 l0 x6_1).f3.f0), .int .i64 ((rd_T29 l0 x6_1).f3.f1), .int .i64 ((rd_T29 l0 x6_1).f4.f0), .int .i64 ((rd_T29 l0 x6_1).f4.f1), .int .i64 ((rd_T29 l0 x6_1).f5), .int .i64 ((rd_T29 l0 x6_1).f6)]] ?_; (with_reducible refine (spec_CredOk.calls k1 ((rd_T29 l0 x6_1).f0) ((rd_T29 l0 x6_1).f1.f0) ((rd_T29 l0 x6_1).f1.f1) ((rd_T29 l0 x6_1).f2) ((rd_T29 l0 x6_1).f3.f0) ((rd_T29 l0 x6_1).f3.f1) ((rd_T29 l0 x6_1).f4.f0) ((rd_T29 l0 x6_1).f4.f1) ((rd_T29 l0 x6_1).f5) ((rd_T29 l0 x6_1).f6) true _ A7.out).mono ?_); rintro e w11 ⟨rfl, hb⟩; refine ⟨_, rfl, ?_⟩; replace HO_5 := Aside0.mk (Kd.R_below (by (with_reducible repeat (first | apply Kd.R_alloc | apply Kd.R_drewN | apply Kd.R_drew)); exact HO_5.out) hb); replace HB := hbs_ hb; clear hb; have p773 : 0 ≤ (x6_1 : Int) := of_decide_eq_true (by first | (with_reducible assumption) | assumption); have q773 : x6_1 < (l0.length : Int) := of_decide_eq_true (by first | (with_reducible assumption) | assumption); obtain ⟨ad773, e773, hx773_0, hx773_1, hx773_2, hx773_3, hx773_4, hx773_5, hx773_6, hx773_7, hx773_8, hx773_9⟩ := at_T29 HR0.out x6_1 p773 q773; obtain rfl : ad771 = ad773 := (by injection e773); replace hx773_0 := cb_ HB hx773_0; replace hx773_1 := cb_ HB hx773_1; replace hx773_2 := cb_ HB hx773_2; replace hx773_3 := cb_ HB hx773_3; replace hx773_4 := cb_ HB hx773_4; replace hx773_5 := cb_ HB hx773_5; replace hx773_6 := cb_ HB hx773_6; replace hx773_7 := cb_ HB hx773_7; replace hx773_8 := cb_ HB hx773_8; replace hx773_9 := cb_ HB hx773_9; replace p773 := eq_true p773; replace q773 := eq_true q773; have p774 : 0 ≤ (x6_1 : Int) := of_decide_eq_true (by first | (with_reducible assumption) | assumption); have q774 : x6_1 < (l0.length : Int) := of_decide_eq_true (by first | (with_reducible assumption) | assumption); obtain ⟨ad774, e774, hx774_0, hx774_1, hx774_2, hx774_3, hx774_4, hx774_5, hx774_6, hx774_7, hx774_8, hx774_9⟩ := at_T29 HR0.out x6_1 p774 q774; obtain rfl : ad771 = ad774 := (by injection e774); replace hx774_0 := cb_ HB hx774_0; replace hx774_1 := cb_ HB hx774_1; replace hx774_2 := cb_ HB hx774_2; replace hx774_3 := cb_ HB hx774_3; replace hx774_4 := cb_ HB hx774_4; replace hx774_5 := cb_ HB hx774_5; replace hx774_6 := cb_ HB hx774_6; replace hx774_7 := cb_ HB hx774_7; replace hx774_8 := cb_ HB hx774_8; replace hx774_9 := cb_ HB hx774_9; replace p774 := eq_true p774; replace q774 := eq_true q774) | ((with_reducible refine gate_builtin (b := .append) (xs := #[.tmp 28, .tmp 33]) rfl ?_); at_builtin; refine Kd.R_append k29 (w0 := w) w.heap.size rfl (.tmp 28) (.tmp 33) 46 29 (.agg #[(.int .i64 0), (.int .i64 0), (.int .i64 0), (.int .i64 0), (.int .i64 0), (.int .i64 0), (.int .i64 0), (.int .i64 0), (.int .i64 0), (.int .i64 0)]) 80 rfl Try.underlying46 info29 rfl (by decide) (by omega) u5 x5_1 (⟨(rd_T29 l0 x6_1).f0, (⟨(rd_T29 l0 x6_1).f1.f0, (rd_T29 l0 x6_1).f1.f1⟩ : S27), (rd_T29 l0 x6_1).f2, (⟨(rd_T29 l0 x6_1).f3.f0, (rd_T29 l0 x6_1).f3.f1⟩ : S27), (⟨(rd_T29 l0 x6_1).f4.f0, (rd_T29 l0 x6_1).f4.f1⟩ : S27), (rd_T29 l0 x6_1).f5, (rd_T29 l0 x6_1).f6⟩ : S29) [.int .i64 ((rd_T29 l0 x6_1).f0), .int .i64 ((rd_T29 l0 x6_1).f1.f0), .int .i64 ((rd_T29 l0 x6_1).f1.f1), .int .i64 ((rd_T29 l0 x6_1).f2), .int .i64 ((rd_T29 l0 x6_1).f3.f0), .int .i64 ((rd_T29 l0 x6_1).f3.f1), .int .i64 ((rd_T29 l0 x6_1).f4.f0), .int .i64 ((rd_T29 l0 x6_1).f4.f1), .int .i64 ((rd_T29 l0 x6_1).f5), .int .i64 ((rd_T29 l0 x6_1).f6)] (fun _ => True) (fun _ => False) rfl rfl ?aP (fun _ hk => hk.elim) ?aF ?aO ?aB ?aS ?aL ?_; (case aP => exact k29_mkM _ _ _ (⟨(rd_T29 l0 x6_1).f0, (⟨(rd_T29 l0 x6_1).f1.f0, (rd_T29 l0 x6_1).f1.f1⟩ : S27), (rd_T29 l0 x6_1).f2, (⟨(rd_T29 l0 x6_1).f3.f0, (rd_T29 l0 x6_1).f3.f1⟩ : S27), (⟨(rd_T29 l0 x6_1).f4.f0, (rd_T29 l0 x6_1).f4.f1⟩ : S27), (rd_T29 l0 x6_1).f5, (rd_T29 l0 x6_1).f6⟩ : S29)); (case aB => exact bl_); (case aF => exact (fun _ _ => trivial)); (case aO => exact (by (with_reducible repeat (first | apply Kd.R_alloc | apply Kd.R_drewN | apply Kd.R_drew)); exact HO_5.out)); (case aS => exact bls_); (case aL => have := LMc10.out; omega); intro v776 w12 ho hb hg hat; rw [← Ny775.out] at ho; replace HB := Aside0.mk (hb); have HO777 := Aside0.mk (ho); clear HO_5; clear ho hb hg hat))
        go_roundg k1
        case measure => have := HK1.out; omega
        case rel => exact ⟨(y775), (wrap64 (x6_1 + 1)), (by first | rfl | (simp; done) | (simp [*]; done)), H', ⟨by have := HK1.out; omega⟩, ⟨by (with_reducible repeat (first | apply Kd.R_alloc | apply Kd.R_drewN | apply Kd.R_drew)); exact HO777.out⟩, ⟨bl_⟩⟩
       ·rw [if_neg c10] at H
        exact absurd H (by simp)
      ·rw [if_neg c9] at H
       have c9b0 : decide (a1 ≤ ((rd_T29 l0 x6_1).f5)) = false := decide_eq_false c9
       clear c9
       have H' := Aside0.mk H
       clear H
       have p771 : 0 ≤ (x6_1 : Int) := of_decide_eq_true (by first | (with_reducible assumption) | assumption)
       have q771 : x6_1 < (l0.length : Int) := of_decide_eq_true (by first | (with_reducible assumption) | assumption)
       obtain ⟨ad771, e771, hx771_0, hx771_1, hx771_2, hx771_3, hx771_4, hx771_5, hx771_6, hx771_7, hx771_8, hx771_9⟩ := at_T29 (Kd.C_below HR0.out HB.out) x6_1 p771 q771
       cases e771
       replace p771 := eq_true p771
       replace q771 := eq_true q771
       go_wp2_with (first | ((with_reducible refine gate_callee (f := 68) rfl ?_); refine goesC_ (some 18) Try.func68 #[.agg #[.int .i64 ((rd_T29 l0 x6_1).f0), .int .i64 ((rd_T29 l0 x6_1).f1.f0), .int .i64 ((rd_T29 l0 x6_1).f1.f1), .int .i64 ((rd_T29 l0 x6_1).f2), .int .i64 ((rd_T29 l0 x6_1).f3.f0), .int .i64 ((rd_T29 l0 x6_1).f3.f1), .int .i64 ((rd_T29 l0 x6_1).f4.f0), .int .i64 ((rd_T29 l0 x6_1).f4.f1), .int .i64 ((rd_T29 l0 x6_1).f5), .int .i64 ((rd_T29 l0 x6_1).f6)]] ?_; (with_reducible refine (spec_CredOk.calls k1 ((rd_T29 l0 x6_1).f0) ((rd_T29 l0 x6_1).f1.f0) ((rd_T29 l0 x6_1).f1.f1) ((rd_T29 l0 x6_1).f2) ((rd_T29 l0 x6_1).f3.f0) ((rd_T29 l0 x6_1).f3.f1) ((rd_T29 l0 x6_1).f4.f0) ((rd_T29 l0 x6_1).f4.f1) ((rd_T29 l0 x6_1).f5) ((rd_T29 l0 x6_1).f6) true _ A7.out).mono ?_); rintro e w13 ⟨rfl, hb⟩; refine ⟨_, rfl, ?_⟩; replace HO_5 := Aside0.mk (Kd.R_below (by (with_reducible repeat (first | apply Kd.R_alloc | apply Kd.R_drewN | apply Kd.R_drew)); exact HO_5.out) hb); replace HB := hbs_ hb; clear hb; have p773 : 0 ≤ (x6_1 : Int) := of_decide_eq_true (by first | (with_reducible assumption) | assumption); have q773 : x6_1 < (l0.length : Int) := of_decide_eq_true (by first | (with_reducible assumption) | assumption); obtain ⟨ad773, e773, hx773_0, hx773_1, hx773_2, hx773_3, hx773_4, hx773_5, hx773_6, hx773_7, hx773_8, hx773_9⟩ := at_T29 HR0.out x6_1 p773 q773; obtain rfl : ad771 = ad773 := (by injection e773); replace hx773_0 := cb_ HB hx773_0; replace hx773_1 := cb_ HB hx773_1; replace hx773_2 := cb_ HB hx773_2; replace hx773_3 := cb_ HB hx773_3; replace hx773_4 := cb_ HB hx773_4; replace hx773_5 := cb_ HB hx773_5; replace hx773_6 := cb_ HB hx773_6; replace hx773_7 := cb_ HB hx773_7; replace hx773_8 := cb_ HB hx773_8; replace hx773_9 := cb_ HB hx773_9; replace p773 := eq_true p773; replace q773 := eq_true q773))
       go_roundg k1
       case measure => have := HK1.out; omega
       case rel => exact ⟨(x5_1), (wrap64 (x6_1 + 1)), (by first | rfl | (simp; done) | (simp [*]; done)), H', ⟨by have := HK1.out; omega⟩, ⟨by (with_reducible repeat (first | apply Kd.R_alloc | apply Kd.R_drewN | apply Kd.R_drew)); exact HO_5.out⟩, ⟨bl_⟩⟩
     ·replace c8 := Bool.eq_false_iff.mpr c8
      subst c8
      replace H := ite_f_ H
      have H' := Aside0.mk H
      clear H
      have p771 : 0 ≤ (x6_1 : Int) := of_decide_eq_true (by first | (with_reducible assumption) | assumption)
      have q771 : x6_1 < (l0.length : Int) := of_decide_eq_true (by first | (with_reducible assumption) | assumption)
      obtain ⟨ad771, e771, hx771_0, hx771_1, hx771_2, hx771_3, hx771_4, hx771_5, hx771_6, hx771_7, hx771_8, hx771_9⟩ := at_T29 (Kd.C_below HR0.out HB.out) x6_1 p771 q771
      cases e771
      replace p771 := eq_true p771
      replace q771 := eq_true q771
      go_wp2_with (first | ((with_reducible refine gate_callee (f := 68) rfl ?_); refine goesC_ (some 18) Try.func68 #[.agg #[.int .i64 ((rd_T29 l0 x6_1).f0), .int .i64 ((rd_T29 l0 x6_1).f1.f0), .int .i64 ((rd_T29 l0 x6_1).f1.f1), .int .i64 ((rd_T29 l0 x6_1).f2), .int .i64 ((rd_T29 l0 x6_1).f3.f0), .int .i64 ((rd_T29 l0 x6_1).f3.f1), .int .i64 ((rd_T29 l0 x6_1).f4.f0), .int .i64 ((rd_T29 l0 x6_1).f4.f1), .int .i64 ((rd_T29 l0 x6_1).f5), .int .i64 ((rd_T29 l0 x6_1).f6)]] ?_; (with_reducible refine (spec_CredOk.calls k1 ((rd_T29 l0 x6_1).f0) ((rd_T29 l0 x6_1).f1.f0) ((rd_T29 l0 x6_1).f1.f1) ((rd_T29 l0 x6_1).f2) ((rd_T29 l0 x6_1).f3.f0) ((rd_T29 l0 x6_1).f3.f1) ((rd_T29 l0 x6_1).f4.f0) ((rd_T29 l0 x6_1).f4.f1) ((rd_T29 l0 x6_1).f5) ((rd_T29 l0 x6_1).f6) false _ A7.out).mono ?_); rintro e w14 ⟨rfl, hb⟩; refine ⟨_, rfl, ?_⟩; replace HO_5 := Aside0.mk (Kd.R_below (by (with_reducible repeat (first | apply Kd.R_alloc | apply Kd.R_drewN | apply Kd.R_drew)); exact HO_5.out) hb); replace HB := hbs_ hb; clear hb))
      go_roundg k1
      case measure => have := HK1.out; omega
      case rel => exact ⟨(x5_1), (wrap64 (x6_1 + 1)), (by first | rfl | (simp; done) | (simp [*]; done)), H', ⟨by have := HK1.out; omega⟩, ⟨by (with_reducible repeat (first | apply Kd.R_alloc | apply Kd.R_drewN | apply Kd.R_drew)); exact HO_5.out⟩, ⟨bl_⟩⟩
    ·rw [if_neg c6] at H
     exact absurd H (by simp)
   ·rw [if_neg c5] at H
    have c5b0 : decide (x6_1 < (l0.length : Int)) = false := decide_eq_false c5
    clear c5
    obtain rfl := Option.some.inj H
    go_wp2
    go_ret
    exact ⟨_, eq_, by (with_reducible repeat (first | apply Kd.R_alloc | apply Kd.R_drewN | apply Kd.R_drew)); exact HO_5.out, bl_⟩
def spec_HoldsAt.f (k : Nat) (l0 : List (S29)) (a1_0 : Int) (a1_1 : Int) (a2 : Int) (a3 : Int) : Option (Bool) := (spec_Alive.f k l0 a3).bind fun t779 => ((spec_IsMember.f k t779 a1_0 a1_1 a2).bind fun t782 => (some t782))
set_option maxHeartbeats 8000000 in
set_option maxRecDepth 100000 in
theorem spec_HoldsAt.calls (k : Nat) (A0 : Option Addr) (c0 : Nat) (l0 : List (S29)) (a1_0 : Int) (a1_1 : Int) (a2 : Int) (a3 : Int) (r : Bool) (w : World) (hr0 : Kd.C k29 w A0 l0.length l0) (hc0 : l0.length ≤ c0) (h : spec_HoldsAt.f k l0 a1_0 a1_1 a2 a3 = some r) :
  Calls Try.prog 63 #[.slice A0 l0.length c0, .agg #[.int .i64 a1_0, .int .i64 a1_1], .int .i64 a2, .int .i64 a3] w fun e w' => e = .returned (.bool r) ∧ Below w.heap.size w w' := by
 have hu27 := Try.underlying27
 have HR0 := Aside0.mk hr0
 have HC0 := Aside0.mk hc0
 clear hr0 hc0
 have HB := Aside0.mk (Below.refl w.heap.size w)
 have H : ((spec_Alive.f k l0 a3).bind fun t779 => ((spec_IsMember.f k t779 a1_0 a1_1 a2).bind fun t782 => (some t782))) = some r := h
 clear h
 obtain ⟨t779, A5, H⟩ := bindE_ H
 obtain ⟨t782, A6, H⟩ := bindE_ H
 obtain rfl := Option.some.inj H
 go_enter Try.func63, Try.ntmps63
 try go_wp2_with (first | ((with_reducible refine gate_dst (N := 5) rfl ?_); refine box_event ?hg (N := 5) ?hd (cs := #[.int .i64 a1_0, .int .i64 a1_1]) (t := 27) ?hr ?_; (case hd => rfl); (case hg => rfl); (case hr => first | (go_simp; done) | (go_simp; rfl)); intro gb778 hg w7 hbox hb; have BK778 := Aside0.mk (hbox); have GW778 := gs_ hg; have GE778 := gs_ hg; replace HB := hbs_ hb; clear hb hbox hg))
 replace BK778 := Aside0.mk (blk_drew BK778.out)
 replace HB := Aside0.mk (below_drew1 HB.out)
 refine start_ (n := 7) (S := fun w' => w'.cell? ⟨gb778, 0, none⟩ = some (.int .i64 a1_0) ∧ w'.cell? ⟨gb778, 1, none⟩ = some (.int .i64 a1_1)) (ds := []) #[false, false, false, false, false, false, false] (by kernel_rfl) rfl rfl ⟨(blk_cell BK778.out 0).trans rfl, (blk_cell BK778.out 1).trans rfl⟩ (fun hHeld => ?_)
 generalize w7.drew = w8 at BK778 HB hHeld ⊢
 refine pure_ (i := 0) (N := some 9) (v := ?_) (a' := ?_) #[true, false, false, false, false, false, false] rfl rfl (by kernel_rfl) (fun _ _ _ h => h) (Or.inl ⟨by rfl, ?_⟩) ?_ ?_
 rotate_left
 ·intro w'
  go_simp
  with_reducible rfl
 rotate_left
 ·simp only [Act.put, List.setIfInBounds_toArray, List.set_cons_zero, List.set_cons_succ, i64_w, i32_w]
  rfl
 refine pure_ (i := 1) (N := some 10) (v := ?_) (a' := ?_) #[true, true, false, false, false, false, false] rfl rfl (by kernel_rfl) (fun _ _ _ h => h) (Or.inl ⟨by rfl, ?_⟩) ?_ ?_
 rotate_left
 ·intro w'
  go_simp
  with_reducible rfl
 rotate_left
 ·simp only [Act.put, List.setIfInBounds_toArray, List.set_cons_zero, List.set_cons_succ, i64_w, i32_w]
  rfl
 refine pure_ (i := 4) (N := some 13) (v := ?_) (a' := ?_) #[true, true, false, false, true, false, false] rfl rfl (by kernel_rfl) (fun _ _ _ h => h) (Or.inl ⟨by rfl, ?_⟩) ?_ ?_
 rotate_left
 ·intro w'
  go_simp
  with_reducible rfl
 rotate_left
 ·simp only [Act.put, List.setIfInBounds_toArray, List.set_cons_zero, List.set_cons_succ, i64_w, i32_w]
  rfl
 refine take_ (i := 3) (N := some 12) (v := ?_) (a' := ?_) #[true, true, false, true, true, false, false] rfl rfl (by kernel_rfl) (fun _ _ _ h => h) (Or.inl ⟨by rfl, ?_⟩) hHeld ?_ ?_
 rotate_left
 ·rintro w' ⟨s0, s1⟩
  go_simp
  with_reducible rfl
 rotate_left
 ·simp only [Act.put, List.setIfInBounds_toArray, List.set_cons_zero, List.set_cons_succ, i64_w, i32_w]
  rfl
 refine one_ (i := 2) (N := some 11) #[true, true, true, true, true, false, false] rfl rfl (by kernel_rfl) (by decide) (fun K hK => ?_)
 refine goes_ Try.func121 (by kernel_rfl) rfl #[.slice A0 l0.length c0, .int .i64 a3] (by rfl) rfl rfl (by (try simp only [List.map_toArray, List.map_cons, List.map_nil]); first | done | rfl | (simp only [List.length_drop, List.length_take]; rfl)) ?_
 with_reducible refine (spec_Alive.calls k _ _ l0 a3 t779 _ ?side1 ?side2 A5.out).mono ?_
 (case side1 => repeat (first | exact (Kd.C_below HR0.out HB.out) | (with_reducible refine Kd.C_alloc ?_ _) | (with_reducible refine Kd.C_drewN ?_ _) | (with_reducible refine Kd.C_drew ?_)))
 (case side2 => exact HC0.out)
 rintro e w9 ⟨v780, rfl, ho0, hb⟩
 refine ⟨_, rfl, ?_⟩
 have HO781 := Aside0.mk (Kd.R_lower ho0 bls_)
 replace BK778 := bkb_ BK778 hb
 replace HB := hbs_ hb
 (try clear hb)
 (try clear hb2)
 (try clear hk)
 (try clear hi)
 (try clear ho0)
 obtain ⟨Ao10, co10, eo10⟩ := Kd.R_slice HO781.out
 (first | subst eo10 | (injection eo10 with f1_ f2_ f3_; have f4_ := f1_.symm; have f5_ := f3_.symm; clear f1_ f2_ f3_; subst f4_; subst f5_))
 refine hK.out _ _ ⟨(blk_cell BK778.out 0).trans rfl, (blk_cell BK778.out 1).trans rfl⟩ (fun hHeld => ?_)
 clear hK K
 refine norm_ (a' := ?_) ?_ ?_
 rotate_left
 ·show Act.put _ (some 11) _ = _
  simp only [Act.put, List.setIfInBounds_toArray, List.set_cons_zero, List.set_cons_succ, i64_w, i32_w]
  rfl
 refine one_ (i := 5) (N := some 14) #[true, true, true, true, true, true, false] rfl rfl (by kernel_rfl) (by decide) (fun K hK => ?_)
 refine goes_ Try.func120 (by kernel_rfl) rfl #[.slice Ao10 t779.length co10, .agg #[.int .i64 a1_0, .int .i64 a1_1], .int .i64 a2] (by rfl) rfl rfl (by (try simp only [List.map_toArray, List.map_cons, List.map_nil]); first | done | rfl | (simp only [List.length_drop, List.length_take]; rfl)) ?_
 with_reducible refine (spec_IsMember.calls k _ _ t779 a1_0 a1_1 a2 t782 _ ?side1 ?side2 A6.out).mono ?_
 (case side1 => repeat (first | exact (Kd.R_reads' HO781.out).2.2 | (with_reducible refine Kd.C_alloc ?_ _) | (with_reducible refine Kd.C_drewN ?_ _) | (with_reducible refine Kd.C_drew ?_)))
 (case side2 => exact (Kd.R_reads' HO781.out).2.1)
 rintro e w11 ⟨rfl, hb⟩
 refine ⟨_, rfl, ?_⟩
 replace HO781 := Aside0.mk (Kd.R_below (by (with_reducible repeat (first | apply Kd.R_alloc | apply Kd.R_drewN | apply Kd.R_drew)); exact HO781.out) hb)
 replace BK778 := bkb_ BK778 hb
 replace HB := hbs_ hb
 (try clear hb)
 (try clear hb2)
 (try clear hk)
 (try clear hi)
 refine hK.out _ _ ⟨(blk_cell BK778.out 0).trans rfl, (blk_cell BK778.out 1).trans rfl⟩ (fun hHeld => ?_)
 clear hK K
 refine norm_ (a' := ?_) ?_ ?_
 rotate_left
 ·show Act.put _ (some 14) _ = _
  simp only [Act.put, List.setIfInBounds_toArray, List.set_cons_zero, List.set_cons_succ, i64_w, i32_w]
  rfl
 refine pure_ (i := 6) (N := some 8) (v := ?_) (a' := ?_) #[true, true, true, true, true, true, true] rfl rfl (by kernel_rfl) (fun _ _ _ h => h) (Or.inl ⟨by rfl, ?_⟩) ?_ ?_
 rotate_left
 ·intro w'
  go_simp
  with_reducible rfl
 rotate_left
 ·simp only [Act.put, List.setIfInBounds_toArray, List.set_cons_zero, List.set_cons_succ, i64_w, i32_w]
  rfl
 refine done_ (by kernel_rfl) ?_
 try go_wp2
 go_ret
 exact ⟨eq_, bl_⟩
def impl_IsMember.f (k : Nat) (l0 : List (S29)) (a1_0 : Int) (a1_1 : Int) (a2 : Int) : Option (Bool) := (impl_FactsOf.f k l0).bind fun t784 => ((impl_Fact_143.f k t784 a1_0 a1_1 a2).bind fun t787 => (some t787))
set_option maxHeartbeats 8000000 in
set_option maxRecDepth 100000 in
theorem impl_IsMember.calls (k : Nat) (A0 : Option Addr) (c0 : Nat) (l0 : List (S29)) (a1_0 : Int) (a1_1 : Int) (a2 : Int) (r : Bool) (w : World) (hr0 : Kd.C k29 w A0 l0.length l0) (hc0 : l0.length ≤ c0) (h : impl_IsMember.f k l0 a1_0 a1_1 a2 = some r) :
  Calls Try.prog 122 #[.slice A0 l0.length c0, .agg #[.int .i64 a1_0, .int .i64 a1_1], .int .i64 a2] w fun e w' => e = .returned (.bool r) ∧ Below w.heap.size w w' := by
 have hu27 := Try.underlying27
 have hu55 := Try.underlying55
 have HR0 := Aside0.mk hr0
 have HC0 := Aside0.mk hc0
 clear hr0 hc0
 have HB := Aside0.mk (Below.refl w.heap.size w)
 have H : ((impl_FactsOf.f k l0).bind fun t784 => ((impl_Fact_143.f k t784 a1_0 a1_1 a2).bind fun t787 => (some t787))) = some r := h
 clear h
 obtain ⟨t784, A4, H⟩ := bindE_ H
 obtain ⟨t787, A5, H⟩ := bindE_ H
 obtain rfl := Option.some.inj H
 go_enter Try.func122, Try.ntmps122
 try go_wp2_with (first | ((with_reducible refine gate_dst (N := 4) rfl ?_); refine box_event ?hg (N := 4) ?hd (cs := #[.int .i64 a1_0, .int .i64 a1_1]) (t := 27) ?hr ?_; (case hd => rfl); (case hg => rfl); (case hr => first | (go_simp; done) | (go_simp; rfl)); intro gb783 hg w6 hbox hb; have BK783 := Aside0.mk (hbox); have GW783 := gs_ hg; have GE783 := gs_ hg; replace HB := hbs_ hb; clear hb hbox hg))
 replace BK783 := Aside0.mk (blk_drew BK783.out)
 replace HB := Aside0.mk (below_drew1 HB.out)
 refine start_ (n := 7) (S := fun w' => w'.cell? ⟨gb783, 0, none⟩ = some (.int .i64 a1_0) ∧ w'.cell? ⟨gb783, 1, none⟩ = some (.int .i64 a1_1)) (ds := []) #[false, false, false, false, false, false, false] (by kernel_rfl) rfl rfl ⟨(blk_cell BK783.out 0).trans rfl, (blk_cell BK783.out 1).trans rfl⟩ (fun hHeld => ?_)
 generalize w6.drew = w7 at BK783 HB hHeld ⊢
 refine pure_ (i := 0) (N := some 7) (v := ?_) (a' := ?_) #[true, false, false, false, false, false, false] rfl rfl (by kernel_rfl) (fun _ _ _ h => h) (Or.inl ⟨by rfl, ?_⟩) ?_ ?_
 rotate_left
 ·intro w'
  go_simp
  with_reducible rfl
 rotate_left
 ·simp only [Act.put, List.setIfInBounds_toArray, List.set_cons_zero, List.set_cons_succ, i64_w, i32_w]
  rfl
 refine pure_ (i := 3) (N := some 10) (v := ?_) (a' := ?_) #[true, false, false, true, false, false, false] rfl rfl (by kernel_rfl) (fun _ _ _ h => h) (Or.inl ⟨by rfl, ?_⟩) ?_ ?_
 rotate_left
 ·intro w'
  go_simp
  with_reducible rfl
 rotate_left
 ·simp only [Act.put, List.setIfInBounds_toArray, List.set_cons_zero, List.set_cons_succ, i64_w, i32_w]
  rfl
 refine take_ (i := 2) (N := some 9) (v := ?_) (a' := ?_) #[true, false, true, true, false, false, false] rfl rfl (by kernel_rfl) (fun _ _ _ h => h) (Or.inl ⟨by rfl, ?_⟩) hHeld ?_ ?_
 rotate_left
 ·rintro w' ⟨s0, s1⟩
  go_simp
  with_reducible rfl
 rotate_left
 ·simp only [Act.put, List.setIfInBounds_toArray, List.set_cons_zero, List.set_cons_succ, i64_w, i32_w]
  rfl
 refine pure_ (i := 4) (N := some 11) (v := ?_) (a' := ?_) #[true, false, true, true, true, false, false] rfl rfl (by kernel_rfl) (fun _ _ _ h => h) (Or.inl ⟨by rfl, ?_⟩) ?_ ?_
 rotate_left
 ·intro w'
  go_simp
  with_reducible rfl
 rotate_left
 ·simp only [Act.put, List.setIfInBounds_toArray, List.set_cons_zero, List.set_cons_succ, i64_w, i32_w]
  rfl
 refine one_ (i := 1) (N := some 8) #[true, true, true, true, true, false, false] rfl rfl (by kernel_rfl) (by decide) (fun K hK => ?_)
 refine goes_ Try.func92 (by kernel_rfl) rfl #[.slice A0 l0.length c0] (by rfl) rfl rfl (by (try simp only [List.map_toArray, List.map_cons, List.map_nil]); first | done | rfl | (simp only [List.length_drop, List.length_take]; rfl)) ?_
 with_reducible refine (impl_FactsOf.calls k _ _ l0 t784 _ ?side1 ?side2 A4.out).mono ?_
 (case side1 => repeat (first | exact (Kd.C_below HR0.out HB.out) | (with_reducible refine Kd.C_alloc ?_ _) | (with_reducible refine Kd.C_drewN ?_ _) | (with_reducible refine Kd.C_drew ?_)))
 (case side2 => exact HC0.out)
 rintro e w8 ⟨v785, rfl, ho0, hb⟩
 refine ⟨_, rfl, ?_⟩
 have HO786 := Aside0.mk (Kd.R_lower ho0 bls_)
 replace BK783 := bkb_ BK783 hb
 replace HB := hbs_ hb
 (try clear hb)
 (try clear hb2)
 (try clear hk)
 (try clear hi)
 (try clear ho0)
 obtain ⟨Ao9, co9, eo9⟩ := Kd.R_slice HO786.out
 (first | subst eo9 | (injection eo9 with f1_ f2_ f3_; have f4_ := f1_.symm; have f5_ := f3_.symm; clear f1_ f2_ f3_; subst f4_; subst f5_))
 refine hK.out _ _ ⟨(blk_cell BK783.out 0).trans rfl, (blk_cell BK783.out 1).trans rfl⟩ (fun hHeld => ?_)
 clear hK K
 refine norm_ (a' := ?_) ?_ ?_
 rotate_left
 ·show Act.put _ (some 8) _ = _
  simp only [Act.put, List.setIfInBounds_toArray, List.set_cons_zero, List.set_cons_succ, i64_w, i32_w]
  rfl
 refine one_ (i := 5) (N := some 12) #[true, true, true, true, true, true, false] rfl rfl (by kernel_rfl) (by decide) (fun K hK => ?_)
 refine goes_ Try.func143 (by kernel_rfl) rfl #[.slice Ao9 t784.length co9, .agg #[.int .i64 a1_0, .int .i64 a1_1, .int .i64 a2]] (by rfl) rfl rfl (by (try simp only [List.map_toArray, List.map_cons, List.map_nil]); first | done | rfl | (simp only [List.length_drop, List.length_take]; rfl)) ?_
 with_reducible refine (impl_Fact_143.calls k _ _ t784 a1_0 a1_1 a2 t787 _ ?side1 ?side2 A5.out).mono ?_
 (case side1 => repeat (first | exact (Kd.R_reads' HO786.out).2.2 | (with_reducible refine Kd.C_alloc ?_ _) | (with_reducible refine Kd.C_drewN ?_ _) | (with_reducible refine Kd.C_drew ?_)))
 (case side2 => exact (Kd.R_reads' HO786.out).2.1)
 rintro e w10 ⟨rfl, hb⟩
 refine ⟨_, rfl, ?_⟩
 replace HO786 := Aside0.mk (Kd.R_below (by (with_reducible repeat (first | apply Kd.R_alloc | apply Kd.R_drewN | apply Kd.R_drew)); exact HO786.out) hb)
 replace BK783 := bkb_ BK783 hb
 replace HB := hbs_ hb
 (try clear hb)
 (try clear hb2)
 (try clear hk)
 (try clear hi)
 refine hK.out _ _ ⟨(blk_cell BK783.out 0).trans rfl, (blk_cell BK783.out 1).trans rfl⟩ (fun hHeld => ?_)
 clear hK K
 refine norm_ (a' := ?_) ?_ ?_
 rotate_left
 ·show Act.put _ (some 12) _ = _
  simp only [Act.put, List.setIfInBounds_toArray, List.set_cons_zero, List.set_cons_succ, i64_w, i32_w]
  rfl
 refine pure_ (i := 6) (N := some 6) (v := ?_) (a' := ?_) #[true, true, true, true, true, true, true] rfl rfl (by kernel_rfl) (fun _ _ _ h => h) (Or.inl ⟨by rfl, ?_⟩) ?_ ?_
 rotate_left
 ·intro w'
  go_simp
  with_reducible rfl
 rotate_left
 ·simp only [Act.put, List.setIfInBounds_toArray, List.set_cons_zero, List.set_cons_succ, i64_w, i32_w]
  rfl
 refine done_ (by kernel_rfl) ?_
 try go_wp2
 go_ret
 exact ⟨eq_, bl_⟩
end Go.Proofs.Ytcgnegnljffkmaa.PB
