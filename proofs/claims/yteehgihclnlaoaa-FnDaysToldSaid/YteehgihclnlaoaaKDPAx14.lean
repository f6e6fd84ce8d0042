import Derived.Test.YteehgihclnlaoaaKDPAx13
-- printed by wip/tools
namespace Go.Proofs.Yteehgihclnlaoaa.PA
open Go.RowKit Go.Proofs.YteehgihclnlaoaaW.PrintWords Go.Proofs.YteehgihclnlaoaaW.PrintLast Go.Proofs.YteehgihclnlaoaaW.PrintMore
attribute [local go_sem] max2_int min2_int max_two min_two max_three min_three max_four min_four
set_option linter.unusedVariables false
set_option linter.unusedSimpArgs false
mutual
def spec_FactsOf.l0 : Nat → List (S48) → List (S54) → Bool → Option ((List (S54)))
 | 0, _, _, _ => none
 | k + 1, x0, x3, x4 => if x4 = true then (spec_FactsOf.l1 k x0 x3 false 0) else (some x3)
def spec_FactsOf.l1 : Nat → List (S48) → List (S54) → Bool → Int → Option ((List (S54)))
 | 0, _, _, _, _ => none
 | k + 1, x0, x3, x4, x5 => if x5 < (x0.length : Int) then (if 0 ≤ x5 then ((spec_Follows.f k x3 ((rd_T48 x0 x5).f0) ((rd_T48 x0 x5).f1.f0) ((rd_T48 x0 x5).f1.f1) ((rd_T48 x0 x5).f2) ((rd_T48 x0 x5).f3.f0) ((rd_T48 x0 x5).f3.f1) ((rd_T48 x0 x5).f4.f0) ((rd_T48 x0 x5).f4.f1) ((rd_T48 x0 x5).f5) ((rd_T48 x0 x5).f6)).bind fun t520 => (if (t520.length : Int) > (x3.length : Int) then (spec_FactsOf.l1 k x0 t520 true (wrap64 (x5 + 1))) else (spec_FactsOf.l1 k x0 t520 x4 (wrap64 (x5 + 1))))) else (none)) else (spec_FactsOf.l0 k x0 x3 x4)
end
def spec_FactsOf.f (k : Nat) (l0 : List (S48)) : Option ((List (S54))) := spec_FactsOf.l0 k l0 (([] : List (S54))) true
set_option maxHeartbeats 8000000 in
set_option maxRecDepth 100000 in
theorem spec_FactsOf.calls (k : Nat) (A0 : Option Addr) (c0 : Nat) (l0 : List (S48)) (r : List (S54)) (w : World) (hr0 : Kd.C k48 w A0 l0.length l0) (hc0 : l0.length ≤ c0) (h : spec_FactsOf.f k l0 = some r) :
  Calls Try.prog 35 #[.slice A0 l0.length c0] w fun e w' => ∃ v0_ : Value, e = .returned (v0_) ∧ Kd.R k54 54 w' w.heap.size (fun _ => True) v0_ r ∧ Below w.heap.size w w' := by
 have hu48 := Try.underlying48
 have HR0 := Aside0.mk hr0
 have HC0 := Aside0.mk hc0
 clear hr0 hc0
 have HB := Aside0.mk (Below.refl w.heap.size w)
 have H : (spec_FactsOf.l0 k l0 (([] : List (S54))) true) = some r := h
 clear h
 obtain ⟨y516, hy516⟩ : ∃ y_ : List (S54), y_ = (([] : List (S54))) := ⟨_, rfl⟩
 replace H : (spec_FactsOf.l0 k l0 y516 true) = some r := by first | (rw [hy516]; with_reducible exact H) | (have H2_ := (Option.bind_some _ _).symm.trans H; rw [hy516]; with_reducible exact H2_) | (have H2_ := (Option.bind_some _ _).symm.trans H; with_reducible exact H2_) | with_reducible exact H | (rw [hy516]; exact H) | exact H
 have Ny516 := Aside0.mk hy516
 clear hy516
 have H' := Aside0.mk H
 clear H
 go_enter Try.func35, Try.ntmps35
 go_wp2_with (first | ((with_reducible refine gate_dst (N := 7) rfl ?_); refine Kd.R_lit k54 _ 54 ?hg (N := 7) ?hd (xs := ([] : List (S54))) (inner := []) (ok := fun _ => True) (okp := fun _ => True) ?hr ?hp (fun _ hk => hk) trivial (Below.refl _ _) (Nat.le_refl _) (by simp) ?_; (case hd => rfl); (case hg => rfl); (case hr => first | (go_simp; done) | (go_simp; rfl)); (case hp => exact (Reps.none _ _)); intro v517 w2 ho3 hb hg_ hnew_; clear hg_ hnew_; (first | rw [← Ny516.out] at ho3 | (simp only [Int.reduceToNat] at ho3; rw [← Ny516.out] at ho3)); have HO518 := Aside0.mk (Kd.R_lower ho3 bls_); replace HB := hbs_ hb; clear hb ho3))
 go_loopg [3, 4] k (fun kq v3 v4 w' => ∃ (x3_1 : List (S54)) (x4_1 : Bool), v4 = .bool x4_1 ∧ Aside0 (spec_FactsOf.l0 kq l0 x3_1 x4_1 = some r) ∧ Aside0 (kq ≤ k) ∧ Aside0 (Kd.R k54 54 w' w.heap.size (fun _ => True) v3 x3_1) ∧ Aside0 (Below w.heap.size w w'))
 case atStart => exact ⟨(y516), (true), rf_, H', ⟨Nat.le_refl _⟩, ⟨by (with_reducible repeat (first | apply Kd.R_alloc | apply Kd.R_drewN | apply Kd.R_drew)); exact HO518.out⟩, ⟨bl_⟩⟩
 case round =>
  clear H'
  try clear p2
  try clear c3
  obtain ⟨x3_1, x4_1, rfl, HA, HK1, HO_3, HB⟩ := hrel
  cases gk with
  | zero => exact absurd HA.out (by simp [spec_FactsOf.l0])
  | succ k1 =>
   have H := HA.out
   clear HA
   simp only [spec_FactsOf.l0] at H
   by_cases c4 : x4_1 = true
   ·subst c4
    replace H := ite_t_ H
    have H' := Aside0.mk H
    clear H
    go_wp2
    go_loopg [3, 4, 5] k1 (fun kq v3 v4 v5 w' => ∃ (x3_2 : List (S54)) (x4_2 : Bool) (x5_2 : Int), v4 = .bool x4_2 ∧ v5 = .int .i64 x5_2 ∧ Aside0 (spec_FactsOf.l1 kq l0 x3_2 x4_2 x5_2 = some r) ∧ Aside0 (kq ≤ k1) ∧ Aside0 (Kd.R k54 54 w' w.heap.size (fun _ => True) v3 x3_2) ∧ Aside0 (Below w.heap.size w w'))
    case atStart => exact ⟨(x3_1), (false), (0), rf_, rf_, H', ⟨Nat.le_refl _⟩, ⟨by (with_reducible repeat (first | apply Kd.R_alloc | apply Kd.R_drewN | apply Kd.R_drew)); exact HO_3.out⟩, ⟨bl_⟩⟩
    case round =>
     clear H'
     try clear p2
     try clear c3
     try clear c4
     try clear p2
     obtain ⟨x3_2, x4_2, x5_2, rfl, rfl, HA, HK2, HO_3, HB⟩ := hrel
     cases gk with
     | zero => exact absurd HA.out (by simp [spec_FactsOf.l1])
     | succ k2 =>
      have H := HA.out
      clear HA
      simp only [spec_FactsOf.l1] at H
      by_cases c5 : x5_2 < (l0.length : Int)
      ·rw [if_pos c5] at H
       have c5b0 : decide (x5_2 < (l0.length : Int)) = true := decide_eq_true c5
       clear c5
       obtain ⟨c6b0, H⟩ := ifd_ H
       obtain ⟨t520, A7, H⟩ := bindE_ H
       by_cases c8 : (t520.length : Int) > (x3_2.length : Int)
       ·rw [if_pos c8] at H
        have c8b0 : decide ((x3_2.length : Int) < (t520.length : Int)) = true := decide_eq_true c8
        have c8b1 : decide (x3_2.length < t520.length) = true := decide_eq_true (Int.ofNat_lt.mp c8)
        clear c8
        have H' := Aside0.mk H
        clear H
        have p519 : 0 ≤ (x5_2 : Int) := od_
        have q519 : x5_2 < (l0.length : Int) := od_
        obtain ⟨ad519, e519, hx519_0, hx519_1, hx519_2, hx519_3, hx519_4, hx519_5, hx519_6, hx519_7, hx519_8, hx519_9⟩ := at_T48 (Kd.C_below HR0.out HB.out) x5_2 p519 q519
        cases e519
        replace p519 := eq_true p519
        replace q519 := eq_true q519
        obtain ⟨Ao9, co9, eo9⟩ := Kd.R_slice HO_3.out
        subst eo9
        go_wp2_with (first | ((with_reducible refine gate_callee (f := 52) rfl ?_); refine goesC_ (some 20) Try.func52 #[.slice Ao9 x3_2.length co9, .agg #[.int .i64 ((rd_T48 l0 x5_2).f0), .int .i64 ((rd_T48 l0 x5_2).f1.f0), .int .i64 ((rd_T48 l0 x5_2).f1.f1), .int .i64 ((rd_T48 l0 x5_2).f2), .int .i64 ((rd_T48 l0 x5_2).f3.f0), .int .i64 ((rd_T48 l0 x5_2).f3.f1), .int .i64 ((rd_T48 l0 x5_2).f4.f0), .int .i64 ((rd_T48 l0 x5_2).f4.f1), .int .i64 ((rd_T48 l0 x5_2).f5), .int .i64 ((rd_T48 l0 x5_2).f6)]] ?_; (with_reducible refine (spec_Follows.calls k2 _ _ x3_2 ((rd_T48 l0 x5_2).f0) ((rd_T48 l0 x5_2).f1.f0) ((rd_T48 l0 x5_2).f1.f1) ((rd_T48 l0 x5_2).f2) ((rd_T48 l0 x5_2).f3.f0) ((rd_T48 l0 x5_2).f3.f1) ((rd_T48 l0 x5_2).f4.f0) ((rd_T48 l0 x5_2).f4.f1) ((rd_T48 l0 x5_2).f5) ((rd_T48 l0 x5_2).f6) t520 _ ?side1 ?side2 A7.out).mono ?_); (case side1 => repeat (first | exact (Kd.R_reads' HO_3.out).2.2 | (with_reducible refine Kd.C_alloc ?_ _) | (with_reducible refine Kd.C_drewN ?_ _) | (with_reducible refine Kd.C_drew ?_))); (case side2 => exact (Kd.R_reads' HO_3.out).2.1); rintro e w10 ⟨v521, rfl, ho0, hb⟩; refine ⟨_, rfl, ?_⟩; have HO522 := Aside0.mk (Kd.R_lower (Kd.R_new' ho0 (Kd.R_lt (by (with_reducible repeat (first | apply Kd.R_alloc | apply Kd.R_drewN | apply Kd.R_drew)); exact HO_3.out))) bls_); replace HO_3 := Aside0.mk (Kd.R_elder' (by (with_reducible repeat (first | apply Kd.R_alloc | apply Kd.R_drewN | apply Kd.R_drew)); exact HO_3.out) (Kd.R_base ho0) hb); replace HB := hbs_ hb; (try clear hb); (try clear hb2); (try clear hk); (try clear hi); (try clear ho0); obtain ⟨Ao11, co11, eo11⟩ := Kd.R_slice HO522.out; subst eo11))
        go_roundg k2
        case measure => have := HK1.out; have := HK2.out; omega
        case rel => exact ⟨(t520), (true), (wrap64 (x5_2 + 1)), rf_, rf_, H', ⟨by have := HK1.out; have := HK2.out; omega⟩, ⟨by (with_reducible repeat (first | apply Kd.R_alloc | apply Kd.R_drewN | apply Kd.R_drew)); exact Kd.R_mono HO522.out (fun _ hk => trivial)⟩, ⟨bl_⟩⟩
       ·rw [if_neg c8] at H
        have c8b0 : decide ((x3_2.length : Int) < (t520.length : Int)) = false := decide_eq_false c8
        have c8b1 : decide (x3_2.length < t520.length) = false := decide_eq_false (fun h => c8 (Int.ofNat_lt.mpr h))
        clear c8
        have H' := Aside0.mk H
        clear H
        have p519 : 0 ≤ (x5_2 : Int) := od_
        have q519 : x5_2 < (l0.length : Int) := od_
        obtain ⟨ad519, e519, hx519_0, hx519_1, hx519_2, hx519_3, hx519_4, hx519_5, hx519_6, hx519_7, hx519_8, hx519_9⟩ := at_T48 (Kd.C_below HR0.out HB.out) x5_2 p519 q519
        cases e519
        replace p519 := eq_true p519
        replace q519 := eq_true q519
        obtain ⟨Ao12, co12, eo12⟩ := Kd.R_slice HO_3.out
        subst eo12
        go_wp2_with (first | ((with_reducible refine gate_callee (f := 52) rfl ?_); refine goesC_ (some 20) Try.func52 #[.slice Ao12 x3_2.length co12, .agg #[.int .i64 ((rd_T48 l0 x5_2).f0), .int .i64 ((rd_T48 l0 x5_2).f1.f0), .int .i64 ((rd_T48 l0 x5_2).f1.f1), .int .i64 ((rd_T48 l0 x5_2).f2), .int .i64 ((rd_T48 l0 x5_2).f3.f0), .int .i64 ((rd_T48 l0 x5_2).f3.f1), .int .i64 ((rd_T48 l0 x5_2).f4.f0), .int .i64 ((rd_T48 l0 x5_2).f4.f1), .int .i64 ((rd_T48 l0 x5_2).f5), .int .i64 ((rd_T48 l0 x5_2).f6)]] ?_; (with_reducible refine (spec_Follows.calls k2 _ _ x3_2 ((rd_T48 l0 x5_2).f0) ((rd_T48 l0 x5_2).f1.f0) ((rd_T48 l0 x5_2).f1.f1) ((rd_T48 l0 x5_2).f2) ((rd_T48 l0 x5_2).f3.f0) ((rd_T48 l0 x5_2).f3.f1) ((rd_T48 l0 x5_2).f4.f0) ((rd_T48 l0 x5_2).f4.f1) ((rd_T48 l0 x5_2).f5) ((rd_T48 l0 x5_2).f6) t520 _ ?side1 ?side2 A7.out).mono ?_); (case side1 => repeat (first | exact (Kd.R_reads' HO_3.out).2.2 | (with_reducible refine Kd.C_alloc ?_ _) | (with_reducible refine Kd.C_drewN ?_ _) | (with_reducible refine Kd.C_drew ?_))); (case side2 => exact (Kd.R_reads' HO_3.out).2.1); rintro e w13 ⟨v521, rfl, ho0, hb⟩; refine ⟨_, rfl, ?_⟩; have HO522 := Aside0.mk (Kd.R_lower (Kd.R_new' ho0 (Kd.R_lt (by (with_reducible repeat (first | apply Kd.R_alloc | apply Kd.R_drewN | apply Kd.R_drew)); exact HO_3.out))) bls_); replace HO_3 := Aside0.mk (Kd.R_elder' (by (with_reducible repeat (first | apply Kd.R_alloc | apply Kd.R_drewN | apply Kd.R_drew)); exact HO_3.out) (Kd.R_base ho0) hb); replace HB := hbs_ hb; (try clear hb); (try clear hb2); (try clear hk); (try clear hi); (try clear ho0); obtain ⟨Ao14, co14, eo14⟩ := Kd.R_slice HO522.out; subst eo14))
        go_roundg k2
        case measure => have := HK1.out; have := HK2.out; omega
        case rel => exact ⟨(t520), (x4_2), (wrap64 (x5_2 + 1)), rf_, rf_, H', ⟨by have := HK1.out; have := HK2.out; omega⟩, ⟨by (with_reducible repeat (first | apply Kd.R_alloc | apply Kd.R_drewN | apply Kd.R_drew)); exact Kd.R_mono HO522.out (fun _ hk => trivial)⟩, ⟨bl_⟩⟩
      ·rw [if_neg c5] at H
       have c5b0 : decide (x5_2 < (l0.length : Int)) = false := decide_eq_false c5
       clear c5
       have H' := Aside0.mk H
       clear H
       go_wp2
       go_roundg k2
       case measure => have := HK1.out; have := HK2.out; omega
       case rel => exact ⟨(x3_2), (x4_2), rf_, H', ⟨by have := HK1.out; have := HK2.out; omega⟩, ⟨by (with_reducible repeat (first | apply Kd.R_alloc | apply Kd.R_drewN | apply Kd.R_drew)); exact HO_3.out⟩, ⟨bl_⟩⟩
   ·replace c4 := Bool.eq_false_iff.mpr c4
    subst c4
    replace H := ite_f_ H
    obtain rfl := Option.some.inj H
    go_wp2
    go_ret
    exact ⟨_, eq_, by (with_reducible repeat (first | apply Kd.R_alloc | apply Kd.R_drewN | apply Kd.R_drew)); exact HO_3.out, bl_⟩
def spec_IsMember.f (k : Nat) (l0 : List (S48)) (a1_0 : Int) (a1_1 : Int) (a2 : Int) : Option (Bool) := (spec_FactsOf.f k l0).bind fun t524 => ((spec_l06Has.f k t524 a1_0 a1_1 a2).bind fun t527 => (some t527))
set_option maxHeartbeats 8000000 in
set_option maxRecDepth 100000 in
theorem spec_IsMember.calls (k : Nat) (A0 : Option Addr) (c0 : Nat) (l0 : List (S48)) (a1_0 : Int) (a1_1 : Int) (a2 : Int) (r : Bool) (w : World) (hr0 : Kd.C k48 w A0 l0.length l0) (hc0 : l0.length ≤ c0) (h : spec_IsMember.f k l0 a1_0 a1_1 a2 = some r) :
  Calls Try.prog 27 #[.slice A0 l0.length c0, .agg #[.int .i64 a1_0, .int .i64 a1_1], .int .i64 a2] w fun e w' => e = .returned (.bool r) ∧ Below w.heap.size w w' := by
 have hu26 := Try.underlying26
 have hu54 := Try.underlying54
 have HR0 := Aside0.mk hr0
 have HC0 := Aside0.mk hc0
 clear hr0 hc0
 have HB := Aside0.mk (Below.refl w.heap.size w)
 have H : ((spec_FactsOf.f k l0).bind fun t524 => ((spec_l06Has.f k t524 a1_0 a1_1 a2).bind fun t527 => (some t527))) = some r := h
 clear h
 obtain ⟨t524, A4, H⟩ := bindE_ H
 obtain ⟨t527, A5, H⟩ := bindE_ H
 obtain rfl := Option.some.inj H
 go_enter Try.func27, Try.ntmps27
 try go_wp2_with (first | ((with_reducible refine gate_dst (N := 4) rfl ?_); refine box_event ?hg (N := 4) ?hd (cs := #[.int .i64 a1_0, .int .i64 a1_1]) (t := 26) ?hr ?_; (case hd => rfl); (case hg => rfl); (case hr => first | (go_simp; done) | (go_simp; rfl)); intro gb523 hg w6 hbox hb; have BK523 := Aside0.mk (hbox); have GW523 := gs_ hg; have GE523 := gs_ hg; replace HB := hbs_ hb; clear hb hbox hg))
 replace BK523 := Aside0.mk (blk_drew BK523.out)
 replace HB := Aside0.mk (below_drew1 HB.out)
 refine start_ (n := 7) (S := fun w' => w'.cell? ⟨gb523, 0, none⟩ = some (.int .i64 a1_0) ∧ w'.cell? ⟨gb523, 1, none⟩ = some (.int .i64 a1_1)) (ds := []) #[false, false, false, false, false, false, false] (by kernel_rfl) rfl rfl ⟨(blk_cell BK523.out 0).trans rfl, (blk_cell BK523.out 1).trans rfl⟩ (fun hHeld => ?_)
 generalize w6.drew = w7 at BK523 HB hHeld ⊢
 refine pure_ (i := 0) (N := some 7) (v := ?_) (a' := ?_) #[true, false, false, false, false, false, false] rfl rfl (by kernel_rfl) (fun _ _ _ h => h) (Or.inl ⟨by rfl, ?_⟩) ?_ ?_
 rotate_left
 ·intro w'
  go_simp
  with_reducible rfl
 rotate_left
 ·simp only [Act.put, List.setIfInBounds_toArray, List.set_cons_zero, List.set_cons_succ, i64_w, i32_w]
  rfl
 refine pure_ (i := 3) (N := some 10) (v := ?_) (a' := ?_) #[true, false, false, true, false, false, false] rfl rfl (by kernel_rfl) (fun _ _ _ h => h) (Or.inl ⟨by rfl, ?_⟩) ?_ ?_
 rotate_left
 ·intro w'
  go_simp
  with_reducible rfl
 rotate_left
 ·simp only [Act.put, List.setIfInBounds_toArray, List.set_cons_zero, List.set_cons_succ, i64_w, i32_w]
  rfl
 refine take_ (i := 2) (N := some 9) (v := ?_) (a' := ?_) #[true, false, true, true, false, false, false] rfl rfl (by kernel_rfl) (fun _ _ _ h => h) (Or.inl ⟨by rfl, ?_⟩) hHeld ?_ ?_
 rotate_left
 ·rintro w' ⟨s0, s1⟩
  go_simp
  with_reducible rfl
 rotate_left
 ·simp only [Act.put, List.setIfInBounds_toArray, List.set_cons_zero, List.set_cons_succ, i64_w, i32_w]
  rfl
 refine pure_ (i := 4) (N := some 11) (v := ?_) (a' := ?_) #[true, false, true, true, true, false, false] rfl rfl (by kernel_rfl) (fun _ _ _ h => h) (Or.inl ⟨by rfl, ?_⟩) ?_ ?_
 rotate_left
 ·intro w'
  go_simp
  with_reducible rfl
 rotate_left
 ·simp only [Act.put, List.setIfInBounds_toArray, List.set_cons_zero, List.set_cons_succ, i64_w, i32_w]
  rfl
 refine one_ (i := 1) (N := some 8) #[true, true, true, true, true, false, false] rfl rfl (by kernel_rfl) (by decide) (fun K hK => ?_)
 refine goes_ Try.func35 (by kernel_rfl) rfl #[.slice A0 l0.length c0] (by rfl) rfl rfl (by (try simp only [List.map_toArray, List.map_cons, List.map_nil]); first | done | rfl | (simp only [List.length_drop, List.length_take]; rfl)) ?_
 with_reducible refine (spec_FactsOf.calls k _ _ l0 t524 _ ?side1 ?side2 A4.out).mono ?_
 (case side1 => repeat (first | exact (Kd.C_below HR0.out HB.out) | (with_reducible refine Kd.C_alloc ?_ _) | (with_reducible refine Kd.C_drewN ?_ _) | (with_reducible refine Kd.C_drew ?_)))
 (case side2 => exact HC0.out)
 rintro e w8 ⟨v525, rfl, ho0, hb⟩
 refine ⟨_, rfl, ?_⟩
 have HO526 := Aside0.mk (Kd.R_lower ho0 bls_)
 replace BK523 := bkb_ BK523 hb
 replace HB := hbs_ hb
 (try clear hb)
 (try clear hb2)
 (try clear hk)
 (try clear hi)
 (try clear ho0)
 obtain ⟨Ao9, co9, eo9⟩ := Kd.R_slice HO526.out
 (first | subst eo9 | (injection eo9 with f1_ f2_ f3_; have f4_ := f1_.symm; have f5_ := f3_.symm; clear f1_ f2_ f3_; subst f4_; subst f5_))
 refine hK.out _ _ ⟨(blk_cell BK523.out 0).trans rfl, (blk_cell BK523.out 1).trans rfl⟩ (fun hHeld => ?_)
 clear hK K
 refine norm_ (a' := ?_) ?_ ?_
 rotate_left
 ·show Act.put _ (some 8) _ = _
  simp only [Act.put, List.setIfInBounds_toArray, List.set_cons_zero, List.set_cons_succ, i64_w, i32_w]
  rfl
 refine one_ (i := 5) (N := some 12) #[true, true, true, true, true, true, false] rfl rfl (by kernel_rfl) (by decide) (fun K hK => ?_)
 refine goes_ Try.func41 (by kernel_rfl) rfl #[.slice Ao9 t524.length co9, .agg #[.int .i64 a1_0, .int .i64 a1_1, .int .i64 a2]] (by rfl) rfl rfl (by (try simp only [List.map_toArray, List.map_cons, List.map_nil]); first | done | rfl | (simp only [List.length_drop, List.length_take]; rfl)) ?_
 with_reducible refine (spec_l06Has.calls k _ _ t524 a1_0 a1_1 a2 t527 _ ?side1 ?side2 A5.out).mono ?_
 (case side1 => repeat (first | exact (Kd.R_reads' HO526.out).2.2 | (with_reducible refine Kd.C_alloc ?_ _) | (with_reducible refine Kd.C_drewN ?_ _) | (with_reducible refine Kd.C_drew ?_)))
 (case side2 => exact (Kd.R_reads' HO526.out).2.1)
 rintro e w10 ⟨rfl, hb⟩
 refine ⟨_, rfl, ?_⟩
 replace HO526 := hob_ HO526 hb
 replace BK523 := bkb_ BK523 hb
 replace HB := hbs_ hb
 (try clear hb)
 (try clear hb2)
 (try clear hk)
 (try clear hi)
 refine hK.out _ _ ⟨(blk_cell BK523.out 0).trans rfl, (blk_cell BK523.out 1).trans rfl⟩ (fun hHeld => ?_)
 clear hK K
 refine norm_ (a' := ?_) ?_ ?_
 rotate_left
 ·show Act.put _ (some 12) _ = _
  simp only [Act.put, List.setIfInBounds_toArray, List.set_cons_zero, List.set_cons_succ, i64_w, i32_w]
  rfl
 refine pure_ (i := 6) (N := some 6) (v := ?_) (a' := ?_) #[true, true, true, true, true, true, true] rfl rfl (by kernel_rfl) (fun _ _ _ h => h) (Or.inl ⟨by rfl, ?_⟩) ?_ ?_
 rotate_left
 ·intro w'
  go_simp
  with_reducible rfl
 rotate_left
 ·simp only [Act.put, List.setIfInBounds_toArray, List.set_cons_zero, List.set_cons_succ, i64_w, i32_w]
  rfl
 refine done_ (by kernel_rfl) ?_
 try go_wp2
 go_ret
 exact ⟨eq_, bl_⟩
def spec_Alive.l0 : Nat → List (S48) → Int → List (S48) → Int → Option ((List (S48)))
 | 0, _, _, _, _ => none
 | k + 1, x0, x1, x5, x6 => if x6 < (x0.length : Int) then (if 0 ≤ x6 then ((spec_CredOk.f k ((rd_T48 x0 x6).f0) ((rd_T48 x0 x6).f1.f0) ((rd_T48 x0 x6).f1.f1) ((rd_T48 x0 x6).f2) ((rd_T48 x0 x6).f3.f0) ((rd_T48 x0 x6).f3.f1) ((rd_T48 x0 x6).f4.f0) ((rd_T48 x0 x6).f4.f1) ((rd_T48 x0 x6).f5) ((rd_T48 x0 x6).f6)).bind fun t532 => (if t532 = true then (if ((rd_T48 x0 x6).f5) ≥ x1 then (if x5.length < 1759218604441 then (spec_Alive.l0 k x0 x1 (x5 ++ [(⟨(rd_T48 x0 x6).f0, (⟨(rd_T48 x0 x6).f1.f0, (rd_T48 x0 x6).f1.f1⟩ : S26), (rd_T48 x0 x6).f2, (⟨(rd_T48 x0 x6).f3.f0, (rd_T48 x0 x6).f3.f1⟩ : S26), (⟨(rd_T48 x0 x6).f4.f0, (rd_T48 x0 x6).f4.f1⟩ : S26), (rd_T48 x0 x6).f5, (rd_T48 x0 x6).f6⟩ : S48)]) (wrap64 (x6 + 1))) else (none)) else (spec_Alive.l0 k x0 x1 x5 (wrap64 (x6 + 1)))) else (spec_Alive.l0 k x0 x1 x5 (wrap64 (x6 + 1))))) else (none)) else (some x5)
def spec_Alive.f (k : Nat) (l0 : List (S48)) (a1 : Int) : Option ((List (S48))) := spec_Alive.l0 k l0 a1 (([] : List (S48))) 0
set_option maxHeartbeats 8000000 in
set_option maxRecDepth 100000 in
theorem spec_Alive.calls (k : Nat) (A0 : Option Addr) (c0 : Nat) (l0 : List (S48)) (a1 : Int) (r : List (S48)) (w : World) (hr0 : Kd.C k48 w A0 l0.length l0) (hc0 : l0.length ≤ c0) (h : spec_Alive.f k l0 a1 = some r) :
  Calls Try.prog 28 #[.slice A0 l0.length c0, .int .i64 a1] w fun e w' => ∃ v0_ : Value, e = .returned (v0_) ∧ Kd.R k48 48 w' w.heap.size (fun _ => True) v0_ r ∧ Below w.heap.size w w' := by
 have hu48 := Try.underlying48
 have HR0 := Aside0.mk hr0
 have HC0 := Aside0.mk hc0
 clear hr0 hc0
 have HB := Aside0.mk (Below.refl w.heap.size w)
 have H : (spec_Alive.l0 k l0 a1 (([] : List (S48))) 0) = some r := h
 clear h
 obtain ⟨y528, hy528⟩ : ∃ y_ : List (S48), y_ = (([] : List (S48))) := ⟨_, rfl⟩
 replace H : (spec_Alive.l0 k l0 a1 y528 0) = some r := by first | (rw [hy528]; with_reducible exact H) | (have H2_ := (Option.bind_some _ _).symm.trans H; rw [hy528]; with_reducible exact H2_) | (have H2_ := (Option.bind_some _ _).symm.trans H; with_reducible exact H2_) | with_reducible exact H | (rw [hy528]; exact H) | exact H
 have Ny528 := Aside0.mk hy528
 clear hy528
 have H' := Aside0.mk H
 clear H
 go_enter Try.func28, Try.ntmps28
 go_wp2_with (first | ((with_reducible refine gate_dst (N := 7) rfl ?_); refine Kd.R_lit k48 _ 48 ?hg (N := 7) ?hd (xs := ([] : List (S48))) (inner := []) (ok := fun _ => True) (okp := fun _ => True) ?hr ?hp (fun _ hk => hk) trivial (Below.refl _ _) (Nat.le_refl _) (by simp) ?_; (case hd => rfl); (case hg => rfl); (case hr => first | (go_simp; done) | (go_simp; rfl)); (case hp => exact (Reps.none _ _)); intro v529 w3 ho4 hb hg_ hnew_; clear hg_ hnew_; (first | rw [← Ny528.out] at ho4 | (simp only [Int.reduceToNat] at ho4; rw [← Ny528.out] at ho4)); have HO530 := Aside0.mk (Kd.R_lower ho4 bls_); replace HB := hbs_ hb; clear hb ho4))
 go_loopg [5, 6] k (fun kq v5 v6 w' => ∃ (x5_1 : List (S48)) (x6_1 : Int), v6 = .int .i64 x6_1 ∧ Aside0 (spec_Alive.l0 kq l0 a1 x5_1 x6_1 = some r) ∧ Aside0 (kq ≤ k) ∧ Aside0 (Kd.R k48 48 w' w.heap.size (fun _ => True) v5 x5_1) ∧ Aside0 (Below w.heap.size w w'))
 case atStart => exact ⟨(y528), (0), rf_, H', ⟨Nat.le_refl _⟩, ⟨by (with_reducible repeat (first | apply Kd.R_alloc | apply Kd.R_drewN | apply Kd.R_drew)); exact HO530.out⟩, ⟨bl_⟩⟩
 case round =>
  clear H'
  try clear c2
  try clear p2
  obtain ⟨x5_1, x6_1, rfl, HA, HK1, HO_5, HB⟩ := hrel
  cases gk with
  | zero => exact absurd HA.out (by simp [spec_Alive.l0])
  | succ k1 =>
   have H := HA.out
   clear HA
   simp only [spec_Alive.l0] at H
   by_cases c5 : x6_1 < (l0.length : Int)
   ·rw [if_pos c5] at H
    have c5b0 : decide (x6_1 < (l0.length : Int)) = true := decide_eq_true c5
    clear c5
    obtain ⟨c6b0, H⟩ := ifd_ H
    obtain ⟨t532, A7, H⟩ := bindE_ H
    by_cases c8 : t532 = true
    ·subst c8
     replace H := ite_t_ H
     by_cases c9 : ((rd_T48 l0 x6_1).f5) ≥ a1
     ·rw [if_pos c9] at H
      have c9b0 : decide (a1 ≤ ((rd_T48 l0 x6_1).f5)) = true := decide_eq_true c9
      clear c9
      obtain ⟨c10, H⟩ := ifn_ H
      have LMc10 := Aside0.mk c10
      clear c10
      obtain ⟨y535, hy535⟩ : ∃ y_ : List (S48), y_ = (x5_1 ++ [(⟨(rd_T48 l0 x6_1).f0, (⟨(rd_T48 l0 x6_1).f1.f0, (rd_T48 l0 x6_1).f1.f1⟩ : S26), (rd_T48 l0 x6_1).f2, (⟨(rd_T48 l0 x6_1).f3.f0, (rd_T48 l0 x6_1).f3.f1⟩ : S26), (⟨(rd_T48 l0 x6_1).f4.f0, (rd_T48 l0 x6_1).f4.f1⟩ : S26), (rd_T48 l0 x6_1).f5, (rd_T48 l0 x6_1).f6⟩ : S48)]) := ⟨_, rfl⟩
      replace H : (spec_Alive.l0 k1 l0 a1 y535 (wrap64 (x6_1 + 1))) = some r := by first | (rw [hy535]; with_reducible exact H) | (have H2_ := (Option.bind_some _ _).symm.trans H; rw [hy535]; with_reducible exact H2_) | (have H2_ := (Option.bind_some _ _).symm.trans H; with_reducible exact H2_) | with_reducible exact H | (rw [hy535]; exact H) | exact H
      have Ny535 := Aside0.mk hy535
      clear hy535
      have H' := Aside0.mk H
      clear H
      have p531 : 0 ≤ (x6_1 : Int) := od_
      have q531 : x6_1 < (l0.length : Int) := od_
      obtain ⟨ad531, e531, hx531_0, hx531_1, hx531_2, hx531_3, hx531_4, hx531_5, hx531_6, hx531_7, hx531_8, hx531_9⟩ := at_T48 (Kd.C_below HR0.out HB.out) x6_1 p531 q531
      cases e531
      replace p531 := eq_true p531
      replace q531 := eq_true q531
      go_wp2_with (first | ((with_reducible refine gate_callee (f := 32) rfl ?_); refine goesC_ (some 18) Try.func32 #[.agg #[.int .i64 ((rd_T48 l0 x6_1).f0), .int .i64 ((rd_T48 l0 x6_1).f1.f0), .int .i64 ((rd_T48 l0 x6_1).f1.f1), .int .i64 ((rd_T48 l0 x6_1).f2), .int .i64 ((rd_T48 l0 x6_1).f3.f0), .int .i64 ((rd_T48 l0 x6_1).f3.f1), .int .i64 ((rd_T48 l0 x6_1).f4.f0), .int .i64 ((rd_T48 l0 x6_1).f4.f1), .int .i64 ((rd_T48 l0 x6_1).f5), .int .i64 ((rd_T48 l0 x6_1).f6)]] ?_; (with_reducible refine (spec_CredOk.calls k1 ((rd_T48 l0 x6_1).f0) ((rd_T48 l0 x6_1).f1.f0) ((rd_T48 l0 x6_1).f1.f1) ((rd_T48 l0 x6_1).f2) ((rd_T48 l0 x6_1).f3.f0) ((rd_T48 l0 x6_1).f3.f1) ((rd_T48 l0 x6_1).f4.f0) ((rd_T48 l0 x6_1).f4.f1) ((rd_T48 l0 x6_1).f5) ((rd_T48 l0 x6_1).f6) true _ A7.out).mono ?_); rintro e w11 ⟨rfl, hb⟩; refine ⟨_, rfl, ?_⟩; replace HO_5 := hob_ HO_5 hb; replace HB := hbs_ hb; clear hb; have p533 : 0 ≤ (x6_1 : Int) := od_; have q533 : x6_1 < (l0.length : Int) := od_; obtain ⟨ad533, e533, hx533_0, hx533_1, hx533_2, hx533_3, hx533_4, hx533_5, hx533_6, hx533_7, hx533_8, hx533_9⟩ := at_T48 HR0.out x6_1 p533 q533; obtain rfl : ad531 = ad533 := (by injection e533); replace hx533_0 := cb_ HB hx533_0; replace hx533_1 := cb_ HB hx533_1; replace hx533_2 := cb_ HB hx533_2; replace hx533_3 := cb_ HB hx533_3; replace hx533_4 := cb_ HB hx533_4; replace hx533_5 := cb_ HB hx533_5; replace hx533_6 := cb_ HB hx533_6; replace hx533_7 := cb_ HB hx533_7; replace hx533_8 := cb_ HB hx533_8; replace hx533_9 := cb_ HB hx533_9; replace p533 := eq_true p533; replace q533 := eq_true q533; have p534 : 0 ≤ (x6_1 : Int) := od_; have q534 : x6_1 < (l0.length : Int) := od_; obtain ⟨ad534, e534, hx534_0, hx534_1, hx534_2, hx534_3, hx534_4, hx534_5, hx534_6, hx534_7, hx534_8, hx534_9⟩ := at_T48 HR0.out x6_1 p534 q534; obtain rfl : ad531 = ad534 := (by injection e534); replace hx534_0 := cb_ HB hx534_0; replace hx534_1 := cb_ HB hx534_1; replace hx534_2 := cb_ HB hx534_2; replace hx534_3 := cb_ HB hx534_3; replace hx534_4 := cb_ HB hx534_4; replace hx534_5 := cb_ HB hx534_5; replace hx534_6 := cb_ HB hx534_6; replace hx534_7 := cb_ HB hx534_7; replace hx534_8 := cb_ HB hx534_8; replace hx534_9 := cb_ HB hx534_9; replace p534 := eq_true p534; replace q534 := eq_true q534) | ((with_reducible refine gate_builtin (b := .append) (xs := #[.tmp 28, .tmp 33]) rfl ?_); at_builtin; refine Kd.R_append k48 (w0 := w) w.heap.size rfl (.tmp 28) (.tmp 33) 24 48 (.agg #[(.int .i64 0), (.int .i64 0), (.int .i64 0), (.int .i64 0), (.int .i64 0), (.int .i64 0), (.int .i64 0), (.int .i64 0), (.int .i64 0), (.int .i64 0)]) 80 rfl Try.underlying24 info48 rfl (by decide) (by omega) u5 x5_1 (⟨(rd_T48 l0 x6_1).f0, (⟨(rd_T48 l0 x6_1).f1.f0, (rd_T48 l0 x6_1).f1.f1⟩ : S26), (rd_T48 l0 x6_1).f2, (⟨(rd_T48 l0 x6_1).f3.f0, (rd_T48 l0 x6_1).f3.f1⟩ : S26), (⟨(rd_T48 l0 x6_1).f4.f0, (rd_T48 l0 x6_1).f4.f1⟩ : S26), (rd_T48 l0 x6_1).f5, (rd_T48 l0 x6_1).f6⟩ : S48) [.int .i64 ((rd_T48 l0 x6_1).f0), .int .i64 ((rd_T48 l0 x6_1).f1.f0), .int .i64 ((rd_T48 l0 x6_1).f1.f1), .int .i64 ((rd_T48 l0 x6_1).f2), .int .i64 ((rd_T48 l0 x6_1).f3.f0), .int .i64 ((rd_T48 l0 x6_1).f3.f1), .int .i64 ((rd_T48 l0 x6_1).f4.f0), .int .i64 ((rd_T48 l0 x6_1).f4.f1), .int .i64 ((rd_T48 l0 x6_1).f5), .int .i64 ((rd_T48 l0 x6_1).f6)] (fun _ => True) (fun _ => False) rfl rfl ?aP (fun _ hk => hk.elim) ?aF ?aO ?aB ?aS ?aL ?_; (case aP => exact k48_mkM _ _ _ (⟨(rd_T48 l0 x6_1).f0, (⟨(rd_T48 l0 x6_1).f1.f0, (rd_T48 l0 x6_1).f1.f1⟩ : S26), (rd_T48 l0 x6_1).f2, (⟨(rd_T48 l0 x6_1).f3.f0, (rd_T48 l0 x6_1).f3.f1⟩ : S26), (⟨(rd_T48 l0 x6_1).f4.f0, (rd_T48 l0 x6_1).f4.f1⟩ : S26), (rd_T48 l0 x6_1).f5, (rd_T48 l0 x6_1).f6⟩ : S48)); (case aB => exact bl_); (case aF => exact (fun _ _ => trivial)); (case aO => exact (by (with_reducible repeat (first | apply Kd.R_alloc | apply Kd.R_drewN | apply Kd.R_drew)); exact HO_5.out)); (case aS => exact bls_); (case aL => have := LMc10.out; omega); intro v536 w12 ho hb hg hat; rw [← Ny535.out] at ho; replace HB := Aside0.mk (hb); have HO537 := Aside0.mk (ho); clear HO_5; clear ho hb hg hat))
      go_roundg k1
      case measure => have := HK1.out; omega
      case rel => exact ⟨(y535), (wrap64 (x6_1 + 1)), rf_, H', ⟨by have := HK1.out; omega⟩, ⟨by (with_reducible repeat (first | apply Kd.R_alloc | apply Kd.R_drewN | apply Kd.R_drew)); exact HO537.out⟩, ⟨bl_⟩⟩
     ·rw [if_neg c9] at H
      have c9b0 : decide (a1 ≤ ((rd_T48 l0 x6_1).f5)) = false := decide_eq_false c9
      clear c9
      have H' := Aside0.mk H
      clear H
      have p531 : 0 ≤ (x6_1 : Int) := od_
      have q531 : x6_1 < (l0.length : Int) := od_
      obtain ⟨ad531, e531, hx531_0, hx531_1, hx531_2, hx531_3, hx531_4, hx531_5, hx531_6, hx531_7, hx531_8, hx531_9⟩ := at_T48 (Kd.C_below HR0.out HB.out) x6_1 p531 q531
      cases e531
      replace p531 := eq_true p531
      replace q531 := eq_true q531
      go_wp2_with (first | ((with_reducible refine gate_callee (f := 32) rfl ?_); refine goesC_ (some 18) Try.func32 #[.agg #[.int .i64 ((rd_T48 l0 x6_1).f0), .int .i64 ((rd_T48 l0 x6_1).f1.f0), .int .i64 ((rd_T48 l0 x6_1).f1.f1), .int .i64 ((rd_T48 l0 x6_1).f2), .int .i64 ((rd_T48 l0 x6_1).f3.f0), .int .i64 ((rd_T48 l0 x6_1).f3.f1), .int .i64 ((rd_T48 l0 x6_1).f4.f0), .int .i64 ((rd_T48 l0 x6_1).f4.f1), .int .i64 ((rd_T48 l0 x6_1).f5), .int .i64 ((rd_T48 l0 x6_1).f6)]] ?_; (with_reducible refine (spec_CredOk.calls k1 ((rd_T48 l0 x6_1).f0) ((rd_T48 l0 x6_1).f1.f0) ((rd_T48 l0 x6_1).f1.f1) ((rd_T48 l0 x6_1).f2) ((rd_T48 l0 x6_1).f3.f0) ((rd_T48 l0 x6_1).f3.f1) ((rd_T48 l0 x6_1).f4.f0) ((rd_T48 l0 x6_1).f4.f1) ((rd_T48 l0 x6_1).f5) ((rd_T48 l0 x6_1).f6) true _ A7.out).mono ?_); rintro e w13 ⟨rfl, hb⟩; refine ⟨_, rfl, ?_⟩; replace HO_5 := hob_ HO_5 hb; replace HB := hbs_ hb; clear hb; have p533 : 0 ≤ (x6_1 : Int) := od_; have q533 : x6_1 < (l0.length : Int) := od_; obtain ⟨ad533, e533, hx533_0, hx533_1, hx533_2, hx533_3, hx533_4, hx533_5, hx533_6, hx533_7, hx533_8, hx533_9⟩ := at_T48 HR0.out x6_1 p533 q533; obtain rfl : ad531 = ad533 := (by injection e533); replace hx533_0 := cb_ HB hx533_0; replace hx533_1 := cb_ HB hx533_1; replace hx533_2 := cb_ HB hx533_2; replace hx533_3 := cb_ HB hx533_3; replace hx533_4 := cb_ HB hx533_4; replace hx533_5 := cb_ HB hx533_5; replace hx533_6 := cb_ HB hx533_6; replace hx533_7 := cb_ HB hx533_7; replace hx533_8 := cb_ HB hx533_8; replace hx533_9 := cb_ HB hx533_9; replace p533 := eq_true p533; replace q533 := eq_true q533))
      go_roundg k1
      case measure => have := HK1.out; omega
      case rel => exact ⟨(x5_1), (wrap64 (x6_1 + 1)), rf_, H', ⟨by have := HK1.out; omega⟩, ⟨by (with_reducible repeat (first | apply Kd.R_alloc | apply Kd.R_drewN | apply Kd.R_drew)); exact HO_5.out⟩, ⟨bl_⟩⟩
    ·replace c8 := Bool.eq_false_iff.mpr c8
     subst c8
     replace H := ite_f_ H
     have H' := Aside0.mk H
     clear H
     have p531 : 0 ≤ (x6_1 : Int) := od_
     have q531 : x6_1 < (l0.length : Int) := od_
     obtain ⟨ad531, e531, hx531_0, hx531_1, hx531_2, hx531_3, hx531_4, hx531_5, hx531_6, hx531_7, hx531_8, hx531_9⟩ := at_T48 (Kd.C_below HR0.out HB.out) x6_1 p531 q531
     cases e531
     replace p531 := eq_true p531
     replace q531 := eq_true q531
     go_wp2_with (first | ((with_reducible refine gate_callee (f := 32) rfl ?_); refine goesC_ (some 18) Try.func32 #[.agg #[.int .i64 ((rd_T48 l0 x6_1).f0), .int .i64 ((rd_T48 l0 x6_1).f1.f0), .int .i64 ((rd_T48 l0 x6_1).f1.f1), .int .i64 ((rd_T48 l0 x6_1).f2), .int .i64 ((rd_T48 l0 x6_1).f3.f0), .int .i64 ((rd_T48 l0 x6_1).f3.f1), .int .i64 ((rd_T48 l0 x6_1).f4.f0), .int .i64 ((rd_T48 l0 x6_1).f4.f1), .int .i64 ((rd_T48 l0 x6_1).f5), .int .i64 ((rd_T48 l0 x6_1).f6)]] ?_; (with_reducible refine (spec_CredOk.calls k1 ((rd_T48 l0 x6_1).f0) ((rd_T48 l0 x6_1).f1.f0) ((rd_T48 l0 x6_1).f1.f1) ((rd_T48 l0 x6_1).f2) ((rd_T48 l0 x6_1).f3.f0) ((rd_T48 l0 x6_1).f3.f1) ((rd_T48 l0 x6_1).f4.f0) ((rd_T48 l0 x6_1).f4.f1) ((rd_T48 l0 x6_1).f5) ((rd_T48 l0 x6_1).f6) false _ A7.out).mono ?_); rintro e w14 ⟨rfl, hb⟩; refine ⟨_, rfl, ?_⟩; replace HO_5 := hob_ HO_5 hb; replace HB := hbs_ hb; clear hb))
     go_roundg k1
     case measure => have := HK1.out; omega
     case rel => exact ⟨(x5_1), (wrap64 (x6_1 + 1)), rf_, H', ⟨by have := HK1.out; omega⟩, ⟨by (with_reducible repeat (first | apply Kd.R_alloc | apply Kd.R_drewN | apply Kd.R_drew)); exact HO_5.out⟩, ⟨bl_⟩⟩
   ·rw [if_neg c5] at H
    have c5b0 : decide (x6_1 < (l0.length : Int)) = false := decide_eq_false c5
    clear c5
    obtain rfl := Option.some.inj H
    go_wp2
    go_ret
    exact ⟨_, eq_, by (with_reducible repeat (first | apply Kd.R_alloc | apply Kd.R_drewN | apply Kd.R_drew)); exact HO_5.out, bl_⟩
def spec_HoldsAt.f (k : Nat) (l0 : List (S48)) (a1_0 : Int) (a1_1 : Int) (a2 : Int) (a3 : Int) : Option (Bool) := (spec_Alive.f k l0 a3).bind fun t539 => ((spec_IsMember.f k t539 a1_0 a1_1 a2).bind fun t542 => (some t542))
set_option maxHeartbeats 8000000 in
set_option maxRecDepth 100000 in
theorem spec_HoldsAt.calls (k : Nat) (A0 : Option Addr) (c0 : Nat) (l0 : List (S48)) (a1_0 : Int) (a1_1 : Int) (a2 : Int) (a3 : Int) (r : Bool) (w : World) (hr0 : Kd.C k48 w A0 l0.length l0) (hc0 : l0.length ≤ c0) (h : spec_HoldsAt.f k l0 a1_0 a1_1 a2 a3 = some r) :
  Calls Try.prog 9 #[.slice A0 l0.length c0, .agg #[.int .i64 a1_0, .int .i64 a1_1], .int .i64 a2, .int .i64 a3] w fun e w' => e = .returned (.bool r) ∧ Below w.heap.size w w' := by
 have hu26 := Try.underlying26
 have HR0 := Aside0.mk hr0
 have HC0 := Aside0.mk hc0
 clear hr0 hc0
 have HB := Aside0.mk (Below.refl w.heap.size w)
 have H : ((spec_Alive.f k l0 a3).bind fun t539 => ((spec_IsMember.f k t539 a1_0 a1_1 a2).bind fun t542 => (some t542))) = some r := h
 clear h
 obtain ⟨t539, A5, H⟩ := bindE_ H
 obtain ⟨t542, A6, H⟩ := bindE_ H
 obtain rfl := Option.some.inj H
 go_enter Try.func9, Try.ntmps9
 try go_wp2_with (first | ((with_reducible refine gate_dst (N := 5) rfl ?_); refine box_event ?hg (N := 5) ?hd (cs := #[.int .i64 a1_0, .int .i64 a1_1]) (t := 26) ?hr ?_; (case hd => rfl); (case hg => rfl); (case hr => first | (go_simp; done) | (go_simp; rfl)); intro gb538 hg w7 hbox hb; have BK538 := Aside0.mk (hbox); have GW538 := gs_ hg; have GE538 := gs_ hg; replace HB := hbs_ hb; clear hb hbox hg))
 replace BK538 := Aside0.mk (blk_drew BK538.out)
 replace HB := Aside0.mk (below_drew1 HB.out)
 refine start_ (n := 7) (S := fun w' => w'.cell? ⟨gb538, 0, none⟩ = some (.int .i64 a1_0) ∧ w'.cell? ⟨gb538, 1, none⟩ = some (.int .i64 a1_1)) (ds := []) #[false, false, false, false, false, false, false] (by kernel_rfl) rfl rfl ⟨(blk_cell BK538.out 0).trans rfl, (blk_cell BK538.out 1).trans rfl⟩ (fun hHeld => ?_)
 generalize w7.drew = w8 at BK538 HB hHeld ⊢
 refine pure_ (i := 0) (N := some 9) (v := ?_) (a' := ?_) #[true, false, false, false, false, false, false] rfl rfl (by kernel_rfl) (fun _ _ _ h => h) (Or.inl ⟨by rfl, ?_⟩) ?_ ?_
 rotate_left
 ·intro w'
  go_simp
  with_reducible rfl
 rotate_left
 ·simp only [Act.put, List.setIfInBounds_toArray, List.set_cons_zero, List.set_cons_succ, i64_w, i32_w]
  rfl
 refine pure_ (i := 1) (N := some 10) (v := ?_) (a' := ?_) #[true, true, false, false, false, false, false] rfl rfl (by kernel_rfl) (fun _ _ _ h => h) (Or.inl ⟨by rfl, ?_⟩) ?_ ?_
 rotate_left
 ·intro w'
  go_simp
  with_reducible rfl
 rotate_left
 ·simp only [Act.put, List.setIfInBounds_toArray, List.set_cons_zero, List.set_cons_succ, i64_w, i32_w]
  rfl
 refine pure_ (i := 4) (N := some 13) (v := ?_) (a' := ?_) #[true, true, false, false, true, false, false] rfl rfl (by kernel_rfl) (fun _ _ _ h => h) (Or.inl ⟨by rfl, ?_⟩) ?_ ?_
 rotate_left
 ·intro w'
  go_simp
  with_reducible rfl
 rotate_left
 ·simp only [Act.put, List.setIfInBounds_toArray, List.set_cons_zero, List.set_cons_succ, i64_w, i32_w]
  rfl
 refine take_ (i := 3) (N := some 12) (v := ?_) (a' := ?_) #[true, true, false, true, true, false, false] rfl rfl (by kernel_rfl) (fun _ _ _ h => h) (Or.inl ⟨by rfl, ?_⟩) hHeld ?_ ?_
 rotate_left
 ·rintro w' ⟨s0, s1⟩
  go_simp
  with_reducible rfl
 rotate_left
 ·simp only [Act.put, List.setIfInBounds_toArray, List.set_cons_zero, List.set_cons_succ, i64_w, i32_w]
  rfl
 refine one_ (i := 2) (N := some 11) #[true, true, true, true, true, false, false] rfl rfl (by kernel_rfl) (by decide) (fun K hK => ?_)
 refine goes_ Try.func28 (by kernel_rfl) rfl #[.slice A0 l0.length c0, .int .i64 a3] (by rfl) rfl rfl (by (try simp only [List.map_toArray, List.map_cons, List.map_nil]); first | done | rfl | (simp only [List.length_drop, List.length_take]; rfl)) ?_
 with_reducible refine (spec_Alive.calls k _ _ l0 a3 t539 _ ?side1 ?side2 A5.out).mono ?_
 (case side1 => repeat (first | exact (Kd.C_below HR0.out HB.out) | (with_reducible refine Kd.C_alloc ?_ _) | (with_reducible refine Kd.C_drewN ?_ _) | (with_reducible refine Kd.C_drew ?_)))
 (case side2 => exact HC0.out)
 rintro e w9 ⟨v540, rfl, ho0, hb⟩
 refine ⟨_, rfl, ?_⟩
 have HO541 := Aside0.mk (Kd.R_lower ho0 bls_)
 replace BK538 := bkb_ BK538 hb
 replace HB := hbs_ hb
 (try clear hb)
 (try clear hb2)
 (try clear hk)
 (try clear hi)
 (try clear ho0)
 obtain ⟨Ao10, co10, eo10⟩ := Kd.R_slice HO541.out
 (first | subst eo10 | (injection eo10 with f1_ f2_ f3_; have f4_ := f1_.symm; have f5_ := f3_.symm; clear f1_ f2_ f3_; subst f4_; subst f5_))
 refine hK.out _ _ ⟨(blk_cell BK538.out 0).trans rfl, (blk_cell BK538.out 1).trans rfl⟩ (fun hHeld => ?_)
 clear hK K
 refine norm_ (a' := ?_) ?_ ?_
 rotate_left
 ·show Act.put _ (some 11) _ = _
  simp only [Act.put, List.setIfInBounds_toArray, List.set_cons_zero, List.set_cons_succ, i64_w, i32_w]
  rfl
 refine one_ (i := 5) (N := some 14) #[true, true, true, true, true, true, false] rfl rfl (by kernel_rfl) (by decide) (fun K hK => ?_)
 refine goes_ Try.func27 (by kernel_rfl) rfl #[.slice Ao10 t539.length co10, .agg #[.int .i64 a1_0, .int .i64 a1_1], .int .i64 a2] (by rfl) rfl rfl (by (try simp only [List.map_toArray, List.map_cons, List.map_nil]); first | done | rfl | (simp only [List.length_drop, List.length_take]; rfl)) ?_
 with_reducible refine (spec_IsMember.calls k _ _ t539 a1_0 a1_1 a2 t542 _ ?side1 ?side2 A6.out).mono ?_
 (case side1 => repeat (first | exact (Kd.R_reads' HO541.out).2.2 | (with_reducible refine Kd.C_alloc ?_ _) | (with_reducible refine Kd.C_drewN ?_ _) | (with_reducible refine Kd.C_drew ?_)))
 (case side2 => exact (Kd.R_reads' HO541.out).2.1)
 rintro e w11 ⟨rfl, hb⟩
 refine ⟨_, rfl, ?_⟩
 replace HO541 := hob_ HO541 hb
 replace BK538 := bkb_ BK538 hb
 replace HB := hbs_ hb
 (try clear hb)
 (try clear hb2)
 (try clear hk)
 (try clear hi)
 refine hK.out _ _ ⟨(blk_cell BK538.out 0).trans rfl, (blk_cell BK538.out 1).trans rfl⟩ (fun hHeld => ?_)
 clear hK K
 refine norm_ (a' := ?_) ?_ ?_
 rotate_left
 ·show Act.put _ (some 14) _ = _
  simp only [Act.put, List.setIfInBounds_toArray, List.set_cons_zero, List.set_cons_succ, i64_w, i32_w]
  rfl
 refine pure_ (i := 6) (N := some 8) (v := ?_) (a' := ?_) #[true, true, true, true, true, true, true] rfl rfl (by kernel_rfl) (fun _ _ _ h => h) (Or.inl ⟨by rfl, ?_⟩) ?_ ?_
 rotate_left
 ·intro w'
  go_simp
  with_reducible rfl
 rotate_left
 ·simp only [Act.put, List.setIfInBounds_toArray, List.set_cons_zero, List.set_cons_succ, i64_w, i32_w]
  rfl
 refine done_ (by kernel_rfl) ?_
 try go_wp2
 go_ret
 exact ⟨eq_, bl_⟩
def impl_LastDay.l0 : Nat → List (S48) → Int → Int → List (S48) → Int → Int → Int → Int → Option (Int)
 | 0, _, _, _, _, _, _, _, _ => none
 | k + 1, x0, x2, x7, x10, x11, x12, x544000, x544001 => if x12 < x11 then (if 0 ≤ x12 then (if x12 < (x10.length : Int) then ((impl_CredOk.f k ((rd_T48 x10 x12).f0) ((rd_T48 x10 x12).f1.f0) ((rd_T48 x10 x12).f1.f1) ((rd_T48 x10 x12).f2) ((rd_T48 x10 x12).f3.f0) ((rd_T48 x10 x12).f3.f1) ((rd_T48 x10 x12).f4.f0) ((rd_T48 x10 x12).f4.f1) ((rd_T48 x10 x12).f5) ((rd_T48 x10 x12).f6)).bind fun t546 => (if t546 = true then (if ((rd_T48 x10 x12).f5) > x7 then ((impl_HoldsAt.f k x0 x544000 x544001 x2 ((rd_T48 x10 x12).f5)).bind fun t547 => (if t547 = true then (impl_LastDay.l0 k x0 x2 ((rd_T48 x10 x12).f5) x10 x11 (wrap64 (x12 + 1)) x544000 x544001) else (impl_LastDay.l0 k x0 x2 x7 x10 x11 (wrap64 (x12 + 1)) x544000 x544001))) else (impl_LastDay.l0 k x0 x2 x7 x10 x11 (wrap64 (x12 + 1)) x544000 x544001)) else (impl_LastDay.l0 k x0 x2 x7 x10 x11 (wrap64 (x12 + 1)) x544000 x544001))) else (none)) else (none)) else (some x7)
def impl_LastDay.f (k : Nat) (l0 : List (S48)) (a1_0 : Int) (a1_1 : Int) (a2 : Int) : Option (Int) := impl_LastDay.l0 k l0 a2 0 l0 (l0.length : Int) 0 a1_0 a1_1
set_option maxHeartbeats 8000000 in
set_option maxRecDepth 100000 in
theorem impl_LastDay.calls (k : Nat) (A0 : Option Addr) (c0 : Nat) (l0 : List (S48)) (a1_0 : Int) (a1_1 : Int) (a2 : Int) (r : Int) (w : World) (hr0 : Kd.C k48 w A0 l0.length l0) (hc0 : l0.length ≤ c0) (h : impl_LastDay.f k l0 a1_0 a1_1 a2 = some r) :
  Calls Try.prog 10 #[.slice A0 l0.length c0, .agg #[.int .i64 a1_0, .int .i64 a1_1], .int .i64 a2] w fun e w' => e = .returned (.int .i64 r) ∧ Below w.heap.size w w' := by
 have hu26 := Try.underlying26
 have hu48 := Try.underlying48
 have HR0 := Aside0.mk hr0
 have HC0 := Aside0.mk hc0
 clear hr0 hc0
 have HB := Aside0.mk (Below.refl w.heap.size w)
 have H : (impl_LastDay.l0 k l0 a2 0 l0 (l0.length : Int) 0 a1_0 a1_1) = some r := h
 clear h
 have H' := Aside0.mk H
 clear H
 go_enter Try.func10, Try.ntmps10
 go_wp2_with (first | ((with_reducible refine gate_dst (N := 4) rfl ?_); refine box_event ?hg (N := 4) ?hd (cs := #[.int .i64 a1_0, .int .i64 a1_1]) (t := 26) ?hr ?_; (case hd => rfl); (case hg => rfl); (case hr => first | (go_simp; done) | (go_simp; rfl)); intro gb543 hg w4 hbox hb; have BK543 := Aside0.mk (hbox); have GW543 := gs_ hg; have GE543 := gs_ hg; replace HB := hbs_ hb; clear hb hbox hg))
 go_loopg [7, 12] k (fun kq v7 v12 w' => ∃ (x7_1 : Int) (x12_1 : Int), v7 = .int .i64 x7_1 ∧ v12 = .int .i64 x12_1 ∧ Aside0 (impl_LastDay.l0 kq l0 a2 x7_1 l0 (l0.length : Int) x12_1 a1_0 a1_1 = some r) ∧ Aside0 (kq ≤ k) ∧ Aside0 (w'.heap[gb543]? = some (.cells #[.int .i64 a1_0, .int .i64 a1_1] 26 (0, 0))) ∧ Aside0 (Below w.heap.size w w'))
 case atStart => exact ⟨(0), (0), rf_, rf_, H', ⟨Nat.le_refl _⟩, ⟨bk_ BK543⟩, ⟨bl_⟩⟩
 case round =>
  clear H'
  try clear c1
  try clear p2
  obtain ⟨x7_1, x12_1, rfl, rfl, HA, HK1, BK543, HB⟩ := hrel
  cases gk with
  | zero => exact absurd HA.out (by simp [impl_LastDay.l0])
  | succ k1 =>
   have H := HA.out
   clear HA
   simp only [impl_LastDay.l0] at H
   by_cases c5 : x12_1 < (l0.length : Int)
   ·rw [if_pos c5] at H
    have c5b0 : decide (x12_1 < (l0.length : Int)) = true := decide_eq_true c5
    clear c5
    obtain ⟨c6b0, H⟩ := ifd_ H
    obtain ⟨c7b0, H⟩ := ifd_ H
    obtain ⟨t546, A8, H⟩ := bindE_ H
    by_cases c9 : t546 = true
    ·subst c9
     replace H := ite_t_ H
     by_cases c10 : ((rd_T48 l0 x12_1).f5) > x7_1
     ·rw [if_pos c10] at H
      have c10b0 : decide (x7_1 < ((rd_T48 l0 x12_1).f5)) = true := decide_eq_true c10
      clear c10
      obtain ⟨t547, A11, H⟩ := bindE_ H
      by_cases c12 : t547 = true
      ·subst c12
       replace H := ite_t_ H
       have H' := Aside0.mk H
       clear H
       have p544 : 0 ≤ (x12_1 : Int) := od_
       have q544 : x12_1 < (l0.length : Int) := od_
       obtain ⟨ad544, e544, hx544_0, hx544_1, hx544_2, hx544_3, hx544_4, hx544_5, hx544_6, hx544_7, hx544_8, hx544_9⟩ := at_T48 (Kd.C_below HR0.out HB.out) x12_1 p544 q544
       cases e544
       replace p544 := eq_true p544
       replace q544 := eq_true q544
       go_wp2_with (first | ((with_reducible refine gate_dst (N := 9) rfl ?_); refine box_event ?hg (N := 9) ?hd (cs := #[.int .i64 0, .int .i64 0, .int .i64 0, .int .i64 0, .int .i64 0, .int .i64 0, .int .i64 0, .int .i64 0, .int .i64 0, .int .i64 0]) (t := 48) ?hr ?_; (case hd => rfl); (case hg => rfl); (case hr => first | (go_simp; done) | (go_simp; rfl)); intro gb545 hg w13 hbox hb; have BK545 := Aside0.mk (hbox); have GW545 := gs_ hg; have GE545 := gs_ hg; replace HB := hbs_ hb; have NB543_545 := nl_ hg BK543; have NB545_543 := nr_ hg BK543; replace BK543 := bkb_ BK543 hb; clear hb hbox hg; have hnb14 := NB545_543.out; have hnc14 := NB543_545.out; have hcz15 := blk_cell BK545.out; have hfz15 := blk_frozen BK545.out) | ((with_reducible refine gate_callee (f := 29) rfl ?_); refine goesC_ (some 17) Try.func29 #[.agg #[.int .i64 ((rd_T48 l0 x12_1).f0), .int .i64 ((rd_T48 l0 x12_1).f1.f0), .int .i64 ((rd_T48 l0 x12_1).f1.f1), .int .i64 ((rd_T48 l0 x12_1).f2), .int .i64 ((rd_T48 l0 x12_1).f3.f0), .int .i64 ((rd_T48 l0 x12_1).f3.f1), .int .i64 ((rd_T48 l0 x12_1).f4.f0), .int .i64 ((rd_T48 l0 x12_1).f4.f1), .int .i64 ((rd_T48 l0 x12_1).f5), .int .i64 ((rd_T48 l0 x12_1).f6)]] ?_; (with_reducible refine (impl_CredOk.calls k1 ((rd_T48 l0 x12_1).f0) ((rd_T48 l0 x12_1).f1.f0) ((rd_T48 l0 x12_1).f1.f1) ((rd_T48 l0 x12_1).f2) ((rd_T48 l0 x12_1).f3.f0) ((rd_T48 l0 x12_1).f3.f1) ((rd_T48 l0 x12_1).f4.f0) ((rd_T48 l0 x12_1).f4.f1) ((rd_T48 l0 x12_1).f5) ((rd_T48 l0 x12_1).f6) true _ A8.out).mono ?_); rintro e w16 ⟨rfl, hb⟩; refine ⟨_, rfl, ?_⟩; replace BK543 := Aside0.mk (blk_below (g := gb543) (o := .cells #[.int .i64 a1_0, .int .i64 a1_1] 26 (0, 0)) (bk_ BK543) hb); replace BK545 := Aside0.mk (blk_below (g := gb545) (o := .cells #[.int .i64 ((rd_T48 l0 x12_1).f0), .int .i64 ((rd_T48 l0 x12_1).f1.f0), .int .i64 ((rd_T48 l0 x12_1).f1.f1), .int .i64 ((rd_T48 l0 x12_1).f2), .int .i64 ((rd_T48 l0 x12_1).f3.f0), .int .i64 ((rd_T48 l0 x12_1).f3.f1), .int .i64 ((rd_T48 l0 x12_1).f4.f0), .int .i64 ((rd_T48 l0 x12_1).f4.f1), .int .i64 ((rd_T48 l0 x12_1).f5), .int .i64 ((rd_T48 l0 x12_1).f6)] 48 (0, 0)) (bk_ BK545) hb); replace HB := hbs_ hb; clear hb; have hcz17 := blk_cell BK545.out; have hfz17 := blk_frozen BK545.out; have hcz18 := blk_cell BK543.out; have hfz18 := blk_frozen BK543.out) | (go_at_call 8; (with_reducible refine (impl_HoldsAt.calls k1 _ _ l0 a1_0 a1_1 a2 ((rd_T48 l0 x12_1).f5) true _ ?side1 ?side2 A11.out).mono ?_); (case side1 => repeat (first | exact (Kd.C_below HR0.out HB.out) | (with_reducible refine Kd.C_alloc ?_ _) | (with_reducible refine Kd.C_drewN ?_ _) | (with_reducible refine Kd.C_drew ?_))); (case side2 => exact HC0.out); rintro e w19 ⟨rfl, hb⟩; replace BK543 := bkb_ BK543 hb; replace BK545 := bkb_ BK545 hb; replace HB := hbs_ hb; clear hb; have hcz20 := blk_cell BK545.out; have hfz20 := blk_frozen BK545.out))
       go_roundg k1
       case measure => have := HK1.out; omega
       case rel => exact ⟨((rd_T48 l0 x12_1).f5), (wrap64 (x12_1 + 1)), rf_, rf_, H', ⟨by have := HK1.out; omega⟩, ⟨bk_ BK543⟩, ⟨bl_⟩⟩
      ·replace c12 := Bool.eq_false_iff.mpr c12
       subst c12
       replace H := ite_f_ H
       have H' := Aside0.mk H
       clear H
       have p544 : 0 ≤ (x12_1 : Int) := od_
       have q544 : x12_1 < (l0.length : Int) := od_
       obtain ⟨ad544, e544, hx544_0, hx544_1, hx544_2, hx544_3, hx544_4, hx544_5, hx544_6, hx544_7, hx544_8, hx544_9⟩ := at_T48 (Kd.C_below HR0.out HB.out) x12_1 p544 q544
       cases e544
       replace p544 := eq_true p544
       replace q544 := eq_true q544
       go_wp2_with (first | ((with_reducible refine gate_dst (N := 9) rfl ?_); refine box_event ?hg (N := 9) ?hd (cs := #[.int .i64 0, .int .i64 0, .int .i64 0, .int .i64 0, .int .i64 0, .int .i64 0, .int .i64 0, .int .i64 0, .int .i64 0, .int .i64 0]) (t := 48) ?hr ?_; (case hd => rfl); (case hg => rfl); (case hr => first | (go_simp; done) | (go_simp; rfl)); intro gb545 hg w21 hbox hb; have BK545 := Aside0.mk (hbox); have GW545 := gs_ hg; have GE545 := gs_ hg; replace HB := hbs_ hb; have NB543_545 := nl_ hg BK543; have NB545_543 := nr_ hg BK543; replace BK543 := bkb_ BK543 hb; clear hb hbox hg; have hnb22 := NB545_543.out; have hnc22 := NB543_545.out; have hcz23 := blk_cell BK545.out; have hfz23 := blk_frozen BK545.out) | ((with_reducible refine gate_callee (f := 29) rfl ?_); refine goesC_ (some 17) Try.func29 #[.agg #[.int .i64 ((rd_T48 l0 x12_1).f0), .int .i64 ((rd_T48 l0 x12_1).f1.f0), .int .i64 ((rd_T48 l0 x12_1).f1.f1), .int .i64 ((rd_T48 l0 x12_1).f2), .int .i64 ((rd_T48 l0 x12_1).f3.f0), .int .i64 ((rd_T48 l0 x12_1).f3.f1), .int .i64 ((rd_T48 l0 x12_1).f4.f0), .int .i64 ((rd_T48 l0 x12_1).f4.f1), .int .i64 ((rd_T48 l0 x12_1).f5), .int .i64 ((rd_T48 l0 x12_1).f6)]] ?_; (with_reducible refine (impl_CredOk.calls k1 ((rd_T48 l0 x12_1).f0) ((rd_T48 l0 x12_1).f1.f0) ((rd_T48 l0 x12_1).f1.f1) ((rd_T48 l0 x12_1).f2) ((rd_T48 l0 x12_1).f3.f0) ((rd_T48 l0 x12_1).f3.f1) ((rd_T48 l0 x12_1).f4.f0) ((rd_T48 l0 x12_1).f4.f1) ((rd_T48 l0 x12_1).f5) ((rd_T48 l0 x12_1).f6) true _ A8.out).mono ?_); rintro e w24 ⟨rfl, hb⟩; refine ⟨_, rfl, ?_⟩; replace BK543 := Aside0.mk (blk_below (g := gb543) (o := .cells #[.int .i64 a1_0, .int .i64 a1_1] 26 (0, 0)) (bk_ BK543) hb); replace BK545 := Aside0.mk (blk_below (g := gb545) (o := .cells #[.int .i64 ((rd_T48 l0 x12_1).f0), .int .i64 ((rd_T48 l0 x12_1).f1.f0), .int .i64 ((rd_T48 l0 x12_1).f1.f1), .int .i64 ((rd_T48 l0 x12_1).f2), .int .i64 ((rd_T48 l0 x12_1).f3.f0), .int .i64 ((rd_T48 l0 x12_1).f3.f1), .int .i64 ((rd_T48 l0 x12_1).f4.f0), .int .i64 ((rd_T48 l0 x12_1).f4.f1), .int .i64 ((rd_T48 l0 x12_1).f5), .int .i64 ((rd_T48 l0 x12_1).f6)] 48 (0, 0)) (bk_ BK545) hb); replace HB := hbs_ hb; clear hb; have hcz25 := blk_cell BK545.out; have hfz25 := blk_frozen BK545.out; have hcz26 := blk_cell BK543.out; have hfz26 := blk_frozen BK543.out) | (go_at_call 8; (with_reducible refine (impl_HoldsAt.calls k1 _ _ l0 a1_0 a1_1 a2 ((rd_T48 l0 x12_1).f5) false _ ?side1 ?side2 A11.out).mono ?_); (case side1 => repeat (first | exact (Kd.C_below HR0.out HB.out) | (with_reducible refine Kd.C_alloc ?_ _) | (with_reducible refine Kd.C_drewN ?_ _) | (with_reducible refine Kd.C_drew ?_))); (case side2 => exact HC0.out); rintro e w27 ⟨rfl, hb⟩; replace BK543 := bkb_ BK543 hb; replace BK545 := bkb_ BK545 hb; replace HB := hbs_ hb; clear hb))
       go_roundg k1
       case measure => have := HK1.out; omega
       case rel => exact ⟨(x7_1), (wrap64 (x12_1 + 1)), rf_, rf_, H', ⟨by have := HK1.out; omega⟩, ⟨bk_ BK543⟩, ⟨bl_⟩⟩
     ·rw [if_neg c10] at H
      have c10b0 : decide (x7_1 < ((rd_T48 l0 x12_1).f5)) = false := decide_eq_false c10
      clear c10
      have H' := Aside0.mk H
      clear H
      have p544 : 0 ≤ (x12_1 : Int) := od_
      have q544 : x12_1 < (l0.length : Int) := od_
      obtain ⟨ad544, e544, hx544_0, hx544_1, hx544_2, hx544_3, hx544_4, hx544_5, hx544_6, hx544_7, hx544_8, hx544_9⟩ := at_T48 (Kd.C_below HR0.out HB.out) x12_1 p544 q544
      cases e544
      replace p544 := eq_true p544
      replace q544 := eq_true q544
      go_wp2_with (first | ((with_reducible refine gate_dst (N := 9) rfl ?_); refine box_event ?hg (N := 9) ?hd (cs := #[.int .i64 0, .int .i64 0, .int .i64 0, .int .i64 0, .int .i64 0, .int .i64 0, .int .i64 0, .int .i64 0, .int .i64 0, .int .i64 0]) (t := 48) ?hr ?_; (case hd => rfl); (case hg => rfl); (case hr => first | (go_simp; done) | (go_simp; rfl)); intro gb545 hg w28 hbox hb; have BK545 := Aside0.mk (hbox); have GW545 := gs_ hg; have GE545 := gs_ hg; replace HB := hbs_ hb; have NB543_545 := nl_ hg BK543; have NB545_543 := nr_ hg BK543; replace BK543 := bkb_ BK543 hb; clear hb hbox hg; have hnb29 := NB545_543.out; have hnc29 := NB543_545.out; have hcz30 := blk_cell BK545.out; have hfz30 := blk_frozen BK545.out) | ((with_reducible refine gate_callee (f := 29) rfl ?_); refine goesC_ (some 17) Try.func29 #[.agg #[.int .i64 ((rd_T48 l0 x12_1).f0), .int .i64 ((rd_T48 l0 x12_1).f1.f0), .int .i64 ((rd_T48 l0 x12_1).f1.f1), .int .i64 ((rd_T48 l0 x12_1).f2), .int .i64 ((rd_T48 l0 x12_1).f3.f0), .int .i64 ((rd_T48 l0 x12_1).f3.f1), .int .i64 ((rd_T48 l0 x12_1).f4.f0), .int .i64 ((rd_T48 l0 x12_1).f4.f1), .int .i64 ((rd_T48 l0 x12_1).f5), .int .i64 ((rd_T48 l0 x12_1).f6)]] ?_; (with_reducible refine (impl_CredOk.calls k1 ((rd_T48 l0 x12_1).f0) ((rd_T48 l0 x12_1).f1.f0) ((rd_T48 l0 x12_1).f1.f1) ((rd_T48 l0 x12_1).f2) ((rd_T48 l0 x12_1).f3.f0) ((rd_T48 l0 x12_1).f3.f1) ((rd_T48 l0 x12_1).f4.f0) ((rd_T48 l0 x12_1).f4.f1) ((rd_T48 l0 x12_1).f5) ((rd_T48 l0 x12_1).f6) true _ A8.out).mono ?_); rintro e w31 ⟨rfl, hb⟩; refine ⟨_, rfl, ?_⟩; replace BK543 := Aside0.mk (blk_below (g := gb543) (o := .cells #[.int .i64 a1_0, .int .i64 a1_1] 26 (0, 0)) (bk_ BK543) hb); replace BK545 := Aside0.mk (blk_below (g := gb545) (o := .cells #[.int .i64 ((rd_T48 l0 x12_1).f0), .int .i64 ((rd_T48 l0 x12_1).f1.f0), .int .i64 ((rd_T48 l0 x12_1).f1.f1), .int .i64 ((rd_T48 l0 x12_1).f2), .int .i64 ((rd_T48 l0 x12_1).f3.f0), .int .i64 ((rd_T48 l0 x12_1).f3.f1), .int .i64 ((rd_T48 l0 x12_1).f4.f0), .int .i64 ((rd_T48 l0 x12_1).f4.f1), .int .i64 ((rd_T48 l0 x12_1).f5), .int .i64 ((rd_T48 l0 x12_1).f6)] 48 (0, 0)) (bk_ BK545) hb); replace HB := hbs_ hb; clear hb; have hcz32 := blk_cell BK545.out; have hfz32 := blk_frozen BK545.out))
      go_roundg k1
      case measure => have := HK1.out; omega
      case rel => exact ⟨(x7_1), (wrap64 (x12_1 + 1)), rf_, rf_, H', ⟨by have := HK1.out; omega⟩, ⟨bk_ BK543⟩, ⟨bl_⟩⟩
    ·replace c9 := Bool.eq_false_iff.mpr c9
     subst c9
     replace H := ite_f_ H
     have H' := Aside0.mk H
     clear H
     have p544 : 0 ≤ (x12_1 : Int) := od_
     have q544 : x12_1 < (l0.length : Int) := od_
     obtain ⟨ad544, e544, hx544_0, hx544_1, hx544_2, hx544_3, hx544_4, hx544_5, hx544_6, hx544_7, hx544_8, hx544_9⟩ := at_T48 (Kd.C_below HR0.out HB.out) x12_1 p544 q544
     cases e544
     replace p544 := eq_true p544
     replace q544 := eq_true q544
     go_wp2_with (first | ((with_reducible refine gate_dst (N := 9) rfl ?_); refine box_event ?hg (N := 9) ?hd (cs := #[.int .i64 0, .int .i64 0, .int .i64 0, .int .i64 0, .int .i64 0, .int .i64 0, .int .i64 0, .int .i64 0, .int .i64 0, .int .i64 0]) (t := 48) ?hr ?_; (case hd => rfl); (case hg => rfl); (case hr => first | (go_simp; done) | (go_simp; rfl)); intro gb545 hg w33 hbox hb; have BK545 := Aside0.mk (hbox); have GW545 := gs_ hg; have GE545 := gs_ hg; replace HB := hbs_ hb; have NB543_545 := nl_ hg BK543; have NB545_543 := nr_ hg BK543; replace BK543 := bkb_ BK543 hb; clear hb hbox hg; have hnb34 := NB545_543.out; have hnc34 := NB543_545.out; have hcz35 := blk_cell BK545.out; have hfz35 := blk_frozen BK545.out) | ((with_reducible refine gate_callee (f := 29) rfl ?_); refine goesC_ (some 17) Try.func29 #[.agg #[.int .i64 ((rd_T48 l0 x12_1).f0), .int .i64 ((rd_T48 l0 x12_1).f1.f0), .int .i64 ((rd_T48 l0 x12_1).f1.f1), .int .i64 ((rd_T48 l0 x12_1).f2), .int .i64 ((rd_T48 l0 x12_1).f3.f0), .int .i64 ((rd_T48 l0 x12_1).f3.f1), .int .i64 ((rd_T48 l0 x12_1).f4.f0), .int .i64 ((rd_T48 l0 x12_1).f4.f1), .int .i64 ((rd_T48 l0 x12_1).f5), .int .i64 ((rd_T48 l0 x12_1).f6)]] ?_; (with_reducible refine (impl_CredOk.calls k1 ((rd_T48 l0 x12_1).f0) ((rd_T48 l0 x12_1).f1.f0) ((rd_T48 l0 x12_1).f1.f1) ((rd_T48 l0 x12_1).f2) ((rd_T48 l0 x12_1).f3.f0) ((rd_T48 l0 x12_1).f3.f1) ((rd_T48 l0 x12_1).f4.f0) ((rd_T48 l0 x12_1).f4.f1) ((rd_T48 l0 x12_1).f5) ((rd_T48 l0 x12_1).f6) false _ A8.out).mono ?_); rintro e w36 ⟨rfl, hb⟩; refine ⟨_, rfl, ?_⟩; replace BK543 := Aside0.mk (blk_below (g := gb543) (o := .cells #[.int .i64 a1_0, .int .i64 a1_1] 26 (0, 0)) (bk_ BK543) hb); replace BK545 := Aside0.mk (blk_below (g := gb545) (o := .cells #[.int .i64 ((rd_T48 l0 x12_1).f0), .int .i64 ((rd_T48 l0 x12_1).f1.f0), .int .i64 ((rd_T48 l0 x12_1).f1.f1), .int .i64 ((rd_T48 l0 x12_1).f2), .int .i64 ((rd_T48 l0 x12_1).f3.f0), .int .i64 ((rd_T48 l0 x12_1).f3.f1), .int .i64 ((rd_T48 l0 x12_1).f4.f0), .int .i64 ((rd_T48 l0 x12_1).f4.f1), .int .i64 ((rd_T48 l0 x12_1).f5), .int .i64 ((rd_T48 l0 x12_1).f6)] 48 (0, 0)) (bk_ BK545) hb); replace HB := hbs_ hb; clear hb))
     go_roundg k1
     case measure => have := HK1.out; omega
     case rel => exact ⟨(x7_1), (wrap64 (x12_1 + 1)), rf_, rf_, H', ⟨by have := HK1.out; omega⟩, ⟨bk_ BK543⟩, ⟨bl_⟩⟩
   ·rw [if_neg c5] at H
    have c5b0 : decide (x12_1 < (l0.length : Int)) = false := decide_eq_false c5
    clear c5
    obtain rfl := Option.some.inj H
    go_wp2
    go_ret
    exact ⟨eq_, bl_⟩
def spec_LastDay.l0 : Nat → List (S48) → Int → Int → Int → Int → Int → Option (Int)
 | 0, _, _, _, _, _, _ => none
 | k + 1, x0, x2, x7, x8, x549000, x549001 => if x7 < x8 then ((spec_HoldsAt.f k x0 x549000 x549001 x2 (wrap64 (Int.tdiv (wrap64 ((wrap64 (x7 + x8)) + 1)) 2))).bind fun t549 => (if t549 = true then (spec_LastDay.l0 k x0 x2 (wrap64 (Int.tdiv (wrap64 ((wrap64 (x7 + x8)) + 1)) 2)) x8 x549000 x549001) else (spec_LastDay.l0 k x0 x2 x7 (wrap64 ((wrap64 (Int.tdiv (wrap64 ((wrap64 (x7 + x8)) + 1)) 2)) - 1)) x549000 x549001))) else (some x7)
def spec_LastDay.f (k : Nat) (l0 : List (S48)) (a1_0 : Int) (a1_1 : Int) (a2 : Int) : Option (Int) := spec_LastDay.l0 k l0 a2 0 9999 a1_0 a1_1
set_option maxHeartbeats 8000000 in
set_option maxRecDepth 100000 in
theorem spec_LastDay.calls (k : Nat) (A0 : Option Addr) (c0 : Nat) (l0 : List (S48)) (a1_0 : Int) (a1_1 : Int) (a2 : Int) (r : Int) (w : World) (hr0 : Kd.C k48 w A0 l0.length l0) (hc0 : l0.length ≤ c0) (h : spec_LastDay.f k l0 a1_0 a1_1 a2 = some r) :
  Calls Try.prog 11 #[.slice A0 l0.length c0, .agg #[.int .i64 a1_0, .int .i64 a1_1], .int .i64 a2] w fun e w' => e = .returned (.int .i64 r) ∧ Below w.heap.size w w' := by
 have hu26 := Try.underlying26
 have HR0 := Aside0.mk hr0
 have HC0 := Aside0.mk hc0
 clear hr0 hc0
 have HB := Aside0.mk (Below.refl w.heap.size w)
 have H : (spec_LastDay.l0 k l0 a2 0 9999 a1_0 a1_1) = some r := h
 clear h
 have H' := Aside0.mk H
 clear H
 go_enter Try.func11, Try.ntmps11
 go_wp2_with (first | ((with_reducible refine gate_dst (N := 4) rfl ?_); refine box_event ?hg (N := 4) ?hd (cs := #[.int .i64 a1_0, .int .i64 a1_1]) (t := 26) ?hr ?_; (case hd => rfl); (case hg => rfl); (case hr => first | (go_simp; done) | (go_simp; rfl)); intro gb548 hg w4 hbox hb; have BK548 := Aside0.mk (hbox); have GW548 := gs_ hg; have GE548 := gs_ hg; replace HB := hbs_ hb; clear hb hbox hg))
 go_loopg [7, 8] k (fun kq v7 v8 w' => ∃ (x7_1 : Int) (x8_1 : Int), v7 = .int .i64 x7_1 ∧ v8 = .int .i64 x8_1 ∧ Aside0 (spec_LastDay.l0 kq l0 a2 x7_1 x8_1 a1_0 a1_1 = some r) ∧ Aside0 (kq ≤ k) ∧ Aside0 (w'.heap[gb548]? = some (.cells #[.int .i64 a1_0, .int .i64 a1_1] 26 (0, 0))) ∧ Aside0 (Below w.heap.size w w'))
 case atStart => exact ⟨(0), (9999), rf_, rf_, H', ⟨Nat.le_refl _⟩, ⟨bk_ BK548⟩, ⟨bl_⟩⟩
 case round =>
  clear H'
  try clear c1
  try clear p2
  obtain ⟨x7_1, x8_1, rfl, rfl, HA, HK1, BK548, HB⟩ := hrel
  cases gk with
  | zero => exact absurd HA.out (by simp [spec_LastDay.l0])
  | succ k1 =>
   have H := HA.out
   clear HA
   simp only [spec_LastDay.l0] at H
   by_cases c5 : x7_1 < x8_1
   ·rw [if_pos c5] at H
    have c5b0 : decide (x7_1 < x8_1) = true := decide_eq_true c5
    clear c5
    obtain ⟨t549, A6, H⟩ := bindE_ H
    by_cases c7 : t549 = true
    ·subst c7
     replace H := ite_t_ H
     have H' := Aside0.mk H
     clear H
     have hcz8 := blk_cell BK548.out
     have hfz8 := blk_frozen BK548.out
     go_wp2_with (first | ((with_reducible refine gate_callee (f := 9) rfl ?_); refine goesC_ (some 22) Try.func9 #[.slice A0 l0.length c0, .agg #[.int .i64 a1_0, .int .i64 a1_1], .int .i64 a2, .int .i64 (wrap64 (Int.tdiv (wrap64 ((wrap64 (x7_1 + x8_1)) + 1)) 2))] ?_; (with_reducible refine (spec_HoldsAt.calls k1 _ _ l0 a1_0 a1_1 a2 (wrap64 (Int.tdiv (wrap64 ((wrap64 (x7_1 + x8_1)) + 1)) 2)) true _ ?side1 ?side2 A6.out).mono ?_); (case side1 => repeat (first | exact (Kd.C_below HR0.out HB.out) | (with_reducible refine Kd.C_alloc ?_ _) | (with_reducible refine Kd.C_drewN ?_ _) | (with_reducible refine Kd.C_drew ?_))); (case side2 => exact HC0.out); rintro e w9 ⟨rfl, hb⟩; refine ⟨_, rfl, ?_⟩; replace BK548 := bkb_ BK548 hb; replace HB := hbs_ hb; clear hb))
     go_roundg k1
     case measure => have := HK1.out; omega
     case rel => exact ⟨(wrap64 (Int.tdiv (wrap64 ((wrap64 (x7_1 + x8_1)) + 1)) 2)), (x8_1), rf_, rf_, H', ⟨by have := HK1.out; omega⟩, ⟨bk_ BK548⟩, ⟨bl_⟩⟩
    ·replace c7 := Bool.eq_false_iff.mpr c7
     subst c7
     replace H := ite_f_ H
     have H' := Aside0.mk H
     clear H
     have hcz10 := blk_cell BK548.out
     have hfz10 := blk_frozen BK548.out
     go_wp2_with (first | ((with_reducible refine gate_callee (f := 9) rfl ?_); refine goesC_ (some 22) Try.func9 #[.slice A0 l0.length c0, .agg #[.int .i64 a1_0, .int .i64 a1_1], .int .i64 a2, .int .i64 (wrap64 (Int.tdiv (wrap64 ((wrap64 (x7_1 + x8_1)) + 1)) 2))] ?_; (with_reducible refine (spec_HoldsAt.calls k1 _ _ l0 a1_0 a1_1 a2 (wrap64 (Int.tdiv (wrap64 ((wrap64 (x7_1 + x8_1)) + 1)) 2)) false _ ?side1 ?side2 A6.out).mono ?_); (case side1 => repeat (first | exact (Kd.C_below HR0.out HB.out) | (with_reducible refine Kd.C_alloc ?_ _) | (with_reducible refine Kd.C_drewN ?_ _) | (with_reducible refine Kd.C_drew ?_))); (case side2 => exact HC0.out); rintro e w11 ⟨rfl, hb⟩; refine ⟨_, rfl, ?_⟩; replace BK548 := bkb_ BK548 hb; replace HB := hbs_ hb; clear hb))
     go_roundg k1
     case measure => have := HK1.out; omega
     case rel => exact ⟨(x7_1), (wrap64 ((wrap64 (Int.tdiv (wrap64 ((wrap64 (x7_1 + x8_1)) + 1)) 2)) - 1)), rf_, rf_, H', ⟨by have := HK1.out; omega⟩, ⟨bk_ BK548⟩, ⟨bl_⟩⟩
   ·rw [if_neg c5] at H
    have c5b0 : decide (x7_1 < x8_1) = false := decide_eq_false c5
    clear c5
    obtain rfl := Option.some.inj H
    go_wp2
    go_ret
    exact ⟨eq_, bl_⟩
def laws_sameInts.l0 : Nat → List Int → List Int → Int → Option (Bool)
 | 0, _, _, _ => none
 | k + 1, x0, x1, x5 => if x5 < (x0.length : Int) then (if 0 ≤ x5 then (if x5 < (x1.length : Int) then (if (rd x0 x5) = (rd x1 x5) then (laws_sameInts.l0 k x0 x1 (wrap64 (x5 + 1))) else (some false)) else (none)) else (none)) else (some true)
def laws_sameInts.f (k : Nat) (l0 : List Int) (l1 : List Int) : Option (Bool) := if (l0.length : Int) = (l1.length : Int) then (laws_sameInts.l0 k l0 l1 0) else (some false)
set_option maxHeartbeats 8000000 in
set_option maxRecDepth 100000 in
theorem laws_sameInts.calls (k : Nat) (A0 : Option Addr) (c0 : Nat) (l0 : List Int) (A1 : Option Addr) (c1 : Nat) (l1 : List Int) (r : Bool) (w : World) (hr0 : Kd.C (Kd.int .i64) w A0 l0.length l0) (hc0 : l0.length ≤ c0) (hr1 : Kd.C (Kd.int .i64) w A1 l1.length l1) (hc1 : l1.length ≤ c1) (h : laws_sameInts.f k l0 l1 = some r) :
  Calls Try.prog 12 #[.slice A0 l0.length c0, .slice A1 l1.length c1] w fun e w' => e = .returned (.bool r) ∧ Drawn0 w w' := by
 have HR0 := Aside0.mk hr0
 have HC0 := Aside0.mk hc0
 clear hr0 hc0
 have HR1 := Aside0.mk hr1
 have HC1 := Aside0.mk hc1
 clear hr1 hc1
 have H : (if (l0.length : Int) = (l1.length : Int) then (laws_sameInts.l0 k l0 l1 0) else (some false)) = some r := h
 clear h
 by_cases c3 : (l0.length : Int) = (l1.length : Int)
 ·rw [if_pos c3] at H
  have c3b0 : ((l0.length : Int) == (l1.length : Int)) = true := beq_iff_eq.mpr c3
  have c3b1 : ((l0.length : Int) != (l1.length : Int)) = false := bne_eq_false_iff_eq.mpr c3
  have c3b2 : (l0.length == l1.length) = true := by first | simpa using c3 | (simp at c3 ⊢; omega)
  clear c3
  have H' := Aside0.mk H
  clear H
  go_enter Try.func12, Try.ntmps12
  go_wp2
  repeat (go_quiet (fail); try go_wp2)
  go_loopg [5] k (fun kq v5 w' => ∃ (x5_1 : Int), v5 = .int .i64 x5_1 ∧ Aside0 (laws_sameInts.l0 kq l0 l1 x5_1 = some r) ∧ Aside0 (kq ≤ k) ∧ Drawn0 w w')
  case atStart => exact ⟨(0), rf_, H', ⟨Nat.le_refl _⟩, by repeat (first | exact Drawn0.refl _ | apply Drawn0.step)⟩
  case round =>
   clear H'
   try clear c1
   try clear p2
   try clear c3
   try clear c3b0
   try clear c3b1
   try clear c3b2
   obtain ⟨x5_1, rfl, HA, HK1, ⟨m1, rfl⟩⟩ := hrel
   cases gk with
   | zero => exact absurd HA.out (by simp [laws_sameInts.l0])
   | succ k1 =>
    have H := HA.out
    clear HA
    simp only [laws_sameInts.l0] at H
    by_cases c4 : x5_1 < (l0.length : Int)
    ·rw [if_pos c4] at H
     have c4b0 : decide (x5_1 < (l0.length : Int)) = true := decide_eq_true c4
     clear c4
     obtain ⟨c5b0, H⟩ := ifd_ H
     obtain ⟨c6b0, H⟩ := ifd_ H
     by_cases c7 : (rd l0 x5_1) = (rd l1 x5_1)
     ·rw [if_pos c7] at H
      have c7b0 : ((rd l0 x5_1) == (rd l1 x5_1)) = true := beq_iff_eq.mpr c7
      have c7b1 : ((rd l0 x5_1) != (rd l1 x5_1)) = false := bne_eq_false_iff_eq.mpr c7
      clear c7
      have H' := Aside0.mk H
      clear H
      have p550 : 0 ≤ (x5_1 : Int) := od_
      have q550 : x5_1 < (l0.length : Int) := od_
      obtain ⟨ad550, e550, hx550_0⟩ := Kd.at_int HR0.out x5_1 p550 q550
      cases e550
      replace p550 := eq_true p550
      replace q550 := eq_true q550
      have p551 : 0 ≤ (x5_1 : Int) := od_
      have q551 : x5_1 < (l1.length : Int) := od_
      obtain ⟨ad551, e551, hx551_0⟩ := Kd.at_int HR1.out x5_1 p551 q551
      cases e551
      replace p551 := eq_true p551
      replace q551 := eq_true q551
      go_wp2
      repeat (go_quiet (fail); try go_wp2)
      go_roundg k1
      case measure => have := HK1.out; omega
      case rel => exact ⟨(wrap64 (x5_1 + 1)), rf_, H', ⟨by have := HK1.out; omega⟩, by repeat (first | exact Drawn0.refl _ | apply Drawn0.step)⟩
     ·rw [if_neg c7] at H
      have c7b0 : ((rd l0 x5_1) == (rd l1 x5_1)) = false := beq_eq_false_iff_ne.mpr c7
      have c7b1 : ((rd l0 x5_1) != (rd l1 x5_1)) = true := bne_iff_ne.mpr c7
      obtain rfl := Option.some.inj H
      have p550 : 0 ≤ (x5_1 : Int) := od_
      have q550 : x5_1 < (l0.length : Int) := od_
      obtain ⟨ad550, e550, hx550_0⟩ := Kd.at_int HR0.out x5_1 p550 q550
      cases e550
      replace p550 := eq_true p550
      replace q550 := eq_true q550
      have p551 : 0 ≤ (x5_1 : Int) := od_
      have q551 : x5_1 < (l1.length : Int) := od_
      obtain ⟨ad551, e551, hx551_0⟩ := Kd.at_int HR1.out x5_1 p551 q551
      cases e551
      replace p551 := eq_true p551
      replace q551 := eq_true q551
      go_wp2
      repeat (go_quiet (fail); try go_wp2)
      go_ret
      exact ⟨by first | rfl | (simp; done) | (simp [*]; done), by repeat (first | exact Drawn0.refl _ | apply Drawn0.step)⟩
    ·rw [if_neg c4] at H
     have c4b0 : decide (x5_1 < (l0.length : Int)) = false := decide_eq_false c4
     clear c4
     obtain rfl := Option.some.inj H
     go_wp2
     repeat (go_quiet (fail); try go_wp2)
     go_ret
     exact ⟨by first | rfl | (simp; done) | (simp [*]; done), by repeat (first | exact Drawn0.refl _ | apply Drawn0.step)⟩
 ·rw [if_neg c3] at H
  have c3b0 : ((l0.length : Int) == (l1.length : Int)) = false := beq_eq_false_iff_ne.mpr c3
  have c3b1 : ((l0.length : Int) != (l1.length : Int)) = true := bne_iff_ne.mpr c3
  have c3b2 : (l0.length == l1.length) = false := by first | simpa using c3 | (simp at c3 ⊢; omega)
  obtain rfl := Option.some.inj H
  go_enter Try.func12, Try.ntmps12
  go_wp2
  repeat (go_quiet (fail); try go_wp2)
  go_ret
  exact ⟨by first | rfl | (simp; done) | (simp [*]; done), by repeat (first | exact Drawn0.refl _ | apply Drawn0.step)⟩
def slices_Sort_int_int.f (l0 : List (Int)) : Option (List (Int)) := if l0.length < 4611686018427387904 then some (l0.mergeSort fun x y => decide (x ≤ y)) else none
open Go.Sort in
theorem slices_Sort_int_int.calls (P0_ : Nat → Prop) (u9000_ : Value) (l0 : List (Int)) (r0 : List (Int)) (w0 w : World) (hB : Below w0.heap.size w0 w) (ho0 : Kd.R (Kd.int .i64) 3 w w0.heap.size P0_ u9000_ l0) (h : slices_Sort_int_int.f l0 = some r0) :
  Calls Try.prog 30 #[u9000_] w fun e w' => e = .returned (.tuple #[]) ∧ Kd.R (Kd.int .i64) 3 w' w0.heap.size (fun k_ => (P0_ k_ ∨ w.heap.size ≤ k_)) u9000_ r0 ∧ Below w0.heap.size w0 w' ∧ Kept w w' (fun k_ => P0_ k_) := by
 unfold slices_Sort_int_int.f at h
 by_cases hl : l0.length < 4611686018427387904
 ·rw [if_pos hl] at h
  obtain rfl := Option.some.inj h
  have hml : (l0.mergeSort fun x y => decide (x ≤ y)).length = l0.length := List.length_mergeSort _
  have hown := Kd.own_of_R (enc := Value.int .i64) ho0
  obtain ⟨e1, hf⟩ := hown
  rcases hf with ⟨rfl, hn⟩ | ⟨g, cap, cur, rfl, hg, hb, hn, hc, hs, ht⟩
  ·have e0 : l0 = [] := List.length_eq_zero_iff.1 hn
   subst e0
   have hcon := Any.slices_Sort_int_none Try.lays189 none 0 w
   change Calls Try.prog 30 _ _ _ at hcon
   refine hcon.mono ?_
   rintro e w' ⟨rfl, rfl⟩
   have e1 : (([] : List Int).mergeSort fun x y => decide (x ≤ y)) = [] := by simp
   rw [e1]
   exact ⟨rfl, Kd.R_nil _ _ _ _ _, hB, Kept.refl _ _⟩
  ·have hcon := Any.slices_Sort_int Try.lays189 g 0 cap l0 w (holds_of_blockI hb (by rw [Nat.mul_one] at ht; exact ht)) (blk_lt hb) hl
   change Calls Try.prog 30 _ _ _ at hcon
   refine hcon.mono ?_
   rintro e w' ⟨rfl, n, os, rfl⟩
   refine ⟨rfl, ?_, hB.grown (grownBy_sortedI _) hB.size (fun k hk => by injection hk with hk; omega), Kept.of_grown (grownBy_sortedI _) (Kept.refl _ _) (fun k hk => .inl (ho0.1 k hk))⟩
   have ho := ownsRow_sortedI (n := n) (os := os) hml hg hb hn hc hs
   rw [← hml] at ho ⊢
   exact Kd.R_of_own ho (fun k hk => .inl (ho0.1 k hk))
 ·rw [if_neg hl] at h
  exact absurd h (by simp)
def slices_Compact_int_int.f (l0 : List (Int)) : Option (List (Int)) := if l0.length < 4611686018427387904 then some (Lib.compact l0) else none
theorem slices_Compact_int_int.len (l : List Int) : (Lib.compact l).length ≤ l.length := by
 unfold Lib.compact Lib.compactUpTo
 rw [List.length_map]
 exact Nat.le_trans (List.length_filter_le _ _) (by simp)
open Go.Sort in
theorem slices_Compact_int_int.calls (P0_ : Nat → Prop) (u9000_ : Value) (l0 : List (Int)) (r : List (Int)) (w0 w : World) (hB : Below w0.heap.size w0 w) (ho0 : Kd.R (Kd.int .i64) 3 w w0.heap.size P0_ u9000_ l0) (h : slices_Compact_int_int.f l0 = some r) :
  Calls Try.prog 31 #[u9000_] w fun e w' => ∃ v0_ : Value, e = .returned (v0_) ∧ Kd.R (Kd.int .i64) 3 w' w0.heap.size (fun k_ => (P0_ k_ ∨ w.heap.size ≤ k_)) v0_ r ∧ Below w0.heap.size w0 w' ∧ Kept w w' (fun k_ => P0_ k_) := by
 unfold slices_Compact_int_int.f at h
 by_cases hl : l0.length < 4611686018427387904
 ·rw [if_pos hl] at h
  obtain rfl := Option.some.inj h
  have hml := slices_Compact_int_int.len l0
  have hown := Kd.own_of_R (enc := Value.int .i64) ho0
  obtain ⟨e1, hf⟩ := hown
  rcases hf with ⟨rfl, hn⟩ | ⟨g, cap, cur, rfl, hg, hb, hn, hc, hs, ht⟩
  ·have e0 : l0 = [] := List.length_eq_zero_iff.1 hn
   subst e0
   have hcon := Any.slices_Compact_int_empty Try.lays20 none 0 w
   change Calls Try.prog 31 _ _ _ at hcon
   refine hcon.mono ?_
   rintro e w' ⟨rfl, rfl⟩
   have e1 : Lib.compact ([] : List Int) = [] := rfl
   rw [e1]
   exact ⟨_, rfl, Kd.R_nil _ _ _ _ _, hB, Kept.refl _ _⟩
  ·have hcon := Any.slices_Compact_int Try.lays20 g 0 cap l0 w (holds_of_blockI hb (by rw [Nat.mul_one] at ht; exact ht)) (by omega) hn
   change Calls Try.prog 31 _ _ _ at hcon
   refine hcon.mono ?_
   rintro e w' ⟨rfl, n, rfl⟩
   obtain ⟨ts, hts⟩ : ∃ ts : List Int, ts = Lib.compact l0 ++ List.replicate (l0.length - (Lib.compact l0).length) 0 := ⟨_, rfl⟩
   rw [← hts]
   have htl : ts.length = l0.length := by rw [hts]; simp; omega
   have hg0 : w.grownBy (putRow (Value.int .i64) (Sort.ahead w n) g 0 ts.toArray) (some g) := by
    have := grownBy_sortedI (w := w) (g := g) (n := n) (os := #[]) ts.toArray
    rw [grow_empty] at this; exact this
   have hh : (putRow (Value.int .i64) (Sort.ahead w n) g 0 ts.toArray).heap[g]? = some (.cells (putCells (Value.int .i64) 0 ts.toArray cur) 3 (0, 0)) := by
    have := heap_sortedI (w := w) (g := g) (n := n) (os := #[]) ts.toArray hb
    rw [grow_empty] at this; exact this
   refine ⟨_, rfl, ?_, hB.grown hg0 hB.size (fun k hk => by injection hk with hk; omega), Kept.of_grown hg0 (Kept.refl _ _) (fun k hk => .inl (ho0.1 k hk))⟩
   have htake := take_putCellsI cur ts (by omega)
   refine Kd.R_of_own ⟨by simp [encs], .inr ⟨g, cap, _, rfl, hg, hh, by omega, hc, by simp [putCells, hs], ?_⟩⟩ (fun k hk => .inl (ho0.1 k hk))
   have h2 := congrArg (List.take (Lib.compact l0).length) htake
   rw [List.take_take, Nat.min_eq_left (by omega)] at h2
   rw [Nat.mul_one, h2, ← List.map_take, hts, List.take_left]
   rfl
 ·rw [if_neg hl] at h
  exact absurd h (by simp)
end Go.Proofs.Yteehgihclnlaoaa.PA
