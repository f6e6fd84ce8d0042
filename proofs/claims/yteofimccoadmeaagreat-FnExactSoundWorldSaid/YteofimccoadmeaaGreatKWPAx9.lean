import Derived.Test.YteofimccoadmeaaGreatKWPAx8
-- printed by wip/tools
namespace Go.Proofs.YteofimccoadmeaaGreat.PA
open Go.RowKit Go.Proofs.YteofimccoadmeaaGreatW.PrintWords Go.Proofs.YteofimccoadmeaaGreatW.PrintLast Go.Proofs.YteofimccoadmeaaGreatW.PrintMore
attribute [local go_sem] max2_int min2_int max_two min_two max_three min_three max_four min_four
set_option linter.unusedVariables false
set_option linter.unusedSimpArgs false
attribute [local go_sem high] eqA79 eqA83
mutual
def spec_ProofOk.j0 : Nat → List (S111) → Int → Bool → Option (Bool)
 | 0, _, _, _ => none
 | k + 1, x0, x7, x25 => if x25 = true then (some false) else (spec_ProofOk.l0 k x0 x7 0)
def spec_ProofOk.l0 : Nat → List (S111) → Int → Int → Option (Bool)
 | 0, _, _, _ => none
 | k + 1, x0, x7, x8 => if x8 < x7 then ((spec_StepOk.f k x0 x8).bind fun t218 => (if t218 = true then (spec_ProofOk.l0 k x0 x7 (wrap64 (x8 + 1))) else (some false))) else (some true)
end
def spec_ProofOk.f (k : Nat) (l0 : List (S111)) (a1_0 : Int) (a1_1 : Int) (a2 : Int) : Option (Bool) := (spec_l01In.f (l0.length : Int) 1 200).bind fun t216 => (if t216 = true then (if 0 ≤ (wrap64 ((l0.length : Int) - 1)) then (if (wrap64 ((l0.length : Int) - 1)) < (l0.length : Int) then (spec_ProofOk.j0 k l0 (l0.length : Int) ((!(((rd_T111 l0 (wrap64 ((l0.length : Int) - 1))).f1.f0.f0) == a1_0) || (!(((rd_T111 l0 (wrap64 ((l0.length : Int) - 1))).f1.f0.f1) == a1_1))) || (!(((rd_T111 l0 (wrap64 ((l0.length : Int) - 1))).f1.f1) == a2)))) else (none)) else (none)) else (spec_ProofOk.j0 k l0 (l0.length : Int) true))
set_option maxHeartbeats 8000000 in
set_option maxRecDepth 100000 in
theorem spec_ProofOk.calls (k : Nat) (A0 : Option Addr) (c0 : Nat) (l0 : List (S111)) (a1_0 : Int) (a1_1 : Int) (a2 : Int) (r : Bool) (w : World) (hr0 : Kd.C k111 w A0 l0.length l0) (hc0 : l0.length ≤ c0) (h : spec_ProofOk.f k l0 a1_0 a1_1 a2 = some r) :
  Calls Tryz.prog 60 #[.slice A0 l0.length c0, .agg #[.int .i64 a1_0, .int .i64 a1_1], .int .i64 a2] w fun e w' => e = .returned (.bool r) ∧ Below w.heap.size w w' := by
 have hu77 := Tryz.underlying77
 have hu79 := Tryz.underlying79
 have HR0 := aa_ hr0
 have HC0 := aa_ hc0
 clear hr0 hc0
 have HB := aa_ (Below.refl w.heap.size w)
 have H : ((spec_l01In.f (l0.length : Int) 1 200).bind fun t216 => (if t216 = true then (if 0 ≤ (wrap64 ((l0.length : Int) - 1)) then (if (wrap64 ((l0.length : Int) - 1)) < (l0.length : Int) then (spec_ProofOk.j0 k l0 (l0.length : Int) ((!(((rd_T111 l0 (wrap64 ((l0.length : Int) - 1))).f1.f0.f0) == a1_0) || (!(((rd_T111 l0 (wrap64 ((l0.length : Int) - 1))).f1.f0.f1) == a1_1))) || (!(((rd_T111 l0 (wrap64 ((l0.length : Int) - 1))).f1.f1) == a2)))) else (none)) else (none)) else (spec_ProofOk.j0 k l0 (l0.length : Int) true))) = some r := h
 clear h
 have HC4 := aa_ H
 clear H
 go_enter Tryz.func60, Tryz.ntmps60
 go_upto_region 2 with (first | ((with_reducible refine gD_ 4 rfl ?_); refine bx_ (N := 4) (cs := #[.int .i64 a1_0, .int .i64 a1_1]) (t := 77) ?_; intro gb215 hg w5 hbox hb; have BK215 := aa_ (hbox); have GW215 := gs_ hg; have GE215 := gs_ hg; replace HB := hbs_ hb; clear hb hbox hg))
 repeat (go_quiet (first | ((with_reducible refine gD_ 4 rfl ?_); refine bx_ (N := 4) (cs := #[.int .i64 a1_0, .int .i64 a1_1]) (t := 77) ?_; intro gb215 hg w5 hbox hb; have BK215 := aa_ (hbox); have GW215 := gs_ hg; have GE215 := gs_ hg; replace HB := hbs_ hb; clear hb hbox hg)); go_upto_region 2 with (first | ((with_reducible refine gD_ 4 rfl ?_); refine bx_ (N := 4) (cs := #[.int .i64 a1_0, .int .i64 a1_1]) (t := 77) ?_; intro gb215 hg w5 hbox hb; have BK215 := aa_ (hbox); have GW215 := gs_ hg; have GE215 := gs_ hg; replace HB := hbs_ hb; clear hb hbox hg)))
 (try simp only [Act.put, sb_, sz_, ss_])
 go_cut [25] (fun v25 wc => ∃ (kq : Nat) (x25_3 : Bool), v25 = .bool x25_3 ∧ Aside0 (spec_ProofOk.j0 kq l0 (l0.length : Int) x25_3 = some r) ∧ Aside0 (kq ≤ k) ∧ Aside0 (wc.heap[gb215]? = some (.cells #[.int .i64 a1_0, .int .i64 a1_1] 77 (0, 0))) ∧ Aside0 (Below w.heap.size w wc))
 case first =>
  have H := HC4.out
  clear HC4
  obtain ⟨t216, A6, H⟩ := bindE_ H
  by_cases c7 : t216 = true
  ·subst c7
   replace H := ite_t_ H
   obtain ⟨ji8, hji8⟩ : ∃ j_ : Int, (wrap64 ((l0.length : Int) - 1)) = j_ := ⟨_, rfl⟩
   replace H : (if 0 ≤ (ji8) then (if (ji8) < (l0.length : Int) then (spec_ProofOk.j0 k l0 (l0.length : Int) ((!(((rd_T111 l0 (ji8)).f1.f0.f0) == a1_0) || (!(((rd_T111 l0 (ji8)).f1.f0.f1) == a1_1))) || (!(((rd_T111 l0 (ji8)).f1.f1) == a2)))) else (none)) else (none)) = some r := by first | (rw [hji8] at H; exact H) | (simp only [hji8] at H ⊢; exact H)
   (try rw [hji8] at A6)
   have hji8w : (IntKind.i64.wrap ((l0.length : Int) - 1)) = ji8 := (i64_w _).trans hji8
   obtain ⟨c9b0, H⟩ := ifd_ H
   (first | rw [c9b0] | (simp only [i64_w, i32_w]; rw [c9b0]) | skip)
   obtain ⟨c10b0, H⟩ := ifd_ H
   have H' := aa_ H
   clear H
   have p217 : 0 ≤ ((ji8) : Int) := od_
   have q217 : (ji8) < (l0.length : Int) := od_
   obtain ⟨ad217, A217_13, c217_13, e217, hx217_0, hx217_1, hx217_2, hx217_3, hx217_4, hx217_5, hx217_6, hx217_7, hx217_8, hx217_9, hx217_10, hx217_11, hx217_12, hx217_13, hl217_13, hi217_13⟩ := at_T111 HR0.out (ji8) p217 q217
   cases e217
   replace hx217_0 := cb_ HB hx217_0
   replace hx217_1 := cb_ HB hx217_1
   replace hx217_2 := cb_ HB hx217_2
   replace hx217_3 := cb_ HB hx217_3
   replace hx217_4 := cb_ HB hx217_4
   replace hx217_5 := cb_ HB hx217_5
   replace hx217_6 := cb_ HB hx217_6
   replace hx217_7 := cb_ HB hx217_7
   replace hx217_8 := cb_ HB hx217_8
   replace hx217_9 := cb_ HB hx217_9
   replace hx217_10 := cb_ HB hx217_10
   replace hx217_11 := cb_ HB hx217_11
   replace hx217_12 := cb_ HB hx217_12
   replace hx217_13 := cb_ HB hx217_13
   have HR217_13 := aa_ hi217_13
   have HC217_13 := aa_ hl217_13
   clear hi217_13 hl217_13
   replace p217 := eq_true p217
   replace q217 := eq_true q217
   have hcz11 := blk_cell BK215.out
   have hfz11 := blk_frozen BK215.out
   go_wp2_with (first | (go_at_call 30; (with_reducible refine (spec_l01In.calls (l0.length : Int) 1 200 true _ A6.out).mono ?_); rintro e w' ⟨rfl, ⟨nd, rfl⟩⟩; (try first | exact ⟨rfl, _, World.drewN_drewN _ _ _⟩ | exact ⟨rfl, _, Eq.trans (World.drewN_drewN _ _ _) (congrArg (World.drewN _) (Nat.add_assoc _ _ _))⟩)))
   repeat (go_quiet (first | (go_at_call 30; (with_reducible refine (spec_l01In.calls (l0.length : Int) 1 200 true _ A6.out).mono ?_); rintro e w' ⟨rfl, ⟨nd, rfl⟩⟩; (try first | exact ⟨rfl, _, World.drewN_drewN _ _ _⟩ | exact ⟨rfl, _, Eq.trans (World.drewN_drewN _ _ _) (congrArg (World.drewN _) (Nat.add_assoc _ _ _))⟩))); try go_wp2_with (first | (go_at_call 30; (with_reducible refine (spec_l01In.calls (l0.length : Int) 1 200 true _ A6.out).mono ?_); rintro e w' ⟨rfl, ⟨nd, rfl⟩⟩; (try first | exact ⟨rfl, _, World.drewN_drewN _ _ _⟩ | exact ⟨rfl, _, Eq.trans (World.drewN_drewN _ _ _) (congrArg (World.drewN _) (Nat.add_assoc _ _ _))⟩))))
   go_meet
   case rel => exact ⟨_, (((!(((rd_T111 l0 (ji8)).f1.f0.f0) == a1_0) || (!(((rd_T111 l0 (ji8)).f1.f0.f1) == a1_1))) || (!(((rd_T111 l0 (ji8)).f1.f1) == a2)))), (by first | rfl | (simp; done) | (simp only [← hji8] <;> (first | rfl | simp)) | (simp [*]; done)), H', ⟨by first | omega | exact Nat.le_refl _⟩, ⟨bk_ BK215⟩, ⟨bl_⟩⟩
  ·replace c7 := Bool.eq_false_iff.mpr c7
   subst c7
   replace H := ite_f_ H
   have H' := aa_ H
   clear H
   go_wp2_with (first | (go_at_call 30; (with_reducible refine (spec_l01In.calls (l0.length : Int) 1 200 false _ A6.out).mono ?_); rintro e w' ⟨rfl, ⟨nd, rfl⟩⟩; (try first | exact ⟨rfl, _, World.drewN_drewN _ _ _⟩ | exact ⟨rfl, _, Eq.trans (World.drewN_drewN _ _ _) (congrArg (World.drewN _) (Nat.add_assoc _ _ _))⟩)))
   repeat (go_quiet (first | (go_at_call 30; (with_reducible refine (spec_l01In.calls (l0.length : Int) 1 200 false _ A6.out).mono ?_); rintro e w' ⟨rfl, ⟨nd, rfl⟩⟩; (try first | exact ⟨rfl, _, World.drewN_drewN _ _ _⟩ | exact ⟨rfl, _, Eq.trans (World.drewN_drewN _ _ _) (congrArg (World.drewN _) (Nat.add_assoc _ _ _))⟩))); try go_wp2_with (first | (go_at_call 30; (with_reducible refine (spec_l01In.calls (l0.length : Int) 1 200 false _ A6.out).mono ?_); rintro e w' ⟨rfl, ⟨nd, rfl⟩⟩; (try first | exact ⟨rfl, _, World.drewN_drewN _ _ _⟩ | exact ⟨rfl, _, Eq.trans (World.drewN_drewN _ _ _) (congrArg (World.drewN _) (Nat.add_assoc _ _ _))⟩))))
   go_meet
   case rel => exact ⟨_, (true), rf_, H', ⟨by first | omega | exact Nat.le_refl _⟩, ⟨bk_ BK215⟩, ⟨bl_⟩⟩
 case rest =>
  clear HC4
  try clear p2
  try clear q2
  try clear hx2
  try clear p6
  try clear c9b0
  try clear c10b0
  try clear hcz11
  try clear hfz11
  try clear hx217_0
  try clear hx217_1
  try clear hx217_10
  try clear hx217_11
  try clear hx217_12
  try clear hx217_13
  try clear hx217_2
  try clear hx217_3
  try clear hx217_4
  try clear hx217_5
  try clear hx217_6
  try clear hx217_7
  try clear hx217_8
  try clear hx217_9
  try clear p217
  try clear q217
  obtain ⟨kq, x25_3, rfl, HA, HJ3, BK215, HB⟩ := hcut
  cases kq with
  | zero => exact absurd HA.out (by simp [spec_ProofOk.j0])
  | succ kj3 =>
   have H := HA.out
   clear HA
   simp only [spec_ProofOk.j0] at H
   by_cases c12 : x25_3 = true
   ·subst c12
    replace H := ite_t_ H
    obtain rfl := Option.some.inj H
    go_wp2
    repeat (go_quiet (fail); try go_wp2)
    go_ret
    exact ⟨eq_, bl_⟩
   ·replace c12 := Bool.eq_false_iff.mpr c12
    subst c12
    replace H := ite_f_ H
    have H' := aa_ H
    clear H
    go_wp2
    repeat (go_quiet (fail); try go_wp2)
    go_loopg [8] kj3 (fun kq v8 w' => ∃ (x8_2 : Int), v8 = .int .i64 x8_2 ∧ Aside0 (spec_ProofOk.l0 kq l0 (l0.length : Int) x8_2 = some r) ∧ Aside0 (kq ≤ kj3) ∧ Aside0 (w'.heap[gb215]? = some (.cells #[.int .i64 a1_0, .int .i64 a1_1] 77 (0, 0))) ∧ Aside0 (Below w.heap.size w w'))
    case atStart => exact ⟨(0), rf_, H', ⟨Nat.le_refl _⟩, ⟨bk_ BK215⟩, ⟨bl_⟩⟩
    case round =>
     clear H'
     try clear p2
     try clear q2
     try clear hx2
     try clear p6
     try clear c9b0
     try clear c10b0
     try clear hcz11
     try clear hfz11
     try clear hx217_0
     try clear hx217_1
     try clear hx217_10
     try clear hx217_11
     try clear hx217_12
     try clear hx217_13
     try clear hx217_2
     try clear hx217_3
     try clear hx217_4
     try clear hx217_5
     try clear hx217_6
     try clear hx217_7
     try clear hx217_8
     try clear hx217_9
     try clear p2
     try clear p217
     try clear p6
     try clear q2
     try clear q217
     obtain ⟨x8_2, rfl, HA, HK2, BK215, HB⟩ := hrel
     cases gk with
     | zero => exact absurd HA.out (by simp [spec_ProofOk.l0])
     | succ k2 =>
      have H := HA.out
      clear HA
      simp only [spec_ProofOk.l0] at H
      by_cases c13 : x8_2 < (l0.length : Int)
      ·rw [if_pos c13] at H
       have c13b0 : decide (x8_2 < (l0.length : Int)) = true := decide_eq_true c13
       clear c13
       obtain ⟨t218, A14, H⟩ := bindE_ H
       have HC15 := aa_ H
       clear H
       go_upto_if 34 with (first | (go_at_call 82; (with_reducible refine (spec_StepOk.calls k2 _ _ l0 x8_2 t218 _ ?side1 ?side2 A14.out).mono ?_); (case side1 => repeat (first | exact (Kd.C_below HR0.out HB.out) | (with_reducible refine Kd.C_alloc ?_ _) | (with_reducible refine Kd.C_drewN ?_ _) | (with_reducible refine Kd.C_drew ?_))); (case side2 => exact HC0.out); rintro e w16 ⟨rfl, hb⟩; replace BK215 := bkb_ BK215 hb; replace HB := hbs_ hb; clear hb))
       repeat (go_quiet (first | (go_at_call 82; (with_reducible refine (spec_StepOk.calls k2 _ _ l0 x8_2 t218 _ ?side1 ?side2 A14.out).mono ?_); (case side1 => repeat (first | exact (Kd.C_below HR0.out HB.out) | (with_reducible refine Kd.C_alloc ?_ _) | (with_reducible refine Kd.C_drewN ?_ _) | (with_reducible refine Kd.C_drew ?_))); (case side2 => exact HC0.out); rintro e w16 ⟨rfl, hb⟩; replace BK215 := bkb_ BK215 hb; replace HB := hbs_ hb; clear hb)); go_upto_if 34 with (first | (go_at_call 82; (with_reducible refine (spec_StepOk.calls k2 _ _ l0 x8_2 t218 _ ?side1 ?side2 A14.out).mono ?_); (case side1 => repeat (first | exact (Kd.C_below HR0.out HB.out) | (with_reducible refine Kd.C_alloc ?_ _) | (with_reducible refine Kd.C_drewN ?_ _) | (with_reducible refine Kd.C_drew ?_))); (case side2 => exact HC0.out); rintro e w16 ⟨rfl, hb⟩; replace BK215 := bkb_ BK215 hb; replace HB := hbs_ hb; clear hb)))
       (try simp only [Act.put, sb_, sz_, ss_])
       have H := HC15.out
       clear HC15
       by_cases c17 : t218 = true
       ·subst c17
        replace H := ite_t_ H
        have H' := aa_ H
        clear H
        go_wp2
        repeat (go_quiet (fail); try go_wp2)
        go_roundg k2
        case measure => have := HJ3.out; have := HK2.out; omega
        case rel => exact ⟨(wrap64 (x8_2 + 1)), rf_, H', ⟨by have := HJ3.out; have := HK2.out; omega⟩, ⟨bk_ BK215⟩, ⟨bl_⟩⟩
       ·replace c17 := Bool.eq_false_iff.mpr c17
        subst c17
        replace H := ite_f_ H
        obtain rfl := Option.some.inj H
        go_wp2
        repeat (go_quiet (fail); try go_wp2)
        go_ret
        exact ⟨eq_, bl_⟩
      ·rw [if_neg c13] at H
       have c13b0 : decide (x8_2 < (l0.length : Int)) = false := decide_eq_false c13
       clear c13
       obtain rfl := Option.some.inj H
       go_wp2
       repeat (go_quiet (fail); try go_wp2)
       go_ret
       exact ⟨eq_, bl_⟩
def spec_Alive.l0 : Nat → List (S83) → Int → List (S83) → Int → Option ((List (S83)))
 | 0, _, _, _, _ => none
 | k + 1, x0, x1, x5, x6 => if x6 < (x0.length : Int) then (if 0 ≤ x6 then ((spec_CredOk.f k ((rd_T83 x0 x6).f0) ((rd_T83 x0 x6).f1.f0) ((rd_T83 x0 x6).f1.f1) ((rd_T83 x0 x6).f2) ((rd_T83 x0 x6).f3.f0) ((rd_T83 x0 x6).f3.f1) ((rd_T83 x0 x6).f4.f0) ((rd_T83 x0 x6).f4.f1) ((rd_T83 x0 x6).f5) ((rd_T83 x0 x6).f6)).bind fun t223 => (if t223 = true then (if ((rd_T83 x0 x6).f5) ≥ x1 then (if x5.length < 1759218604441 then (spec_Alive.l0 k x0 x1 (x5 ++ [(⟨(rd_T83 x0 x6).f0, (⟨(rd_T83 x0 x6).f1.f0, (rd_T83 x0 x6).f1.f1⟩ : S77), (rd_T83 x0 x6).f2, (⟨(rd_T83 x0 x6).f3.f0, (rd_T83 x0 x6).f3.f1⟩ : S77), (⟨(rd_T83 x0 x6).f4.f0, (rd_T83 x0 x6).f4.f1⟩ : S77), (rd_T83 x0 x6).f5, (rd_T83 x0 x6).f6⟩ : S83)]) (wrap64 (x6 + 1))) else (none)) else (spec_Alive.l0 k x0 x1 x5 (wrap64 (x6 + 1)))) else (spec_Alive.l0 k x0 x1 x5 (wrap64 (x6 + 1))))) else (none)) else (some x5)
def spec_Alive.f (k : Nat) (l0 : List (S83)) (a1 : Int) : Option ((List (S83))) := spec_Alive.l0 k l0 a1 (([] : List (S83))) 0
set_option maxHeartbeats 8000000 in
set_option maxRecDepth 100000 in
theorem spec_Alive.calls (k : Nat) (A0 : Option Addr) (c0 : Nat) (l0 : List (S83)) (a1 : Int) (r : List (S83)) (w : World) (hr0 : Kd.C k83 w A0 l0.length l0) (hc0 : l0.length ≤ c0) (h : spec_Alive.f k l0 a1 = some r) :
  Calls Tryz.prog 61 #[.slice A0 l0.length c0, .int .i64 a1] w fun e w' => ∃ v0_ : Value, e = .returned (v0_) ∧ Kd.R k83 83 w' w.heap.size (fun _ => True) v0_ r ∧ Below w.heap.size w w' := by
 have hu83 := Tryz.underlying83
 have HR0 := aa_ hr0
 have HC0 := aa_ hc0
 clear hr0 hc0
 have HB := aa_ (Below.refl w.heap.size w)
 have H : (spec_Alive.l0 k l0 a1 (([] : List (S83))) 0) = some r := h
 clear h
 obtain ⟨y219, hy219⟩ : ∃ y_ : List (S83), y_ = (([] : List (S83))) := ⟨_, rfl⟩
 replace H : (spec_Alive.l0 k l0 a1 y219 0) = some r := rh_ hy219 H
 have Ny219 := aa_ hy219
 clear hy219
 have H' := aa_ H
 clear H
 go_enter Tryz.func61, Tryz.ntmps61
 go_wp2_with (first | ((with_reducible refine gD_ 7 rfl ?_); refine Kd.R_lit k83 _ 83 ?hg (N := 7) ?hd (xs := ([] : List (S83))) (inner := []) (ok := fun _ => True) (okp := fun _ => True) ?hr ?hp (fun _ hk => hk) trivial (Below.refl _ _) (Nat.le_refl _) (by simp) ?_; (case hd => rfl); (case hg => rfl); (case hr => first | (go_simp; done) | (go_simp; rfl)); (case hp => exact (Reps.none _ _)); intro v220 w3 ho4 hb hg_ hnew_; clear hg_ hnew_; (first | rw [← Ny219.out] at ho4 | (simp only [Int.reduceToNat] at ho4; rw [← Ny219.out] at ho4)); have HO221 := aa_ (Kd.R_lower ho4 bls_); replace HB := hbs_ hb; clear hb ho4))
 go_loopg [5, 6] k (fun kq v5 v6 w' => ∃ (x5_1 : List (S83)) (x6_1 : Int), v6 = .int .i64 x6_1 ∧ Aside0 (spec_Alive.l0 kq l0 a1 x5_1 x6_1 = some r) ∧ Aside0 (kq ≤ k) ∧ Aside0 (Kd.R k83 83 w' w.heap.size (fun _ => True) v5 x5_1) ∧ Aside0 (Below w.heap.size w w'))
 case atStart => exact ⟨(y219), (0), rf_, H', ⟨Nat.le_refl _⟩, ⟨rr_ HO221⟩, ⟨bl_⟩⟩
 case round =>
  clear H'
  try clear p2
  obtain ⟨x5_1, x6_1, rfl, HA, HK1, HO_5, HB⟩ := hrel
  cases gk with
  | zero => exact absurd HA.out (by simp [spec_Alive.l0])
  | succ k1 =>
   have H := HA.out
   clear HA
   simp only [spec_Alive.l0] at H
   by_cases c5 : x6_1 < (l0.length : Int)
   ·rw [if_pos c5] at H
    have c5b0 : decide (x6_1 < (l0.length : Int)) = true := decide_eq_true c5
    clear c5
    obtain ⟨c6b0, H⟩ := ifd_ H
    obtain ⟨t223, A7, H⟩ := bindE_ H
    by_cases c8 : t223 = true
    ·subst c8
     replace H := ite_t_ H
     have HC9 := aa_ H
     clear H
     have p222 : 0 ≤ (x6_1 : Int) := od_
     have q222 : x6_1 < (l0.length : Int) := od_
     obtain ⟨ad222, e222, hx222_0, hx222_1, hx222_2, hx222_3, hx222_4, hx222_5, hx222_6, hx222_7, hx222_8, hx222_9⟩ := at_T83 (Kd.C_below HR0.out HB.out) x6_1 p222 q222
     cases e222
     replace p222 := eq_true p222
     replace q222 := eq_true q222
     go_upto_if 27 with (first | ((with_reducible refine gC_ 83 rfl ?_); refine goesC_ (some 18) Tryz.func83 #[.agg #[.int .i64 ((rd_T83 l0 x6_1).f0), .int .i64 ((rd_T83 l0 x6_1).f1.f0), .int .i64 ((rd_T83 l0 x6_1).f1.f1), .int .i64 ((rd_T83 l0 x6_1).f2), .int .i64 ((rd_T83 l0 x6_1).f3.f0), .int .i64 ((rd_T83 l0 x6_1).f3.f1), .int .i64 ((rd_T83 l0 x6_1).f4.f0), .int .i64 ((rd_T83 l0 x6_1).f4.f1), .int .i64 ((rd_T83 l0 x6_1).f5), .int .i64 ((rd_T83 l0 x6_1).f6)]] ?_; (with_reducible refine (spec_CredOk.calls k1 ((rd_T83 l0 x6_1).f0) ((rd_T83 l0 x6_1).f1.f0) ((rd_T83 l0 x6_1).f1.f1) ((rd_T83 l0 x6_1).f2) ((rd_T83 l0 x6_1).f3.f0) ((rd_T83 l0 x6_1).f3.f1) ((rd_T83 l0 x6_1).f4.f0) ((rd_T83 l0 x6_1).f4.f1) ((rd_T83 l0 x6_1).f5) ((rd_T83 l0 x6_1).f6) true _ A7.out).mono ?_); rintro e w10 ⟨rfl, hb⟩; refine ⟨_, rfl, ?_⟩; replace HO_5 := hob_ HO_5 hb; replace HB := hbs_ hb; clear hb; have p224 : 0 ≤ (x6_1 : Int) := od_; have q224 : x6_1 < (l0.length : Int) := od_; obtain ⟨ad224, e224, hx224_0, hx224_1, hx224_2, hx224_3, hx224_4, hx224_5, hx224_6, hx224_7, hx224_8, hx224_9⟩ := at_T83 HR0.out x6_1 p224 q224; obtain rfl : ad222 = ad224 := (by injection e224); replace hx224_0 := cb_ HB hx224_0; replace hx224_1 := cb_ HB hx224_1; replace hx224_2 := cb_ HB hx224_2; replace hx224_3 := cb_ HB hx224_3; replace hx224_4 := cb_ HB hx224_4; replace hx224_5 := cb_ HB hx224_5; replace hx224_6 := cb_ HB hx224_6; replace hx224_7 := cb_ HB hx224_7; replace hx224_8 := cb_ HB hx224_8; replace hx224_9 := cb_ HB hx224_9; replace p224 := eq_true p224; replace q224 := eq_true q224))
     (try simp only [Act.put, sb_, sz_, ss_])
     have H := HC9.out
     clear HC9
     by_cases c11 : ((rd_T83 l0 x6_1).f5) ≥ a1
     ·rw [if_pos c11] at H
      have c11b0 : decide (a1 ≤ ((rd_T83 l0 x6_1).f5)) = true := decide_eq_true c11
      clear c11
      (first | rw [c11b0] | (simp only [i64_w, i32_w]; rw [c11b0]) | skip)
      obtain ⟨c12, H⟩ := ifn_ H
      have LMc12 := aa_ c12
      clear c12
      obtain ⟨y226, hy226⟩ : ∃ y_ : List (S83), y_ = (x5_1 ++ [(⟨(rd_T83 l0 x6_1).f0, (⟨(rd_T83 l0 x6_1).f1.f0, (rd_T83 l0 x6_1).f1.f1⟩ : S77), (rd_T83 l0 x6_1).f2, (⟨(rd_T83 l0 x6_1).f3.f0, (rd_T83 l0 x6_1).f3.f1⟩ : S77), (⟨(rd_T83 l0 x6_1).f4.f0, (rd_T83 l0 x6_1).f4.f1⟩ : S77), (rd_T83 l0 x6_1).f5, (rd_T83 l0 x6_1).f6⟩ : S83)]) := ⟨_, rfl⟩
      replace H : (spec_Alive.l0 k1 l0 a1 y226 (wrap64 (x6_1 + 1))) = some r := rh_ hy226 H
      have Ny226 := aa_ hy226
      clear hy226
      have H' := aa_ H
      clear H
      have p225 : 0 ≤ (x6_1 : Int) := od_
      have q225 : x6_1 < (l0.length : Int) := od_
      obtain ⟨ad225, e225, hx225_0, hx225_1, hx225_2, hx225_3, hx225_4, hx225_5, hx225_6, hx225_7, hx225_8, hx225_9⟩ := at_T83 HR0.out x6_1 p225 q225
      obtain rfl : ad222 = ad225 := (by injection e225)
      replace hx225_0 := cb_ HB hx225_0
      replace hx225_1 := cb_ HB hx225_1
      replace hx225_2 := cb_ HB hx225_2
      replace hx225_3 := cb_ HB hx225_3
      replace hx225_4 := cb_ HB hx225_4
      replace hx225_5 := cb_ HB hx225_5
      replace hx225_6 := cb_ HB hx225_6
      replace hx225_7 := cb_ HB hx225_7
      replace hx225_8 := cb_ HB hx225_8
      replace hx225_9 := cb_ HB hx225_9
      replace p225 := eq_true p225
      replace q225 := eq_true q225
      go_wp2_with (first | ((with_reducible refine gate_builtin (b := .append) (xs := #[.tmp 28, .tmp 33]) rfl ?_); at_builtin; refine Kd.R_append k83 (w0 := w) w.heap.size rfl (.tmp 28) (.tmp 33) 36 83 (.agg #[(.int .i64 0), (.int .i64 0), (.int .i64 0), (.int .i64 0), (.int .i64 0), (.int .i64 0), (.int .i64 0), (.int .i64 0), (.int .i64 0), (.int .i64 0)]) 80 rfl Tryz.underlying36 info83 rfl (by decide) (by omega) u5 x5_1 (⟨(rd_T83 l0 x6_1).f0, (⟨(rd_T83 l0 x6_1).f1.f0, (rd_T83 l0 x6_1).f1.f1⟩ : S77), (rd_T83 l0 x6_1).f2, (⟨(rd_T83 l0 x6_1).f3.f0, (rd_T83 l0 x6_1).f3.f1⟩ : S77), (⟨(rd_T83 l0 x6_1).f4.f0, (rd_T83 l0 x6_1).f4.f1⟩ : S77), (rd_T83 l0 x6_1).f5, (rd_T83 l0 x6_1).f6⟩ : S83) [.int .i64 ((rd_T83 l0 x6_1).f0), .int .i64 ((rd_T83 l0 x6_1).f1.f0), .int .i64 ((rd_T83 l0 x6_1).f1.f1), .int .i64 ((rd_T83 l0 x6_1).f2), .int .i64 ((rd_T83 l0 x6_1).f3.f0), .int .i64 ((rd_T83 l0 x6_1).f3.f1), .int .i64 ((rd_T83 l0 x6_1).f4.f0), .int .i64 ((rd_T83 l0 x6_1).f4.f1), .int .i64 ((rd_T83 l0 x6_1).f5), .int .i64 ((rd_T83 l0 x6_1).f6)] (fun _ => True) (fun _ => False) rfl rfl ?aP (fun _ hk => hk.elim) ?aF ?aO ?aB ?aS ?aL ?_; (case aP => exact k83_mkM _ _ _ (⟨(rd_T83 l0 x6_1).f0, (⟨(rd_T83 l0 x6_1).f1.f0, (rd_T83 l0 x6_1).f1.f1⟩ : S77), (rd_T83 l0 x6_1).f2, (⟨(rd_T83 l0 x6_1).f3.f0, (rd_T83 l0 x6_1).f3.f1⟩ : S77), (⟨(rd_T83 l0 x6_1).f4.f0, (rd_T83 l0 x6_1).f4.f1⟩ : S77), (rd_T83 l0 x6_1).f5, (rd_T83 l0 x6_1).f6⟩ : S83)); (case aB => exact bl_); (case aF => exact (fun _ _ => trivial)); (case aO => exact (rr_ HO_5)); (case aS => exact bls_); (case aL => have := LMc12.out; omega); intro v227 w13 ho hb hg hat; rw [← Ny226.out] at ho; replace HB := aa_ (hb); have HO228 := aa_ (ho); clear HO_5; clear ho hb hg hat))
      go_roundg k1
      case measure => have := HK1.out; omega
      case rel => exact ⟨(y226), (wrap64 (x6_1 + 1)), rf_, H', ⟨by have := HK1.out; omega⟩, ⟨rr_ HO228⟩, ⟨bl_⟩⟩
     ·rw [if_neg c11] at H
      have c11b0 : decide (a1 ≤ ((rd_T83 l0 x6_1).f5)) = false := decide_eq_false c11
      clear c11
      (first | rw [c11b0] | (simp only [i64_w, i32_w]; rw [c11b0]) | skip)
      have H' := aa_ H
      clear H
      go_wp2
      go_roundg k1
      case measure => have := HK1.out; omega
      case rel => exact ⟨(x5_1), (wrap64 (x6_1 + 1)), rf_, H', ⟨by have := HK1.out; omega⟩, ⟨rr_ HO_5⟩, ⟨bl_⟩⟩
    ·replace c8 := Bool.eq_false_iff.mpr c8
     subst c8
     replace H := ite_f_ H
     have H' := aa_ H
     clear H
     have p222 : 0 ≤ (x6_1 : Int) := od_
     have q222 : x6_1 < (l0.length : Int) := od_
     obtain ⟨ad222, e222, hx222_0, hx222_1, hx222_2, hx222_3, hx222_4, hx222_5, hx222_6, hx222_7, hx222_8, hx222_9⟩ := at_T83 (Kd.C_below HR0.out HB.out) x6_1 p222 q222
     cases e222
     replace p222 := eq_true p222
     replace q222 := eq_true q222
     go_wp2_with (first | ((with_reducible refine gC_ 83 rfl ?_); refine goesC_ (some 18) Tryz.func83 #[.agg #[.int .i64 ((rd_T83 l0 x6_1).f0), .int .i64 ((rd_T83 l0 x6_1).f1.f0), .int .i64 ((rd_T83 l0 x6_1).f1.f1), .int .i64 ((rd_T83 l0 x6_1).f2), .int .i64 ((rd_T83 l0 x6_1).f3.f0), .int .i64 ((rd_T83 l0 x6_1).f3.f1), .int .i64 ((rd_T83 l0 x6_1).f4.f0), .int .i64 ((rd_T83 l0 x6_1).f4.f1), .int .i64 ((rd_T83 l0 x6_1).f5), .int .i64 ((rd_T83 l0 x6_1).f6)]] ?_; (with_reducible refine (spec_CredOk.calls k1 ((rd_T83 l0 x6_1).f0) ((rd_T83 l0 x6_1).f1.f0) ((rd_T83 l0 x6_1).f1.f1) ((rd_T83 l0 x6_1).f2) ((rd_T83 l0 x6_1).f3.f0) ((rd_T83 l0 x6_1).f3.f1) ((rd_T83 l0 x6_1).f4.f0) ((rd_T83 l0 x6_1).f4.f1) ((rd_T83 l0 x6_1).f5) ((rd_T83 l0 x6_1).f6) false _ A7.out).mono ?_); rintro e w14 ⟨rfl, hb⟩; refine ⟨_, rfl, ?_⟩; replace HO_5 := hob_ HO_5 hb; replace HB := hbs_ hb; clear hb))
     go_roundg k1
     case measure => have := HK1.out; omega
     case rel => exact ⟨(x5_1), (wrap64 (x6_1 + 1)), rf_, H', ⟨by have := HK1.out; omega⟩, ⟨rr_ HO_5⟩, ⟨bl_⟩⟩
   ·rw [if_neg c5] at H
    have c5b0 : decide (x6_1 < (l0.length : Int)) = false := decide_eq_false c5
    clear c5
    obtain rfl := Option.some.inj H
    go_wp2
    go_ret
    exact ⟨_, eq_, by (with_reducible repeat (first | apply Kd.R_alloc | apply Kd.R_drewN | apply Kd.R_drew)); exact HO_5.out, bl_⟩
def spec_AnswerOk.f (k : Nat) (a0_0 : Bool) (l0_1 : List (S111)) (a0_2 : Int) (a0_3 : Bool) (a0_4 : Bool) (a1_0 : Int) (a1_1 : Int) (a2 : Int) (a3 : Int) : Option (Bool) := if a0_0 = true then ((spec_CredsIn.f k l0_1).bind fun t231 => ((spec_ProofOk.f k l0_1 a1_0 a1_1 a2).bind fun t234 => (if t234 = true then ((spec_Alive.f k t231 a3).bind fun t235 => (some ((t235.length : Int) == (t231.length : Int)))) else (some false)))) else (some ((l0_1.length : Int) == 0))
set_option maxHeartbeats 8000000 in
set_option maxRecDepth 100000 in
theorem spec_AnswerOk.calls (k : Nat) (a0_0 : Bool) (A0_1 : Option Addr) (c0_1 : Nat) (l0_1 : List (S111)) (a0_2 : Int) (a0_3 : Bool) (a0_4 : Bool) (a1_0 : Int) (a1_1 : Int) (a2 : Int) (a3 : Int) (r : Bool) (w : World) (hr0_1 : Kd.C k111 w A0_1 l0_1.length l0_1) (hc0_1 : l0_1.length ≤ c0_1) (h : spec_AnswerOk.f k a0_0 l0_1 a0_2 a0_3 a0_4 a1_0 a1_1 a2 a3 = some r) :
  Calls Tryz.prog 34 #[.agg #[.bool a0_0, .slice A0_1 l0_1.length c0_1, .int .i64 a0_2, .bool a0_3, .bool a0_4], .agg #[.int .i64 a1_0, .int .i64 a1_1], .int .i64 a2, .int .i64 a3] w fun e w' => e = .returned (.bool r) ∧ Below w.heap.size w w' := by
 have hu73 := Tryz.underlying73
 have hu77 := Tryz.underlying77
 have HR0_1 := aa_ hr0_1
 have HC0_1 := aa_ hc0_1
 clear hr0_1 hc0_1
 have HB := aa_ (Below.refl w.heap.size w)
 have H : (if a0_0 = true then ((spec_CredsIn.f k l0_1).bind fun t231 => ((spec_ProofOk.f k l0_1 a1_0 a1_1 a2).bind fun t234 => (if t234 = true then ((spec_Alive.f k t231 a3).bind fun t235 => (some ((t235.length : Int) == (t231.length : Int)))) else (some false)))) else (some ((l0_1.length : Int) == 0))) = some r := h
 clear h
 have HC5 := aa_ H
 clear H
 go_enter Tryz.func34, Tryz.ntmps34
 go_upto_if 12 with (first | ((with_reducible refine gD_ 4 rfl ?_); (try (refine gate_guard (by rfl) ?_; dsimp only)); refine bx_ (N := 4) (cs := #[.bool a0_0, .slice A0_1 l0_1.length c0_1, .int .i64 a0_2, .bool a0_3, .bool a0_4]) (t := 73) ?_; intro gb229 hg w6 hbox hb; have BK229 := aa_ (hbox); have GW229 := gs_ hg; have GE229 := gs_ hg; replace HB := hbs_ hb; clear hb hbox hg) | ((with_reducible refine gD_ 5 rfl ?_); (try (refine gate_guard (by rfl) ?_; dsimp only)); refine bx_ (N := 5) (cs := #[.int .i64 a1_0, .int .i64 a1_1]) (t := 77) ?_; intro gb230 hg w7 hbox hb; have BK230 := aa_ (hbox); have GW230 := gs_ hg; have GE230 := gs_ hg; replace HB := hbs_ hb; have NB229_230 := nl_ hg BK229; have NB230_229 := nr_ hg BK229; replace BK229 := bkb_ BK229 hb; clear hb hbox hg; have hnb8 := NB229_230.out; have hnc8 := NB230_229.out; obtain ⟨hcz9, hfz9⟩ := bcf_ BK229))
 (try simp only [Act.put, sb_, sz_, ss_])
 have H := HC5.out
 clear HC5
 by_cases c10 : a0_0 = true
 ·subst c10
  replace H := ite_t_ H
  obtain ⟨t231, A11, H⟩ := bindE_ H
  obtain ⟨t234, A12, H⟩ := bindE_ H
  by_cases c13 : t234 = true
  ·subst c13
   replace H := ite_t_ H
   obtain ⟨t235, A14, H⟩ := bindE_ H
   obtain rfl := Option.some.inj H
   have hnb15 := NB229_230.out
   have hnc15 := NB230_229.out
   have hcz16 := blk_cell BK229.out
   have hfz16 := blk_frozen BK229.out
   go_wp2_with (first | ((with_reducible refine gC_ 33 rfl ?_); refine goesC_ (some 19) Tryz.func33 #[.slice A0_1 l0_1.length c0_1] ?_; (with_reducible refine (spec_CredsIn.calls k _ _ l0_1 t231 _ ?side1 ?side2 A11.out).mono ?_); (case side1 => repeat (first | exact (Kd.C_below HR0_1.out HB.out) | (with_reducible refine Kd.C_alloc ?_ _) | (with_reducible refine Kd.C_drewN ?_ _) | (with_reducible refine Kd.C_drew ?_))); (case side2 => exact HC0_1.out); rintro e w17 ⟨v232, rfl, ho0, hb⟩; refine ⟨_, rfl, ?_⟩; have HO233 := aa_ (Kd.R_lower ho0 bls_); replace BK229 := bkb_ BK229 hb; replace BK230 := bkb_ BK230 hb; replace HB := hbs_ hb; (try clear hb ho0); obtain ⟨hcz18, hfz18⟩ := bcf_ BK229; obtain ⟨hcz19, hfz19⟩ := bcf_ BK230) | ((with_reducible refine gC_ 60 rfl ?_); refine goesC_ (some 24) Tryz.func60 #[.slice A0_1 l0_1.length c0_1, .agg #[.int .i64 a1_0, .int .i64 a1_1], .int .i64 a2] ?_; (with_reducible refine (spec_ProofOk.calls k _ _ l0_1 a1_0 a1_1 a2 true _ ?side1 ?side2 A12.out).mono ?_); (case side1 => repeat (first | exact (Kd.C_below HR0_1.out HB.out) | (with_reducible refine Kd.C_alloc ?_ _) | (with_reducible refine Kd.C_drewN ?_ _) | (with_reducible refine Kd.C_drew ?_))); (case side2 => exact HC0_1.out); rintro e w20 ⟨rfl, hb⟩; refine ⟨_, rfl, ?_⟩; replace HO233 := hob_ HO233 hb; replace BK229 := bkb_ BK229 hb; replace BK230 := bkb_ BK230 hb; replace HB := hbs_ hb; clear hb; obtain ⟨Ao21, co21, eo21⟩ := Kd.R_slice HO233.out; subst eo21) | (go_at_call 61; (with_reducible refine (spec_Alive.calls k _ _ t231 a3 t235 _ ?side1 ?side2 A14.out).mono ?_); (case side1 => repeat (first | exact (Kd.R_reads' HO233.out).2.2 | (with_reducible refine Kd.C_alloc ?_ _) | (with_reducible refine Kd.C_drewN ?_ _) | (with_reducible refine Kd.C_drew ?_))); (case side2 => exact (Kd.R_reads' HO233.out).2.1); rintro e w22 ⟨v236, rfl, ho0, hb⟩; have HO237 := aa_ (Kd.R_lower (Kd.R_new' ho0 (Kd.R_lt (rr_ HO233))) bls_); replace HO233 := aa_ (Kd.R_elder' (rr_ HO233) (Kd.R_base ho0) hb); replace BK229 := bkb_ BK229 hb; replace BK230 := bkb_ BK230 hb; replace HB := hbs_ hb; (try clear ho0); obtain ⟨Ao23, co23, eo23⟩ := Kd.R_slice HO237.out; subst eo23))
   go_ret
   exact ⟨eq_, bl_⟩
  ·replace c13 := Bool.eq_false_iff.mpr c13
   subst c13
   replace H := ite_f_ H
   obtain rfl := Option.some.inj H
   have hnb24 := NB229_230.out
   have hnc24 := NB230_229.out
   have hcz25 := blk_cell BK229.out
   have hfz25 := blk_frozen BK229.out
   go_wp2_with (first | ((with_reducible refine gC_ 33 rfl ?_); refine goesC_ (some 19) Tryz.func33 #[.slice A0_1 l0_1.length c0_1] ?_; (with_reducible refine (spec_CredsIn.calls k _ _ l0_1 t231 _ ?side1 ?side2 A11.out).mono ?_); (case side1 => repeat (first | exact (Kd.C_below HR0_1.out HB.out) | (with_reducible refine Kd.C_alloc ?_ _) | (with_reducible refine Kd.C_drewN ?_ _) | (with_reducible refine Kd.C_drew ?_))); (case side2 => exact HC0_1.out); rintro e w26 ⟨v232, rfl, ho0, hb⟩; refine ⟨_, rfl, ?_⟩; have HO233 := aa_ (Kd.R_lower ho0 bls_); replace BK229 := bkb_ BK229 hb; replace BK230 := bkb_ BK230 hb; replace HB := hbs_ hb; (try clear hb ho0); obtain ⟨hcz27, hfz27⟩ := bcf_ BK229; obtain ⟨hcz28, hfz28⟩ := bcf_ BK230) | ((with_reducible refine gC_ 60 rfl ?_); refine goesC_ (some 24) Tryz.func60 #[.slice A0_1 l0_1.length c0_1, .agg #[.int .i64 a1_0, .int .i64 a1_1], .int .i64 a2] ?_; (with_reducible refine (spec_ProofOk.calls k _ _ l0_1 a1_0 a1_1 a2 false _ ?side1 ?side2 A12.out).mono ?_); (case side1 => repeat (first | exact (Kd.C_below HR0_1.out HB.out) | (with_reducible refine Kd.C_alloc ?_ _) | (with_reducible refine Kd.C_drewN ?_ _) | (with_reducible refine Kd.C_drew ?_))); (case side2 => exact HC0_1.out); rintro e w29 ⟨rfl, hb⟩; refine ⟨_, rfl, ?_⟩; replace HO233 := hob_ HO233 hb; replace BK229 := bkb_ BK229 hb; replace BK230 := bkb_ BK230 hb; replace HB := hbs_ hb; clear hb))
   go_ret
   exact ⟨eq_, bl_⟩
 ·replace c10 := Bool.eq_false_iff.mpr c10
  subst c10
  replace H := ite_f_ H
  obtain rfl := Option.some.inj H
  have hnb30 := NB229_230.out
  have hnc30 := NB230_229.out
  have hcz31 := blk_cell BK229.out
  have hfz31 := blk_frozen BK229.out
  go_wp2
  go_ret
  exact ⟨eq_, bl_⟩
def spec_l16Least.l0 : Nat → List (S83) → Int → Int → Option (Int)
 | 0, _, _, _ => none
 | k + 1, x0, x3, x4 => if x4 < (x0.length : Int) then (if 0 ≤ x4 then (if ((rd_T83 x0 x4).f5) < x3 then (spec_l16Least.l0 k x0 ((rd_T83 x0 x4).f5) (wrap64 (x4 + 1))) else (spec_l16Least.l0 k x0 x3 (wrap64 (x4 + 1)))) else (none)) else (some x3)
def spec_l16Least.f (k : Nat) (l0 : List (S83)) : Option (Int) := spec_l16Least.l0 k l0 10000 0
set_option maxHeartbeats 8000000 in
set_option maxRecDepth 100000 in
theorem spec_l16Least.calls (k : Nat) (A0 : Option Addr) (c0 : Nat) (l0 : List (S83)) (r : Int) (w : World) (hr0 : Kd.C k83 w A0 l0.length l0) (hc0 : l0.length ≤ c0) (h : spec_l16Least.f k l0 = some r) :
  Calls Tryz.prog 35 #[.slice A0 l0.length c0] w fun e w' => e = .returned (.int .i64 r) ∧ Drawn0 w w' := by
 have HR0 := aa_ hr0
 have HC0 := aa_ hc0
 clear hr0 hc0
 have H : (spec_l16Least.l0 k l0 10000 0) = some r := h
 clear h
 have H' := aa_ H
 clear H
 go_enter Tryz.func35, Tryz.ntmps35
 go_wp2
 go_loopg [3, 4] k (fun kq v3 v4 w' => ∃ (x3_1 : Int) (x4_1 : Int), v3 = .int .i64 x3_1 ∧ v4 = .int .i64 x4_1 ∧ Aside0 (spec_l16Least.l0 kq l0 x3_1 x4_1 = some r) ∧ Aside0 (kq ≤ k) ∧ Drawn0 w w')
 case atStart => exact ⟨(10000), (0), rf_, rf_, H', ⟨Nat.le_refl _⟩, by repeat (first | exact Drawn0.refl _ | apply Drawn0.step)⟩
 case round =>
  clear H'
  obtain ⟨x3_1, x4_1, rfl, rfl, HA, HK1, ⟨m1, rfl⟩⟩ := hrel
  cases gk with
  | zero => exact absurd HA.out (by simp [spec_l16Least.l0])
  | succ k1 =>
   have H := HA.out
   clear HA
   simp only [spec_l16Least.l0] at H
   by_cases c2 : x4_1 < (l0.length : Int)
   ·rw [if_pos c2] at H
    have c2b0 : decide (x4_1 < (l0.length : Int)) = true := decide_eq_true c2
    clear c2
    obtain ⟨c3b0, H⟩ := ifd_ H
    have HC4 := aa_ H
    clear H
    have p238 : 0 ≤ (x4_1 : Int) := od_
    have q238 : x4_1 < (l0.length : Int) := od_
    obtain ⟨ad238, e238, hx238_0, hx238_1, hx238_2, hx238_3, hx238_4, hx238_5, hx238_6, hx238_7, hx238_8, hx238_9⟩ := at_T83 HR0.out x4_1 p238 q238
    cases e238
    replace p238 := eq_true p238
    replace q238 := eq_true q238
    go_upto_if 17 with (fail)
    have H := HC4.out
    clear HC4
    by_cases c5 : ((rd_T83 l0 x4_1).f5) < x3_1
    ·rw [if_pos c5] at H
     have c5b0 : decide (((rd_T83 l0 x4_1).f5) < x3_1) = true := decide_eq_true c5
     clear c5
     (first | rw [c5b0] | (simp only [i64_w, i32_w]; rw [c5b0]) | skip)
     have H' := aa_ H
     clear H
     have p239 : 0 ≤ (x4_1 : Int) := od_
     have q239 : x4_1 < (l0.length : Int) := od_
     obtain ⟨ad239, e239, hx239_0, hx239_1, hx239_2, hx239_3, hx239_4, hx239_5, hx239_6, hx239_7, hx239_8, hx239_9⟩ := at_T83 HR0.out x4_1 p239 q239
     obtain rfl : ad238 = ad239 := (by injection e239)
     replace p239 := eq_true p239
     replace q239 := eq_true q239
     go_wp2
     go_roundg k1
     case measure => have := HK1.out; omega
     case rel => exact ⟨((rd_T83 l0 x4_1).f5), (wrap64 (x4_1 + 1)), rf_, rf_, H', ⟨by have := HK1.out; omega⟩, by repeat (first | exact Drawn0.refl _ | apply Drawn0.step)⟩
    ·rw [if_neg c5] at H
     have c5b0 : decide (((rd_T83 l0 x4_1).f5) < x3_1) = false := decide_eq_false c5
     clear c5
     (first | rw [c5b0] | (simp only [i64_w, i32_w]; rw [c5b0]) | skip)
     have H' := aa_ H
     clear H
     go_wp2
     go_roundg k1
     case measure => have := HK1.out; omega
     case rel => exact ⟨(x3_1), (wrap64 (x4_1 + 1)), rf_, rf_, H', ⟨by have := HK1.out; omega⟩, by repeat (first | exact Drawn0.refl _ | apply Drawn0.step)⟩
   ·rw [if_neg c2] at H
    have c2b0 : decide (x4_1 < (l0.length : Int)) = false := decide_eq_false c2
    clear c2
    obtain rfl := Option.some.inj H
    go_wp2
    go_ret
    exact ⟨by first | rfl | (simp; done) | (simp [*]; done), by repeat (first | exact Drawn0.refl _ | apply Drawn0.step)⟩
def spec_l14Said.l0 : Nat → List (S83) → Int → Int → Int → Int → Int → Int → Int → Int → Int → Int → Int → Option (Bool)
 | 0, _, _, _, _, _, _, _, _, _, _, _, _ => none
 | k + 1, x0, x5, x241000, x241001, x241002, x241003, x241004, x241005, x241006, x241007, x241008, x241009 => if x5 < (x0.length : Int) then (if 0 ≤ x5 then (if (((rd_T83 x0 x5).f0) == x241000 && ((((rd_T83 x0 x5).f1.f0) == x241001 && (((rd_T83 x0 x5).f1.f1) == x241002)) && (((rd_T83 x0 x5).f2) == x241003 && ((((rd_T83 x0 x5).f3.f0) == x241004 && (((rd_T83 x0 x5).f3.f1) == x241005)) && ((((rd_T83 x0 x5).f4.f0) == x241006 && (((rd_T83 x0 x5).f4.f1) == x241007)) && (((rd_T83 x0 x5).f5) == x241008 && (((rd_T83 x0 x5).f6) == x241009))))))) = true then (some true) else (spec_l14Said.l0 k x0 (wrap64 (x5 + 1)) x241000 x241001 x241002 x241003 x241004 x241005 x241006 x241007 x241008 x241009)) else (none)) else (some false)
def spec_l14Said.f (k : Nat) (l0 : List (S83)) (a1_0 : Int) (a1_1 : Int) (a1_2 : Int) (a1_3 : Int) (a1_4 : Int) (a1_5 : Int) (a1_6 : Int) (a1_7 : Int) (a1_8 : Int) (a1_9 : Int) : Option (Bool) := spec_l14Said.l0 k l0 0 a1_0 a1_1 a1_2 a1_3 a1_4 a1_5 a1_6 a1_7 a1_8 a1_9
set_option maxHeartbeats 8000000 in
set_option maxRecDepth 100000 in
theorem spec_l14Said.calls (k : Nat) (A0 : Option Addr) (c0 : Nat) (l0 : List (S83)) (a1_0 : Int) (a1_1 : Int) (a1_2 : Int) (a1_3 : Int) (a1_4 : Int) (a1_5 : Int) (a1_6 : Int) (a1_7 : Int) (a1_8 : Int) (a1_9 : Int) (r : Bool) (w : World) (hr0 : Kd.C k83 w A0 l0.length l0) (hc0 : l0.length ≤ c0) (h : spec_l14Said.f k l0 a1_0 a1_1 a1_2 a1_3 a1_4 a1_5 a1_6 a1_7 a1_8 a1_9 = some r) :
  Calls Tryz.prog 36 #[.slice A0 l0.length c0, .agg #[.int .i64 a1_0, .int .i64 a1_1, .int .i64 a1_2, .int .i64 a1_3, .int .i64 a1_4, .int .i64 a1_5, .int .i64 a1_6, .int .i64 a1_7, .int .i64 a1_8, .int .i64 a1_9]] w fun e w' => e = .returned (.bool r) ∧ Below w.heap.size w w' := by
 have hu83 := Tryz.underlying83
 have HR0 := aa_ hr0
 have HC0 := aa_ hc0
 clear hr0 hc0
 have HB := aa_ (Below.refl w.heap.size w)
 have H : (spec_l14Said.l0 k l0 0 a1_0 a1_1 a1_2 a1_3 a1_4 a1_5 a1_6 a1_7 a1_8 a1_9) = some r := h
 clear h
 have H' := aa_ H
 clear H
 go_enter Tryz.func36, Tryz.ntmps36
 go_wp2_with (first | ((with_reducible refine gD_ 3 rfl ?_); refine bx_ (N := 3) (cs := #[.int .i64 a1_0, .int .i64 a1_1, .int .i64 a1_2, .int .i64 a1_3, .int .i64 a1_4, .int .i64 a1_5, .int .i64 a1_6, .int .i64 a1_7, .int .i64 a1_8, .int .i64 a1_9]) (t := 83) ?_; intro gb240 hg w3 hbox hb; have BK240 := aa_ (hbox); have GW240 := gs_ hg; have GE240 := gs_ hg; replace HB := hbs_ hb; clear hb hbox hg))
 repeat (go_quiet (first | ((with_reducible refine gD_ 3 rfl ?_); refine bx_ (N := 3) (cs := #[.int .i64 a1_0, .int .i64 a1_1, .int .i64 a1_2, .int .i64 a1_3, .int .i64 a1_4, .int .i64 a1_5, .int .i64 a1_6, .int .i64 a1_7, .int .i64 a1_8, .int .i64 a1_9]) (t := 83) ?_; intro gb240 hg w3 hbox hb; have BK240 := aa_ (hbox); have GW240 := gs_ hg; have GE240 := gs_ hg; replace HB := hbs_ hb; clear hb hbox hg)); try go_wp2_with (first | ((with_reducible refine gD_ 3 rfl ?_); refine bx_ (N := 3) (cs := #[.int .i64 a1_0, .int .i64 a1_1, .int .i64 a1_2, .int .i64 a1_3, .int .i64 a1_4, .int .i64 a1_5, .int .i64 a1_6, .int .i64 a1_7, .int .i64 a1_8, .int .i64 a1_9]) (t := 83) ?_; intro gb240 hg w3 hbox hb; have BK240 := aa_ (hbox); have GW240 := gs_ hg; have GE240 := gs_ hg; replace HB := hbs_ hb; clear hb hbox hg)))
 go_loopg [5] k (fun kq v5 w' => ∃ (x5_1 : Int), v5 = .int .i64 x5_1 ∧ Aside0 (spec_l14Said.l0 kq l0 x5_1 a1_0 a1_1 a1_2 a1_3 a1_4 a1_5 a1_6 a1_7 a1_8 a1_9 = some r) ∧ Aside0 (kq ≤ k) ∧ Aside0 (w'.heap[gb240]? = some (.cells #[.int .i64 a1_0, .int .i64 a1_1, .int .i64 a1_2, .int .i64 a1_3, .int .i64 a1_4, .int .i64 a1_5, .int .i64 a1_6, .int .i64 a1_7, .int .i64 a1_8, .int .i64 a1_9] 83 (0, 0))) ∧ Aside0 (Below w.heap.size w w'))
 case atStart => exact ⟨(0), rf_, H', ⟨Nat.le_refl _⟩, ⟨bk_ BK240⟩, ⟨bl_⟩⟩
 case round =>
  clear H'
  try clear p2
  obtain ⟨x5_1, rfl, HA, HK1, BK240, HB⟩ := hrel
  cases gk with
  | zero => exact absurd HA.out (by simp [spec_l14Said.l0])
  | succ k1 =>
   have H := HA.out
   clear HA
   simp only [spec_l14Said.l0] at H
   by_cases c4 : x5_1 < (l0.length : Int)
   ·rw [if_pos c4] at H
    have c4b0 : decide (x5_1 < (l0.length : Int)) = true := decide_eq_true c4
    clear c4
    obtain ⟨c5b0, H⟩ := ifd_ H
    have HC6 := aa_ H
    clear H
    have p241 : 0 ≤ (x5_1 : Int) := od_
    have q241 : x5_1 < (l0.length : Int) := od_
    obtain ⟨ad241, e241, hx241_0, hx241_1, hx241_2, hx241_3, hx241_4, hx241_5, hx241_6, hx241_7, hx241_8, hx241_9⟩ := at_T83 (Kd.C_below HR0.out HB.out) x5_1 p241 q241
    cases e241
    replace p241 := eq_true p241
    replace q241 := eq_true q241
    have hcz7 := blk_cell BK240.out
    have hfz7 := blk_frozen BK240.out
    go_upto_if 17 with (fail)
    repeat (go_quiet (fail); go_upto_if 17 with (fail))
    have H := HC6.out
    clear HC6
    by_cases c8 : (((rd_T83 l0 x5_1).f0) == a1_0 && ((((rd_T83 l0 x5_1).f1.f0) == a1_1 && (((rd_T83 l0 x5_1).f1.f1) == a1_2)) && (((rd_T83 l0 x5_1).f2) == a1_3 && ((((rd_T83 l0 x5_1).f3.f0) == a1_4 && (((rd_T83 l0 x5_1).f3.f1) == a1_5)) && ((((rd_T83 l0 x5_1).f4.f0) == a1_6 && (((rd_T83 l0 x5_1).f4.f1) == a1_7)) && (((rd_T83 l0 x5_1).f5) == a1_8 && (((rd_T83 l0 x5_1).f6) == a1_9))))))) = true
    ·rw [if_pos c8] at H
     have c8b0 : (((rd_T83 l0 x5_1).f0) == a1_0 && ((((rd_T83 l0 x5_1).f1.f0) == a1_1 && (((rd_T83 l0 x5_1).f1.f1) == a1_2)) && (((rd_T83 l0 x5_1).f2) == a1_3 && ((((rd_T83 l0 x5_1).f3.f0) == a1_4 && (((rd_T83 l0 x5_1).f3.f1) == a1_5)) && ((((rd_T83 l0 x5_1).f4.f0) == a1_6 && (((rd_T83 l0 x5_1).f4.f1) == a1_7)) && (((rd_T83 l0 x5_1).f5) == a1_8 && (((rd_T83 l0 x5_1).f6) == a1_9))))))) = true := c8
     (try (have c8b1 : decide (((rd_T83 l0 x5_1).f0) = a1_0 && ((((rd_T83 l0 x5_1).f1.f0) == a1_1 && (((rd_T83 l0 x5_1).f1.f1) == a1_2)) && (((rd_T83 l0 x5_1).f2) == a1_3 && ((((rd_T83 l0 x5_1).f3.f0) == a1_4 && (((rd_T83 l0 x5_1).f3.f1) == a1_5)) && ((((rd_T83 l0 x5_1).f4.f0) == a1_6 && (((rd_T83 l0 x5_1).f4.f1) == a1_7)) && (((rd_T83 l0 x5_1).f5) == a1_8 && (((rd_T83 l0 x5_1).f6) == a1_9))))))) = true := by simpa using c8))
     (try (have c8b2 : (((rd_T83 l0 x5_1).f0) == a1_0 && ((((rd_T83 l0 x5_1).f1.f0) == a1_1 && (((rd_T83 l0 x5_1).f1.f1) == a1_2)) && (((rd_T83 l0 x5_1).f2) == a1_3 && ((((rd_T83 l0 x5_1).f3.f0) == a1_4 && (((rd_T83 l0 x5_1).f3.f1) == a1_5)) && ((((rd_T83 l0 x5_1).f4.f0) == a1_6 && (((rd_T83 l0 x5_1).f4.f1) == a1_7)) && (((rd_T83 l0 x5_1).f5) == a1_8 && (((rd_T83 l0 x5_1).f6) == a1_9))))))) = true := by simpa using c8))
     clear c8
     (first | rw [c8b0] | (simp only [i64_w, i32_w]; rw [c8b0]) | skip)
     obtain rfl := Option.some.inj H
     go_wp2
     repeat (go_quiet (fail); try go_wp2)
     go_ret
     exact ⟨eq_, bl_⟩
    ·rw [if_neg c8] at H
     have c8b0 : (((rd_T83 l0 x5_1).f0) == a1_0 && ((((rd_T83 l0 x5_1).f1.f0) == a1_1 && (((rd_T83 l0 x5_1).f1.f1) == a1_2)) && (((rd_T83 l0 x5_1).f2) == a1_3 && ((((rd_T83 l0 x5_1).f3.f0) == a1_4 && (((rd_T83 l0 x5_1).f3.f1) == a1_5)) && ((((rd_T83 l0 x5_1).f4.f0) == a1_6 && (((rd_T83 l0 x5_1).f4.f1) == a1_7)) && (((rd_T83 l0 x5_1).f5) == a1_8 && (((rd_T83 l0 x5_1).f6) == a1_9))))))) = false := by simpa using c8
     (try (have c8b1 : decide (((rd_T83 l0 x5_1).f0) = a1_0 && ((((rd_T83 l0 x5_1).f1.f0) == a1_1 && (((rd_T83 l0 x5_1).f1.f1) == a1_2)) && (((rd_T83 l0 x5_1).f2) == a1_3 && ((((rd_T83 l0 x5_1).f3.f0) == a1_4 && (((rd_T83 l0 x5_1).f3.f1) == a1_5)) && ((((rd_T83 l0 x5_1).f4.f0) == a1_6 && (((rd_T83 l0 x5_1).f4.f1) == a1_7)) && (((rd_T83 l0 x5_1).f5) == a1_8 && (((rd_T83 l0 x5_1).f6) == a1_9))))))) = false := by simpa using c8))
     (try (have c8b2 : (((rd_T83 l0 x5_1).f0) == a1_0 && ((((rd_T83 l0 x5_1).f1.f0) == a1_1 && (((rd_T83 l0 x5_1).f1.f1) == a1_2)) && (((rd_T83 l0 x5_1).f2) == a1_3 && ((((rd_T83 l0 x5_1).f3.f0) == a1_4 && (((rd_T83 l0 x5_1).f3.f1) == a1_5)) && ((((rd_T83 l0 x5_1).f4.f0) == a1_6 && (((rd_T83 l0 x5_1).f4.f1) == a1_7)) && (((rd_T83 l0 x5_1).f5) == a1_8 && (((rd_T83 l0 x5_1).f6) == a1_9))))))) = false := by simpa using c8))
     (try (have c8b3 : ¬ (((rd_T83 l0 x5_1).f0) = a1_0 && ((((rd_T83 l0 x5_1).f1.f0) == a1_1 && (((rd_T83 l0 x5_1).f1.f1) == a1_2)) && (((rd_T83 l0 x5_1).f2) == a1_3 && ((((rd_T83 l0 x5_1).f3.f0) == a1_4 && (((rd_T83 l0 x5_1).f3.f1) == a1_5)) && ((((rd_T83 l0 x5_1).f4.f0) == a1_6 && (((rd_T83 l0 x5_1).f4.f1) == a1_7)) && (((rd_T83 l0 x5_1).f5) == a1_8 && (((rd_T83 l0 x5_1).f6) == a1_9))))))) := by simpa using c8))
     clear c8
     (first | rw [c8b0] | (simp only [i64_w, i32_w]; rw [c8b0]) | skip)
     have H' := aa_ H
     clear H
     go_wp2
     repeat (go_quiet (fail); try go_wp2)
     go_roundg k1
     case measure => have := HK1.out; omega
     case rel => exact ⟨(wrap64 (x5_1 + 1)), rf_, H', ⟨by have := HK1.out; omega⟩, ⟨bk_ BK240⟩, ⟨bl_⟩⟩
   ·rw [if_neg c4] at H
    have c4b0 : decide (x5_1 < (l0.length : Int)) = false := decide_eq_false c4
    clear c4
    obtain rfl := Option.some.inj H
    go_wp2
    repeat (go_quiet (fail); try go_wp2)
    go_ret
    exact ⟨eq_, bl_⟩
end Go.Proofs.YteofimccoadmeaaGreat.PA
