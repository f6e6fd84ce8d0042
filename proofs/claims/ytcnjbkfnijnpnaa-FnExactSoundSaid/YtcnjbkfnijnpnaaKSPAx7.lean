import Derived.Test.YtcnjbkfnijnpnaaKSPAx6
-- printed by wip/tools
namespace Go.Proofs.Ytcnjbkfnijnpnaa.PA
open Go.RowKit Go.Proofs.YtcnjbkfnijnpnaaW.PrintWords Go.Proofs.YtcnjbkfnijnpnaaW.PrintLast Go.Proofs.YtcnjbkfnijnpnaaW.PrintMore
attribute [local go_sem] max2_int min2_int max_two min_two max_three min_three max_four min_four
set_option linter.unusedVariables false
set_option linter.unusedSimpArgs false
attribute [local go_sem high] eqA57 eqA61
mutual
def spec_ProofOk.j0 : Nat → List (S80) → Int → Bool → Option (Bool)
 | 0, _, _, _ => none
 | k + 1, x0, x7, x25 => if x25 = true then (some false) else (spec_ProofOk.l0 k x0 x7 0)
def spec_ProofOk.l0 : Nat → List (S80) → Int → Int → Option (Bool)
 | 0, _, _, _ => none
 | k + 1, x0, x7, x8 => if x8 < x7 then ((spec_StepOk.f k x0 x8).bind fun t182 => (if t182 = true then (spec_ProofOk.l0 k x0 x7 (wrap64 (x8 + 1))) else (some false))) else (some true)
end
def spec_ProofOk.f (k : Nat) (l0 : List (S80)) (a1_0 : Int) (a1_1 : Int) (a2 : Int) : Option (Bool) := (spec_l01In.f (l0.length : Int) 1 200).bind fun t180 => (if t180 = true then (if 0 ≤ (wrap64 ((l0.length : Int) - 1)) then (if (wrap64 ((l0.length : Int) - 1)) < (l0.length : Int) then (spec_ProofOk.j0 k l0 (l0.length : Int) ((!(((rd_T80 l0 (wrap64 ((l0.length : Int) - 1))).f1.f0.f0) == a1_0) || (!(((rd_T80 l0 (wrap64 ((l0.length : Int) - 1))).f1.f0.f1) == a1_1))) || (!(((rd_T80 l0 (wrap64 ((l0.length : Int) - 1))).f1.f1) == a2)))) else (none)) else (none)) else (spec_ProofOk.j0 k l0 (l0.length : Int) true))
set_option maxHeartbeats 8000000 in
set_option maxRecDepth 100000 in
theorem spec_ProofOk.calls (k : Nat) (A0 : Option Addr) (c0 : Nat) (l0 : List (S80)) (a1_0 : Int) (a1_1 : Int) (a2 : Int) (r : Bool) (w : World) (hr0 : Kd.C k80 w A0 l0.length l0) (hc0 : l0.length ≤ c0) (h : spec_ProofOk.f k l0 a1_0 a1_1 a2 = some r) :
  Calls Try.prog 36 #[.slice A0 l0.length c0, .agg #[.int .i64 a1_0, .int .i64 a1_1], .int .i64 a2] w fun e w' => e = .returned (.bool r) ∧ Below w.heap.size w w' := by
 have hu55 := Try.underlying55
 have hu57 := Try.underlying57
 have HR0 := aa_ hr0
 have HC0 := aa_ hc0
 clear hr0 hc0
 have HB := aa_ (Below.refl w.heap.size w)
 have H : ((spec_l01In.f (l0.length : Int) 1 200).bind fun t180 => (if t180 = true then (if 0 ≤ (wrap64 ((l0.length : Int) - 1)) then (if (wrap64 ((l0.length : Int) - 1)) < (l0.length : Int) then (spec_ProofOk.j0 k l0 (l0.length : Int) ((!(((rd_T80 l0 (wrap64 ((l0.length : Int) - 1))).f1.f0.f0) == a1_0) || (!(((rd_T80 l0 (wrap64 ((l0.length : Int) - 1))).f1.f0.f1) == a1_1))) || (!(((rd_T80 l0 (wrap64 ((l0.length : Int) - 1))).f1.f1) == a2)))) else (none)) else (none)) else (spec_ProofOk.j0 k l0 (l0.length : Int) true))) = some r := h
 clear h
 have HC4 := aa_ H
 clear H
 go_enter Try.func36, Try.ntmps36
 go_upto_region 2 with (first | ((with_reducible refine gD_ 4 rfl ?_); refine bx_ (N := 4) (cs := #[.int .i64 a1_0, .int .i64 a1_1]) (t := 55) ?_; intro gb179 hg w5 hbox hb; have BK179 := aa_ (hbox); have GW179 := gs_ hg; have GE179 := gs_ hg; replace HB := hbs_ hb; clear hb hbox hg))
 repeat (go_quiet (first | ((with_reducible refine gD_ 4 rfl ?_); refine bx_ (N := 4) (cs := #[.int .i64 a1_0, .int .i64 a1_1]) (t := 55) ?_; intro gb179 hg w5 hbox hb; have BK179 := aa_ (hbox); have GW179 := gs_ hg; have GE179 := gs_ hg; replace HB := hbs_ hb; clear hb hbox hg)); go_upto_region 2 with (first | ((with_reducible refine gD_ 4 rfl ?_); refine bx_ (N := 4) (cs := #[.int .i64 a1_0, .int .i64 a1_1]) (t := 55) ?_; intro gb179 hg w5 hbox hb; have BK179 := aa_ (hbox); have GW179 := gs_ hg; have GE179 := gs_ hg; replace HB := hbs_ hb; clear hb hbox hg)))
 (try simp only [Act.put, List.setIfInBounds_toArray, List.set_cons_zero, List.set_cons_succ])
 go_cut [25] (fun v25 wc => ∃ (kq : Nat) (x25_3 : Bool), v25 = .bool x25_3 ∧ Aside0 (spec_ProofOk.j0 kq l0 (l0.length : Int) x25_3 = some r) ∧ Aside0 (kq ≤ k) ∧ Aside0 (wc.heap[gb179]? = some (.cells #[.int .i64 a1_0, .int .i64 a1_1] 55 (0, 0))) ∧ Aside0 (Below w.heap.size w wc))
 case first =>
  have H := HC4.out
  clear HC4
  obtain ⟨t180, A6, H⟩ := bindE_ H
  by_cases c7 : t180 = true
  ·subst c7
   replace H := ite_t_ H
   obtain ⟨ji8, hji8⟩ : ∃ j_ : Int, (wrap64 ((l0.length : Int) - 1)) = j_ := ⟨_, rfl⟩
   replace H : (if 0 ≤ (ji8) then (if (ji8) < (l0.length : Int) then (spec_ProofOk.j0 k l0 (l0.length : Int) ((!(((rd_T80 l0 (ji8)).f1.f0.f0) == a1_0) || (!(((rd_T80 l0 (ji8)).f1.f0.f1) == a1_1))) || (!(((rd_T80 l0 (ji8)).f1.f1) == a2)))) else (none)) else (none)) = some r := by first | (rw [hji8] at H; exact H) | (simp only [hji8] at H ⊢; exact H)
   (try rw [hji8] at A6)
   have hji8w : (IntKind.i64.wrap ((l0.length : Int) - 1)) = ji8 := (i64_w _).trans hji8
   obtain ⟨c9b0, H⟩ := ifd_ H
   (first | rw [c9b0] | (simp only [i64_w, i32_w]; rw [c9b0]) | skip)
   obtain ⟨c10b0, H⟩ := ifd_ H
   have H' := aa_ H
   clear H
   have p181 : 0 ≤ ((ji8) : Int) := od_
   have q181 : (ji8) < (l0.length : Int) := od_
   obtain ⟨ad181, A181_13, c181_13, e181, hx181_0, hx181_1, hx181_2, hx181_3, hx181_4, hx181_5, hx181_6, hx181_7, hx181_8, hx181_9, hx181_10, hx181_11, hx181_12, hx181_13, hl181_13, hi181_13⟩ := at_T80 HR0.out (ji8) p181 q181
   cases e181
   replace hx181_0 := cb_ HB hx181_0
   replace hx181_1 := cb_ HB hx181_1
   replace hx181_2 := cb_ HB hx181_2
   replace hx181_3 := cb_ HB hx181_3
   replace hx181_4 := cb_ HB hx181_4
   replace hx181_5 := cb_ HB hx181_5
   replace hx181_6 := cb_ HB hx181_6
   replace hx181_7 := cb_ HB hx181_7
   replace hx181_8 := cb_ HB hx181_8
   replace hx181_9 := cb_ HB hx181_9
   replace hx181_10 := cb_ HB hx181_10
   replace hx181_11 := cb_ HB hx181_11
   replace hx181_12 := cb_ HB hx181_12
   replace hx181_13 := cb_ HB hx181_13
   have HR181_13 := aa_ hi181_13
   have HC181_13 := aa_ hl181_13
   clear hi181_13 hl181_13
   replace p181 := eq_true p181
   replace q181 := eq_true q181
   have hcz11 := blk_cell BK179.out
   have hfz11 := blk_frozen BK179.out
   go_wp2_with (first | (go_at_call 52; (with_reducible refine (spec_l01In.calls (l0.length : Int) 1 200 true _ A6.out).mono ?_); rintro e w' ⟨rfl, ⟨nd, rfl⟩⟩; (try first | exact ⟨rfl, _, World.drewN_drewN _ _ _⟩ | exact ⟨rfl, _, Eq.trans (World.drewN_drewN _ _ _) (congrArg (World.drewN _) (Nat.add_assoc _ _ _))⟩)))
   repeat (go_quiet (first | (go_at_call 52; (with_reducible refine (spec_l01In.calls (l0.length : Int) 1 200 true _ A6.out).mono ?_); rintro e w' ⟨rfl, ⟨nd, rfl⟩⟩; (try first | exact ⟨rfl, _, World.drewN_drewN _ _ _⟩ | exact ⟨rfl, _, Eq.trans (World.drewN_drewN _ _ _) (congrArg (World.drewN _) (Nat.add_assoc _ _ _))⟩))); try go_wp2_with (first | (go_at_call 52; (with_reducible refine (spec_l01In.calls (l0.length : Int) 1 200 true _ A6.out).mono ?_); rintro e w' ⟨rfl, ⟨nd, rfl⟩⟩; (try first | exact ⟨rfl, _, World.drewN_drewN _ _ _⟩ | exact ⟨rfl, _, Eq.trans (World.drewN_drewN _ _ _) (congrArg (World.drewN _) (Nat.add_assoc _ _ _))⟩))))
   go_meet
   case rel => exact ⟨_, (((!(((rd_T80 l0 (ji8)).f1.f0.f0) == a1_0) || (!(((rd_T80 l0 (ji8)).f1.f0.f1) == a1_1))) || (!(((rd_T80 l0 (ji8)).f1.f1) == a2)))), (by first | rfl | (simp; done) | (simp only [← hji8] <;> (first | rfl | simp)) | (simp [*]; done)), H', ⟨by first | omega | exact Nat.le_refl _⟩, ⟨bk_ BK179⟩, ⟨bl_⟩⟩
  ·replace c7 := Bool.eq_false_iff.mpr c7
   subst c7
   replace H := ite_f_ H
   have H' := aa_ H
   clear H
   go_wp2_with (first | (go_at_call 52; (with_reducible refine (spec_l01In.calls (l0.length : Int) 1 200 false _ A6.out).mono ?_); rintro e w' ⟨rfl, ⟨nd, rfl⟩⟩; (try first | exact ⟨rfl, _, World.drewN_drewN _ _ _⟩ | exact ⟨rfl, _, Eq.trans (World.drewN_drewN _ _ _) (congrArg (World.drewN _) (Nat.add_assoc _ _ _))⟩)))
   repeat (go_quiet (first | (go_at_call 52; (with_reducible refine (spec_l01In.calls (l0.length : Int) 1 200 false _ A6.out).mono ?_); rintro e w' ⟨rfl, ⟨nd, rfl⟩⟩; (try first | exact ⟨rfl, _, World.drewN_drewN _ _ _⟩ | exact ⟨rfl, _, Eq.trans (World.drewN_drewN _ _ _) (congrArg (World.drewN _) (Nat.add_assoc _ _ _))⟩))); try go_wp2_with (first | (go_at_call 52; (with_reducible refine (spec_l01In.calls (l0.length : Int) 1 200 false _ A6.out).mono ?_); rintro e w' ⟨rfl, ⟨nd, rfl⟩⟩; (try first | exact ⟨rfl, _, World.drewN_drewN _ _ _⟩ | exact ⟨rfl, _, Eq.trans (World.drewN_drewN _ _ _) (congrArg (World.drewN _) (Nat.add_assoc _ _ _))⟩))))
   go_meet
   case rel => exact ⟨_, (true), rf_, H', ⟨by first | omega | exact Nat.le_refl _⟩, ⟨bk_ BK179⟩, ⟨bl_⟩⟩
 case rest =>
  clear HC4
  try clear c1
  try clear p1
  try clear q1
  try clear hx1
  try clear p2
  try clear c3
  try clear p6
  try clear c7
  try clear c9
  try clear c9b0
  try clear c10
  try clear c10b0
  try clear hcz11
  try clear hfz11
  try clear hx181_0
  try clear hx181_1
  try clear hx181_10
  try clear hx181_11
  try clear hx181_12
  try clear hx181_13
  try clear hx181_2
  try clear hx181_3
  try clear hx181_4
  try clear hx181_5
  try clear hx181_6
  try clear hx181_7
  try clear hx181_8
  try clear hx181_9
  try clear p181
  try clear q181
  obtain ⟨kq, x25_3, rfl, HA, HJ3, BK179, HB⟩ := hcut
  cases kq with
  | zero => exact absurd HA.out (by simp [spec_ProofOk.j0])
  | succ kj3 =>
   have H := HA.out
   clear HA
   simp only [spec_ProofOk.j0] at H
   by_cases c12 : x25_3 = true
   ·subst c12
    replace H := ite_t_ H
    obtain rfl := Option.some.inj H
    go_wp2
    repeat (go_quiet (fail); try go_wp2)
    go_ret
    exact ⟨eq_, bl_⟩
   ·replace c12 := Bool.eq_false_iff.mpr c12
    subst c12
    replace H := ite_f_ H
    have H' := aa_ H
    clear H
    go_wp2
    repeat (go_quiet (fail); try go_wp2)
    go_loopg [8] kj3 (fun kq v8 w' => ∃ (x8_2 : Int), v8 = .int .i64 x8_2 ∧ Aside0 (spec_ProofOk.l0 kq l0 (l0.length : Int) x8_2 = some r) ∧ Aside0 (kq ≤ kj3) ∧ Aside0 (w'.heap[gb179]? = some (.cells #[.int .i64 a1_0, .int .i64 a1_1] 55 (0, 0))) ∧ Aside0 (Below w.heap.size w w'))
    case atStart => exact ⟨(0), rf_, H', ⟨Nat.le_refl _⟩, ⟨bk_ BK179⟩, ⟨bl_⟩⟩
    case round =>
     clear H'
     try clear c1
     try clear p1
     try clear q1
     try clear hx1
     try clear p2
     try clear c3
     try clear p6
     try clear c7
     try clear c9
     try clear c9b0
     try clear c10
     try clear c10b0
     try clear c12
     try clear hcz11
     try clear hfz11
     try clear hx181_0
     try clear hx181_1
     try clear hx181_10
     try clear hx181_11
     try clear hx181_12
     try clear hx181_13
     try clear hx181_2
     try clear hx181_3
     try clear hx181_4
     try clear hx181_5
     try clear hx181_6
     try clear hx181_7
     try clear hx181_8
     try clear hx181_9
     try clear p1
     try clear p181
     try clear p2
     try clear p6
     try clear q1
     try clear q181
     obtain ⟨x8_2, rfl, HA, HK2, BK179, HB⟩ := hrel
     cases gk with
     | zero => exact absurd HA.out (by simp [spec_ProofOk.l0])
     | succ k2 =>
      have H := HA.out
      clear HA
      simp only [spec_ProofOk.l0] at H
      by_cases c13 : x8_2 < (l0.length : Int)
      ·rw [if_pos c13] at H
       have c13b0 : decide (x8_2 < (l0.length : Int)) = true := decide_eq_true c13
       clear c13
       obtain ⟨t182, A14, H⟩ := bindE_ H
       have HC15 := aa_ H
       clear H
       go_upto_if 34 with (first | (go_at_call 53; (with_reducible refine (spec_StepOk.calls k2 _ _ l0 x8_2 t182 _ ?side1 ?side2 A14.out).mono ?_); (case side1 => repeat (first | exact (Kd.C_below HR0.out HB.out) | (with_reducible refine Kd.C_alloc ?_ _) | (with_reducible refine Kd.C_drewN ?_ _) | (with_reducible refine Kd.C_drew ?_))); (case side2 => exact HC0.out); rintro e w16 ⟨rfl, hb⟩; replace BK179 := bkb_ BK179 hb; replace HB := hbs_ hb; clear hb))
       repeat (go_quiet (first | (go_at_call 53; (with_reducible refine (spec_StepOk.calls k2 _ _ l0 x8_2 t182 _ ?side1 ?side2 A14.out).mono ?_); (case side1 => repeat (first | exact (Kd.C_below HR0.out HB.out) | (with_reducible refine Kd.C_alloc ?_ _) | (with_reducible refine Kd.C_drewN ?_ _) | (with_reducible refine Kd.C_drew ?_))); (case side2 => exact HC0.out); rintro e w16 ⟨rfl, hb⟩; replace BK179 := bkb_ BK179 hb; replace HB := hbs_ hb; clear hb)); go_upto_if 34 with (first | (go_at_call 53; (with_reducible refine (spec_StepOk.calls k2 _ _ l0 x8_2 t182 _ ?side1 ?side2 A14.out).mono ?_); (case side1 => repeat (first | exact (Kd.C_below HR0.out HB.out) | (with_reducible refine Kd.C_alloc ?_ _) | (with_reducible refine Kd.C_drewN ?_ _) | (with_reducible refine Kd.C_drew ?_))); (case side2 => exact HC0.out); rintro e w16 ⟨rfl, hb⟩; replace BK179 := bkb_ BK179 hb; replace HB := hbs_ hb; clear hb)))
       (try simp only [Act.put, List.setIfInBounds_toArray, List.set_cons_zero, List.set_cons_succ])
       have H := HC15.out
       clear HC15
       by_cases c17 : t182 = true
       ·subst c17
        replace H := ite_t_ H
        have H' := aa_ H
        clear H
        go_wp2
        repeat (go_quiet (fail); try go_wp2)
        go_roundg k2
        case measure => have := HJ3.out; have := HK2.out; omega
        case rel => exact ⟨(wrap64 (x8_2 + 1)), rf_, H', ⟨by have := HJ3.out; have := HK2.out; omega⟩, ⟨bk_ BK179⟩, ⟨bl_⟩⟩
       ·replace c17 := Bool.eq_false_iff.mpr c17
        subst c17
        replace H := ite_f_ H
        obtain rfl := Option.some.inj H
        go_wp2
        repeat (go_quiet (fail); try go_wp2)
        go_ret
        exact ⟨eq_, bl_⟩
      ·rw [if_neg c13] at H
       have c13b0 : decide (x8_2 < (l0.length : Int)) = false := decide_eq_false c13
       clear c13
       obtain rfl := Option.some.inj H
       go_wp2
       repeat (go_quiet (fail); try go_wp2)
       go_ret
       exact ⟨eq_, bl_⟩
def spec_Alive.l0 : Nat → List (S61) → Int → List (S61) → Int → Option ((List (S61)))
 | 0, _, _, _, _ => none
 | k + 1, x0, x1, x5, x6 => if x6 < (x0.length : Int) then (if 0 ≤ x6 then ((spec_CredOk.f k ((rd_T61 x0 x6).f0) ((rd_T61 x0 x6).f1.f0) ((rd_T61 x0 x6).f1.f1) ((rd_T61 x0 x6).f2) ((rd_T61 x0 x6).f3.f0) ((rd_T61 x0 x6).f3.f1) ((rd_T61 x0 x6).f4.f0) ((rd_T61 x0 x6).f4.f1) ((rd_T61 x0 x6).f5) ((rd_T61 x0 x6).f6)).bind fun t187 => (if t187 = true then (if ((rd_T61 x0 x6).f5) ≥ x1 then (if x5.length < 1759218604441 then (spec_Alive.l0 k x0 x1 (x5 ++ [(⟨(rd_T61 x0 x6).f0, (⟨(rd_T61 x0 x6).f1.f0, (rd_T61 x0 x6).f1.f1⟩ : S55), (rd_T61 x0 x6).f2, (⟨(rd_T61 x0 x6).f3.f0, (rd_T61 x0 x6).f3.f1⟩ : S55), (⟨(rd_T61 x0 x6).f4.f0, (rd_T61 x0 x6).f4.f1⟩ : S55), (rd_T61 x0 x6).f5, (rd_T61 x0 x6).f6⟩ : S61)]) (wrap64 (x6 + 1))) else (none)) else (spec_Alive.l0 k x0 x1 x5 (wrap64 (x6 + 1)))) else (spec_Alive.l0 k x0 x1 x5 (wrap64 (x6 + 1))))) else (none)) else (some x5)
def spec_Alive.f (k : Nat) (l0 : List (S61)) (a1 : Int) : Option ((List (S61))) := spec_Alive.l0 k l0 a1 (([] : List (S61))) 0
set_option maxHeartbeats 8000000 in
set_option maxRecDepth 100000 in
theorem spec_Alive.calls (k : Nat) (A0 : Option Addr) (c0 : Nat) (l0 : List (S61)) (a1 : Int) (r : List (S61)) (w : World) (hr0 : Kd.C k61 w A0 l0.length l0) (hc0 : l0.length ≤ c0) (h : spec_Alive.f k l0 a1 = some r) :
  Calls Try.prog 37 #[.slice A0 l0.length c0, .int .i64 a1] w fun e w' => ∃ v0_ : Value, e = .returned (v0_) ∧ Kd.R k61 61 w' w.heap.size (fun _ => True) v0_ r ∧ Below w.heap.size w w' := by
 have hu61 := Try.underlying61
 have HR0 := aa_ hr0
 have HC0 := aa_ hc0
 clear hr0 hc0
 have HB := aa_ (Below.refl w.heap.size w)
 have H : (spec_Alive.l0 k l0 a1 (([] : List (S61))) 0) = some r := h
 clear h
 obtain ⟨y183, hy183⟩ : ∃ y_ : List (S61), y_ = (([] : List (S61))) := ⟨_, rfl⟩
 replace H : (spec_Alive.l0 k l0 a1 y183 0) = some r := rh_ hy183 H
 have Ny183 := aa_ hy183
 clear hy183
 have H' := aa_ H
 clear H
 go_enter Try.func37, Try.ntmps37
 go_wp2_with (first | ((with_reducible refine gD_ 7 rfl ?_); refine Kd.R_lit k61 _ 61 ?hg (N := 7) ?hd (xs := ([] : List (S61))) (inner := []) (ok := fun _ => True) (okp := fun _ => True) ?hr ?hp (fun _ hk => hk) trivial (Below.refl _ _) (Nat.le_refl _) (by simp) ?_; (case hd => rfl); (case hg => rfl); (case hr => first | (go_simp; done) | (go_simp; rfl)); (case hp => exact (Reps.none _ _)); intro v184 w3 ho4 hb hg_ hnew_; clear hg_ hnew_; (first | rw [← Ny183.out] at ho4 | (simp only [Int.reduceToNat] at ho4; rw [← Ny183.out] at ho4)); have HO185 := aa_ (Kd.R_lower ho4 bls_); replace HB := hbs_ hb; clear hb ho4))
 go_loopg [5, 6] k (fun kq v5 v6 w' => ∃ (x5_1 : List (S61)) (x6_1 : Int), v6 = .int .i64 x6_1 ∧ Aside0 (spec_Alive.l0 kq l0 a1 x5_1 x6_1 = some r) ∧ Aside0 (kq ≤ k) ∧ Aside0 (Kd.R k61 61 w' w.heap.size (fun _ => True) v5 x5_1) ∧ Aside0 (Below w.heap.size w w'))
 case atStart => exact ⟨(y183), (0), rf_, H', ⟨Nat.le_refl _⟩, ⟨rr_ HO185⟩, ⟨bl_⟩⟩
 case round =>
  clear H'
  try clear p2
  try clear c3
  obtain ⟨x5_1, x6_1, rfl, HA, HK1, HO_5, HB⟩ := hrel
  cases gk with
  | zero => exact absurd HA.out (by simp [spec_Alive.l0])
  | succ k1 =>
   have H := HA.out
   clear HA
   simp only [spec_Alive.l0] at H
   by_cases c5 : x6_1 < (l0.length : Int)
   ·rw [if_pos c5] at H
    have c5b0 : decide (x6_1 < (l0.length : Int)) = true := decide_eq_true c5
    clear c5
    obtain ⟨c6b0, H⟩ := ifd_ H
    obtain ⟨t187, A7, H⟩ := bindE_ H
    by_cases c8 : t187 = true
    ·subst c8
     replace H := ite_t_ H
     have HC9 := aa_ H
     clear H
     have p186 : 0 ≤ (x6_1 : Int) := od_
     have q186 : x6_1 < (l0.length : Int) := od_
     obtain ⟨ad186, e186, hx186_0, hx186_1, hx186_2, hx186_3, hx186_4, hx186_5, hx186_6, hx186_7, hx186_8, hx186_9⟩ := at_T61 (Kd.C_below HR0.out HB.out) x6_1 p186 q186
     cases e186
     replace p186 := eq_true p186
     replace q186 := eq_true q186
     go_upto_if 27 with (first | ((with_reducible refine gC_ 54 rfl ?_); refine goesC_ (some 18) Try.func54 #[.agg #[.int .i64 ((rd_T61 l0 x6_1).f0), .int .i64 ((rd_T61 l0 x6_1).f1.f0), .int .i64 ((rd_T61 l0 x6_1).f1.f1), .int .i64 ((rd_T61 l0 x6_1).f2), .int .i64 ((rd_T61 l0 x6_1).f3.f0), .int .i64 ((rd_T61 l0 x6_1).f3.f1), .int .i64 ((rd_T61 l0 x6_1).f4.f0), .int .i64 ((rd_T61 l0 x6_1).f4.f1), .int .i64 ((rd_T61 l0 x6_1).f5), .int .i64 ((rd_T61 l0 x6_1).f6)]] ?_; (with_reducible refine (spec_CredOk.calls k1 ((rd_T61 l0 x6_1).f0) ((rd_T61 l0 x6_1).f1.f0) ((rd_T61 l0 x6_1).f1.f1) ((rd_T61 l0 x6_1).f2) ((rd_T61 l0 x6_1).f3.f0) ((rd_T61 l0 x6_1).f3.f1) ((rd_T61 l0 x6_1).f4.f0) ((rd_T61 l0 x6_1).f4.f1) ((rd_T61 l0 x6_1).f5) ((rd_T61 l0 x6_1).f6) true _ A7.out).mono ?_); rintro e w10 ⟨rfl, hb⟩; refine ⟨_, rfl, ?_⟩; replace HO_5 := hob_ HO_5 hb; replace HB := hbs_ hb; clear hb; have p188 : 0 ≤ (x6_1 : Int) := od_; have q188 : x6_1 < (l0.length : Int) := od_; obtain ⟨ad188, e188, hx188_0, hx188_1, hx188_2, hx188_3, hx188_4, hx188_5, hx188_6, hx188_7, hx188_8, hx188_9⟩ := at_T61 HR0.out x6_1 p188 q188; obtain rfl : ad186 = ad188 := (by injection e188); replace hx188_0 := cb_ HB hx188_0; replace hx188_1 := cb_ HB hx188_1; replace hx188_2 := cb_ HB hx188_2; replace hx188_3 := cb_ HB hx188_3; replace hx188_4 := cb_ HB hx188_4; replace hx188_5 := cb_ HB hx188_5; replace hx188_6 := cb_ HB hx188_6; replace hx188_7 := cb_ HB hx188_7; replace hx188_8 := cb_ HB hx188_8; replace hx188_9 := cb_ HB hx188_9; replace p188 := eq_true p188; replace q188 := eq_true q188))
     (try simp only [Act.put, List.setIfInBounds_toArray, List.set_cons_zero, List.set_cons_succ])
     have H := HC9.out
     clear HC9
     by_cases c11 : ((rd_T61 l0 x6_1).f5) ≥ a1
     ·rw [if_pos c11] at H
      have c11b0 : decide (a1 ≤ ((rd_T61 l0 x6_1).f5)) = true := decide_eq_true c11
      clear c11
      (first | rw [c11b0] | (simp only [i64_w, i32_w]; rw [c11b0]) | skip)
      obtain ⟨c12, H⟩ := ifn_ H
      have LMc12 := aa_ c12
      clear c12
      obtain ⟨y190, hy190⟩ : ∃ y_ : List (S61), y_ = (x5_1 ++ [(⟨(rd_T61 l0 x6_1).f0, (⟨(rd_T61 l0 x6_1).f1.f0, (rd_T61 l0 x6_1).f1.f1⟩ : S55), (rd_T61 l0 x6_1).f2, (⟨(rd_T61 l0 x6_1).f3.f0, (rd_T61 l0 x6_1).f3.f1⟩ : S55), (⟨(rd_T61 l0 x6_1).f4.f0, (rd_T61 l0 x6_1).f4.f1⟩ : S55), (rd_T61 l0 x6_1).f5, (rd_T61 l0 x6_1).f6⟩ : S61)]) := ⟨_, rfl⟩
      replace H : (spec_Alive.l0 k1 l0 a1 y190 (wrap64 (x6_1 + 1))) = some r := rh_ hy190 H
      have Ny190 := aa_ hy190
      clear hy190
      have H' := aa_ H
      clear H
      have p189 : 0 ≤ (x6_1 : Int) := od_
      have q189 : x6_1 < (l0.length : Int) := od_
      obtain ⟨ad189, e189, hx189_0, hx189_1, hx189_2, hx189_3, hx189_4, hx189_5, hx189_6, hx189_7, hx189_8, hx189_9⟩ := at_T61 HR0.out x6_1 p189 q189
      obtain rfl : ad186 = ad189 := (by injection e189)
      replace hx189_0 := cb_ HB hx189_0
      replace hx189_1 := cb_ HB hx189_1
      replace hx189_2 := cb_ HB hx189_2
      replace hx189_3 := cb_ HB hx189_3
      replace hx189_4 := cb_ HB hx189_4
      replace hx189_5 := cb_ HB hx189_5
      replace hx189_6 := cb_ HB hx189_6
      replace hx189_7 := cb_ HB hx189_7
      replace hx189_8 := cb_ HB hx189_8
      replace hx189_9 := cb_ HB hx189_9
      replace p189 := eq_true p189
      replace q189 := eq_true q189
      go_wp2_with (first | ((with_reducible refine gate_builtin (b := .append) (xs := #[.tmp 28, .tmp 33]) rfl ?_); at_builtin; refine Kd.R_append k61 (w0 := w) w.heap.size rfl (.tmp 28) (.tmp 33) 36 61 (.agg #[(.int .i64 0), (.int .i64 0), (.int .i64 0), (.int .i64 0), (.int .i64 0), (.int .i64 0), (.int .i64 0), (.int .i64 0), (.int .i64 0), (.int .i64 0)]) 80 rfl Try.underlying36 info61 rfl (by decide) (by omega) u5 x5_1 (⟨(rd_T61 l0 x6_1).f0, (⟨(rd_T61 l0 x6_1).f1.f0, (rd_T61 l0 x6_1).f1.f1⟩ : S55), (rd_T61 l0 x6_1).f2, (⟨(rd_T61 l0 x6_1).f3.f0, (rd_T61 l0 x6_1).f3.f1⟩ : S55), (⟨(rd_T61 l0 x6_1).f4.f0, (rd_T61 l0 x6_1).f4.f1⟩ : S55), (rd_T61 l0 x6_1).f5, (rd_T61 l0 x6_1).f6⟩ : S61) [.int .i64 ((rd_T61 l0 x6_1).f0), .int .i64 ((rd_T61 l0 x6_1).f1.f0), .int .i64 ((rd_T61 l0 x6_1).f1.f1), .int .i64 ((rd_T61 l0 x6_1).f2), .int .i64 ((rd_T61 l0 x6_1).f3.f0), .int .i64 ((rd_T61 l0 x6_1).f3.f1), .int .i64 ((rd_T61 l0 x6_1).f4.f0), .int .i64 ((rd_T61 l0 x6_1).f4.f1), .int .i64 ((rd_T61 l0 x6_1).f5), .int .i64 ((rd_T61 l0 x6_1).f6)] (fun _ => True) (fun _ => False) rfl rfl ?aP (fun _ hk => hk.elim) ?aF ?aO ?aB ?aS ?aL ?_; (case aP => exact k61_mkM _ _ _ (⟨(rd_T61 l0 x6_1).f0, (⟨(rd_T61 l0 x6_1).f1.f0, (rd_T61 l0 x6_1).f1.f1⟩ : S55), (rd_T61 l0 x6_1).f2, (⟨(rd_T61 l0 x6_1).f3.f0, (rd_T61 l0 x6_1).f3.f1⟩ : S55), (⟨(rd_T61 l0 x6_1).f4.f0, (rd_T61 l0 x6_1).f4.f1⟩ : S55), (rd_T61 l0 x6_1).f5, (rd_T61 l0 x6_1).f6⟩ : S61)); (case aB => exact bl_); (case aF => exact (fun _ _ => trivial)); (case aO => exact (rr_ HO_5)); (case aS => exact bls_); (case aL => have := LMc12.out; omega); intro v191 w13 ho hb hg hat; rw [← Ny190.out] at ho; replace HB := aa_ (hb); have HO192 := aa_ (ho); clear HO_5; clear ho hb hg hat))
      go_roundg k1
      case measure => have := HK1.out; omega
      case rel => exact ⟨(y190), (wrap64 (x6_1 + 1)), rf_, H', ⟨by have := HK1.out; omega⟩, ⟨rr_ HO192⟩, ⟨bl_⟩⟩
     ·rw [if_neg c11] at H
      have c11b0 : decide (a1 ≤ ((rd_T61 l0 x6_1).f5)) = false := decide_eq_false c11
      clear c11
      (first | rw [c11b0] | (simp only [i64_w, i32_w]; rw [c11b0]) | skip)
      have H' := aa_ H
      clear H
      go_wp2
      go_roundg k1
      case measure => have := HK1.out; omega
      case rel => exact ⟨(x5_1), (wrap64 (x6_1 + 1)), rf_, H', ⟨by have := HK1.out; omega⟩, ⟨rr_ HO_5⟩, ⟨bl_⟩⟩
    ·replace c8 := Bool.eq_false_iff.mpr c8
     subst c8
     replace H := ite_f_ H
     have H' := aa_ H
     clear H
     have p186 : 0 ≤ (x6_1 : Int) := od_
     have q186 : x6_1 < (l0.length : Int) := od_
     obtain ⟨ad186, e186, hx186_0, hx186_1, hx186_2, hx186_3, hx186_4, hx186_5, hx186_6, hx186_7, hx186_8, hx186_9⟩ := at_T61 (Kd.C_below HR0.out HB.out) x6_1 p186 q186
     cases e186
     replace p186 := eq_true p186
     replace q186 := eq_true q186
     go_wp2_with (first | ((with_reducible refine gC_ 54 rfl ?_); refine goesC_ (some 18) Try.func54 #[.agg #[.int .i64 ((rd_T61 l0 x6_1).f0), .int .i64 ((rd_T61 l0 x6_1).f1.f0), .int .i64 ((rd_T61 l0 x6_1).f1.f1), .int .i64 ((rd_T61 l0 x6_1).f2), .int .i64 ((rd_T61 l0 x6_1).f3.f0), .int .i64 ((rd_T61 l0 x6_1).f3.f1), .int .i64 ((rd_T61 l0 x6_1).f4.f0), .int .i64 ((rd_T61 l0 x6_1).f4.f1), .int .i64 ((rd_T61 l0 x6_1).f5), .int .i64 ((rd_T61 l0 x6_1).f6)]] ?_; (with_reducible refine (spec_CredOk.calls k1 ((rd_T61 l0 x6_1).f0) ((rd_T61 l0 x6_1).f1.f0) ((rd_T61 l0 x6_1).f1.f1) ((rd_T61 l0 x6_1).f2) ((rd_T61 l0 x6_1).f3.f0) ((rd_T61 l0 x6_1).f3.f1) ((rd_T61 l0 x6_1).f4.f0) ((rd_T61 l0 x6_1).f4.f1) ((rd_T61 l0 x6_1).f5) ((rd_T61 l0 x6_1).f6) false _ A7.out).mono ?_); rintro e w14 ⟨rfl, hb⟩; refine ⟨_, rfl, ?_⟩; replace HO_5 := hob_ HO_5 hb; replace HB := hbs_ hb; clear hb))
     go_roundg k1
     case measure => have := HK1.out; omega
     case rel => exact ⟨(x5_1), (wrap64 (x6_1 + 1)), rf_, H', ⟨by have := HK1.out; omega⟩, ⟨rr_ HO_5⟩, ⟨bl_⟩⟩
   ·rw [if_neg c5] at H
    have c5b0 : decide (x6_1 < (l0.length : Int)) = false := decide_eq_false c5
    clear c5
    obtain rfl := Option.some.inj H
    go_wp2
    go_ret
    exact ⟨_, eq_, by (with_reducible repeat (first | apply Kd.R_alloc | apply Kd.R_drewN | apply Kd.R_drew)); exact HO_5.out, bl_⟩
def spec_AnswerOk.f (k : Nat) (a0_0 : Bool) (l0_1 : List (S80)) (a0_2 : Int) (a0_3 : Bool) (a0_4 : Bool) (a1_0 : Int) (a1_1 : Int) (a2 : Int) (a3 : Int) : Option (Bool) := if a0_0 = true then ((spec_CredsIn.f k l0_1).bind fun t195 => ((spec_ProofOk.f k l0_1 a1_0 a1_1 a2).bind fun t198 => (if t198 = true then ((spec_Alive.f k t195 a3).bind fun t199 => (some ((t199.length : Int) == (t195.length : Int)))) else (some false)))) else (some ((l0_1.length : Int) == 0))
set_option maxHeartbeats 8000000 in
set_option maxRecDepth 100000 in
theorem spec_AnswerOk.calls (k : Nat) (a0_0 : Bool) (A0_1 : Option Addr) (c0_1 : Nat) (l0_1 : List (S80)) (a0_2 : Int) (a0_3 : Bool) (a0_4 : Bool) (a1_0 : Int) (a1_1 : Int) (a2 : Int) (a3 : Int) (r : Bool) (w : World) (hr0_1 : Kd.C k80 w A0_1 l0_1.length l0_1) (hc0_1 : l0_1.length ≤ c0_1) (h : spec_AnswerOk.f k a0_0 l0_1 a0_2 a0_3 a0_4 a1_0 a1_1 a2 a3 = some r) :
  Calls Try.prog 15 #[.agg #[.bool a0_0, .slice A0_1 l0_1.length c0_1, .int .i64 a0_2, .bool a0_3, .bool a0_4], .agg #[.int .i64 a1_0, .int .i64 a1_1], .int .i64 a2, .int .i64 a3] w fun e w' => e = .returned (.bool r) ∧ Below w.heap.size w w' := by
 have hu51 := Try.underlying51
 have hu55 := Try.underlying55
 have HR0_1 := aa_ hr0_1
 have HC0_1 := aa_ hc0_1
 clear hr0_1 hc0_1
 have HB := aa_ (Below.refl w.heap.size w)
 have H : (if a0_0 = true then ((spec_CredsIn.f k l0_1).bind fun t195 => ((spec_ProofOk.f k l0_1 a1_0 a1_1 a2).bind fun t198 => (if t198 = true then ((spec_Alive.f k t195 a3).bind fun t199 => (some ((t199.length : Int) == (t195.length : Int)))) else (some false)))) else (some ((l0_1.length : Int) == 0))) = some r := h
 clear h
 have HC5 := aa_ H
 clear H
 go_enter Try.func15, Try.ntmps15
 go_upto_if 12 with (first | ((with_reducible refine gD_ 4 rfl ?_); (try (refine gate_guard (by rfl) ?_; dsimp only)); refine bx_ (N := 4) (cs := #[.bool a0_0, .slice A0_1 l0_1.length c0_1, .int .i64 a0_2, .bool a0_3, .bool a0_4]) (t := 51) ?_; intro gb193 hg w6 hbox hb; have BK193 := aa_ (hbox); have GW193 := gs_ hg; have GE193 := gs_ hg; replace HB := hbs_ hb; clear hb hbox hg) | ((with_reducible refine gD_ 5 rfl ?_); (try (refine gate_guard (by rfl) ?_; dsimp only)); refine bx_ (N := 5) (cs := #[.int .i64 a1_0, .int .i64 a1_1]) (t := 55) ?_; intro gb194 hg w7 hbox hb; have BK194 := aa_ (hbox); have GW194 := gs_ hg; have GE194 := gs_ hg; replace HB := hbs_ hb; have NB193_194 := nl_ hg BK193; have NB194_193 := nr_ hg BK193; replace BK193 := bkb_ BK193 hb; clear hb hbox hg; have hnb8 := NB193_194.out; have hnc8 := NB194_193.out; obtain ⟨hcz9, hfz9⟩ := bcf_ BK193))
 (try simp only [Act.put, List.setIfInBounds_toArray, List.set_cons_zero, List.set_cons_succ])
 have H := HC5.out
 clear HC5
 by_cases c10 : a0_0 = true
 ·subst c10
  replace H := ite_t_ H
  obtain ⟨t195, A11, H⟩ := bindE_ H
  obtain ⟨t198, A12, H⟩ := bindE_ H
  by_cases c13 : t198 = true
  ·subst c13
   replace H := ite_t_ H
   obtain ⟨t199, A14, H⟩ := bindE_ H
   obtain rfl := Option.some.inj H
   have hnb15 := NB193_194.out
   have hnc15 := NB194_193.out
   have hcz16 := blk_cell BK193.out
   have hfz16 := blk_frozen BK193.out
   go_wp2_with (first | ((with_reducible refine gC_ 14 rfl ?_); refine goesC_ (some 19) Try.func14 #[.slice A0_1 l0_1.length c0_1] ?_; (with_reducible refine (spec_CredsIn.calls k _ _ l0_1 t195 _ ?side1 ?side2 A11.out).mono ?_); (case side1 => repeat (first | exact (Kd.C_below HR0_1.out HB.out) | (with_reducible refine Kd.C_alloc ?_ _) | (with_reducible refine Kd.C_drewN ?_ _) | (with_reducible refine Kd.C_drew ?_))); (case side2 => exact HC0_1.out); rintro e w17 ⟨v196, rfl, ho0, hb⟩; refine ⟨_, rfl, ?_⟩; have HO197 := aa_ (Kd.R_lower ho0 bls_); replace BK193 := bkb_ BK193 hb; replace BK194 := bkb_ BK194 hb; replace HB := hbs_ hb; (try clear hb ho0); obtain ⟨hcz18, hfz18⟩ := bcf_ BK193; obtain ⟨hcz19, hfz19⟩ := bcf_ BK194) | ((with_reducible refine gC_ 36 rfl ?_); refine goesC_ (some 24) Try.func36 #[.slice A0_1 l0_1.length c0_1, .agg #[.int .i64 a1_0, .int .i64 a1_1], .int .i64 a2] ?_; (with_reducible refine (spec_ProofOk.calls k _ _ l0_1 a1_0 a1_1 a2 true _ ?side1 ?side2 A12.out).mono ?_); (case side1 => repeat (first | exact (Kd.C_below HR0_1.out HB.out) | (with_reducible refine Kd.C_alloc ?_ _) | (with_reducible refine Kd.C_drewN ?_ _) | (with_reducible refine Kd.C_drew ?_))); (case side2 => exact HC0_1.out); rintro e w20 ⟨rfl, hb⟩; refine ⟨_, rfl, ?_⟩; replace HO197 := hob_ HO197 hb; replace BK193 := bkb_ BK193 hb; replace BK194 := bkb_ BK194 hb; replace HB := hbs_ hb; clear hb; obtain ⟨Ao21, co21, eo21⟩ := Kd.R_slice HO197.out; subst eo21) | (go_at_call 37; (with_reducible refine (spec_Alive.calls k _ _ t195 a3 t199 _ ?side1 ?side2 A14.out).mono ?_); (case side1 => repeat (first | exact (Kd.R_reads' HO197.out).2.2 | (with_reducible refine Kd.C_alloc ?_ _) | (with_reducible refine Kd.C_drewN ?_ _) | (with_reducible refine Kd.C_drew ?_))); (case side2 => exact (Kd.R_reads' HO197.out).2.1); rintro e w22 ⟨v200, rfl, ho0, hb⟩; have HO201 := aa_ (Kd.R_lower (Kd.R_new' ho0 (Kd.R_lt (rr_ HO197))) bls_); replace HO197 := aa_ (Kd.R_elder' (rr_ HO197) (Kd.R_base ho0) hb); replace BK193 := bkb_ BK193 hb; replace BK194 := bkb_ BK194 hb; replace HB := hbs_ hb; (try clear ho0); obtain ⟨Ao23, co23, eo23⟩ := Kd.R_slice HO201.out; subst eo23))
   go_ret
   exact ⟨eq_, bl_⟩
  ·replace c13 := Bool.eq_false_iff.mpr c13
   subst c13
   replace H := ite_f_ H
   obtain rfl := Option.some.inj H
   have hnb24 := NB193_194.out
   have hnc24 := NB194_193.out
   have hcz25 := blk_cell BK193.out
   have hfz25 := blk_frozen BK193.out
   go_wp2_with (first | ((with_reducible refine gC_ 14 rfl ?_); refine goesC_ (some 19) Try.func14 #[.slice A0_1 l0_1.length c0_1] ?_; (with_reducible refine (spec_CredsIn.calls k _ _ l0_1 t195 _ ?side1 ?side2 A11.out).mono ?_); (case side1 => repeat (first | exact (Kd.C_below HR0_1.out HB.out) | (with_reducible refine Kd.C_alloc ?_ _) | (with_reducible refine Kd.C_drewN ?_ _) | (with_reducible refine Kd.C_drew ?_))); (case side2 => exact HC0_1.out); rintro e w26 ⟨v196, rfl, ho0, hb⟩; refine ⟨_, rfl, ?_⟩; have HO197 := aa_ (Kd.R_lower ho0 bls_); replace BK193 := bkb_ BK193 hb; replace BK194 := bkb_ BK194 hb; replace HB := hbs_ hb; (try clear hb ho0); obtain ⟨hcz27, hfz27⟩ := bcf_ BK193; obtain ⟨hcz28, hfz28⟩ := bcf_ BK194) | ((with_reducible refine gC_ 36 rfl ?_); refine goesC_ (some 24) Try.func36 #[.slice A0_1 l0_1.length c0_1, .agg #[.int .i64 a1_0, .int .i64 a1_1], .int .i64 a2] ?_; (with_reducible refine (spec_ProofOk.calls k _ _ l0_1 a1_0 a1_1 a2 false _ ?side1 ?side2 A12.out).mono ?_); (case side1 => repeat (first | exact (Kd.C_below HR0_1.out HB.out) | (with_reducible refine Kd.C_alloc ?_ _) | (with_reducible refine Kd.C_drewN ?_ _) | (with_reducible refine Kd.C_drew ?_))); (case side2 => exact HC0_1.out); rintro e w29 ⟨rfl, hb⟩; refine ⟨_, rfl, ?_⟩; replace HO197 := hob_ HO197 hb; replace BK193 := bkb_ BK193 hb; replace BK194 := bkb_ BK194 hb; replace HB := hbs_ hb; clear hb))
   go_ret
   exact ⟨eq_, bl_⟩
 ·replace c10 := Bool.eq_false_iff.mpr c10
  subst c10
  replace H := ite_f_ H
  obtain rfl := Option.some.inj H
  have hnb30 := NB193_194.out
  have hnc30 := NB194_193.out
  have hcz31 := blk_cell BK193.out
  have hfz31 := blk_frozen BK193.out
  go_wp2
  go_ret
  exact ⟨eq_, bl_⟩
def spec_l16Least.l0 : Nat → List (S61) → Int → Int → Option (Int)
 | 0, _, _, _ => none
 | k + 1, x0, x3, x4 => if x4 < (x0.length : Int) then (if 0 ≤ x4 then (if ((rd_T61 x0 x4).f5) < x3 then (spec_l16Least.l0 k x0 ((rd_T61 x0 x4).f5) (wrap64 (x4 + 1))) else (spec_l16Least.l0 k x0 x3 (wrap64 (x4 + 1)))) else (none)) else (some x3)
def spec_l16Least.f (k : Nat) (l0 : List (S61)) : Option (Int) := spec_l16Least.l0 k l0 10000 0
set_option maxHeartbeats 8000000 in
set_option maxRecDepth 100000 in
theorem spec_l16Least.calls (k : Nat) (A0 : Option Addr) (c0 : Nat) (l0 : List (S61)) (r : Int) (w : World) (hr0 : Kd.C k61 w A0 l0.length l0) (hc0 : l0.length ≤ c0) (h : spec_l16Least.f k l0 = some r) :
  Calls Try.prog 16 #[.slice A0 l0.length c0] w fun e w' => e = .returned (.int .i64 r) ∧ Drawn0 w w' := by
 have HR0 := aa_ hr0
 have HC0 := aa_ hc0
 clear hr0 hc0
 have H : (spec_l16Least.l0 k l0 10000 0) = some r := h
 clear h
 have H' := aa_ H
 clear H
 go_enter Try.func16, Try.ntmps16
 go_wp2
 go_loopg [3, 4] k (fun kq v3 v4 w' => ∃ (x3_1 : Int) (x4_1 : Int), v3 = .int .i64 x3_1 ∧ v4 = .int .i64 x4_1 ∧ Aside0 (spec_l16Least.l0 kq l0 x3_1 x4_1 = some r) ∧ Aside0 (kq ≤ k) ∧ Drawn0 w w')
 case atStart => exact ⟨(10000), (0), rf_, rf_, H', ⟨Nat.le_refl _⟩, by repeat (first | exact Drawn0.refl _ | apply Drawn0.step)⟩
 case round =>
  clear H'
  try clear c1
  obtain ⟨x3_1, x4_1, rfl, rfl, HA, HK1, ⟨m1, rfl⟩⟩ := hrel
  cases gk with
  | zero => exact absurd HA.out (by simp [spec_l16Least.l0])
  | succ k1 =>
   have H := HA.out
   clear HA
   simp only [spec_l16Least.l0] at H
   by_cases c2 : x4_1 < (l0.length : Int)
   ·rw [if_pos c2] at H
    have c2b0 : decide (x4_1 < (l0.length : Int)) = true := decide_eq_true c2
    clear c2
    obtain ⟨c3b0, H⟩ := ifd_ H
    have HC4 := aa_ H
    clear H
    have p202 : 0 ≤ (x4_1 : Int) := od_
    have q202 : x4_1 < (l0.length : Int) := od_
    obtain ⟨ad202, e202, hx202_0, hx202_1, hx202_2, hx202_3, hx202_4, hx202_5, hx202_6, hx202_7, hx202_8, hx202_9⟩ := at_T61 HR0.out x4_1 p202 q202
    cases e202
    replace p202 := eq_true p202
    replace q202 := eq_true q202
    go_upto_if 17 with (fail)
    have H := HC4.out
    clear HC4
    by_cases c5 : ((rd_T61 l0 x4_1).f5) < x3_1
    ·rw [if_pos c5] at H
     have c5b0 : decide (((rd_T61 l0 x4_1).f5) < x3_1) = true := decide_eq_true c5
     clear c5
     (first | rw [c5b0] | (simp only [i64_w, i32_w]; rw [c5b0]) | skip)
     have H' := aa_ H
     clear H
     have p203 : 0 ≤ (x4_1 : Int) := od_
     have q203 : x4_1 < (l0.length : Int) := od_
     obtain ⟨ad203, e203, hx203_0, hx203_1, hx203_2, hx203_3, hx203_4, hx203_5, hx203_6, hx203_7, hx203_8, hx203_9⟩ := at_T61 HR0.out x4_1 p203 q203
     obtain rfl : ad202 = ad203 := (by injection e203)
     replace p203 := eq_true p203
     replace q203 := eq_true q203
     go_wp2
     go_roundg k1
     case measure => have := HK1.out; omega
     case rel => exact ⟨((rd_T61 l0 x4_1).f5), (wrap64 (x4_1 + 1)), rf_, rf_, H', ⟨by have := HK1.out; omega⟩, by repeat (first | exact Drawn0.refl _ | apply Drawn0.step)⟩
    ·rw [if_neg c5] at H
     have c5b0 : decide (((rd_T61 l0 x4_1).f5) < x3_1) = false := decide_eq_false c5
     clear c5
     (first | rw [c5b0] | (simp only [i64_w, i32_w]; rw [c5b0]) | skip)
     have H' := aa_ H
     clear H
     go_wp2
     go_roundg k1
     case measure => have := HK1.out; omega
     case rel => exact ⟨(x3_1), (wrap64 (x4_1 + 1)), rf_, rf_, H', ⟨by have := HK1.out; omega⟩, by repeat (first | exact Drawn0.refl _ | apply Drawn0.step)⟩
   ·rw [if_neg c2] at H
    have c2b0 : decide (x4_1 < (l0.length : Int)) = false := decide_eq_false c2
    clear c2
    obtain rfl := Option.some.inj H
    go_wp2
    go_ret
    exact ⟨by first | rfl | (simp; done) | (simp [*]; done), by repeat (first | exact Drawn0.refl _ | apply Drawn0.step)⟩
def spec_l14Said.l0 : Nat → List (S61) → Int → Int → Int → Int → Int → Int → Int → Int → Int → Int → Int → Option (Bool)
 | 0, _, _, _, _, _, _, _, _, _, _, _, _ => none
 | k + 1, x0, x5, x205000, x205001, x205002, x205003, x205004, x205005, x205006, x205007, x205008, x205009 => if x5 < (x0.length : Int) then (if 0 ≤ x5 then (if (((rd_T61 x0 x5).f0) == x205000 && ((((rd_T61 x0 x5).f1.f0) == x205001 && (((rd_T61 x0 x5).f1.f1) == x205002)) && (((rd_T61 x0 x5).f2) == x205003 && ((((rd_T61 x0 x5).f3.f0) == x205004 && (((rd_T61 x0 x5).f3.f1) == x205005)) && ((((rd_T61 x0 x5).f4.f0) == x205006 && (((rd_T61 x0 x5).f4.f1) == x205007)) && (((rd_T61 x0 x5).f5) == x205008 && (((rd_T61 x0 x5).f6) == x205009))))))) = true then (some true) else (spec_l14Said.l0 k x0 (wrap64 (x5 + 1)) x205000 x205001 x205002 x205003 x205004 x205005 x205006 x205007 x205008 x205009)) else (none)) else (some false)
def spec_l14Said.f (k : Nat) (l0 : List (S61)) (a1_0 : Int) (a1_1 : Int) (a1_2 : Int) (a1_3 : Int) (a1_4 : Int) (a1_5 : Int) (a1_6 : Int) (a1_7 : Int) (a1_8 : Int) (a1_9 : Int) : Option (Bool) := spec_l14Said.l0 k l0 0 a1_0 a1_1 a1_2 a1_3 a1_4 a1_5 a1_6 a1_7 a1_8 a1_9
set_option maxHeartbeats 8000000 in
set_option maxRecDepth 100000 in
theorem spec_l14Said.calls (k : Nat) (A0 : Option Addr) (c0 : Nat) (l0 : List (S61)) (a1_0 : Int) (a1_1 : Int) (a1_2 : Int) (a1_3 : Int) (a1_4 : Int) (a1_5 : Int) (a1_6 : Int) (a1_7 : Int) (a1_8 : Int) (a1_9 : Int) (r : Bool) (w : World) (hr0 : Kd.C k61 w A0 l0.length l0) (hc0 : l0.length ≤ c0) (h : spec_l14Said.f k l0 a1_0 a1_1 a1_2 a1_3 a1_4 a1_5 a1_6 a1_7 a1_8 a1_9 = some r) :
  Calls Try.prog 17 #[.slice A0 l0.length c0, .agg #[.int .i64 a1_0, .int .i64 a1_1, .int .i64 a1_2, .int .i64 a1_3, .int .i64 a1_4, .int .i64 a1_5, .int .i64 a1_6, .int .i64 a1_7, .int .i64 a1_8, .int .i64 a1_9]] w fun e w' => e = .returned (.bool r) ∧ Below w.heap.size w w' := by
 have hu61 := Try.underlying61
 have HR0 := aa_ hr0
 have HC0 := aa_ hc0
 clear hr0 hc0
 have HB := aa_ (Below.refl w.heap.size w)
 have H : (spec_l14Said.l0 k l0 0 a1_0 a1_1 a1_2 a1_3 a1_4 a1_5 a1_6 a1_7 a1_8 a1_9) = some r := h
 clear h
 have H' := aa_ H
 clear H
 go_enter Try.func17, Try.ntmps17
 go_wp2_with (first | ((with_reducible refine gD_ 3 rfl ?_); refine bx_ (N := 3) (cs := #[.int .i64 a1_0, .int .i64 a1_1, .int .i64 a1_2, .int .i64 a1_3, .int .i64 a1_4, .int .i64 a1_5, .int .i64 a1_6, .int .i64 a1_7, .int .i64 a1_8, .int .i64 a1_9]) (t := 61) ?_; intro gb204 hg w3 hbox hb; have BK204 := aa_ (hbox); have GW204 := gs_ hg; have GE204 := gs_ hg; replace HB := hbs_ hb; clear hb hbox hg))
 repeat (go_quiet (first | ((with_reducible refine gD_ 3 rfl ?_); refine bx_ (N := 3) (cs := #[.int .i64 a1_0, .int .i64 a1_1, .int .i64 a1_2, .int .i64 a1_3, .int .i64 a1_4, .int .i64 a1_5, .int .i64 a1_6, .int .i64 a1_7, .int .i64 a1_8, .int .i64 a1_9]) (t := 61) ?_; intro gb204 hg w3 hbox hb; have BK204 := aa_ (hbox); have GW204 := gs_ hg; have GE204 := gs_ hg; replace HB := hbs_ hb; clear hb hbox hg)); try go_wp2_with (first | ((with_reducible refine gD_ 3 rfl ?_); refine bx_ (N := 3) (cs := #[.int .i64 a1_0, .int .i64 a1_1, .int .i64 a1_2, .int .i64 a1_3, .int .i64 a1_4, .int .i64 a1_5, .int .i64 a1_6, .int .i64 a1_7, .int .i64 a1_8, .int .i64 a1_9]) (t := 61) ?_; intro gb204 hg w3 hbox hb; have BK204 := aa_ (hbox); have GW204 := gs_ hg; have GE204 := gs_ hg; replace HB := hbs_ hb; clear hb hbox hg)))
 go_loopg [5] k (fun kq v5 w' => ∃ (x5_1 : Int), v5 = .int .i64 x5_1 ∧ Aside0 (spec_l14Said.l0 kq l0 x5_1 a1_0 a1_1 a1_2 a1_3 a1_4 a1_5 a1_6 a1_7 a1_8 a1_9 = some r) ∧ Aside0 (kq ≤ k) ∧ Aside0 (w'.heap[gb204]? = some (.cells #[.int .i64 a1_0, .int .i64 a1_1, .int .i64 a1_2, .int .i64 a1_3, .int .i64 a1_4, .int .i64 a1_5, .int .i64 a1_6, .int .i64 a1_7, .int .i64 a1_8, .int .i64 a1_9] 61 (0, 0))) ∧ Aside0 (Below w.heap.size w w'))
 case atStart => exact ⟨(0), rf_, H', ⟨Nat.le_refl _⟩, ⟨bk_ BK204⟩, ⟨bl_⟩⟩
 case round =>
  clear H'
  try clear c1
  try clear p2
  obtain ⟨x5_1, rfl, HA, HK1, BK204, HB⟩ := hrel
  cases gk with
  | zero => exact absurd HA.out (by simp [spec_l14Said.l0])
  | succ k1 =>
   have H := HA.out
   clear HA
   simp only [spec_l14Said.l0] at H
   by_cases c4 : x5_1 < (l0.length : Int)
   ·rw [if_pos c4] at H
    have c4b0 : decide (x5_1 < (l0.length : Int)) = true := decide_eq_true c4
    clear c4
    obtain ⟨c5b0, H⟩ := ifd_ H
    have HC6 := aa_ H
    clear H
    have p205 : 0 ≤ (x5_1 : Int) := od_
    have q205 : x5_1 < (l0.length : Int) := od_
    obtain ⟨ad205, e205, hx205_0, hx205_1, hx205_2, hx205_3, hx205_4, hx205_5, hx205_6, hx205_7, hx205_8, hx205_9⟩ := at_T61 (Kd.C_below HR0.out HB.out) x5_1 p205 q205
    cases e205
    replace p205 := eq_true p205
    replace q205 := eq_true q205
    have hcz7 := blk_cell BK204.out
    have hfz7 := blk_frozen BK204.out
    go_upto_if 17 with (fail)
    repeat (go_quiet (fail); go_upto_if 17 with (fail))
    have H := HC6.out
    clear HC6
    by_cases c8 : (((rd_T61 l0 x5_1).f0) == a1_0 && ((((rd_T61 l0 x5_1).f1.f0) == a1_1 && (((rd_T61 l0 x5_1).f1.f1) == a1_2)) && (((rd_T61 l0 x5_1).f2) == a1_3 && ((((rd_T61 l0 x5_1).f3.f0) == a1_4 && (((rd_T61 l0 x5_1).f3.f1) == a1_5)) && ((((rd_T61 l0 x5_1).f4.f0) == a1_6 && (((rd_T61 l0 x5_1).f4.f1) == a1_7)) && (((rd_T61 l0 x5_1).f5) == a1_8 && (((rd_T61 l0 x5_1).f6) == a1_9))))))) = true
    ·rw [if_pos c8] at H
     have c8b0 : (((rd_T61 l0 x5_1).f0) == a1_0 && ((((rd_T61 l0 x5_1).f1.f0) == a1_1 && (((rd_T61 l0 x5_1).f1.f1) == a1_2)) && (((rd_T61 l0 x5_1).f2) == a1_3 && ((((rd_T61 l0 x5_1).f3.f0) == a1_4 && (((rd_T61 l0 x5_1).f3.f1) == a1_5)) && ((((rd_T61 l0 x5_1).f4.f0) == a1_6 && (((rd_T61 l0 x5_1).f4.f1) == a1_7)) && (((rd_T61 l0 x5_1).f5) == a1_8 && (((rd_T61 l0 x5_1).f6) == a1_9))))))) = true := c8
     (try (have c8b1 : decide (((rd_T61 l0 x5_1).f0) = a1_0 && ((((rd_T61 l0 x5_1).f1.f0) == a1_1 && (((rd_T61 l0 x5_1).f1.f1) == a1_2)) && (((rd_T61 l0 x5_1).f2) == a1_3 && ((((rd_T61 l0 x5_1).f3.f0) == a1_4 && (((rd_T61 l0 x5_1).f3.f1) == a1_5)) && ((((rd_T61 l0 x5_1).f4.f0) == a1_6 && (((rd_T61 l0 x5_1).f4.f1) == a1_7)) && (((rd_T61 l0 x5_1).f5) == a1_8 && (((rd_T61 l0 x5_1).f6) == a1_9))))))) = true := by simpa using c8))
     (try (have c8b2 : (((rd_T61 l0 x5_1).f0) == a1_0 && ((((rd_T61 l0 x5_1).f1.f0) == a1_1 && (((rd_T61 l0 x5_1).f1.f1) == a1_2)) && (((rd_T61 l0 x5_1).f2) == a1_3 && ((((rd_T61 l0 x5_1).f3.f0) == a1_4 && (((rd_T61 l0 x5_1).f3.f1) == a1_5)) && ((((rd_T61 l0 x5_1).f4.f0) == a1_6 && (((rd_T61 l0 x5_1).f4.f1) == a1_7)) && (((rd_T61 l0 x5_1).f5) == a1_8 && (((rd_T61 l0 x5_1).f6) == a1_9))))))) = true := by simpa using c8))
     clear c8
     (first | rw [c8b0] | (simp only [i64_w, i32_w]; rw [c8b0]) | skip)
     obtain rfl := Option.some.inj H
     go_wp2
     repeat (go_quiet (fail); try go_wp2)
     go_ret
     exact ⟨eq_, bl_⟩
    ·rw [if_neg c8] at H
     have c8b0 : (((rd_T61 l0 x5_1).f0) == a1_0 && ((((rd_T61 l0 x5_1).f1.f0) == a1_1 && (((rd_T61 l0 x5_1).f1.f1) == a1_2)) && (((rd_T61 l0 x5_1).f2) == a1_3 && ((((rd_T61 l0 x5_1).f3.f0) == a1_4 && (((rd_T61 l0 x5_1).f3.f1) == a1_5)) && ((((rd_T61 l0 x5_1).f4.f0) == a1_6 && (((rd_T61 l0 x5_1).f4.f1) == a1_7)) && (((rd_T61 l0 x5_1).f5) == a1_8 && (((rd_T61 l0 x5_1).f6) == a1_9))))))) = false := by simpa using c8
     (try (have c8b1 : decide (((rd_T61 l0 x5_1).f0) = a1_0 && ((((rd_T61 l0 x5_1).f1.f0) == a1_1 && (((rd_T61 l0 x5_1).f1.f1) == a1_2)) && (((rd_T61 l0 x5_1).f2) == a1_3 && ((((rd_T61 l0 x5_1).f3.f0) == a1_4 && (((rd_T61 l0 x5_1).f3.f1) == a1_5)) && ((((rd_T61 l0 x5_1).f4.f0) == a1_6 && (((rd_T61 l0 x5_1).f4.f1) == a1_7)) && (((rd_T61 l0 x5_1).f5) == a1_8 && (((rd_T61 l0 x5_1).f6) == a1_9))))))) = false := by simpa using c8))
     (try (have c8b2 : (((rd_T61 l0 x5_1).f0) == a1_0 && ((((rd_T61 l0 x5_1).f1.f0) == a1_1 && (((rd_T61 l0 x5_1).f1.f1) == a1_2)) && (((rd_T61 l0 x5_1).f2) == a1_3 && ((((rd_T61 l0 x5_1).f3.f0) == a1_4 && (((rd_T61 l0 x5_1).f3.f1) == a1_5)) && ((((rd_T61 l0 x5_1).f4.f0) == a1_6 && (((rd_T61 l0 x5_1).f4.f1) == a1_7)) && (((rd_T61 l0 x5_1).f5) == a1_8 && (((rd_T61 l0 x5_1).f6) == a1_9))))))) = false := by simpa using c8))
     (try (have c8b3 : ¬ (((rd_T61 l0 x5_1).f0) = a1_0 && ((((rd_T61 l0 x5_1).f1.f0) == a1_1 && (((rd_T61 l0 x5_1).f1.f1) == a1_2)) && (((rd_T61 l0 x5_1).f2) == a1_3 && ((((rd_T61 l0 x5_1).f3.f0) == a1_4 && (((rd_T61 l0 x5_1).f3.f1) == a1_5)) && ((((rd_T61 l0 x5_1).f4.f0) == a1_6 && (((rd_T61 l0 x5_1).f4.f1) == a1_7)) && (((rd_T61 l0 x5_1).f5) == a1_8 && (((rd_T61 l0 x5_1).f6) == a1_9))))))) := by simpa using c8))
     clear c8
     (first | rw [c8b0] | (simp only [i64_w, i32_w]; rw [c8b0]) | skip)
     have H' := aa_ H
     clear H
     go_wp2
     repeat (go_quiet (fail); try go_wp2)
     go_roundg k1
     case measure => have := HK1.out; omega
     case rel => exact ⟨(wrap64 (x5_1 + 1)), rf_, H', ⟨by have := HK1.out; omega⟩, ⟨bk_ BK204⟩, ⟨bl_⟩⟩
   ·rw [if_neg c4] at H
    have c4b0 : decide (x5_1 < (l0.length : Int)) = false := decide_eq_false c4
    clear c4
    obtain rfl := Option.some.inj H
    go_wp2
    repeat (go_quiet (fail); try go_wp2)
    go_ret
    exact ⟨eq_, bl_⟩
end Go.Proofs.Ytcnjbkfnijnpnaa.PA
