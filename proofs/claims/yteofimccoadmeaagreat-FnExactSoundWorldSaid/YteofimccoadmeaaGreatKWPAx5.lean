import Derived.Test.YteofimccoadmeaaGreatKWPAx4
-- printed by wip/tools
namespace Go.Proofs.YteofimccoadmeaaGreat.PA
open Go.RowKit Go.Proofs.YteofimccoadmeaaGreatW.PrintWords Go.Proofs.YteofimccoadmeaaGreatW.PrintLast Go.Proofs.YteofimccoadmeaaGreatW.PrintMore
attribute [local go_sem] max2_int min2_int max_two min_two max_three min_three max_four min_four
set_option linter.unusedVariables false
set_option linter.unusedSimpArgs false
mutual
def spec_PeerOk.j0 : Nat → Bool → Int → Bool → Int → List Int → List Int → List (S108) → Option (Bool)
 | 0, _, _, _, _, _, _, _ => none
 | k + 1, x56, x136000, x136001, x136002, x136003, x136004, x136005 => if x56 = true then (some false) else (spec_PeerOk.l0 k 0 x136000 x136001 x136002 x136003 x136004 x136005)
def spec_PeerOk.l0 : Nat → Int → Int → Bool → Int → List Int → List Int → List (S108) → Option (Bool)
 | 0, _, _, _, _, _, _, _ => none
 | k + 1, x3, x136000, x136001, x136002, x136003, x136004, x136005 => if x3 < (x136003.length : Int) then (if 0 ≤ x3 then ((spec_l01In.f (rd x136003 x3) 0 255).bind fun t139 => (if t139 = true then (if (rd x136003 x3) = x136000 then (some false) else (spec_PeerOk.l0 k (wrap64 (x3 + 1)) x136000 x136001 x136002 x136003 x136004 x136005)) else (some false))) else (none)) else (spec_PeerOk.l1 k 0 x136000 x136001 x136002 x136003 x136004 x136005)
def spec_PeerOk.l1 : Nat → Int → Int → Bool → Int → List Int → List Int → List (S108) → Option (Bool)
 | 0, _, _, _, _, _, _, _ => none
 | k + 1, x4, x136000, x136001, x136002, x136003, x136004, x136005 => if x4 < (x136004.length : Int) then (if 0 ≤ x4 then ((spec_l01In.f (rd x136004 x4) (-1) 255).bind fun t142 => (if t142 = true then (spec_PeerOk.l1 k (wrap64 (x4 + 1)) x136000 x136001 x136002 x136003 x136004 x136005) else (some false))) else (none)) else (spec_PeerOk.l2 k 0 x136000 x136001 x136002 x136003 x136004 x136005)
def spec_PeerOk.l2 : Nat → Int → Int → Bool → Int → List Int → List Int → List (S108) → Option (Bool)
 | 0, _, _, _, _, _, _, _ => none
 | k + 1, x5, x136000, x136001, x136002, x136003, x136004, x136005 => if x5 < (x136005.length : Int) then (if 0 ≤ x5 then ((spec_l01In.f ((rd_T108 x136005 x5).f0) 0 255).bind fun t145 => (if t145 = true then (if x5 > 0 then (if 0 ≤ (wrap64 (x5 - 1)) then (if (wrap64 (x5 - 1)) < (x136005.length : Int) then (if ((rd_T108 x136005 (wrap64 (x5 - 1))).f0) ≥ ((rd_T108 x136005 x5).f0) then (some false) else ((spec_l09Items.f k ((rd_T108 x136005 x5).f1)).bind fun t147 => (if t147 = true then (spec_PeerOk.l2 k (wrap64 (x5 + 1)) x136000 x136001 x136002 x136003 x136004 x136005) else (some false)))) else (none)) else (none)) else ((spec_l09Items.f k ((rd_T108 x136005 x5).f1)).bind fun t148 => (if t148 = true then (spec_PeerOk.l2 k (wrap64 (x5 + 1)) x136000 x136001 x136002 x136003 x136004 x136005) else (some false)))) else (some false))) else (none)) else (some true)
end
def spec_PeerOk.f (k : Nat) (a0_0 : Int) (a0_1 : Bool) (a0_2 : Int) (l0_3 : List Int) (l0_4 : List Int) (l0_5 : List (S108)) : Option (Bool) := (spec_l01In.f a0_0 0 255).bind fun t136 => (if t136 = true then (if a0_1 = true then ((spec_l01In.f a0_2 (-1) 255).bind fun t137 => (if t137 = true then (if (l0_3.length : Int) > 3 then (spec_PeerOk.j0 k true a0_0 a0_1 a0_2 l0_3 l0_4 l0_5) else (if (l0_4.length : Int) = 8 then (spec_PeerOk.j0 k (decide ((l0_5.length : Int) > 80)) a0_0 a0_1 a0_2 l0_3 l0_4 l0_5) else (spec_PeerOk.j0 k true a0_0 a0_1 a0_2 l0_3 l0_4 l0_5))) else (spec_PeerOk.j0 k true a0_0 a0_1 a0_2 l0_3 l0_4 l0_5))) else (if a0_2 = 0 then (if (l0_3.length : Int) = 0 then (if (l0_4.length : Int) = 0 then (some ((l0_5.length : Int) == 0)) else (some false)) else (some false)) else (some false))) else (some false))
set_option maxHeartbeats 8000000 in
set_option maxRecDepth 100000 in
theorem spec_PeerOk.calls (k : Nat) (a0_0 : Int) (a0_1 : Bool) (a0_2 : Int) (A0_3 : Option Addr) (c0_3 : Nat) (l0_3 : List Int) (A0_4 : Option Addr) (c0_4 : Nat) (l0_4 : List Int) (A0_5 : Option Addr) (c0_5 : Nat) (l0_5 : List (S108)) (r : Bool) (w : World) (hr0_3 : Kd.C (Kd.int .i64) w A0_3 l0_3.length l0_3) (hc0_3 : l0_3.length ≤ c0_3) (hr0_4 : Kd.C (Kd.int .i64) w A0_4 l0_4.length l0_4) (hc0_4 : l0_4.length ≤ c0_4) (hr0_5 : Kd.C k108 w A0_5 l0_5.length l0_5) (hc0_5 : l0_5.length ≤ c0_5) (h : spec_PeerOk.f k a0_0 a0_1 a0_2 l0_3 l0_4 l0_5 = some r) :
  Calls Tryz.prog 31 #[.agg #[.int .i64 a0_0, .bool a0_1, .int .i64 a0_2, .slice A0_3 l0_3.length c0_3, .slice A0_4 l0_4.length c0_4, .slice A0_5 l0_5.length c0_5]] w fun e w' => e = .returned (.bool r) ∧ Below w.heap.size w w' := by
 have hu68 := Tryz.underlying68
 have hu108 := Tryz.underlying108
 have HR0_3 := aa_ hr0_3
 have HC0_3 := aa_ hc0_3
 clear hr0_3 hc0_3
 have HR0_4 := aa_ hr0_4
 have HC0_4 := aa_ hc0_4
 clear hr0_4 hc0_4
 have HR0_5 := aa_ hr0_5
 have HC0_5 := aa_ hc0_5
 clear hr0_5 hc0_5
 have HB := aa_ (Below.refl w.heap.size w)
 have H : ((spec_l01In.f a0_0 0 255).bind fun t136 => (if t136 = true then (if a0_1 = true then ((spec_l01In.f a0_2 (-1) 255).bind fun t137 => (if t137 = true then (if (l0_3.length : Int) > 3 then (spec_PeerOk.j0 k true a0_0 a0_1 a0_2 l0_3 l0_4 l0_5) else (if (l0_4.length : Int) = 8 then (spec_PeerOk.j0 k (decide ((l0_5.length : Int) > 80)) a0_0 a0_1 a0_2 l0_3 l0_4 l0_5) else (spec_PeerOk.j0 k true a0_0 a0_1 a0_2 l0_3 l0_4 l0_5))) else (spec_PeerOk.j0 k true a0_0 a0_1 a0_2 l0_3 l0_4 l0_5))) else (if a0_2 = 0 then (if (l0_3.length : Int) = 0 then (if (l0_4.length : Int) = 0 then (some ((l0_5.length : Int) == 0)) else (some false)) else (some false)) else (some false))) else (some false))) = some r := h
 clear h
 obtain ⟨t136, A2, H⟩ := bindE_ H
 have HC3 := aa_ H
 clear H
 go_enter Tryz.func31, Tryz.ntmps31
 go_upto_if 10 with (first | ((with_reducible refine gD_ 1 rfl ?_); (try (refine gate_guard (by rfl) ?_; dsimp only)); refine bx_ (N := 1) (cs := #[.int .i64 a0_0, .bool a0_1, .int .i64 a0_2, .slice A0_3 l0_3.length c0_3, .slice A0_4 l0_4.length c0_4, .slice A0_5 l0_5.length c0_5]) (t := 68) ?_; intro gb135 hg w4 hbox hb; have BK135 := aa_ (hbox); have GW135 := gs_ hg; have GE135 := gs_ hg; replace HB := hbs_ hb; clear hb hbox hg; obtain ⟨hcz5, hfz5⟩ := bcf_ BK135) | (go_at_call 30; (with_reducible refine (spec_l01In.calls a0_0 0 255 t136 _ A2.out).mono ?_); rintro e w' ⟨rfl, ⟨nd, rfl⟩⟩; (try first | exact ⟨rfl, _, World.drewN_drewN _ _ _⟩ | exact ⟨rfl, _, Eq.trans (World.drewN_drewN _ _ _) (congrArg (World.drewN _) (Nat.add_assoc _ _ _))⟩)))
 repeat (go_quiet (first | ((with_reducible refine gD_ 1 rfl ?_); (try (refine gate_guard (by rfl) ?_; dsimp only)); refine bx_ (N := 1) (cs := #[.int .i64 a0_0, .bool a0_1, .int .i64 a0_2, .slice A0_3 l0_3.length c0_3, .slice A0_4 l0_4.length c0_4, .slice A0_5 l0_5.length c0_5]) (t := 68) ?_; intro gb135 hg w4 hbox hb; have BK135 := aa_ (hbox); have GW135 := gs_ hg; have GE135 := gs_ hg; replace HB := hbs_ hb; clear hb hbox hg; obtain ⟨hcz5, hfz5⟩ := bcf_ BK135) | (go_at_call 30; (with_reducible refine (spec_l01In.calls a0_0 0 255 t136 _ A2.out).mono ?_); rintro e w' ⟨rfl, ⟨nd, rfl⟩⟩; (try first | exact ⟨rfl, _, World.drewN_drewN _ _ _⟩ | exact ⟨rfl, _, Eq.trans (World.drewN_drewN _ _ _) (congrArg (World.drewN _) (Nat.add_assoc _ _ _))⟩))); go_upto_if 10 with (first | ((with_reducible refine gD_ 1 rfl ?_); (try (refine gate_guard (by rfl) ?_; dsimp only)); refine bx_ (N := 1) (cs := #[.int .i64 a0_0, .bool a0_1, .int .i64 a0_2, .slice A0_3 l0_3.length c0_3, .slice A0_4 l0_4.length c0_4, .slice A0_5 l0_5.length c0_5]) (t := 68) ?_; intro gb135 hg w4 hbox hb; have BK135 := aa_ (hbox); have GW135 := gs_ hg; have GE135 := gs_ hg; replace HB := hbs_ hb; clear hb hbox hg; obtain ⟨hcz5, hfz5⟩ := bcf_ BK135) | (go_at_call 30; (with_reducible refine (spec_l01In.calls a0_0 0 255 t136 _ A2.out).mono ?_); rintro e w' ⟨rfl, ⟨nd, rfl⟩⟩; (try first | exact ⟨rfl, _, World.drewN_drewN _ _ _⟩ | exact ⟨rfl, _, Eq.trans (World.drewN_drewN _ _ _) (congrArg (World.drewN _) (Nat.add_assoc _ _ _))⟩))))
 (try simp only [Act.put, sb_, sz_, ss_])
 have H := HC3.out
 clear HC3
 by_cases c6 : t136 = true
 ·subst c6
  replace H := ite_t_ H
  by_cases c7 : a0_1 = true
  ·subst c7
   replace H := ite_t_ H
   have HC8 := aa_ H
   clear H
   have hcz9 := blk_cell BK135.out
   have hfz9 := blk_frozen BK135.out
   go_upto_region 5 with (fail)
   repeat (go_quiet (fail); go_upto_region 5 with (fail))
   go_cut [56] (fun v56 wc => ∃ (kq : Nat) (x56_7 : Bool), v56 = .bool x56_7 ∧ Aside0 (spec_PeerOk.j0 kq x56_7 a0_0 true a0_2 l0_3 l0_4 l0_5 = some r) ∧ Aside0 (kq ≤ k) ∧ Aside0 (wc.heap[gb135]? = some (.cells #[.int .i64 a0_0, .bool true, .int .i64 a0_2, (.slice A0_3 l0_3.length c0_3), (.slice A0_4 l0_4.length c0_4), (.slice A0_5 l0_5.length c0_5)] 68 (0, 0))) ∧ Aside0 (Below w.heap.size w wc))
   case first =>
    have H := HC8.out
    clear HC8
    obtain ⟨t137, A10, H⟩ := bindE_ H
    by_cases c11 : t137 = true
    ·subst c11
     replace H := ite_t_ H
     by_cases c12 : (l0_3.length : Int) > 3
     ·rw [if_pos c12] at H
      have c12b0 : decide (3 < (l0_3.length : Int)) = true := decide_eq_true c12
      have c12b1 : decide (3 < l0_3.length) = true := decide_eq_true (by omega)
      clear c12
      (first | rw [c12b0] | (simp only [i64_w, i32_w]; rw [c12b0]) | (have cz_ := c12b0; simp only [Int.ofNat_lt, Int.ofNat_le, gt_iff_lt, ge_iff_le] at cz_; rw [cz_]; clear cz_) | skip)
      have H' := aa_ H
      clear H
      have hcz13 := blk_cell BK135.out
      have hfz13 := blk_frozen BK135.out
      go_wp2_with (first | (go_at_call 30; (with_reducible refine (spec_l01In.calls a0_2 (-1) 255 true _ A10.out).mono ?_); rintro e w' ⟨rfl, ⟨nd, rfl⟩⟩; (try first | exact ⟨rfl, _, World.drewN_drewN _ _ _⟩ | exact ⟨rfl, _, Eq.trans (World.drewN_drewN _ _ _) (congrArg (World.drewN _) (Nat.add_assoc _ _ _))⟩)))
      repeat (go_quiet (first | (go_at_call 30; (with_reducible refine (spec_l01In.calls a0_2 (-1) 255 true _ A10.out).mono ?_); rintro e w' ⟨rfl, ⟨nd, rfl⟩⟩; (try first | exact ⟨rfl, _, World.drewN_drewN _ _ _⟩ | exact ⟨rfl, _, Eq.trans (World.drewN_drewN _ _ _) (congrArg (World.drewN _) (Nat.add_assoc _ _ _))⟩))); try go_wp2_with (first | (go_at_call 30; (with_reducible refine (spec_l01In.calls a0_2 (-1) 255 true _ A10.out).mono ?_); rintro e w' ⟨rfl, ⟨nd, rfl⟩⟩; (try first | exact ⟨rfl, _, World.drewN_drewN _ _ _⟩ | exact ⟨rfl, _, Eq.trans (World.drewN_drewN _ _ _) (congrArg (World.drewN _) (Nat.add_assoc _ _ _))⟩))))
      go_meet
      case rel => exact ⟨_, (true), rf_, H', ⟨by first | omega | exact Nat.le_refl _⟩, ⟨bk_ BK135⟩, ⟨bl_⟩⟩
     ·rw [if_neg c12] at H
      have c12b0 : decide (3 < (l0_3.length : Int)) = false := decide_eq_false c12
      have c12b1 : decide (3 < l0_3.length) = false := decide_eq_false (by omega)
      clear c12
      (first | rw [c12b0] | (simp only [i64_w, i32_w]; rw [c12b0]) | (have cz_ := c12b0; simp only [Int.ofNat_lt, Int.ofNat_le, gt_iff_lt, ge_iff_le] at cz_; rw [cz_]; clear cz_) | skip)
      by_cases c14 : (l0_4.length : Int) = 8
      ·rw [if_pos c14] at H
       have c14b0 : ((l0_4.length : Int) == 8) = true := beq_iff_eq.mpr c14
       have c14b1 : ((l0_4.length : Int) != 8) = false := bne_eq_false_iff_eq.mpr c14
       clear c14
       have H' := aa_ H
       clear H
       have hcz15 := blk_cell BK135.out
       have hfz15 := blk_frozen BK135.out
       go_wp2_with (first | (go_at_call 30; (with_reducible refine (spec_l01In.calls a0_2 (-1) 255 true _ A10.out).mono ?_); rintro e w' ⟨rfl, ⟨nd, rfl⟩⟩; (try first | exact ⟨rfl, _, World.drewN_drewN _ _ _⟩ | exact ⟨rfl, _, Eq.trans (World.drewN_drewN _ _ _) (congrArg (World.drewN _) (Nat.add_assoc _ _ _))⟩)))
       repeat (go_quiet (first | (go_at_call 30; (with_reducible refine (spec_l01In.calls a0_2 (-1) 255 true _ A10.out).mono ?_); rintro e w' ⟨rfl, ⟨nd, rfl⟩⟩; (try first | exact ⟨rfl, _, World.drewN_drewN _ _ _⟩ | exact ⟨rfl, _, Eq.trans (World.drewN_drewN _ _ _) (congrArg (World.drewN _) (Nat.add_assoc _ _ _))⟩))); try go_wp2_with (first | (go_at_call 30; (with_reducible refine (spec_l01In.calls a0_2 (-1) 255 true _ A10.out).mono ?_); rintro e w' ⟨rfl, ⟨nd, rfl⟩⟩; (try first | exact ⟨rfl, _, World.drewN_drewN _ _ _⟩ | exact ⟨rfl, _, Eq.trans (World.drewN_drewN _ _ _) (congrArg (World.drewN _) (Nat.add_assoc _ _ _))⟩))))
       go_meet
       case rel => exact ⟨_, (decide ((l0_5.length : Int) > 80)), rf_, H', ⟨by first | omega | exact Nat.le_refl _⟩, ⟨bk_ BK135⟩, ⟨bl_⟩⟩
      ·rw [if_neg c14] at H
       have c14b0 : ((l0_4.length : Int) == 8) = false := beq_eq_false_iff_ne.mpr c14
       have c14b1 : ((l0_4.length : Int) != 8) = true := bne_iff_ne.mpr c14
       have H' := aa_ H
       clear H
       have hcz16 := blk_cell BK135.out
       have hfz16 := blk_frozen BK135.out
       go_wp2_with (first | (go_at_call 30; (with_reducible refine (spec_l01In.calls a0_2 (-1) 255 true _ A10.out).mono ?_); rintro e w' ⟨rfl, ⟨nd, rfl⟩⟩; (try first | exact ⟨rfl, _, World.drewN_drewN _ _ _⟩ | exact ⟨rfl, _, Eq.trans (World.drewN_drewN _ _ _) (congrArg (World.drewN _) (Nat.add_assoc _ _ _))⟩)))
       repeat (go_quiet (first | (go_at_call 30; (with_reducible refine (spec_l01In.calls a0_2 (-1) 255 true _ A10.out).mono ?_); rintro e w' ⟨rfl, ⟨nd, rfl⟩⟩; (try first | exact ⟨rfl, _, World.drewN_drewN _ _ _⟩ | exact ⟨rfl, _, Eq.trans (World.drewN_drewN _ _ _) (congrArg (World.drewN _) (Nat.add_assoc _ _ _))⟩))); try go_wp2_with (first | (go_at_call 30; (with_reducible refine (spec_l01In.calls a0_2 (-1) 255 true _ A10.out).mono ?_); rintro e w' ⟨rfl, ⟨nd, rfl⟩⟩; (try first | exact ⟨rfl, _, World.drewN_drewN _ _ _⟩ | exact ⟨rfl, _, Eq.trans (World.drewN_drewN _ _ _) (congrArg (World.drewN _) (Nat.add_assoc _ _ _))⟩))))
       go_meet
       case rel => exact ⟨_, (true), rf_, H', ⟨by first | omega | exact Nat.le_refl _⟩, ⟨bk_ BK135⟩, ⟨bl_⟩⟩
    ·replace c11 := Bool.eq_false_iff.mpr c11
     subst c11
     replace H := ite_f_ H
     have H' := aa_ H
     clear H
     have hcz17 := blk_cell BK135.out
     have hfz17 := blk_frozen BK135.out
     go_wp2_with (first | (go_at_call 30; (with_reducible refine (spec_l01In.calls a0_2 (-1) 255 false _ A10.out).mono ?_); rintro e w' ⟨rfl, ⟨nd, rfl⟩⟩; (try first | exact ⟨rfl, _, World.drewN_drewN _ _ _⟩ | exact ⟨rfl, _, Eq.trans (World.drewN_drewN _ _ _) (congrArg (World.drewN _) (Nat.add_assoc _ _ _))⟩)))
     repeat (go_quiet (first | (go_at_call 30; (with_reducible refine (spec_l01In.calls a0_2 (-1) 255 false _ A10.out).mono ?_); rintro e w' ⟨rfl, ⟨nd, rfl⟩⟩; (try first | exact ⟨rfl, _, World.drewN_drewN _ _ _⟩ | exact ⟨rfl, _, Eq.trans (World.drewN_drewN _ _ _) (congrArg (World.drewN _) (Nat.add_assoc _ _ _))⟩))); try go_wp2_with (first | (go_at_call 30; (with_reducible refine (spec_l01In.calls a0_2 (-1) 255 false _ A10.out).mono ?_); rintro e w' ⟨rfl, ⟨nd, rfl⟩⟩; (try first | exact ⟨rfl, _, World.drewN_drewN _ _ _⟩ | exact ⟨rfl, _, Eq.trans (World.drewN_drewN _ _ _) (congrArg (World.drewN _) (Nat.add_assoc _ _ _))⟩))))
     go_meet
     case rel => exact ⟨_, (true), rf_, H', ⟨by first | omega | exact Nat.le_refl _⟩, ⟨bk_ BK135⟩, ⟨bl_⟩⟩
   case rest =>
    clear HC8
    try clear p2
    try clear c12b0
    try clear c12b1
    try clear c14b0
    try clear c14b1
    try clear hcz13
    try clear hcz15
    try clear hcz16
    try clear hcz17
    try clear hcz5
    try clear hcz9
    try clear hfz13
    try clear hfz15
    try clear hfz16
    try clear hfz17
    try clear hfz5
    try clear hfz9
    obtain ⟨kq, x56_7, rfl, HA, HJ7, BK135, HB⟩ := hcut
    cases kq with
    | zero => exact absurd HA.out (by simp [spec_PeerOk.j0])
    | succ kj7 =>
     have H := HA.out
     clear HA
     simp only [spec_PeerOk.j0] at H
     by_cases c18 : x56_7 = true
     ·subst c18
      replace H := ite_t_ H
      obtain rfl := Option.some.inj H
      go_wp2
      repeat (go_quiet (fail); try go_wp2)
      go_ret
      exact ⟨eq_, bl_⟩
     ·replace c18 := Bool.eq_false_iff.mpr c18
      subst c18
      replace H := ite_f_ H
      have H' := aa_ H
      clear H
      go_wp2
      repeat (go_quiet (fail); try go_wp2)
      go_loopg [3] kj7 (fun kq v3 w' => ∃ (x3_2 : Int), v3 = .int .i64 x3_2 ∧ Aside0 (spec_PeerOk.l0 kq x3_2 a0_0 true a0_2 l0_3 l0_4 l0_5 = some r) ∧ Aside0 (kq ≤ kj7) ∧ Aside0 (w'.heap[gb135]? = some (.cells #[.int .i64 a0_0, .bool true, .int .i64 a0_2, (.slice A0_3 l0_3.length c0_3), (.slice A0_4 l0_4.length c0_4), (.slice A0_5 l0_5.length c0_5)] 68 (0, 0))) ∧ Aside0 (Below w.heap.size w w'))
      case atStart => exact ⟨(0), rf_, H', ⟨Nat.le_refl _⟩, ⟨bk_ BK135⟩, ⟨bl_⟩⟩
      case round =>
       clear H'
       try clear p2
       try clear c12b0
       try clear c12b1
       try clear c14b0
       try clear c14b1
       try clear hcz13
       try clear hcz15
       try clear hcz16
       try clear hcz17
       try clear hcz5
       try clear hcz9
       try clear hfz13
       try clear hfz15
       try clear hfz16
       try clear hfz17
       try clear hfz5
       try clear hfz9
       try clear p2
       obtain ⟨x3_2, rfl, HA, HK2, BK135, HB⟩ := hrel
       cases gk with
       | zero => exact absurd HA.out (by simp [spec_PeerOk.l0])
       | succ k2 =>
        have H := HA.out
        clear HA
        simp only [spec_PeerOk.l0] at H
        by_cases c19 : x3_2 < (l0_3.length : Int)
        ·rw [if_pos c19] at H
         have c19b0 : decide (x3_2 < (l0_3.length : Int)) = true := decide_eq_true c19
         clear c19
         obtain ⟨c20b0, H⟩ := ifd_ H
         obtain ⟨t139, A21, H⟩ := bindE_ H
         by_cases c22 : t139 = true
         ·subst c22
          replace H := ite_t_ H
          have HC23 := aa_ H
          clear H
          have hcz24 := blk_cell BK135.out
          have hfz24 := blk_frozen BK135.out
          have p138 : 0 ≤ (x3_2 : Int) := od_
          have q138 : x3_2 < (l0_3.length : Int) := od_
          obtain ⟨ad138, e138, hx138_0⟩ := Kd.at_int (Kd.C_below HR0_3.out HB.out) x3_2 p138 q138
          cases e138
          replace p138 := eq_true p138
          replace q138 := eq_true q138
          go_upto_if 80 with (first | (go_at_call 30; (with_reducible refine (spec_l01In.calls (rd l0_3 x3_2) 0 255 true _ A21.out).mono ?_); rintro e w' ⟨rfl, ⟨nd, rfl⟩⟩; (try first | exact ⟨rfl, _, World.drewN_drewN _ _ _⟩ | exact ⟨rfl, _, Eq.trans (World.drewN_drewN _ _ _) (congrArg (World.drewN _) (Nat.add_assoc _ _ _))⟩); have p140 : 0 ≤ (x3_2 : Int) := od_; have q140 : x3_2 < (l0_3.length : Int) := od_; obtain ⟨ad140, e140, hx140_0⟩ := Kd.at_int HR0_3.out x3_2 p140 q140; obtain rfl : ad138 = ad140 := (by injection e140); replace hx140_0 := cb_ HB hx140_0; replace p140 := eq_true p140; replace q140 := eq_true q140))
          repeat (go_quiet (first | (go_at_call 30; (with_reducible refine (spec_l01In.calls (rd l0_3 x3_2) 0 255 true _ A21.out).mono ?_); rintro e w' ⟨rfl, ⟨nd, rfl⟩⟩; (try first | exact ⟨rfl, _, World.drewN_drewN _ _ _⟩ | exact ⟨rfl, _, Eq.trans (World.drewN_drewN _ _ _) (congrArg (World.drewN _) (Nat.add_assoc _ _ _))⟩); have p140 : 0 ≤ (x3_2 : Int) := od_; have q140 : x3_2 < (l0_3.length : Int) := od_; obtain ⟨ad140, e140, hx140_0⟩ := Kd.at_int HR0_3.out x3_2 p140 q140; obtain rfl : ad138 = ad140 := (by injection e140); replace hx140_0 := cb_ HB hx140_0; replace p140 := eq_true p140; replace q140 := eq_true q140)); go_upto_if 80 with (first | (go_at_call 30; (with_reducible refine (spec_l01In.calls (rd l0_3 x3_2) 0 255 true _ A21.out).mono ?_); rintro e w' ⟨rfl, ⟨nd, rfl⟩⟩; (try first | exact ⟨rfl, _, World.drewN_drewN _ _ _⟩ | exact ⟨rfl, _, Eq.trans (World.drewN_drewN _ _ _) (congrArg (World.drewN _) (Nat.add_assoc _ _ _))⟩); have p140 : 0 ≤ (x3_2 : Int) := od_; have q140 : x3_2 < (l0_3.length : Int) := od_; obtain ⟨ad140, e140, hx140_0⟩ := Kd.at_int HR0_3.out x3_2 p140 q140; obtain rfl : ad138 = ad140 := (by injection e140); replace hx140_0 := cb_ HB hx140_0; replace p140 := eq_true p140; replace q140 := eq_true q140)))
          (try simp only [Act.put, sb_, sz_, ss_])
          have H := HC23.out
          clear HC23
          by_cases c25 : (rd l0_3 x3_2) = a0_0
          ·rw [if_pos c25] at H
           have c25b0 : ((rd l0_3 x3_2) == a0_0) = true := beq_iff_eq.mpr c25
           have c25b1 : ((rd l0_3 x3_2) != a0_0) = false := bne_eq_false_iff_eq.mpr c25
           clear c25
           (first | rw [c25b0] | (simp only [i64_w, i32_w]; rw [c25b0]) | skip)
           obtain rfl := Option.some.inj H
           go_wp2
           repeat (go_quiet (fail); try go_wp2)
           go_ret
           exact ⟨eq_, bl_⟩
          ·rw [if_neg c25] at H
           have c25b0 : ((rd l0_3 x3_2) == a0_0) = false := beq_eq_false_iff_ne.mpr c25
           have c25b1 : ((rd l0_3 x3_2) != a0_0) = true := bne_iff_ne.mpr c25
           (first | rw [c25b0] | (simp only [i64_w, i32_w]; rw [c25b0]) | skip)
           have H' := aa_ H
           clear H
           go_wp2
           repeat (go_quiet (fail); try go_wp2)
           go_roundg k2
           case measure => have := HJ7.out; have := HK2.out; omega
           case rel => exact ⟨(wrap64 (x3_2 + 1)), rf_, H', ⟨by have := HJ7.out; have := HK2.out; omega⟩, ⟨bk_ BK135⟩, ⟨bl_⟩⟩
         ·replace c22 := Bool.eq_false_iff.mpr c22
          subst c22
          replace H := ite_f_ H
          obtain rfl := Option.some.inj H
          have hcz26 := blk_cell BK135.out
          have hfz26 := blk_frozen BK135.out
          have p138 : 0 ≤ (x3_2 : Int) := od_
          have q138 : x3_2 < (l0_3.length : Int) := od_
          obtain ⟨ad138, e138, hx138_0⟩ := Kd.at_int (Kd.C_below HR0_3.out HB.out) x3_2 p138 q138
          cases e138
          replace p138 := eq_true p138
          replace q138 := eq_true q138
          go_wp2_with (first | (go_at_call 30; (with_reducible refine (spec_l01In.calls (rd l0_3 x3_2) 0 255 false _ A21.out).mono ?_); rintro e w' ⟨rfl, ⟨nd, rfl⟩⟩; (try first | exact ⟨rfl, _, World.drewN_drewN _ _ _⟩ | exact ⟨rfl, _, Eq.trans (World.drewN_drewN _ _ _) (congrArg (World.drewN _) (Nat.add_assoc _ _ _))⟩)))
          repeat (go_quiet (first | (go_at_call 30; (with_reducible refine (spec_l01In.calls (rd l0_3 x3_2) 0 255 false _ A21.out).mono ?_); rintro e w' ⟨rfl, ⟨nd, rfl⟩⟩; (try first | exact ⟨rfl, _, World.drewN_drewN _ _ _⟩ | exact ⟨rfl, _, Eq.trans (World.drewN_drewN _ _ _) (congrArg (World.drewN _) (Nat.add_assoc _ _ _))⟩))); try go_wp2_with (first | (go_at_call 30; (with_reducible refine (spec_l01In.calls (rd l0_3 x3_2) 0 255 false _ A21.out).mono ?_); rintro e w' ⟨rfl, ⟨nd, rfl⟩⟩; (try first | exact ⟨rfl, _, World.drewN_drewN _ _ _⟩ | exact ⟨rfl, _, Eq.trans (World.drewN_drewN _ _ _) (congrArg (World.drewN _) (Nat.add_assoc _ _ _))⟩))))
          go_ret
          exact ⟨eq_, bl_⟩
        ·rw [if_neg c19] at H
         have c19b0 : decide (x3_2 < (l0_3.length : Int)) = false := decide_eq_false c19
         clear c19
         have H' := aa_ H
         clear H
         have hcz27 := blk_cell BK135.out
         have hfz27 := blk_frozen BK135.out
         go_wp2
         repeat (go_quiet (fail); try go_wp2)
         go_loopg [4] k2 (fun kq v4 w' => ∃ (x4_3 : Int), v4 = .int .i64 x4_3 ∧ Aside0 (spec_PeerOk.l1 kq x4_3 a0_0 true a0_2 l0_3 l0_4 l0_5 = some r) ∧ Aside0 (kq ≤ k2) ∧ Aside0 (w'.heap[gb135]? = some (.cells #[.int .i64 a0_0, .bool true, .int .i64 a0_2, (.slice A0_3 l0_3.length c0_3), (.slice A0_4 l0_4.length c0_4), (.slice A0_5 l0_5.length c0_5)] 68 (0, 0))) ∧ Aside0 (Below w.heap.size w w'))
         case atStart => exact ⟨(0), rf_, H', ⟨Nat.le_refl _⟩, ⟨bk_ BK135⟩, ⟨bl_⟩⟩
         case round =>
          clear H'
          try clear p1
          try clear q1
          try clear hx1
          try clear p2
          try clear p6
          try clear c12b0
          try clear c12b1
          try clear p13
          try clear q13
          try clear hx13
          try clear c14b0
          try clear c14b1
          try clear p14
          try clear q14
          try clear hx14
          try clear c19b0
          try clear c20b0
          try clear c25b0
          try clear c25b1
          try clear hcz13
          try clear hcz15
          try clear hcz16
          try clear hcz17
          try clear hcz24
          try clear hcz26
          try clear hcz27
          try clear hcz5
          try clear hcz9
          try clear hfz13
          try clear hfz15
          try clear hfz16
          try clear hfz17
          try clear hfz24
          try clear hfz26
          try clear hfz27
          try clear hfz5
          try clear hfz9
          try clear hx138_0
          try clear hx140_0
          try clear p138
          try clear p140
          try clear p2
          try clear q138
          try clear q140
          obtain ⟨x4_3, rfl, HA, HK3, BK135, HB⟩ := hrel
          cases gk with
          | zero => exact absurd HA.out (by simp [spec_PeerOk.l1])
          | succ k3 =>
           have H := HA.out
           clear HA
           simp only [spec_PeerOk.l1] at H
           by_cases c28 : x4_3 < (l0_4.length : Int)
           ·rw [if_pos c28] at H
            have c28b0 : decide (x4_3 < (l0_4.length : Int)) = true := decide_eq_true c28
            clear c28
            obtain ⟨c29b0, H⟩ := ifd_ H
            obtain ⟨t142, A30, H⟩ := bindE_ H
            have HC31 := aa_ H
            clear H
            have hcz32 := blk_cell BK135.out
            have hfz32 := blk_frozen BK135.out
            have p141 : 0 ≤ (x4_3 : Int) := od_
            have q141 : x4_3 < (l0_4.length : Int) := od_
            obtain ⟨ad141, e141, hx141_0⟩ := Kd.at_int (Kd.C_below HR0_4.out HB.out) x4_3 p141 q141
            cases e141
            replace p141 := eq_true p141
            replace q141 := eq_true q141
            go_upto_if 94 with (first | (go_at_call 30; (with_reducible refine (spec_l01In.calls (rd l0_4 x4_3) (-1) 255 t142 _ A30.out).mono ?_); rintro e w' ⟨rfl, ⟨nd, rfl⟩⟩; (try first | exact ⟨rfl, _, World.drewN_drewN _ _ _⟩ | exact ⟨rfl, _, Eq.trans (World.drewN_drewN _ _ _) (congrArg (World.drewN _) (Nat.add_assoc _ _ _))⟩)))
            repeat (go_quiet (first | (go_at_call 30; (with_reducible refine (spec_l01In.calls (rd l0_4 x4_3) (-1) 255 t142 _ A30.out).mono ?_); rintro e w' ⟨rfl, ⟨nd, rfl⟩⟩; (try first | exact ⟨rfl, _, World.drewN_drewN _ _ _⟩ | exact ⟨rfl, _, Eq.trans (World.drewN_drewN _ _ _) (congrArg (World.drewN _) (Nat.add_assoc _ _ _))⟩))); go_upto_if 94 with (first | (go_at_call 30; (with_reducible refine (spec_l01In.calls (rd l0_4 x4_3) (-1) 255 t142 _ A30.out).mono ?_); rintro e w' ⟨rfl, ⟨nd, rfl⟩⟩; (try first | exact ⟨rfl, _, World.drewN_drewN _ _ _⟩ | exact ⟨rfl, _, Eq.trans (World.drewN_drewN _ _ _) (congrArg (World.drewN _) (Nat.add_assoc _ _ _))⟩))))
            (try simp only [Act.put, sb_, sz_, ss_])
            have H := HC31.out
            clear HC31
            by_cases c33 : t142 = true
            ·subst c33
             replace H := ite_t_ H
             have H' := aa_ H
             clear H
             go_wp2
             repeat (go_quiet (fail); try go_wp2)
             go_roundg k3
             case measure => have := HJ7.out; have := HK2.out; have := HK3.out; omega
             case rel => exact ⟨(wrap64 (x4_3 + 1)), rf_, H', ⟨by have := HJ7.out; have := HK2.out; have := HK3.out; omega⟩, ⟨bk_ BK135⟩, ⟨bl_⟩⟩
            ·replace c33 := Bool.eq_false_iff.mpr c33
             subst c33
             replace H := ite_f_ H
             obtain rfl := Option.some.inj H
             go_wp2
             repeat (go_quiet (fail); try go_wp2)
             go_ret
             exact ⟨eq_, bl_⟩
           ·rw [if_neg c28] at H
            have c28b0 : decide (x4_3 < (l0_4.length : Int)) = false := decide_eq_false c28
            clear c28
            have H' := aa_ H
            clear H
            have hcz34 := blk_cell BK135.out
            have hfz34 := blk_frozen BK135.out
            go_wp2
            repeat (go_quiet (fail); try go_wp2)
            go_loopg [5] k3 (fun kq v5 w' => ∃ (x5_4 : Int), v5 = .int .i64 x5_4 ∧ Aside0 (spec_PeerOk.l2 kq x5_4 a0_0 true a0_2 l0_3 l0_4 l0_5 = some r) ∧ Aside0 (kq ≤ k3) ∧ Aside0 (w'.heap[gb135]? = some (.cells #[.int .i64 a0_0, .bool true, .int .i64 a0_2, (.slice A0_3 l0_3.length c0_3), (.slice A0_4 l0_4.length c0_4), (.slice A0_5 l0_5.length c0_5)] 68 (0, 0))) ∧ Aside0 (Below w.heap.size w w'))
            case atStart => exact ⟨(0), rf_, H', ⟨Nat.le_refl _⟩, ⟨bk_ BK135⟩, ⟨bl_⟩⟩
            case round =>
             clear H'
             try clear p1
             try clear q1
             try clear hx1
             try clear p2
             try clear p6
             try clear c12b0
             try clear c12b1
             try clear p13
             try clear q13
             try clear hx13
             try clear c14b0
             try clear c14b1
             try clear p14
             try clear q14
             try clear hx14
             try clear c19b0
             try clear c20b0
             try clear c25b0
             try clear c25b1
             try clear c28b0
             try clear c29b0
             try clear hcz13
             try clear hcz15
             try clear hcz16
             try clear hcz17
             try clear hcz24
             try clear hcz26
             try clear hcz27
             try clear hcz32
             try clear hcz34
             try clear hcz5
             try clear hcz9
             try clear hfz13
             try clear hfz15
             try clear hfz16
             try clear hfz17
             try clear hfz24
             try clear hfz26
             try clear hfz27
             try clear hfz32
             try clear hfz34
             try clear hfz5
             try clear hfz9
             try clear hx138_0
             try clear hx140_0
             try clear hx141_0
             try clear p1
             try clear p13
             try clear p138
             try clear p14
             try clear p140
             try clear p141
             try clear p2
             try clear p6
             try clear q1
             try clear q13
             try clear q138
             try clear q14
             try clear q140
             try clear q141
             obtain ⟨x5_4, rfl, HA, HK4, BK135, HB⟩ := hrel
             cases gk with
             | zero => exact absurd HA.out (by simp [spec_PeerOk.l2])
             | succ k4 =>
              have H := HA.out
              clear HA
              simp only [spec_PeerOk.l2] at H
              by_cases c35 : x5_4 < (l0_5.length : Int)
              ·rw [if_pos c35] at H
               have c35b0 : decide (x5_4 < (l0_5.length : Int)) = true := decide_eq_true c35
               clear c35
               obtain ⟨c36b0, H⟩ := ifd_ H
               obtain ⟨t145, A37, H⟩ := bindE_ H
               by_cases c38 : t145 = true
               ·subst c38
                replace H := ite_t_ H
                by_cases c39 : x5_4 > 0
                ·rw [if_pos c39] at H
                 have c39b0 : decide (0 < x5_4) = true := decide_eq_true c39
                 clear c39
                 obtain ⟨ji40, hji40⟩ : ∃ j_ : Int, (wrap64 (x5_4 - 1)) = j_ := ⟨_, rfl⟩
                 replace H : (if 0 ≤ (ji40) then (if (ji40) < (l0_5.length : Int) then (if ((rd_T108 l0_5 (ji40)).f0) ≥ ((rd_T108 l0_5 x5_4).f0) then (some false) else ((spec_l09Items.f k4 ((rd_T108 l0_5 x5_4).f1)).bind fun t147 => (if t147 = true then (spec_PeerOk.l2 k4 (wrap64 (x5_4 + 1)) a0_0 true a0_2 l0_3 l0_4 l0_5) else (some false)))) else (none)) else (none)) = some r := by first | (rw [hji40] at H; exact H) | (simp only [hji40] at H ⊢; exact H)
                 (try rw [hji40] at A37)
                 have hji40w : (IntKind.i64.wrap (x5_4 - 1)) = ji40 := (i64_w _).trans hji40
                 obtain ⟨c41b0, H⟩ := ifd_ H
                 obtain ⟨c42b0, H⟩ := ifd_ H
                 by_cases c43 : ((rd_T108 l0_5 (ji40)).f0) ≥ ((rd_T108 l0_5 x5_4).f0)
                 ·rw [if_pos c43] at H
                  have c43b0 : decide (((rd_T108 l0_5 x5_4).f0) ≤ ((rd_T108 l0_5 (ji40)).f0)) = true := decide_eq_true c43
                  clear c43
                  obtain rfl := Option.some.inj H
                  have hcz44 := blk_cell BK135.out
                  have hfz44 := blk_frozen BK135.out
                  have p143 : 0 ≤ (x5_4 : Int) := od_
                  have q143 : x5_4 < (l0_5.length : Int) := od_
                  obtain ⟨ad143, A143_1, c143_1, e143, hx143_0, hx143_1, hl143_1, hi143_1⟩ := at_T108 HR0_5.out x5_4 p143 q143
                  cases e143
                  replace hx143_0 := cb_ HB hx143_0
                  replace hx143_1 := cb_ HB hx143_1
                  have HR143_1 := aa_ hi143_1
                  have HC143_1 := aa_ hl143_1
                  clear hi143_1 hl143_1
                  replace p143 := eq_true p143
                  replace q143 := eq_true q143
                  go_wp2_with (first | ((with_reducible refine gD_ 6 rfl ?_); (try (refine gate_guard (by rfl) ?_; dsimp only)); refine bx_ (N := 6) (cs := #[.int .i64 0, .slice none 0 0]) (t := 108) ?_; intro gb144 hg w45 hbox hb; have BK144 := aa_ (hbox); have GW144 := gs_ hg; have GE144 := gs_ hg; replace HB := hbs_ hb; have NB135_144 := nl_ hg BK135; have NB144_135 := nr_ hg BK135; replace BK135 := bkb_ BK135 hb; clear hb hbox hg; have hnb46 := NB144_135.out; have hnc46 := NB135_144.out; obtain ⟨hcz47, hfz47⟩ := bcf_ BK144) | (go_at_call 30; (with_reducible refine (spec_l01In.calls ((rd_T108 l0_5 x5_4).f0) 0 255 true _ A37.out).mono ?_); rintro e w' ⟨rfl, ⟨nd, rfl⟩⟩; (try first | exact ⟨rfl, _, World.drewN_drewN _ _ _⟩ | exact ⟨rfl, _, Eq.trans (World.drewN_drewN _ _ _) (congrArg (World.drewN _) (Nat.add_assoc _ _ _))⟩); obtain ⟨hcz48, hfz48⟩ := bcf_ BK135; have p146 : 0 ≤ ((ji40) : Int) := od_; have q146 : (ji40) < (l0_5.length : Int) := od_; obtain ⟨ad146, A146_1, c146_1, e146, hx146_0, hx146_1, hl146_1, hi146_1⟩ := at_T108 HR0_5.out (ji40) p146 q146; obtain rfl : ad143 = ad146 := (by injection e146); have hn146_0 : ad143.block ≠ gb144 := Nat.ne_of_lt (Nat.lt_of_lt_of_le (by have := World.block_lt_of_cell? _ _ hx146_0; first | rwa [add_block] at this | exact this) GW144.out); have hn146_1 : ad143.block ≠ gb144 := Nat.ne_of_lt (Nat.lt_of_lt_of_le (by have := World.block_lt_of_cell? _ _ hx146_0; first | rwa [add_block] at this | exact this) GW144.out); replace hx146_0 := cb_ HB hx146_0; replace hx146_1 := cb_ HB hx146_1; have HR146_1 := aa_ hi146_1; have HC146_1 := aa_ hl146_1; clear hi146_1 hl146_1; replace hx146_0 := (cell_far (p := ⟨gb144, 0, none⟩) (by first | (rw [add_block]; exact hn146_0) | (show (Addr.add _ _).block ≠ _; rw [add_block]; exact hn146_0) | exact hn146_0) (.int .i64 ((rd_T108 l0_5 x5_4).f0))).trans hx146_0; replace hx146_1 := (cell_far (p := ⟨gb144, 0, none⟩) (by first | (rw [add_block]; exact hn146_0) | (show (Addr.add _ _).block ≠ _; rw [add_block]; exact hn146_0) | exact hn146_0) (.int .i64 ((rd_T108 l0_5 x5_4).f0))).trans hx146_1; replace hx146_0 := (cell_far (p := ⟨gb144, 1, none⟩) (by first | (rw [add_block]; exact hn146_1) | (show (Addr.add _ _).block ≠ _; rw [add_block]; exact hn146_1) | exact hn146_1) (.slice A143_1 ((rd_T108 l0_5 x5_4).f1).length c143_1)).trans hx146_0; replace hx146_1 := (cell_far (p := ⟨gb144, 1, none⟩) (by first | (rw [add_block]; exact hn146_1) | (show (Addr.add _ _).block ≠ _; rw [add_block]; exact hn146_1) | exact hn146_1) (.slice A143_1 ((rd_T108 l0_5 x5_4).f1).length c143_1)).trans hx146_1; (try have hy146_0 := fun (n_ : Nat) => (show ((((w45.drewN n_).setCell ⟨gb144, 0, none⟩ (.int .i64 ((rd_T108 l0_5 x5_4).f0))).setCell ⟨gb144, 1, none⟩ (.slice A143_1 ((rd_T108 l0_5 x5_4).f1).length c143_1))).cell? _ = some _ from hx146_0)); (try have hy146_1 := fun (n_ : Nat) => (show ((((w45.drewN n_).setCell ⟨gb144, 0, none⟩ (.int .i64 ((rd_T108 l0_5 x5_4).f0))).setCell ⟨gb144, 1, none⟩ (.slice A143_1 ((rd_T108 l0_5 x5_4).f1).length c143_1))).cell? _ = some _ from hx146_1)); clear hn146_0; clear hn146_1; replace p146 := eq_true p146; replace q146 := eq_true q146))
                  repeat (go_quiet (first | ((with_reducible refine gD_ 6 rfl ?_); (try (refine gate_guard (by rfl) ?_; dsimp only)); refine bx_ (N := 6) (cs := #[.int .i64 0, .slice none 0 0]) (t := 108) ?_; intro gb144 hg w45 hbox hb; have BK144 := aa_ (hbox); have GW144 := gs_ hg; have GE144 := gs_ hg; replace HB := hbs_ hb; have NB135_144 := nl_ hg BK135; have NB144_135 := nr_ hg BK135; replace BK135 := bkb_ BK135 hb; clear hb hbox hg; have hnb46 := NB144_135.out; have hnc46 := NB135_144.out; obtain ⟨hcz47, hfz47⟩ := bcf_ BK144) | (go_at_call 30; (with_reducible refine (spec_l01In.calls ((rd_T108 l0_5 x5_4).f0) 0 255 true _ A37.out).mono ?_); rintro e w' ⟨rfl, ⟨nd, rfl⟩⟩; (try first | exact ⟨rfl, _, World.drewN_drewN _ _ _⟩ | exact ⟨rfl, _, Eq.trans (World.drewN_drewN _ _ _) (congrArg (World.drewN _) (Nat.add_assoc _ _ _))⟩); obtain ⟨hcz48, hfz48⟩ := bcf_ BK135; have p146 : 0 ≤ ((ji40) : Int) := od_; have q146 : (ji40) < (l0_5.length : Int) := od_; obtain ⟨ad146, A146_1, c146_1, e146, hx146_0, hx146_1, hl146_1, hi146_1⟩ := at_T108 HR0_5.out (ji40) p146 q146; obtain rfl : ad143 = ad146 := (by injection e146); have hn146_0 : ad143.block ≠ gb144 := Nat.ne_of_lt (Nat.lt_of_lt_of_le (by have := World.block_lt_of_cell? _ _ hx146_0; first | rwa [add_block] at this | exact this) GW144.out); have hn146_1 : ad143.block ≠ gb144 := Nat.ne_of_lt (Nat.lt_of_lt_of_le (by have := World.block_lt_of_cell? _ _ hx146_0; first | rwa [add_block] at this | exact this) GW144.out); replace hx146_0 := cb_ HB hx146_0; replace hx146_1 := cb_ HB hx146_1; have HR146_1 := aa_ hi146_1; have HC146_1 := aa_ hl146_1; clear hi146_1 hl146_1; replace hx146_0 := (cell_far (p := ⟨gb144, 0, none⟩) (by first | (rw [add_block]; exact hn146_0) | (show (Addr.add _ _).block ≠ _; rw [add_block]; exact hn146_0) | exact hn146_0) (.int .i64 ((rd_T108 l0_5 x5_4).f0))).trans hx146_0; replace hx146_1 := (cell_far (p := ⟨gb144, 0, none⟩) (by first | (rw [add_block]; exact hn146_0) | (show (Addr.add _ _).block ≠ _; rw [add_block]; exact hn146_0) | exact hn146_0) (.int .i64 ((rd_T108 l0_5 x5_4).f0))).trans hx146_1; replace hx146_0 := (cell_far (p := ⟨gb144, 1, none⟩) (by first | (rw [add_block]; exact hn146_1) | (show (Addr.add _ _).block ≠ _; rw [add_block]; exact hn146_1) | exact hn146_1) (.slice A143_1 ((rd_T108 l0_5 x5_4).f1).length c143_1)).trans hx146_0; replace hx146_1 := (cell_far (p := ⟨gb144, 1, none⟩) (by first | (rw [add_block]; exact hn146_1) | (show (Addr.add _ _).block ≠ _; rw [add_block]; exact hn146_1) | exact hn146_1) (.slice A143_1 ((rd_T108 l0_5 x5_4).f1).length c143_1)).trans hx146_1; (try have hy146_0 := fun (n_ : Nat) => (show ((((w45.drewN n_).setCell ⟨gb144, 0, none⟩ (.int .i64 ((rd_T108 l0_5 x5_4).f0))).setCell ⟨gb144, 1, none⟩ (.slice A143_1 ((rd_T108 l0_5 x5_4).f1).length c143_1))).cell? _ = some _ from hx146_0)); (try have hy146_1 := fun (n_ : Nat) => (show ((((w45.drewN n_).setCell ⟨gb144, 0, none⟩ (.int .i64 ((rd_T108 l0_5 x5_4).f0))).setCell ⟨gb144, 1, none⟩ (.slice A143_1 ((rd_T108 l0_5 x5_4).f1).length c143_1))).cell? _ = some _ from hx146_1)); clear hn146_0; clear hn146_1; replace p146 := eq_true p146; replace q146 := eq_true q146)); try go_wp2_with (first | ((with_reducible refine gD_ 6 rfl ?_); (try (refine gate_guard (by rfl) ?_; dsimp only)); refine bx_ (N := 6) (cs := #[.int .i64 0, .slice none 0 0]) (t := 108) ?_; intro gb144 hg w45 hbox hb; have BK144 := aa_ (hbox); have GW144 := gs_ hg; have GE144 := gs_ hg; replace HB := hbs_ hb; have NB135_144 := nl_ hg BK135; have NB144_135 := nr_ hg BK135; replace BK135 := bkb_ BK135 hb; clear hb hbox hg; have hnb46 := NB144_135.out; have hnc46 := NB135_144.out; obtain ⟨hcz47, hfz47⟩ := bcf_ BK144) | (go_at_call 30; (with_reducible refine (spec_l01In.calls ((rd_T108 l0_5 x5_4).f0) 0 255 true _ A37.out).mono ?_); rintro e w' ⟨rfl, ⟨nd, rfl⟩⟩; (try first | exact ⟨rfl, _, World.drewN_drewN _ _ _⟩ | exact ⟨rfl, _, Eq.trans (World.drewN_drewN _ _ _) (congrArg (World.drewN _) (Nat.add_assoc _ _ _))⟩); obtain ⟨hcz48, hfz48⟩ := bcf_ BK135; have p146 : 0 ≤ ((ji40) : Int) := od_; have q146 : (ji40) < (l0_5.length : Int) := od_; obtain ⟨ad146, A146_1, c146_1, e146, hx146_0, hx146_1, hl146_1, hi146_1⟩ := at_T108 HR0_5.out (ji40) p146 q146; obtain rfl : ad143 = ad146 := (by injection e146); have hn146_0 : ad143.block ≠ gb144 := Nat.ne_of_lt (Nat.lt_of_lt_of_le (by have := World.block_lt_of_cell? _ _ hx146_0; first | rwa [add_block] at this | exact this) GW144.out); have hn146_1 : ad143.block ≠ gb144 := Nat.ne_of_lt (Nat.lt_of_lt_of_le (by have := World.block_lt_of_cell? _ _ hx146_0; first | rwa [add_block] at this | exact this) GW144.out); replace hx146_0 := cb_ HB hx146_0; replace hx146_1 := cb_ HB hx146_1; have HR146_1 := aa_ hi146_1; have HC146_1 := aa_ hl146_1; clear hi146_1 hl146_1; replace hx146_0 := (cell_far (p := ⟨gb144, 0, none⟩) (by first | (rw [add_block]; exact hn146_0) | (show (Addr.add _ _).block ≠ _; rw [add_block]; exact hn146_0) | exact hn146_0) (.int .i64 ((rd_T108 l0_5 x5_4).f0))).trans hx146_0; replace hx146_1 := (cell_far (p := ⟨gb144, 0, none⟩) (by first | (rw [add_block]; exact hn146_0) | (show (Addr.add _ _).block ≠ _; rw [add_block]; exact hn146_0) | exact hn146_0) (.int .i64 ((rd_T108 l0_5 x5_4).f0))).trans hx146_1; replace hx146_0 := (cell_far (p := ⟨gb144, 1, none⟩) (by first | (rw [add_block]; exact hn146_1) | (show (Addr.add _ _).block ≠ _; rw [add_block]; exact hn146_1) | exact hn146_1) (.slice A143_1 ((rd_T108 l0_5 x5_4).f1).length c143_1)).trans hx146_0; replace hx146_1 := (cell_far (p := ⟨gb144, 1, none⟩) (by first | (rw [add_block]; exact hn146_1) | (show (Addr.add _ _).block ≠ _; rw [add_block]; exact hn146_1) | exact hn146_1) (.slice A143_1 ((rd_T108 l0_5 x5_4).f1).length c143_1)).trans hx146_1; (try have hy146_0 := fun (n_ : Nat) => (show ((((w45.drewN n_).setCell ⟨gb144, 0, none⟩ (.int .i64 ((rd_T108 l0_5 x5_4).f0))).setCell ⟨gb144, 1, none⟩ (.slice A143_1 ((rd_T108 l0_5 x5_4).f1).length c143_1))).cell? _ = some _ from hx146_0)); (try have hy146_1 := fun (n_ : Nat) => (show ((((w45.drewN n_).setCell ⟨gb144, 0, none⟩ (.int .i64 ((rd_T108 l0_5 x5_4).f0))).setCell ⟨gb144, 1, none⟩ (.slice A143_1 ((rd_T108 l0_5 x5_4).f1).length c143_1))).cell? _ = some _ from hx146_1)); clear hn146_0; clear hn146_1; replace p146 := eq_true p146; replace q146 := eq_true q146)))
                  go_ret
                  exact ⟨by first | rfl | (simp [errW_none, errW_some] <;> rfl) | (simp only [← hji40]; first | rfl | (simp [errW_none, errW_some] <;> rfl)) | (simp [*, errW_none, errW_some] <;> rfl), bl_⟩
                 ·rw [if_neg c43] at H
                  have c43b0 : decide (((rd_T108 l0_5 x5_4).f0) ≤ ((rd_T108 l0_5 (ji40)).f0)) = false := decide_eq_false c43
                  clear c43
                  obtain ⟨t147, A49, H⟩ := bindE_ H
                  have HC50 := aa_ H
                  clear H
                  have hcz51 := blk_cell BK135.out
                  have hfz51 := blk_frozen BK135.out
                  have p143 : 0 ≤ (x5_4 : Int) := od_
                  have q143 : x5_4 < (l0_5.length : Int) := od_
                  obtain ⟨ad143, A143_1, c143_1, e143, hx143_0, hx143_1, hl143_1, hi143_1⟩ := at_T108 HR0_5.out x5_4 p143 q143
                  cases e143
                  replace hx143_0 := cb_ HB hx143_0
                  replace hx143_1 := cb_ HB hx143_1
                  have HR143_1 := aa_ hi143_1
                  have HC143_1 := aa_ hl143_1
                  clear hi143_1 hl143_1
                  replace p143 := eq_true p143
                  replace q143 := eq_true q143
                  go_upto_if 132 with (first | ((with_reducible refine gD_ 6 rfl ?_); (try (refine gate_guard (by rfl) ?_; dsimp only)); refine bx_ (N := 6) (cs := #[.int .i64 0, .slice none 0 0]) (t := 108) ?_; intro gb144 hg w52 hbox hb; have BK144 := aa_ (hbox); have GW144 := gs_ hg; have GE144 := gs_ hg; replace HB := hbs_ hb; have NB135_144 := nl_ hg BK135; have NB144_135 := nr_ hg BK135; replace BK135 := bkb_ BK135 hb; clear hb hbox hg; have hnb53 := NB144_135.out; have hnc53 := NB135_144.out; obtain ⟨hcz54, hfz54⟩ := bcf_ BK144) | (go_at_call 30; (with_reducible refine (spec_l01In.calls ((rd_T108 l0_5 x5_4).f0) 0 255 true _ A37.out).mono ?_); rintro e w' ⟨rfl, ⟨nd, rfl⟩⟩; (try first | exact ⟨rfl, _, World.drewN_drewN _ _ _⟩ | exact ⟨rfl, _, Eq.trans (World.drewN_drewN _ _ _) (congrArg (World.drewN _) (Nat.add_assoc _ _ _))⟩); obtain ⟨hcz55, hfz55⟩ := bcf_ BK135; have p146 : 0 ≤ ((ji40) : Int) := od_; have q146 : (ji40) < (l0_5.length : Int) := od_; obtain ⟨ad146, A146_1, c146_1, e146, hx146_0, hx146_1, hl146_1, hi146_1⟩ := at_T108 HR0_5.out (ji40) p146 q146; obtain rfl : ad143 = ad146 := (by injection e146); have hn146_0 : ad143.block ≠ gb144 := Nat.ne_of_lt (Nat.lt_of_lt_of_le (by have := World.block_lt_of_cell? _ _ hx146_0; first | rwa [add_block] at this | exact this) GW144.out); have hn146_1 : ad143.block ≠ gb144 := Nat.ne_of_lt (Nat.lt_of_lt_of_le (by have := World.block_lt_of_cell? _ _ hx146_0; first | rwa [add_block] at this | exact this) GW144.out); replace hx146_0 := cb_ HB hx146_0; replace hx146_1 := cb_ HB hx146_1; have HR146_1 := aa_ hi146_1; have HC146_1 := aa_ hl146_1; clear hi146_1 hl146_1; replace hx146_0 := (cell_far (p := ⟨gb144, 0, none⟩) (by first | (rw [add_block]; exact hn146_0) | (show (Addr.add _ _).block ≠ _; rw [add_block]; exact hn146_0) | exact hn146_0) (.int .i64 ((rd_T108 l0_5 x5_4).f0))).trans hx146_0; replace hx146_1 := (cell_far (p := ⟨gb144, 0, none⟩) (by first | (rw [add_block]; exact hn146_0) | (show (Addr.add _ _).block ≠ _; rw [add_block]; exact hn146_0) | exact hn146_0) (.int .i64 ((rd_T108 l0_5 x5_4).f0))).trans hx146_1; replace hx146_0 := (cell_far (p := ⟨gb144, 1, none⟩) (by first | (rw [add_block]; exact hn146_1) | (show (Addr.add _ _).block ≠ _; rw [add_block]; exact hn146_1) | exact hn146_1) (.slice A143_1 ((rd_T108 l0_5 x5_4).f1).length c143_1)).trans hx146_0; replace hx146_1 := (cell_far (p := ⟨gb144, 1, none⟩) (by first | (rw [add_block]; exact hn146_1) | (show (Addr.add _ _).block ≠ _; rw [add_block]; exact hn146_1) | exact hn146_1) (.slice A143_1 ((rd_T108 l0_5 x5_4).f1).length c143_1)).trans hx146_1; (try have hy146_0 := fun (n_ : Nat) => (show ((((w52.drewN n_).setCell ⟨gb144, 0, none⟩ (.int .i64 ((rd_T108 l0_5 x5_4).f0))).setCell ⟨gb144, 1, none⟩ (.slice A143_1 ((rd_T108 l0_5 x5_4).f1).length c143_1))).cell? _ = some _ from hx146_0)); (try have hy146_1 := fun (n_ : Nat) => (show ((((w52.drewN n_).setCell ⟨gb144, 0, none⟩ (.int .i64 ((rd_T108 l0_5 x5_4).f0))).setCell ⟨gb144, 1, none⟩ (.slice A143_1 ((rd_T108 l0_5 x5_4).f1).length c143_1))).cell? _ = some _ from hx146_1)); clear hn146_0; clear hn146_1; replace p146 := eq_true p146; replace q146 := eq_true q146) | (go_at_call 58; (with_reducible refine (spec_l09Items.calls k4 _ _ ((rd_T108 l0_5 x5_4).f1) t147 _ ?side1 ?side2 A49.out).mono ?_); (case side1 => exact Kd.C_below HR143_1.out bl_); (case side2 => exact HC143_1.out); rintro e w' ⟨rfl, ⟨nd, rfl⟩⟩; (try first | exact ⟨rfl, _, World.drewN_drewN _ _ _⟩ | exact ⟨rfl, _, Eq.trans (World.drewN_drewN _ _ _) (congrArg (World.drewN _) (Nat.add_assoc _ _ _))⟩)))
                  repeat (go_quiet (first | ((with_reducible refine gD_ 6 rfl ?_); (try (refine gate_guard (by rfl) ?_; dsimp only)); refine bx_ (N := 6) (cs := #[.int .i64 0, .slice none 0 0]) (t := 108) ?_; intro gb144 hg w52 hbox hb; have BK144 := aa_ (hbox); have GW144 := gs_ hg; have GE144 := gs_ hg; replace HB := hbs_ hb; have NB135_144 := nl_ hg BK135; have NB144_135 := nr_ hg BK135; replace BK135 := bkb_ BK135 hb; clear hb hbox hg; have hnb53 := NB144_135.out; have hnc53 := NB135_144.out; obtain ⟨hcz54, hfz54⟩ := bcf_ BK144) | (go_at_call 30; (with_reducible refine (spec_l01In.calls ((rd_T108 l0_5 x5_4).f0) 0 255 true _ A37.out).mono ?_); rintro e w' ⟨rfl, ⟨nd, rfl⟩⟩; (try first | exact ⟨rfl, _, World.drewN_drewN _ _ _⟩ | exact ⟨rfl, _, Eq.trans (World.drewN_drewN _ _ _) (congrArg (World.drewN _) (Nat.add_assoc _ _ _))⟩); obtain ⟨hcz55, hfz55⟩ := bcf_ BK135; have p146 : 0 ≤ ((ji40) : Int) := od_; have q146 : (ji40) < (l0_5.length : Int) := od_; obtain ⟨ad146, A146_1, c146_1, e146, hx146_0, hx146_1, hl146_1, hi146_1⟩ := at_T108 HR0_5.out (ji40) p146 q146; obtain rfl : ad143 = ad146 := (by injection e146); have hn146_0 : ad143.block ≠ gb144 := Nat.ne_of_lt (Nat.lt_of_lt_of_le (by have := World.block_lt_of_cell? _ _ hx146_0; first | rwa [add_block] at this | exact this) GW144.out); have hn146_1 : ad143.block ≠ gb144 := Nat.ne_of_lt (Nat.lt_of_lt_of_le (by have := World.block_lt_of_cell? _ _ hx146_0; first | rwa [add_block] at this | exact this) GW144.out); replace hx146_0 := cb_ HB hx146_0; replace hx146_1 := cb_ HB hx146_1; have HR146_1 := aa_ hi146_1; have HC146_1 := aa_ hl146_1; clear hi146_1 hl146_1; replace hx146_0 := (cell_far (p := ⟨gb144, 0, none⟩) (by first | (rw [add_block]; exact hn146_0) | (show (Addr.add _ _).block ≠ _; rw [add_block]; exact hn146_0) | exact hn146_0) (.int .i64 ((rd_T108 l0_5 x5_4).f0))).trans hx146_0; replace hx146_1 := (cell_far (p := ⟨gb144, 0, none⟩) (by first | (rw [add_block]; exact hn146_0) | (show (Addr.add _ _).block ≠ _; rw [add_block]; exact hn146_0) | exact hn146_0) (.int .i64 ((rd_T108 l0_5 x5_4).f0))).trans hx146_1; replace hx146_0 := (cell_far (p := ⟨gb144, 1, none⟩) (by first | (rw [add_block]; exact hn146_1) | (show (Addr.add _ _).block ≠ _; rw [add_block]; exact hn146_1) | exact hn146_1) (.slice A143_1 ((rd_T108 l0_5 x5_4).f1).length c143_1)).trans hx146_0; replace hx146_1 := (cell_far (p := ⟨gb144, 1, none⟩) (by first | (rw [add_block]; exact hn146_1) | (show (Addr.add _ _).block ≠ _; rw [add_block]; exact hn146_1) | exact hn146_1) (.slice A143_1 ((rd_T108 l0_5 x5_4).f1).length c143_1)).trans hx146_1; (try have hy146_0 := fun (n_ : Nat) => (show ((((w52.drewN n_).setCell ⟨gb144, 0, none⟩ (.int .i64 ((rd_T108 l0_5 x5_4).f0))).setCell ⟨gb144, 1, none⟩ (.slice A143_1 ((rd_T108 l0_5 x5_4).f1).length c143_1))).cell? _ = some _ from hx146_0)); (try have hy146_1 := fun (n_ : Nat) => (show ((((w52.drewN n_).setCell ⟨gb144, 0, none⟩ (.int .i64 ((rd_T108 l0_5 x5_4).f0))).setCell ⟨gb144, 1, none⟩ (.slice A143_1 ((rd_T108 l0_5 x5_4).f1).length c143_1))).cell? _ = some _ from hx146_1)); clear hn146_0; clear hn146_1; replace p146 := eq_true p146; replace q146 := eq_true q146) | (go_at_call 58; (with_reducible refine (spec_l09Items.calls k4 _ _ ((rd_T108 l0_5 x5_4).f1) t147 _ ?side1 ?side2 A49.out).mono ?_); (case side1 => exact Kd.C_below HR143_1.out bl_); (case side2 => exact HC143_1.out); rintro e w' ⟨rfl, ⟨nd, rfl⟩⟩; (try first | exact ⟨rfl, _, World.drewN_drewN _ _ _⟩ | exact ⟨rfl, _, Eq.trans (World.drewN_drewN _ _ _) (congrArg (World.drewN _) (Nat.add_assoc _ _ _))⟩))); go_upto_if 132 with (first | ((with_reducible refine gD_ 6 rfl ?_); (try (refine gate_guard (by rfl) ?_; dsimp only)); refine bx_ (N := 6) (cs := #[.int .i64 0, .slice none 0 0]) (t := 108) ?_; intro gb144 hg w52 hbox hb; have BK144 := aa_ (hbox); have GW144 := gs_ hg; have GE144 := gs_ hg; replace HB := hbs_ hb; have NB135_144 := nl_ hg BK135; have NB144_135 := nr_ hg BK135; replace BK135 := bkb_ BK135 hb; clear hb hbox hg; have hnb53 := NB144_135.out; have hnc53 := NB135_144.out; obtain ⟨hcz54, hfz54⟩ := bcf_ BK144) | (go_at_call 30; (with_reducible refine (spec_l01In.calls ((rd_T108 l0_5 x5_4).f0) 0 255 true _ A37.out).mono ?_); rintro e w' ⟨rfl, ⟨nd, rfl⟩⟩; (try first | exact ⟨rfl, _, World.drewN_drewN _ _ _⟩ | exact ⟨rfl, _, Eq.trans (World.drewN_drewN _ _ _) (congrArg (World.drewN _) (Nat.add_assoc _ _ _))⟩); obtain ⟨hcz55, hfz55⟩ := bcf_ BK135; have p146 : 0 ≤ ((ji40) : Int) := od_; have q146 : (ji40) < (l0_5.length : Int) := od_; obtain ⟨ad146, A146_1, c146_1, e146, hx146_0, hx146_1, hl146_1, hi146_1⟩ := at_T108 HR0_5.out (ji40) p146 q146; obtain rfl : ad143 = ad146 := (by injection e146); have hn146_0 : ad143.block ≠ gb144 := Nat.ne_of_lt (Nat.lt_of_lt_of_le (by have := World.block_lt_of_cell? _ _ hx146_0; first | rwa [add_block] at this | exact this) GW144.out); have hn146_1 : ad143.block ≠ gb144 := Nat.ne_of_lt (Nat.lt_of_lt_of_le (by have := World.block_lt_of_cell? _ _ hx146_0; first | rwa [add_block] at this | exact this) GW144.out); replace hx146_0 := cb_ HB hx146_0; replace hx146_1 := cb_ HB hx146_1; have HR146_1 := aa_ hi146_1; have HC146_1 := aa_ hl146_1; clear hi146_1 hl146_1; replace hx146_0 := (cell_far (p := ⟨gb144, 0, none⟩) (by first | (rw [add_block]; exact hn146_0) | (show (Addr.add _ _).block ≠ _; rw [add_block]; exact hn146_0) | exact hn146_0) (.int .i64 ((rd_T108 l0_5 x5_4).f0))).trans hx146_0; replace hx146_1 := (cell_far (p := ⟨gb144, 0, none⟩) (by first | (rw [add_block]; exact hn146_0) | (show (Addr.add _ _).block ≠ _; rw [add_block]; exact hn146_0) | exact hn146_0) (.int .i64 ((rd_T108 l0_5 x5_4).f0))).trans hx146_1; replace hx146_0 := (cell_far (p := ⟨gb144, 1, none⟩) (by first | (rw [add_block]; exact hn146_1) | (show (Addr.add _ _).block ≠ _; rw [add_block]; exact hn146_1) | exact hn146_1) (.slice A143_1 ((rd_T108 l0_5 x5_4).f1).length c143_1)).trans hx146_0; replace hx146_1 := (cell_far (p := ⟨gb144, 1, none⟩) (by first | (rw [add_block]; exact hn146_1) | (show (Addr.add _ _).block ≠ _; rw [add_block]; exact hn146_1) | exact hn146_1) (.slice A143_1 ((rd_T108 l0_5 x5_4).f1).length c143_1)).trans hx146_1; (try have hy146_0 := fun (n_ : Nat) => (show ((((w52.drewN n_).setCell ⟨gb144, 0, none⟩ (.int .i64 ((rd_T108 l0_5 x5_4).f0))).setCell ⟨gb144, 1, none⟩ (.slice A143_1 ((rd_T108 l0_5 x5_4).f1).length c143_1))).cell? _ = some _ from hx146_0)); (try have hy146_1 := fun (n_ : Nat) => (show ((((w52.drewN n_).setCell ⟨gb144, 0, none⟩ (.int .i64 ((rd_T108 l0_5 x5_4).f0))).setCell ⟨gb144, 1, none⟩ (.slice A143_1 ((rd_T108 l0_5 x5_4).f1).length c143_1))).cell? _ = some _ from hx146_1)); clear hn146_0; clear hn146_1; replace p146 := eq_true p146; replace q146 := eq_true q146) | (go_at_call 58; (with_reducible refine (spec_l09Items.calls k4 _ _ ((rd_T108 l0_5 x5_4).f1) t147 _ ?side1 ?side2 A49.out).mono ?_); (case side1 => exact Kd.C_below HR143_1.out bl_); (case side2 => exact HC143_1.out); rintro e w' ⟨rfl, ⟨nd, rfl⟩⟩; (try first | exact ⟨rfl, _, World.drewN_drewN _ _ _⟩ | exact ⟨rfl, _, Eq.trans (World.drewN_drewN _ _ _) (congrArg (World.drewN _) (Nat.add_assoc _ _ _))⟩))))
                  have n0_ : Aside0 (((w52.setCell ⟨gb144, 0, none⟩ (.int .i64 ((rd_T108 l0_5 x5_4).f0))).setCell ⟨gb144, 1, none⟩ (.slice A143_1 ((rd_T108 l0_5 x5_4).f1).length c143_1)).heap[gb135]? = some (.cells #[.int .i64 a0_0, .bool true, .int .i64 a0_2, .slice A0_3 l0_3.length c0_3, .slice A0_4 l0_4.length c0_4, .slice (some ad143) l0_5.length c0_5] 68 (0, 0))) := ⟨bk_ BK135⟩
                  have n1_ : Aside0 (((w52.setCell ⟨gb144, 0, none⟩ (.int .i64 ((rd_T108 l0_5 x5_4).f0))).setCell ⟨gb144, 1, none⟩ (.slice A143_1 ((rd_T108 l0_5 x5_4).f1).length c143_1)).heap[gb144]? = some (.cells #[.int .i64 ((rd_T108 l0_5 x5_4).f0), .slice A143_1 ((rd_T108 l0_5 x5_4).f1).length c143_1] 108 (0, 0))) := ⟨bk_ BK144⟩
                  have n2_ : Aside0 (Below w.heap.size w ((w52.setCell ⟨gb144, 0, none⟩ (.int .i64 ((rd_T108 l0_5 x5_4).f0))).setCell ⟨gb144, 1, none⟩ (.slice A143_1 ((rd_T108 l0_5 x5_4).f1).length c143_1))) := ⟨bl_⟩
                  (try clear BK135)
                  (try clear BK144)
                  (try clear HB)
                  generalize ((w52.setCell ⟨gb144, 0, none⟩ (.int .i64 ((rd_T108 l0_5 x5_4).f0))).setCell ⟨gb144, 1, none⟩ (.slice A143_1 ((rd_T108 l0_5 x5_4).f1).length c143_1)) = w56 at n0_ n1_ n2_ ⊢
                  have BK135 := n0_
                  have BK144 := n1_
                  have HB := n2_
                  clear n0_ n1_ n2_
                  (try simp only [Act.put, sb_, sz_, ss_])
                  have H := HC50.out
                  clear HC50
                  by_cases c57 : t147 = true
                  ·subst c57
                   replace H := ite_t_ H
                   have H' := aa_ H
                   clear H
                   go_wp2
                   repeat (go_quiet (fail); try go_wp2)
                   go_roundg k4
                   case measure => have := HJ7.out; have := HK2.out; have := HK3.out; have := HK4.out; omega
                   case rel => exact ⟨(wrap64 (x5_4 + 1)), rf_, H', ⟨by have := HJ7.out; have := HK2.out; have := HK3.out; have := HK4.out; omega⟩, ⟨bk_ BK135⟩, ⟨bl_⟩⟩
                  ·replace c57 := Bool.eq_false_iff.mpr c57
                   subst c57
                   replace H := ite_f_ H
                   obtain rfl := Option.some.inj H
                   go_wp2
                   repeat (go_quiet (fail); try go_wp2)
                   go_ret
                   exact ⟨by first | rfl | (simp [errW_none, errW_some] <;> rfl) | (simp only [← hji40]; first | rfl | (simp [errW_none, errW_some] <;> rfl)) | (simp [*, errW_none, errW_some] <;> rfl), bl_⟩
                ·rw [if_neg c39] at H
                 have c39b0 : decide (0 < x5_4) = false := decide_eq_false c39
                 clear c39
                 obtain ⟨t148, A58, H⟩ := bindE_ H
                 have HC59 := aa_ H
                 clear H
                 have hcz60 := blk_cell BK135.out
                 have hfz60 := blk_frozen BK135.out
                 have p143 : 0 ≤ (x5_4 : Int) := od_
                 have q143 : x5_4 < (l0_5.length : Int) := od_
                 obtain ⟨ad143, A143_1, c143_1, e143, hx143_0, hx143_1, hl143_1, hi143_1⟩ := at_T108 HR0_5.out x5_4 p143 q143
                 cases e143
                 replace hx143_0 := cb_ HB hx143_0
                 replace hx143_1 := cb_ HB hx143_1
                 have HR143_1 := aa_ hi143_1
                 have HC143_1 := aa_ hl143_1
                 clear hi143_1 hl143_1
                 replace p143 := eq_true p143
                 replace q143 := eq_true q143
                 go_upto_if 132 with (first | ((with_reducible refine gD_ 6 rfl ?_); (try (refine gate_guard (by rfl) ?_; dsimp only)); refine bx_ (N := 6) (cs := #[.int .i64 0, .slice none 0 0]) (t := 108) ?_; intro gb144 hg w61 hbox hb; have BK144 := aa_ (hbox); have GW144 := gs_ hg; have GE144 := gs_ hg; replace HB := hbs_ hb; have NB135_144 := nl_ hg BK135; have NB144_135 := nr_ hg BK135; replace BK135 := bkb_ BK135 hb; clear hb hbox hg; have hnb62 := NB144_135.out; have hnc62 := NB135_144.out; obtain ⟨hcz63, hfz63⟩ := bcf_ BK144) | (go_at_call 30; (with_reducible refine (spec_l01In.calls ((rd_T108 l0_5 x5_4).f0) 0 255 true _ A37.out).mono ?_); rintro e w' ⟨rfl, ⟨nd, rfl⟩⟩; (try first | exact ⟨rfl, _, World.drewN_drewN _ _ _⟩ | exact ⟨rfl, _, Eq.trans (World.drewN_drewN _ _ _) (congrArg (World.drewN _) (Nat.add_assoc _ _ _))⟩)) | (go_at_call 58; (with_reducible refine (spec_l09Items.calls k4 _ _ ((rd_T108 l0_5 x5_4).f1) t148 _ ?side1 ?side2 A58.out).mono ?_); (case side1 => exact Kd.C_below HR143_1.out bl_); (case side2 => exact HC143_1.out); rintro e w' ⟨rfl, ⟨nd, rfl⟩⟩; (try first | exact ⟨rfl, _, World.drewN_drewN _ _ _⟩ | exact ⟨rfl, _, Eq.trans (World.drewN_drewN _ _ _) (congrArg (World.drewN _) (Nat.add_assoc _ _ _))⟩)))
                 repeat (go_quiet (first | ((with_reducible refine gD_ 6 rfl ?_); (try (refine gate_guard (by rfl) ?_; dsimp only)); refine bx_ (N := 6) (cs := #[.int .i64 0, .slice none 0 0]) (t := 108) ?_; intro gb144 hg w61 hbox hb; have BK144 := aa_ (hbox); have GW144 := gs_ hg; have GE144 := gs_ hg; replace HB := hbs_ hb; have NB135_144 := nl_ hg BK135; have NB144_135 := nr_ hg BK135; replace BK135 := bkb_ BK135 hb; clear hb hbox hg; have hnb62 := NB144_135.out; have hnc62 := NB135_144.out; obtain ⟨hcz63, hfz63⟩ := bcf_ BK144) | (go_at_call 30; (with_reducible refine (spec_l01In.calls ((rd_T108 l0_5 x5_4).f0) 0 255 true _ A37.out).mono ?_); rintro e w' ⟨rfl, ⟨nd, rfl⟩⟩; (try first | exact ⟨rfl, _, World.drewN_drewN _ _ _⟩ | exact ⟨rfl, _, Eq.trans (World.drewN_drewN _ _ _) (congrArg (World.drewN _) (Nat.add_assoc _ _ _))⟩)) | (go_at_call 58; (with_reducible refine (spec_l09Items.calls k4 _ _ ((rd_T108 l0_5 x5_4).f1) t148 _ ?side1 ?side2 A58.out).mono ?_); (case side1 => exact Kd.C_below HR143_1.out bl_); (case side2 => exact HC143_1.out); rintro e w' ⟨rfl, ⟨nd, rfl⟩⟩; (try first | exact ⟨rfl, _, World.drewN_drewN _ _ _⟩ | exact ⟨rfl, _, Eq.trans (World.drewN_drewN _ _ _) (congrArg (World.drewN _) (Nat.add_assoc _ _ _))⟩))); go_upto_if 132 with (first | ((with_reducible refine gD_ 6 rfl ?_); (try (refine gate_guard (by rfl) ?_; dsimp only)); refine bx_ (N := 6) (cs := #[.int .i64 0, .slice none 0 0]) (t := 108) ?_; intro gb144 hg w61 hbox hb; have BK144 := aa_ (hbox); have GW144 := gs_ hg; have GE144 := gs_ hg; replace HB := hbs_ hb; have NB135_144 := nl_ hg BK135; have NB144_135 := nr_ hg BK135; replace BK135 := bkb_ BK135 hb; clear hb hbox hg; have hnb62 := NB144_135.out; have hnc62 := NB135_144.out; obtain ⟨hcz63, hfz63⟩ := bcf_ BK144) | (go_at_call 30; (with_reducible refine (spec_l01In.calls ((rd_T108 l0_5 x5_4).f0) 0 255 true _ A37.out).mono ?_); rintro e w' ⟨rfl, ⟨nd, rfl⟩⟩; (try first | exact ⟨rfl, _, World.drewN_drewN _ _ _⟩ | exact ⟨rfl, _, Eq.trans (World.drewN_drewN _ _ _) (congrArg (World.drewN _) (Nat.add_assoc _ _ _))⟩)) | (go_at_call 58; (with_reducible refine (spec_l09Items.calls k4 _ _ ((rd_T108 l0_5 x5_4).f1) t148 _ ?side1 ?side2 A58.out).mono ?_); (case side1 => exact Kd.C_below HR143_1.out bl_); (case side2 => exact HC143_1.out); rintro e w' ⟨rfl, ⟨nd, rfl⟩⟩; (try first | exact ⟨rfl, _, World.drewN_drewN _ _ _⟩ | exact ⟨rfl, _, Eq.trans (World.drewN_drewN _ _ _) (congrArg (World.drewN _) (Nat.add_assoc _ _ _))⟩))))
                 have n0_ : Aside0 (((w61.setCell ⟨gb144, 0, none⟩ (.int .i64 ((rd_T108 l0_5 x5_4).f0))).setCell ⟨gb144, 1, none⟩ (.slice A143_1 ((rd_T108 l0_5 x5_4).f1).length c143_1)).heap[gb135]? = some (.cells #[.int .i64 a0_0, .bool true, .int .i64 a0_2, .slice A0_3 l0_3.length c0_3, .slice A0_4 l0_4.length c0_4, .slice (some ad143) l0_5.length c0_5] 68 (0, 0))) := ⟨bk_ BK135⟩
                 have n1_ : Aside0 (((w61.setCell ⟨gb144, 0, none⟩ (.int .i64 ((rd_T108 l0_5 x5_4).f0))).setCell ⟨gb144, 1, none⟩ (.slice A143_1 ((rd_T108 l0_5 x5_4).f1).length c143_1)).heap[gb144]? = some (.cells #[.int .i64 ((rd_T108 l0_5 x5_4).f0), .slice A143_1 ((rd_T108 l0_5 x5_4).f1).length c143_1] 108 (0, 0))) := ⟨bk_ BK144⟩
                 have n2_ : Aside0 (Below w.heap.size w ((w61.setCell ⟨gb144, 0, none⟩ (.int .i64 ((rd_T108 l0_5 x5_4).f0))).setCell ⟨gb144, 1, none⟩ (.slice A143_1 ((rd_T108 l0_5 x5_4).f1).length c143_1))) := ⟨bl_⟩
                 (try clear BK135)
                 (try clear BK144)
                 (try clear HB)
                 generalize ((w61.setCell ⟨gb144, 0, none⟩ (.int .i64 ((rd_T108 l0_5 x5_4).f0))).setCell ⟨gb144, 1, none⟩ (.slice A143_1 ((rd_T108 l0_5 x5_4).f1).length c143_1)) = w64 at n0_ n1_ n2_ ⊢
                 have BK135 := n0_
                 have BK144 := n1_
                 have HB := n2_
                 clear n0_ n1_ n2_
                 (try simp only [Act.put, sb_, sz_, ss_])
                 have H := HC59.out
                 clear HC59
                 by_cases c65 : t148 = true
                 ·subst c65
                  replace H := ite_t_ H
                  have H' := aa_ H
                  clear H
                  go_wp2
                  repeat (go_quiet (fail); try go_wp2)
                  go_roundg k4
                  case measure => have := HJ7.out; have := HK2.out; have := HK3.out; have := HK4.out; omega
                  case rel => exact ⟨(wrap64 (x5_4 + 1)), rf_, H', ⟨by have := HJ7.out; have := HK2.out; have := HK3.out; have := HK4.out; omega⟩, ⟨bk_ BK135⟩, ⟨bl_⟩⟩
                 ·replace c65 := Bool.eq_false_iff.mpr c65
                  subst c65
                  replace H := ite_f_ H
                  obtain rfl := Option.some.inj H
                  go_wp2
                  repeat (go_quiet (fail); try go_wp2)
                  go_ret
                  exact ⟨eq_, bl_⟩
               ·replace c38 := Bool.eq_false_iff.mpr c38
                subst c38
                replace H := ite_f_ H
                obtain rfl := Option.some.inj H
                have hcz66 := blk_cell BK135.out
                have hfz66 := blk_frozen BK135.out
                have p143 : 0 ≤ (x5_4 : Int) := od_
                have q143 : x5_4 < (l0_5.length : Int) := od_
                obtain ⟨ad143, A143_1, c143_1, e143, hx143_0, hx143_1, hl143_1, hi143_1⟩ := at_T108 HR0_5.out x5_4 p143 q143
                cases e143
                replace hx143_0 := cb_ HB hx143_0
                replace hx143_1 := cb_ HB hx143_1
                have HR143_1 := aa_ hi143_1
                have HC143_1 := aa_ hl143_1
                clear hi143_1 hl143_1
                replace p143 := eq_true p143
                replace q143 := eq_true q143
                go_wp2_with (first | ((with_reducible refine gD_ 6 rfl ?_); (try (refine gate_guard (by rfl) ?_; dsimp only)); refine bx_ (N := 6) (cs := #[.int .i64 0, .slice none 0 0]) (t := 108) ?_; intro gb144 hg w67 hbox hb; have BK144 := aa_ (hbox); have GW144 := gs_ hg; have GE144 := gs_ hg; replace HB := hbs_ hb; have NB135_144 := nl_ hg BK135; have NB144_135 := nr_ hg BK135; replace BK135 := bkb_ BK135 hb; clear hb hbox hg; have hnb68 := NB144_135.out; have hnc68 := NB135_144.out; obtain ⟨hcz69, hfz69⟩ := bcf_ BK144) | (go_at_call 30; (with_reducible refine (spec_l01In.calls ((rd_T108 l0_5 x5_4).f0) 0 255 false _ A37.out).mono ?_); rintro e w' ⟨rfl, ⟨nd, rfl⟩⟩; (try first | exact ⟨rfl, _, World.drewN_drewN _ _ _⟩ | exact ⟨rfl, _, Eq.trans (World.drewN_drewN _ _ _) (congrArg (World.drewN _) (Nat.add_assoc _ _ _))⟩)))
                repeat (go_quiet (first | ((with_reducible refine gD_ 6 rfl ?_); (try (refine gate_guard (by rfl) ?_; dsimp only)); refine bx_ (N := 6) (cs := #[.int .i64 0, .slice none 0 0]) (t := 108) ?_; intro gb144 hg w67 hbox hb; have BK144 := aa_ (hbox); have GW144 := gs_ hg; have GE144 := gs_ hg; replace HB := hbs_ hb; have NB135_144 := nl_ hg BK135; have NB144_135 := nr_ hg BK135; replace BK135 := bkb_ BK135 hb; clear hb hbox hg; have hnb68 := NB144_135.out; have hnc68 := NB135_144.out; obtain ⟨hcz69, hfz69⟩ := bcf_ BK144) | (go_at_call 30; (with_reducible refine (spec_l01In.calls ((rd_T108 l0_5 x5_4).f0) 0 255 false _ A37.out).mono ?_); rintro e w' ⟨rfl, ⟨nd, rfl⟩⟩; (try first | exact ⟨rfl, _, World.drewN_drewN _ _ _⟩ | exact ⟨rfl, _, Eq.trans (World.drewN_drewN _ _ _) (congrArg (World.drewN _) (Nat.add_assoc _ _ _))⟩))); try go_wp2_with (first | ((with_reducible refine gD_ 6 rfl ?_); (try (refine gate_guard (by rfl) ?_; dsimp only)); refine bx_ (N := 6) (cs := #[.int .i64 0, .slice none 0 0]) (t := 108) ?_; intro gb144 hg w67 hbox hb; have BK144 := aa_ (hbox); have GW144 := gs_ hg; have GE144 := gs_ hg; replace HB := hbs_ hb; have NB135_144 := nl_ hg BK135; have NB144_135 := nr_ hg BK135; replace BK135 := bkb_ BK135 hb; clear hb hbox hg; have hnb68 := NB144_135.out; have hnc68 := NB135_144.out; obtain ⟨hcz69, hfz69⟩ := bcf_ BK144) | (go_at_call 30; (with_reducible refine (spec_l01In.calls ((rd_T108 l0_5 x5_4).f0) 0 255 false _ A37.out).mono ?_); rintro e w' ⟨rfl, ⟨nd, rfl⟩⟩; (try first | exact ⟨rfl, _, World.drewN_drewN _ _ _⟩ | exact ⟨rfl, _, Eq.trans (World.drewN_drewN _ _ _) (congrArg (World.drewN _) (Nat.add_assoc _ _ _))⟩))))
                go_ret
                exact ⟨eq_, bl_⟩
              ·rw [if_neg c35] at H
               have c35b0 : decide (x5_4 < (l0_5.length : Int)) = false := decide_eq_false c35
               clear c35
               obtain rfl := Option.some.inj H
               have hcz70 := blk_cell BK135.out
               have hfz70 := blk_frozen BK135.out
               go_wp2
               repeat (go_quiet (fail); try go_wp2)
               go_ret
               exact ⟨eq_, bl_⟩
  ·replace c7 := Bool.eq_false_iff.mpr c7
   subst c7
   replace H := ite_f_ H
   by_cases c71 : a0_2 = 0
   ·rw [if_pos c71] at H
    have c71b0 : (a0_2 == 0) = true := beq_iff_eq.mpr c71
    have c71b1 : (a0_2 != 0) = false := bne_eq_false_iff_eq.mpr c71
    clear c71
    by_cases c72 : (l0_3.length : Int) = 0
    ·rw [if_pos c72] at H
     have c72b0 : ((l0_3.length : Int) == 0) = true := beq_iff_eq.mpr c72
     have c72b1 : ((l0_3.length : Int) != 0) = false := bne_eq_false_iff_eq.mpr c72
     clear c72
     by_cases c73 : (l0_4.length : Int) = 0
     ·rw [if_pos c73] at H
      have c73b0 : ((l0_4.length : Int) == 0) = true := beq_iff_eq.mpr c73
      have c73b1 : ((l0_4.length : Int) != 0) = false := bne_eq_false_iff_eq.mpr c73
      clear c73
      obtain rfl := Option.some.inj H
      have hcz74 := blk_cell BK135.out
      have hfz74 := blk_frozen BK135.out
      go_wp2
      repeat (go_quiet (fail); try go_wp2)
      go_ret
      exact ⟨eq_, bl_⟩
     ·rw [if_neg c73] at H
      have c73b0 : ((l0_4.length : Int) == 0) = false := beq_eq_false_iff_ne.mpr c73
      have c73b1 : ((l0_4.length : Int) != 0) = true := bne_iff_ne.mpr c73
      have c73b2 : ¬ (l0_4 = []) := fun h_ => c73 (by rw [h_]; rfl)
      obtain rfl := Option.some.inj H
      have hcz75 := blk_cell BK135.out
      have hfz75 := blk_frozen BK135.out
      go_wp2
      repeat (go_quiet (fail); try go_wp2)
      go_ret
      exact ⟨eq_, bl_⟩
    ·rw [if_neg c72] at H
     have c72b0 : ((l0_3.length : Int) == 0) = false := beq_eq_false_iff_ne.mpr c72
     have c72b1 : ((l0_3.length : Int) != 0) = true := bne_iff_ne.mpr c72
     have c72b2 : ¬ (l0_3 = []) := fun h_ => c72 (by rw [h_]; rfl)
     obtain rfl := Option.some.inj H
     have hcz76 := blk_cell BK135.out
     have hfz76 := blk_frozen BK135.out
     go_wp2
     repeat (go_quiet (fail); try go_wp2)
     go_ret
     exact ⟨eq_, bl_⟩
   ·rw [if_neg c71] at H
    have c71b0 : (a0_2 == 0) = false := beq_eq_false_iff_ne.mpr c71
    have c71b1 : (a0_2 != 0) = true := bne_iff_ne.mpr c71
    obtain rfl := Option.some.inj H
    have hcz77 := blk_cell BK135.out
    have hfz77 := blk_frozen BK135.out
    go_wp2
    repeat (go_quiet (fail); try go_wp2)
    go_ret
    exact ⟨eq_, bl_⟩
 ·replace c6 := Bool.eq_false_iff.mpr c6
  subst c6
  replace H := ite_f_ H
  obtain rfl := Option.some.inj H
  go_wp2
  repeat (go_quiet (fail); try go_wp2)
  go_ret
  exact ⟨eq_, bl_⟩
end Go.Proofs.YteofimccoadmeaaGreat.PA
