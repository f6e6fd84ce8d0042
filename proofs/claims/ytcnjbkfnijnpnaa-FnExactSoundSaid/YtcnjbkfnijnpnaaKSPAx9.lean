import Derived.Test.YtcnjbkfnijnpnaaKSPAx8
-- printed by wip/tools
namespace Go.Proofs.Ytcnjbkfnijnpnaa.PA
open Go.RowKit Go.Proofs.YtcnjbkfnijnpnaaW.PrintWords Go.Proofs.YtcnjbkfnijnpnaaW.PrintLast Go.Proofs.YtcnjbkfnijnpnaaW.PrintMore
attribute [local go_sem] max2_int min2_int max_two min_two max_three min_three max_four min_four
set_option linter.unusedVariables false
set_option linter.unusedSimpArgs false
def laws_toPeer.f (k : Nat) (a0_0 : Int) (a0_1 : Bool) (a0_2 : Int) (l0_3 : List Int) (l0_4 : List Int) (l0_5 : List (S130)) : Option (Int × Bool × Int × List Int × List Int × (List (S133))) := (laws_toIntS.f k l0_3).bind fun t251 => ((laws_toIntS.f k l0_4).bind fun t254 => ((laws_toShelfS.f k l0_5).bind fun t257 => (some (a0_0, a0_1, a0_2, t251, t254, t257))))
set_option maxHeartbeats 8000000 in
set_option maxRecDepth 100000 in
theorem laws_toPeer.calls (k : Nat) (a0_0 : Int) (a0_1 : Bool) (a0_2 : Int) (A0_3 : Option Addr) (c0_3 : Nat) (l0_3 : List Int) (A0_4 : Option Addr) (c0_4 : Nat) (l0_4 : List Int) (A0_5 : Option Addr) (c0_5 : Nat) (l0_5 : List (S130)) (r1 : Int) (r2 : Bool) (r3 : Int) (r4 : List Int) (r5 : List Int) (r6 : List (S133)) (w : World) (hr0_3 : Kd.C (Kd.int .i64) w A0_3 l0_3.length l0_3) (hc0_3 : l0_3.length ≤ c0_3) (hr0_4 : Kd.C (Kd.int .i64) w A0_4 l0_4.length l0_4) (hc0_4 : l0_4.length ≤ c0_4) (hr0_5 : Kd.C k130 w A0_5 l0_5.length l0_5) (hc0_5 : l0_5.length ≤ c0_5) (h : laws_toPeer.f k a0_0 a0_1 a0_2 l0_3 l0_4 l0_5 = some (r1, r2, r3, r4, r5, r6)) :
  Calls Try.prog 55 #[.agg #[.int .i64 a0_0, .bool a0_1, .int .i64 a0_2, .slice A0_3 l0_3.length c0_3, .slice A0_4 l0_4.length c0_4, .slice A0_5 l0_5.length c0_5]] w fun e w' => ∃ v3_ v4_ v5_ : Value, e = .returned (.agg #[.int .i64 r1, .bool r2, .int .i64 r3, v3_, v4_, v5_]) ∧ Kd.R (Kd.int .i64) 3 w' w.heap.size (fun k_ => some k_ ≠ (v4_ : Value).ownBlock) v3_ r4 ∧ Kd.R (Kd.int .i64) 3 w' w.heap.size (fun k_ => some k_ ≠ (v3_ : Value).ownBlock) v4_ r5 ∧ Kd.S k133 133 w' w.heap.size (fun _ => True) v5_ r6 ∧ Below w.heap.size w w' := by
 have hu101 := Try.underlying101
 have hu107 := Try.underlying107
 have HR0_3 := aa_ hr0_3
 have HC0_3 := aa_ hc0_3
 clear hr0_3 hc0_3
 have HR0_4 := aa_ hr0_4
 have HC0_4 := aa_ hc0_4
 clear hr0_4 hc0_4
 have HR0_5 := aa_ hr0_5
 have HC0_5 := aa_ hc0_5
 clear hr0_5 hc0_5
 have HB := aa_ (Below.refl w.heap.size w)
 have H : ((laws_toIntS.f k l0_3).bind fun t251 => ((laws_toIntS.f k l0_4).bind fun t254 => ((laws_toShelfS.f k l0_5).bind fun t257 => (some (a0_0, a0_1, a0_2, t251, t254, t257))))) = some (r1, r2, r3, r4, r5, r6) := h
 clear h
 obtain ⟨t251, A2, H⟩ := bindE_ H
 obtain ⟨t254, A3, H⟩ := bindE_ H
 obtain ⟨t257, A4, H⟩ := bindE_ H
 simp only [Option.some.injEq, Prod.mk.injEq] at H
 obtain ⟨rfl, rfl, rfl, rfl, rfl, rfl⟩ := H
 go_enter Try.func55, Try.ntmps55
 go_wp2_with (first | ((with_reducible refine gD_ 1 rfl ?_); refine bx_ (N := 1) (cs := #[.int .i64 a0_0, .bool a0_1, .int .i64 a0_2, .slice A0_3 l0_3.length c0_3, .slice A0_4 l0_4.length c0_4, .slice A0_5 l0_5.length c0_5]) (t := 101) ?_; intro gb248 hg w5 hbox hb; have BK248 := aa_ (hbox); have GW248 := gs_ hg; have GE248 := gs_ hg; replace HB := hbs_ hb; clear hb hbox hg) | ((with_reducible refine gD_ 2 rfl ?_); refine bx_ (N := 2) (cs := #[.int .i64 0, .bool false, .int .i64 0, .slice none 0 0, .slice none 0 0, .slice none 0 0]) (t := 107) ?_; intro gb249 hg w6 hbox hb; have BK249 := aa_ (hbox); have GW249 := gs_ hg; have GE249 := gs_ hg; replace HB := hbs_ hb; have NB248_249 := nl_ hg BK248; have NB249_248 := nr_ hg BK248; replace BK248 := bkb_ BK248 hb; clear hb hbox hg) | ((with_reducible refine gD_ 3 rfl ?_); refine bx_ (N := 3) (cs := #[.int .i64 0, .bool false, .int .i64 0, .slice none 0 0, .slice none 0 0, .slice none 0 0]) (t := 107) ?_; intro gb250 hg w7 hbox hb; have BK250 := aa_ (hbox); have GW250 := gs_ hg; have GE250 := gs_ hg; replace HB := hbs_ hb; have NB248_250 := nl_ hg BK248; have NB250_248 := nr_ hg BK248; replace BK248 := bkb_ BK248 hb; have NB249_250 := nl_ hg BK249; have NB250_249 := nr_ hg BK249; replace BK249 := bkb_ BK249 hb; clear hb hbox hg; have hnb8 := NB248_249.out; have hnc8 := NB249_248.out; have hnb9 := NB248_250.out; have hnc9 := NB250_248.out; obtain ⟨hcz10, hfz10⟩ := bcf_ BK248; have hnb11 := NB250_249.out; have hnc11 := NB249_250.out; obtain ⟨hcz12, hfz12⟩ := bcf_ BK250) | ((with_reducible refine gC_ 19 rfl ?_); refine goesC_ (some 15) Try.func19 #[.slice A0_3 l0_3.length c0_3] ?_; (with_reducible refine (laws_toIntS.calls k _ _ l0_3 t251 _ ?side1 ?side2 A2.out).mono ?_); (case side1 => exact Kd.C_below HR0_3.out bl_); (case side2 => exact HC0_3.out); rintro e w13 ⟨v252, rfl, ho0, hb⟩; refine ⟨_, rfl, ?_⟩; have HO253 := aa_ (Kd.R_lower ho0 bls_); replace BK248 := aa_ (blk_below (g := gb248) (o := .cells #[.int .i64 a0_0, .bool a0_1, .int .i64 a0_2, .slice A0_3 l0_3.length c0_3, .slice A0_4 l0_4.length c0_4, .slice A0_5 l0_5.length c0_5] 101 (0, 0)) (bk_ BK248) hb); replace BK249 := aa_ (blk_below (g := gb249) (o := .cells #[.int .i64 0, .bool false, .int .i64 0, .slice none 0 0, .slice none 0 0, .slice none 0 0] 107 (0, 0)) (bk_ BK249) hb); replace BK250 := aa_ (blk_below (g := gb250) (o := .cells #[.int .i64 a0_0, .bool a0_1, .int .i64 a0_2, .slice none 0 0, .slice none 0 0, .slice none 0 0] 107 (0, 0)) (bk_ BK250) hb); replace HB := hbs_ hb; (try clear hb ho0); obtain ⟨Ao14, co14, eo14⟩ := Kd.R_slice HO253.out; subst eo14; obtain ⟨hcz15, hfz15⟩ := bcf_ BK250; obtain ⟨hcz16, hfz16⟩ := bcf_ BK248) | ((with_reducible refine gC_ 19 rfl ?_); refine goesC_ (some 19) Try.func19 #[.slice A0_4 l0_4.length c0_4] ?_; (with_reducible refine (laws_toIntS.calls k _ _ l0_4 t254 _ ?side1 ?side2 A3.out).mono ?_); (case side1 => exact Kd.C_below HR0_4.out bl_); (case side2 => exact HC0_4.out); rintro e w17 ⟨v255, rfl, ho0, hb⟩; refine ⟨_, rfl, ?_⟩; have HO256 := aa_ (Kd.R_lower (Kd.R_new' ho0 (Kd.R_lt (by (with_reducible repeat (first | apply Kd.R_alloc | apply Kd.R_drewN | apply Kd.R_drew)); exact (Kd.R_mono (Kd.R_far (p := ⟨gb250, 3, none⟩) (Kd.R_types HO253.out BK250.out (by decide)) (fun _ hk => hk.2) (.slice Ao14 t251.length co14)) (fun _ h_ => h_.1))))) bls_); replace HO253 := aa_ (Kd.R_elder' (by (with_reducible repeat (first | apply Kd.R_alloc | apply Kd.R_drewN | apply Kd.R_drew)); exact (Kd.R_mono (Kd.R_far (p := ⟨gb250, 3, none⟩) (Kd.R_types HO253.out BK250.out (by decide)) (fun _ hk => hk.2) (.slice Ao14 t251.length co14)) (fun _ h_ => h_.1))) (Kd.R_base ho0) hb); replace BK248 := aa_ (blk_below (g := gb248) (o := .cells #[.int .i64 a0_0, .bool a0_1, .int .i64 a0_2, .slice A0_3 l0_3.length c0_3, .slice A0_4 l0_4.length c0_4, .slice A0_5 l0_5.length c0_5] 101 (0, 0)) (bk_ BK248) hb); replace BK249 := aa_ (blk_below (g := gb249) (o := .cells #[.int .i64 0, .bool false, .int .i64 0, .slice none 0 0, .slice none 0 0, .slice none 0 0] 107 (0, 0)) (bk_ BK249) hb); replace BK250 := aa_ (blk_below (g := gb250) (o := .cells #[.int .i64 a0_0, .bool a0_1, .int .i64 a0_2, .slice Ao14 t251.length co14, .slice none 0 0, .slice none 0 0] 107 (0, 0)) (bk_ BK250) hb); replace HB := hbs_ hb; (try clear hb ho0); obtain ⟨Ao18, co18, eo18⟩ := Kd.R_slice HO256.out; subst eo18; obtain ⟨hcz19, hfz19⟩ := bcf_ BK250; obtain ⟨hcz20, hfz20⟩ := bcf_ BK248) | ((with_reducible refine gC_ 68 rfl ?_); refine goesC_ (some 23) Try.func68 #[.slice A0_5 l0_5.length c0_5] ?_; (with_reducible refine (laws_toShelfS.calls k _ _ l0_5 t257 _ ?side1 ?side2 A4.out).mono ?_); (case side1 => exact Kd.C_below HR0_5.out bl_); (case side2 => exact HC0_5.out); rintro e w21 ⟨v258, rfl, ho0, hb⟩; refine ⟨_, rfl, ?_⟩; replace HO253 := aa_ (Kd.R_below (by (with_reducible repeat (first | apply Kd.R_alloc | apply Kd.R_drewN | apply Kd.R_drew)); exact (Kd.R_mono (Kd.R_far (p := ⟨gb250, 4, none⟩) (Kd.R_types HO253.out BK250.out (by decide)) (fun _ hk => hk.2) (.slice Ao18 t254.length co18)) (fun _ h_ => h_.1))) hb); replace HO256 := aa_ (Kd.R_below (by (with_reducible repeat (first | apply Kd.R_alloc | apply Kd.R_drewN | apply Kd.R_drew)); exact (Kd.R_mono (Kd.R_far (p := ⟨gb250, 4, none⟩) (Kd.R_types HO256.out BK250.out (by decide)) (fun _ hk => hk.2) (.slice Ao18 t254.length co18)) (fun _ h_ => h_.1))) hb); have HO259 := aa_ (Kd.S_lower ho0 bls_); replace BK248 := aa_ (blk_below (g := gb248) (o := .cells #[.int .i64 a0_0, .bool a0_1, .int .i64 a0_2, .slice A0_3 l0_3.length c0_3, .slice A0_4 l0_4.length c0_4, .slice A0_5 l0_5.length c0_5] 101 (0, 0)) (bk_ BK248) hb); replace BK249 := aa_ (blk_below (g := gb249) (o := .cells #[.int .i64 0, .bool false, .int .i64 0, .slice none 0 0, .slice none 0 0, .slice none 0 0] 107 (0, 0)) (bk_ BK249) hb); replace BK250 := aa_ (blk_below (g := gb250) (o := .cells #[.int .i64 a0_0, .bool a0_1, .int .i64 a0_2, .slice Ao14 t251.length co14, .slice Ao18 t254.length co18, .slice none 0 0] 107 (0, 0)) (bk_ BK250) hb); replace HB := hbs_ hb; (try clear hb ho0); obtain ⟨Ao22, co22, eo22⟩ := Kd.S_slice HO259.out; subst eo22; obtain ⟨hcz23, hfz23⟩ := bcf_ BK250; obtain ⟨hcz24, hfz24⟩ := bcf_ BK249))
 refine bodyPost_ret (results_cell_row rfl _ _ gb249 107 #[.int .i64 a0_0, .bool a0_1, .int .i64 a0_2, .slice Ao14 t251.length co14, .slice Ao18 t254.length co18, .slice Ao22 t257.length co22] (0, 0) _ rfl (bk_ BK249) Try.underlying107 rfl (by kernel_rfl)) rfl ?_
 exact ⟨_, _, _, eq_, by (with_reducible repeat (first | apply Kd.R_alloc | apply Kd.R_drewN | apply Kd.R_drew)); exact Kd.R_mono (fr6_ (Kd.R_far (p := ⟨gb250, 5, none⟩) (Kd.R_types (Kd.R_types HO253.out BK250.out (by decide)) BK249.out (by decide)) (fun _ hk => hk.1.2) (.slice Ao22 t257.length co22)) (fun _ hk => hk.2)) (fun _ hk => hk.1.1.2), by (with_reducible repeat (first | apply Kd.R_alloc | apply Kd.R_drewN | apply Kd.R_drew)); exact Kd.R_mono (fr6_ (Kd.R_far (p := ⟨gb250, 5, none⟩) (Kd.R_types (Kd.R_types HO256.out BK250.out (by decide)) BK249.out (by decide)) (fun _ hk => hk.1.2) (.slice Ao22 t257.length co22)) (fun _ hk => hk.2)) (fun _ hk => hk.1.1.2), by (with_reducible repeat (first | apply Kd.S_alloc | apply Kd.S_drewN | apply Kd.S_drew)); exact Kd.S_mono (fs6_ (Kd.S_far (p := ⟨gb250, 5, none⟩) (Kd.S_types (Kd.S_types HO259.out BK250.out (by decide)) BK249.out (by decide)) (fun _ hk => hk.1.2) (.slice Ao22 t257.length co22)) (fun _ hk => hk.2)) (fun _ hk => trivial), bl_⟩
def laws_toPeerS.l0 : Nat → List (S101) → List (S107) → Int → Option ((List (S107)))
 | 0, _, _, _ => none
 | k + 1, x0, x3, x4 => if x4 < (x0.length : Int) then (if 0 ≤ x4 then ((laws_toPeer.f k ((rd_T101 x0 x4).f0) ((rd_T101 x0 x4).f1) ((rd_T101 x0 x4).f2) ((rd_T101 x0 x4).f3) ((rd_T101 x0 x4).f4) ((rd_T101 x0 x4).f5)).bind fun bt264 => (if x4 < (x3.length : Int) then (laws_toPeerS.l0 k x0 (x3.set (x4 : Int).toNat (⟨bt264.1, bt264.2.1, bt264.2.2.1, bt264.2.2.2.1, bt264.2.2.2.2.1, bt264.2.2.2.2.2⟩ : S107)) (wrap64 (x4 + 1))) else (none))) else (none)) else (some x3)
def laws_toPeerS.f (k : Nat) (l0 : List (S101)) : Option ((List (S107))) := if 0 ≤ (l0.length : Int) then (if ((l0.length : Int) : Int).toNat ≤ 2932031007402 then (laws_toPeerS.l0 k l0 (List.replicate ((l0.length : Int) : Int).toNat z107) 0) else (none)) else (none)
set_option maxHeartbeats 8000000 in
set_option maxRecDepth 100000 in
theorem laws_toPeerS.calls (k : Nat) (A0 : Option Addr) (c0 : Nat) (l0 : List (S101)) (r : List (S107)) (w : World) (hr0 : Kd.C k101 w A0 l0.length l0) (hc0 : l0.length ≤ c0) (h : laws_toPeerS.f k l0 = some r) :
  Calls Try.prog 38 #[.slice A0 l0.length c0] w fun e w' => ∃ v0_ : Value, e = .returned (v0_) ∧ Kd.R k107 107 w' w.heap.size (fun _ => True) v0_ r ∧ Below w.heap.size w w' := by
 have hu101 := Try.underlying101
 have hu107 := Try.underlying107
 have HR0 := aa_ hr0
 have HC0 := aa_ hc0
 clear hr0 hc0
 have HB := aa_ (Below.refl w.heap.size w)
 have H : (if 0 ≤ (l0.length : Int) then (if ((l0.length : Int) : Int).toNat ≤ 2932031007402 then (laws_toPeerS.l0 k l0 (List.replicate ((l0.length : Int) : Int).toNat z107) 0) else (none)) else (none)) = some r := h
 clear h
 obtain ⟨c2, H⟩ := ifn_ H
 have c2b0 := eq_true c2
 have c2b1 : decide (0 ≤ (l0.length : Int)) = true := decide_eq_true c2
 clear c2
 obtain ⟨c3, H⟩ := ifn_ H
 have c3b0 := eq_true c3
 have c3b1 : decide (((l0.length : Int) : Int).toNat ≤ 2932031007402) = true := decide_eq_true c3
 clear c3
 obtain ⟨y260, hy260⟩ : ∃ y_ : List (S107), y_ = (List.replicate ((l0.length : Int) : Int).toNat z107) := ⟨_, rfl⟩
 replace H : (laws_toPeerS.l0 k l0 y260 0) = some r := rh_ hy260 H
 have Ny260 := aa_ hy260
 clear hy260
 have H' := aa_ H
 clear H
 go_enter Try.func38, Try.ntmps38
 go_wp2_with (first | ((with_reducible refine gD_ 7 rfl ?_); refine Kd.R_make k107 _ 107 rfl (N := 7) rfl 33 _ _ rfl (l0.length : Int) rfl rfl Try.underlying33 (.agg #[(.int .i64 0), (.bool false), (.int .i64 0), (.slice none 0 0), (.slice none 0 0), (.slice none 0 0)]) 96 info107 rfl (by decide) (by omega) z107 (ok := fun _ => True) (okp := fun _ => True) (k107_mkM _ _ _ z107 (Kd.R_nil _ _ _ _ _) (Kd.R_nil _ _ _ _ _) (Kd.R_nil _ _ _ _ _)) (fun _ hk => hk) trivial (od_) (Nat.le_trans (Nat.mul_le_mul_right _ (od_ : (l0.length : Int).toNat ≤ 2932031007402)) (by omega)) (Below.refl _ _) (Nat.le_refl _) ?_; intro v261 w4 ho5 hb hg_ hnew_; clear hg_ hnew_; (first | rw [← Ny260.out] at ho5 | (simp only [Int.reduceToNat] at ho5; rw [← Ny260.out] at ho5)); have HO262 := aa_ (Kd.R_lower ho5 bls_); replace HB := hbs_ hb; clear hb ho5))
 go_loopg [4] k (fun kq v4 w' => ∃ (x3_1 : List (S107)) (x4_1 : Int), v4 = .int .i64 x4_1 ∧ Aside0 (laws_toPeerS.l0 kq l0 x3_1 x4_1 = some r) ∧ Aside0 (kq ≤ k) ∧ Aside0 (Kd.R k107 107 w' w.heap.size (fun _ => True) v261 x3_1) ∧ Aside0 (Below w.heap.size w w'))
 case atStart => exact ⟨(y260), (0), rf_, H', ⟨Nat.le_refl _⟩, ⟨rr_ HO262⟩, ⟨bl_⟩⟩
 case round =>
  clear H'
  try clear c2
  try clear c2b0
  try clear c2b1
  try clear p2
  try clear c3
  try clear c3b0
  try clear c3b1
  obtain ⟨x3_1, x4_1, rfl, HA, HK1, HO_3, HB⟩ := hrel
  cases gk with
  | zero => exact absurd HA.out (by simp [laws_toPeerS.l0])
  | succ k1 =>
   have H := HA.out
   clear HA
   simp only [laws_toPeerS.l0] at H
   by_cases c6 : x4_1 < (l0.length : Int)
   ·rw [if_pos c6] at H
    have c6b0 : decide (x4_1 < (l0.length : Int)) = true := decide_eq_true c6
    clear c6
    obtain ⟨c7b0, H⟩ := ifd_ H
    obtain ⟨⟨t264, t265, t266, t267, t270, t273⟩, A8, H⟩ := bindE_ H
    replace H : (if x4_1 < (x3_1.length : Int) then (laws_toPeerS.l0 k1 l0 (x3_1.set (x4_1 : Int).toNat (⟨t264, t265, t266, t267, t270, t273⟩ : S107)) (wrap64 (x4_1 + 1))) else (none)) = some r := H
    obtain ⟨c9b0, H⟩ := ifd_ H
    obtain ⟨y276, hy276⟩ : ∃ y_ : List (S107), y_ = (x3_1.set (x4_1 : Int).toNat (⟨t264, t265, t266, t267, t270, t273⟩ : S107)) := ⟨_, rfl⟩
    replace H : (laws_toPeerS.l0 k1 l0 y276 (wrap64 (x4_1 + 1))) = some r := rh_ hy276 H
    have Ny276 := aa_ hy276
    clear hy276
    have H' := aa_ H
    clear H
    have p263 : 0 ≤ (x4_1 : Int) := od_
    have q263 : x4_1 < (l0.length : Int) := od_
    obtain ⟨ad263, A263_3, c263_3, A263_4, c263_4, A263_5, c263_5, e263, hx263_0, hx263_1, hx263_2, hx263_3, hx263_4, hx263_5, hl263_3, hi263_3, hl263_4, hi263_4, hl263_5, hi263_5⟩ := at_T101 HR0.out x4_1 p263 q263
    cases e263
    replace hx263_0 := cb_ HB hx263_0
    replace hx263_1 := cb_ HB hx263_1
    replace hx263_2 := cb_ HB hx263_2
    replace hx263_3 := cb_ HB hx263_3
    replace hx263_4 := cb_ HB hx263_4
    replace hx263_5 := cb_ HB hx263_5
    have HR263_3 := aa_ hi263_3
    have HC263_3 := aa_ hl263_3
    clear hi263_3 hl263_3
    have HR263_4 := aa_ hi263_4
    have HC263_4 := aa_ hl263_4
    clear hi263_4 hl263_4
    have HR263_5 := aa_ hi263_5
    have HC263_5 := aa_ hl263_5
    clear hi263_5 hl263_5
    replace p263 := eq_true p263
    replace q263 := eq_true q263
    go_wp2_with (first | ((with_reducible refine gC_ 55 rfl ?_); refine goesC_ (some 20) Try.func55 #[.agg #[.int .i64 ((rd_T101 l0 x4_1).f0), .bool ((rd_T101 l0 x4_1).f1), .int .i64 ((rd_T101 l0 x4_1).f2), .slice A263_3 ((rd_T101 l0 x4_1).f3).length c263_3, .slice A263_4 ((rd_T101 l0 x4_1).f4).length c263_4, .slice A263_5 ((rd_T101 l0 x4_1).f5).length c263_5]] ?_; (with_reducible refine (laws_toPeer.calls k1 ((rd_T101 l0 x4_1).f0) ((rd_T101 l0 x4_1).f1) ((rd_T101 l0 x4_1).f2) _ _ ((rd_T101 l0 x4_1).f3) _ _ ((rd_T101 l0 x4_1).f4) _ _ ((rd_T101 l0 x4_1).f5) t264 t265 t266 t267 t270 t273 _ ?side1 ?side2 ?side3 ?side4 ?side5 ?side6 A8.out).mono ?_); (case side1 => repeat (first | exact (Kd.C_below HR263_3.out HB.out) | (with_reducible refine Kd.C_alloc ?_ _) | (with_reducible refine Kd.C_drewN ?_ _) | (with_reducible refine Kd.C_drew ?_))); (case side2 => exact HC263_3.out); (case side3 => repeat (first | exact (Kd.C_below HR263_4.out HB.out) | (with_reducible refine Kd.C_alloc ?_ _) | (with_reducible refine Kd.C_drewN ?_ _) | (with_reducible refine Kd.C_drew ?_))); (case side4 => exact HC263_4.out); (case side5 => repeat (first | exact (Kd.C_below HR263_5.out HB.out) | (with_reducible refine Kd.C_alloc ?_ _) | (with_reducible refine Kd.C_drewN ?_ _) | (with_reducible refine Kd.C_drew ?_))); (case side6 => exact HC263_5.out); rintro e w11 ⟨v268, v271, v274, rfl, ho0, ho1, ho2, hb⟩; refine ⟨_, rfl, ?_⟩; replace HO_3 := aa_ (Kd.R_mono (Kd.R_told (Kd.R_told (Kd.R_told (Kd.R_old (rr_ HO_3) hb) (Kd.R_base ho0)) (Kd.R_base ho1)) (Kd.S_base ho2)) (fun _ h_ => h_.1)); have HO269 := aa_ (Kd.R_lower ho0 bls_); have HO272 := aa_ (Kd.R_lower ho1 bls_); have HO275 := aa_ (Kd.S_lower ho2 bls_); replace HB := hbs_ hb; (try clear hb ho0 ho1 ho2); have p10 : 0 ≤ (x4_1 : Int) := od_; have q10 : (x4_1 : Int) < ((x3_1.length : Int) : Int) := od_; obtain ⟨go10, co10, eo10, gb10, gl10, cl10, HG10⟩ := Kd.R_form HO_3.out (by omega); (first | cases eo10 | (injection eo10 with ea_ en_ ec_; (first | subst ea_ | (injection ea_ with ea_; subst ea_)); subst ec_; clear en_)); have GB10 := aa_ gb10; have GG10 := aa_ HG10; clear gb10 gl10 HG10; obtain ⟨ce10, hcl10, hM10, hcc10, hfr10⟩ := Kd.R_elem HO_3.out z107 (x4_1 : Int) p10 q10; obtain ⟨ve10_3, ve10_4, ve10_5, rfl, ge10_3, ge10_4, ge10_5⟩ := k107_openM hM10; have hx10_0 : w11.cell? ⟨go10, (x4_1 : Int).toNat * 6, none⟩ = some (.int .i64 ((rd_T107 x3_1 x4_1).f0)) := hcc10 0 _ rfl; have hx10_1 : w11.cell? ⟨go10, (x4_1 : Int).toNat * 6 + 1, none⟩ = some (.bool ((rd_T107 x3_1 x4_1).f1)) := hcc10 1 _ rfl; have hx10_2 : w11.cell? ⟨go10, (x4_1 : Int).toNat * 6 + 2, none⟩ = some (.int .i64 ((rd_T107 x3_1 x4_1).f2)) := hcc10 2 _ rfl; have hx10_3 : w11.cell? ⟨go10, (x4_1 : Int).toNat * 6 + 3, none⟩ = some (ve10_3) := hcc10 3 _ rfl; have hx10_4 : w11.cell? ⟨go10, (x4_1 : Int).toNat * 6 + 4, none⟩ = some (ve10_4) := hcc10 4 _ rfl; have hx10_5 : w11.cell? ⟨go10, (x4_1 : Int).toNat * 6 + 5, none⟩ = some (ve10_5) := hcc10 5 _ rfl; have hf10_0 : w11.frozen? ⟨go10, (x4_1 : Int).toNat * 6, none⟩ = false := hfr10 0; have hf10_1 : w11.frozen? ⟨go10, (x4_1 : Int).toNat * 6 + 1, none⟩ = false := hfr10 1; have hf10_2 : w11.frozen? ⟨go10, (x4_1 : Int).toNat * 6 + 2, none⟩ = false := hfr10 2; have hf10_3 : w11.frozen? ⟨go10, (x4_1 : Int).toNat * 6 + 3, none⟩ = false := hfr10 3; have hf10_4 : w11.frozen? ⟨go10, (x4_1 : Int).toNat * 6 + 4, none⟩ = false := hfr10 4; have hf10_5 : w11.frozen? ⟨go10, (x4_1 : Int).toNat * 6 + 5, none⟩ = false := hfr10 5; clear hcl10 hcc10 hfr10 hM10; replace p10 := eq_true p10; replace q10 := eq_true q10; have n_ := aa_ (Kd.R_mono (ok' := (fun k_ => some k_ ≠ (v268 : Value).ownBlock ∧ some k_ ≠ (v271 : Value).ownBlock ∧ some k_ ≠ (v274 : Value).ownBlock)) HO_3.out (fun k_ hk => ⟨hk.1.1.2, ⟨hk.1.2, hk.2⟩⟩)); clear HO_3; have HO_3 := n_; clear n_; have honeo14 := one_R_ Try.prog HO269.out; have honeo15 := one_R_ Try.prog HO272.out; have honeo16 := one_S_ Try.prog HO275.out; have HX12 := aa_ (show Kd.R k107 107 w11 w.heap.size (fun _ => True) (.slice (some ⟨go10, 0, none⟩) x3_1.length co10) x3_1 from (by (with_reducible repeat (first | apply Kd.R_alloc | apply Kd.R_drewN | apply Kd.R_drew)); exact Kd.R_mono HO_3.out (fun _ hk => trivial))); obtain ⟨ce12, hcl12, hM12, hcc12, hfr12⟩ := Kd.R_elem HX12.out z107 (x4_1 : Int) (od_) (by have h_ : (x4_1 : Int) < ((x3_1.length : Int) : Int) := od_; first | exact h_ | (have e_ := (Kd.R_reads' HO_3.out).1; omega) | simpa using h_); obtain ⟨ve12_3, ve12_4, ve12_5, rfl, ge12_3, ge12_4, ge12_5⟩ := k107_openM hM12; have HP12 := Kd.R_seg HX12.out (x4_1 : Int) (od_) (by have h_ : (x4_1 : Int) < ((x3_1.length : Int) : Int) := od_; first | exact h_ | (have e_ := (Kd.R_reads' HO_3.out).1; omega) | simpa using h_) (seg := [.int .i64 t264, .bool t265, .int .i64 t266, v268, v271, v274]) (j := 0) hcl12 hcc12 (show 6 ≤ 6 from by decide) (x' := (⟨t264, t265, t266, t267, t270, t273⟩ : S107)) (k107_mkM _ _ _ (⟨t264, t265, t266, t267, t270, t273⟩ : S107) (Kd.R_mono (Kd.R_apart' (HO269.out) (Kd.R_typed HO_3.out) (by decide)) (fun k_ hk => ⟨trivial, fun e_ => (hk.2) (by rw [e_]; rfl)⟩)) (Kd.R_mono (Kd.R_apart' (HO272.out) (Kd.R_typed HO_3.out) (by decide)) (fun k_ hk => ⟨trivial, fun e_ => (hk.2) (by rw [e_]; rfl)⟩)) (Kd.R_mono (Kd.R_apart' ((Kd.S_R HO275.out)) (Kd.R_typed HO_3.out) (by decide)) (fun k_ hk => ⟨trivial, fun e_ => (hk.2) (by rw [e_]; rfl)⟩))) (fun _ hk => hk); have hx12_0 := hcc12 0 _ rfl; (try simp only [show (k107).sz = 6 from rfl, Nat.mul_one, Nat.add_zero] at hx12_0); have hf12_0 := hfr12 0; (try simp only [show (k107).sz = 6 from rfl, Nat.mul_one, Nat.add_zero] at hf12_0); have hx12_1 := hcc12 1 _ rfl; (try simp only [show (k107).sz = 6 from rfl, Nat.mul_one, Nat.add_zero] at hx12_1); have hf12_1 := hfr12 1; (try simp only [show (k107).sz = 6 from rfl, Nat.mul_one, Nat.add_zero] at hf12_1); have hx12_2 := hcc12 2 _ rfl; (try simp only [show (k107).sz = 6 from rfl, Nat.mul_one, Nat.add_zero] at hx12_2); have hf12_2 := hfr12 2; (try simp only [show (k107).sz = 6 from rfl, Nat.mul_one, Nat.add_zero] at hf12_2); have hx12_3 := hcc12 3 _ rfl; (try simp only [show (k107).sz = 6 from rfl, Nat.mul_one, Nat.add_zero] at hx12_3); have hf12_3 := hfr12 3; (try simp only [show (k107).sz = 6 from rfl, Nat.mul_one, Nat.add_zero] at hf12_3); have hx12_4 := hcc12 4 _ rfl; (try simp only [show (k107).sz = 6 from rfl, Nat.mul_one, Nat.add_zero] at hx12_4); have hf12_4 := hfr12 4; (try simp only [show (k107).sz = 6 from rfl, Nat.mul_one, Nat.add_zero] at hf12_4); have hx12_5 := hcc12 5 _ rfl; (try simp only [show (k107).sz = 6 from rfl, Nat.mul_one, Nat.add_zero] at hx12_5); have hf12_5 := hfr12 5; (try simp only [show (k107).sz = 6 from rfl, Nat.mul_one, Nat.add_zero] at hf12_5); clear hcl12 hcc12 hfr12 hM12) | ((with_reducible refine gate_store (t := 107) (p := 21) rfl ?_); refine store_event (t := 107) (p := 21) (v := ?vo_w13) (w1 := ((((((w11.setCell ⟨go10, (x4_1 : Int).toNat * 6, none⟩ (.int .i64 t264)).setCell ⟨go10, (x4_1 : Int).toNat * 6 + 1, none⟩ (.bool t265)).setCell ⟨go10, (x4_1 : Int).toNat * 6 + 2, none⟩ (.int .i64 t266)).setCell ⟨go10, (x4_1 : Int).toNat * 6 + 3, none⟩ (v268)).setCell ⟨go10, (x4_1 : Int).toNat * 6 + 4, none⟩ (v271)).setCell ⟨go10, (x4_1 : Int).toNat * 6 + 5, none⟩ (v274))) ?hg ?ho ?hn ?hr ?_; (case ho => rfl); (case hg => rfl); (case hn => rfl); (case hr => first | (go_simp; done) | (go_simp; rfl)); intro w13 hw; have hg : w11.grownBy w13 (some go10) := (by rw [hw]; exact HP12.2); have hp_ : Kd.R k107 107 w13 w.heap.size (fun _ => True) (.slice (some ⟨go10, 0, none⟩) x3_1.length co10) y276 := (by rw [hw, Ny276.out]; exact HP12.1); clear HP12; replace HO_3 := aa_ (hp_); replace HB := aa_ ((by rw [hw]; exact below_set (below_set (below_set (below_set (below_set (below_set (HB.out) GB10.out) GB10.out) GB10.out) GB10.out) GB10.out) GB10.out : Below w.heap.size w w13)); clear HO269; clear HO272; clear HO275; clear hg hw hp_))
    go_roundg k1
    case measure => have := HK1.out; omega
    case rel => exact ⟨(y276), (wrap64 (x4_1 + 1)), rf_, H', ⟨by have := HK1.out; omega⟩, ⟨rr_ HO_3⟩, ⟨bl_⟩⟩
   ·rw [if_neg c6] at H
    have c6b0 : decide (x4_1 < (l0.length : Int)) = false := decide_eq_false c6
    clear c6
    obtain rfl := Option.some.inj H
    go_wp2
    go_ret
    exact ⟨_, eq_, by (with_reducible repeat (first | apply Kd.R_alloc | apply Kd.R_drewN | apply Kd.R_drew)); exact HO_3.out, bl_⟩
def laws_toRing.f (k : Nat) (l0_0 : List (S101)) : Option ((List (S107))) := (laws_toPeerS.f k l0_0).bind fun t280 => (some t280)
set_option maxHeartbeats 8000000 in
set_option maxRecDepth 100000 in
theorem laws_toRing.calls (k : Nat) (A0_0 : Option Addr) (c0_0 : Nat) (l0_0 : List (S101)) (r : List (S107)) (w : World) (hr0_0 : Kd.C k101 w A0_0 l0_0.length l0_0) (hc0_0 : l0_0.length ≤ c0_0) (h : laws_toRing.f k l0_0 = some r) :
  Calls Try.prog 18 #[.agg #[.slice A0_0 l0_0.length c0_0]] w fun e w' => ∃ v0_ : Value, e = .returned (.agg #[v0_]) ∧ Kd.R k107 107 w' w.heap.size (fun _ => True) v0_ r ∧ Below w.heap.size w w' := by
 have hu24 := Try.underlying24
 have hu35 := Try.underlying35
 have HR0_0 := aa_ hr0_0
 have HC0_0 := aa_ hc0_0
 clear hr0_0 hc0_0
 have HB := aa_ (Below.refl w.heap.size w)
 have H : ((laws_toPeerS.f k l0_0).bind fun t280 => (some t280)) = some r := h
 clear h
 obtain ⟨t280, A2, H⟩ := bindE_ H
 obtain rfl := Option.some.inj H
 go_enter Try.func18, Try.ntmps18
 go_wp2_with (first | ((with_reducible refine gD_ 1 rfl ?_); refine bx_ (N := 1) (cs := #[.slice A0_0 l0_0.length c0_0]) (t := 24) ?_; intro gb277 hg w3 hbox hb; have BK277 := aa_ (hbox); have GW277 := gs_ hg; have GE277 := gs_ hg; replace HB := hbs_ hb; clear hb hbox hg) | ((with_reducible refine gD_ 2 rfl ?_); refine bx_ (N := 2) (cs := #[.slice none 0 0]) (t := 35) ?_; intro gb278 hg w4 hbox hb; have BK278 := aa_ (hbox); have GW278 := gs_ hg; have GE278 := gs_ hg; replace HB := hbs_ hb; have NB277_278 := nl_ hg BK277; have NB278_277 := nr_ hg BK277; replace BK277 := bkb_ BK277 hb; clear hb hbox hg) | ((with_reducible refine gD_ 3 rfl ?_); refine bx_ (N := 3) (cs := #[.slice none 0 0]) (t := 35) ?_; intro gb279 hg w5 hbox hb; have BK279 := aa_ (hbox); have GW279 := gs_ hg; have GE279 := gs_ hg; replace HB := hbs_ hb; have NB277_279 := nl_ hg BK277; have NB279_277 := nr_ hg BK277; replace BK277 := bkb_ BK277 hb; have NB278_279 := nl_ hg BK278; have NB279_278 := nr_ hg BK278; replace BK278 := bkb_ BK278 hb; clear hb hbox hg; have hnb6 := NB277_278.out; have hnc6 := NB278_277.out; have hnb7 := NB277_279.out; have hnc7 := NB279_277.out; obtain ⟨hcz8, hfz8⟩ := bcf_ BK277) | ((with_reducible refine gC_ 38 rfl ?_); refine goesC_ (some 6) Try.func38 #[.slice A0_0 l0_0.length c0_0] ?_; (with_reducible refine (laws_toPeerS.calls k _ _ l0_0 t280 _ ?side1 ?side2 A2.out).mono ?_); (case side1 => repeat (first | exact (Kd.C_below HR0_0.out HB.out) | (with_reducible refine Kd.C_alloc ?_ _) | (with_reducible refine Kd.C_drewN ?_ _) | (with_reducible refine Kd.C_drew ?_))); (case side2 => exact HC0_0.out); rintro e w9 ⟨v281, rfl, ho0, hb⟩; refine ⟨_, rfl, ?_⟩; have HO282 := aa_ (Kd.R_lower ho0 bls_); replace BK277 := bkb_ BK277 hb; replace BK278 := bkb_ BK278 hb; replace BK279 := bkb_ BK279 hb; replace HB := hbs_ hb; (try clear hb ho0); obtain ⟨Ao10, co10, eo10⟩ := Kd.R_slice HO282.out; subst eo10; have hnb11 := NB279_278.out; have hnc11 := NB278_279.out; obtain ⟨hcz12, hfz12⟩ := bcf_ BK279; obtain ⟨hcz13, hfz13⟩ := bcf_ BK278))
 refine bodyPost_ret (results_cell_row rfl _ _ gb278 35 #[.slice Ao10 t280.length co10] (0, 0) _ rfl (bk_ BK278) Try.underlying35 rfl (by kernel_rfl)) rfl ?_
 exact ⟨_, eq_, by (with_reducible repeat (first | apply Kd.R_alloc | apply Kd.R_drewN | apply Kd.R_drew)); exact Kd.R_mono (Kd.R_far (p := ⟨gb278, 0, none⟩) (Kd.R_far (p := ⟨gb279, 0, none⟩) (Kd.R_types (Kd.R_types HO282.out BK279.out (by decide)) BK278.out (by decide)) (fun _ hk => hk.1.2) (.slice Ao10 t280.length co10)) (fun _ hk => hk.2) (.slice Ao10 t280.length co10)) (fun _ hk => trivial), bl_⟩
def laws_toRole.f (a0_0 : Int) (a0_1 : Int) : Option (Int × Int) := some (a0_0, a0_1)
set_option maxHeartbeats 8000000 in
set_option maxRecDepth 100000 in
theorem laws_toRole.calls (a0_0 : Int) (a0_1 : Int) (r1 : Int) (r2 : Int) (w : World) (h : laws_toRole.f a0_0 a0_1 = some (r1, r2)) :
  Calls Try.prog 56 #[.agg #[.int .i64 a0_0, .int .i64 a0_1]] w fun e w' => e = .returned (.agg #[.int .i64 r1, .int .i64 r2]) ∧ Below w.heap.size w w' := by
 have hu85 := Try.underlying85
 have hu55 := Try.underlying55
 have HB := aa_ (Below.refl w.heap.size w)
 have H : (some (a0_0, a0_1)) = some (r1, r2) := h
 clear h
 simp only [Option.some.injEq, Prod.mk.injEq] at H
 obtain ⟨rfl, rfl⟩ := H
 go_enter Try.func56, Try.ntmps56
 go_wp2_with (first | ((with_reducible refine gD_ 1 rfl ?_); refine bx_ (N := 1) (cs := #[.int .i64 a0_0, .int .i64 a0_1]) (t := 85) ?_; intro gb283 hg w2 hbox hb; have BK283 := aa_ (hbox); have GW283 := gs_ hg; have GE283 := gs_ hg; replace HB := hbs_ hb; clear hb hbox hg) | ((with_reducible refine gD_ 2 rfl ?_); refine bx_ (N := 2) (cs := #[.int .i64 0, .int .i64 0]) (t := 55) ?_; intro gb284 hg w3 hbox hb; have BK284 := aa_ (hbox); have GW284 := gs_ hg; have GE284 := gs_ hg; replace HB := hbs_ hb; have NB283_284 := nl_ hg BK283; have NB284_283 := nr_ hg BK283; replace BK283 := bkb_ BK283 hb; clear hb hbox hg) | ((with_reducible refine gD_ 3 rfl ?_); refine bx_ (N := 3) (cs := #[.int .i64 0, .int .i64 0]) (t := 55) ?_; intro gb285 hg w4 hbox hb; have BK285 := aa_ (hbox); have GW285 := gs_ hg; have GE285 := gs_ hg; replace HB := hbs_ hb; have NB283_285 := nl_ hg BK283; have NB285_283 := nr_ hg BK283; replace BK283 := bkb_ BK283 hb; have NB284_285 := nl_ hg BK284; have NB285_284 := nr_ hg BK284; replace BK284 := bkb_ BK284 hb; clear hb hbox hg; have hnb5 := NB283_284.out; have hnc5 := NB284_283.out; have hnb6 := NB283_285.out; have hnc6 := NB285_283.out; obtain ⟨hcz7, hfz7⟩ := bcf_ BK283; have hnb8 := NB285_284.out; have hnc8 := NB284_285.out; obtain ⟨hcz9, hfz9⟩ := bcf_ BK285; obtain ⟨hcz10, hfz10⟩ := bcf_ BK284))
 refine bodyPost_ret (results_cell_row rfl _ _ gb284 55 #[.int .i64 a0_0, .int .i64 a0_1] (0, 0) _ rfl (bk_ BK284) Try.underlying55 rfl (by kernel_rfl)) rfl ?_
 exact ⟨eq_, bl_⟩
def laws_toCred.f (a0_0 : Int) (a0_1 : Int) (a0_2 : Int) (a0_3 : Int) (a0_4 : Int) (a0_5 : Int) (a0_6 : Int) (a0_7 : Int) (a0_8 : Int) (a0_9 : Int) : Option (Int × Int × Int × Int × Int × Int × Int × Int × Int × Int) := (laws_toRole.f a0_1 a0_2).bind fun bt289 => ((laws_toRole.f a0_4 a0_5).bind fun bt291 => ((laws_toRole.f a0_6 a0_7).bind fun bt293 => (some (a0_0, bt289.1, bt289.2, a0_3, bt291.1, bt291.2, bt293.1, bt293.2, a0_8, a0_9))))
set_option maxHeartbeats 8000000 in
set_option maxRecDepth 100000 in
theorem laws_toCred.calls (a0_0 : Int) (a0_1 : Int) (a0_2 : Int) (a0_3 : Int) (a0_4 : Int) (a0_5 : Int) (a0_6 : Int) (a0_7 : Int) (a0_8 : Int) (a0_9 : Int) (r1 : Int) (r2 : Int) (r3 : Int) (r4 : Int) (r5 : Int) (r6 : Int) (r7 : Int) (r8 : Int) (r9 : Int) (r10 : Int) (w : World) (h : laws_toCred.f a0_0 a0_1 a0_2 a0_3 a0_4 a0_5 a0_6 a0_7 a0_8 a0_9 = some (r1, r2, r3, r4, r5, r6, r7, r8, r9, r10)) :
  Calls Try.prog 39 #[.agg #[.int .i64 a0_0, .int .i64 a0_1, .int .i64 a0_2, .int .i64 a0_3, .int .i64 a0_4, .int .i64 a0_5, .int .i64 a0_6, .int .i64 a0_7, .int .i64 a0_8, .int .i64 a0_9]] w fun e w' => e = .returned (.agg #[.int .i64 r1, .int .i64 r2, .int .i64 r3, .int .i64 r4, .int .i64 r5, .int .i64 r6, .int .i64 r7, .int .i64 r8, .int .i64 r9, .int .i64 r10]) ∧ Below w.heap.size w w' := by
 have hu87 := Try.underlying87
 have hu61 := Try.underlying61
 have hu85 := Try.underlying85
 have hu55 := Try.underlying55
 have HB := aa_ (Below.refl w.heap.size w)
 have H : ((laws_toRole.f a0_1 a0_2).bind fun bt289 => ((laws_toRole.f a0_4 a0_5).bind fun bt291 => ((laws_toRole.f a0_6 a0_7).bind fun bt293 => (some (a0_0, bt289.1, bt289.2, a0_3, bt291.1, bt291.2, bt293.1, bt293.2, a0_8, a0_9))))) = some (r1, r2, r3, r4, r5, r6, r7, r8, r9, r10) := h
 clear h
 obtain ⟨⟨t289, t290⟩, A2, H⟩ := bindE_ H
 (try dsimp only at H)
 obtain ⟨⟨t291, t292⟩, A3, H⟩ := bindE_ H
 (try dsimp only at H)
 obtain ⟨⟨t293, t294⟩, A4, H⟩ := bindE_ H
 (try dsimp only at H)
 simp only [Option.some.injEq, Prod.mk.injEq] at H
 obtain ⟨rfl, rfl, rfl, rfl, rfl, rfl, rfl, rfl, rfl, rfl⟩ := H
 go_enter Try.func39, Try.ntmps39
 go_wp2_with (first | ((with_reducible refine gD_ 1 rfl ?_); refine bx_ (N := 1) (cs := #[.int .i64 a0_0, .int .i64 a0_1, .int .i64 a0_2, .int .i64 a0_3, .int .i64 a0_4, .int .i64 a0_5, .int .i64 a0_6, .int .i64 a0_7, .int .i64 a0_8, .int .i64 a0_9]) (t := 87) ?_; intro gb286 hg w5 hbox hb; have BK286 := aa_ (hbox); have GW286 := gs_ hg; have GE286 := gs_ hg; replace HB := hbs_ hb; clear hb hbox hg) | ((with_reducible refine gD_ 2 rfl ?_); refine bx_ (N := 2) (cs := #[.int .i64 0, .int .i64 0, .int .i64 0, .int .i64 0, .int .i64 0, .int .i64 0, .int .i64 0, .int .i64 0, .int .i64 0, .int .i64 0]) (t := 61) ?_; intro gb287 hg w6 hbox hb; have BK287 := aa_ (hbox); have GW287 := gs_ hg; have GE287 := gs_ hg; replace HB := hbs_ hb; have NB286_287 := nl_ hg BK286; have NB287_286 := nr_ hg BK286; replace BK286 := bkb_ BK286 hb; clear hb hbox hg) | ((with_reducible refine gD_ 3 rfl ?_); refine bx_ (N := 3) (cs := #[.int .i64 0, .int .i64 0, .int .i64 0, .int .i64 0, .int .i64 0, .int .i64 0, .int .i64 0, .int .i64 0, .int .i64 0, .int .i64 0]) (t := 61) ?_; intro gb288 hg w7 hbox hb; have BK288 := aa_ (hbox); have GW288 := gs_ hg; have GE288 := gs_ hg; replace HB := hbs_ hb; have NB286_288 := nl_ hg BK286; have NB288_286 := nr_ hg BK286; replace BK286 := bkb_ BK286 hb; have NB287_288 := nl_ hg BK287; have NB288_287 := nr_ hg BK287; replace BK287 := bkb_ BK287 hb; clear hb hbox hg; have hnb8 := NB286_287.out; have hnc8 := NB287_286.out; have hnb9 := NB286_288.out; have hnc9 := NB288_286.out; obtain ⟨hcz10, hfz10⟩ := bcf_ BK286; have hnb11 := NB288_287.out; have hnc11 := NB287_288.out; obtain ⟨hcz12, hfz12⟩ := bcf_ BK288) | ((with_reducible refine gC_ 56 rfl ?_); refine goesC_ (some 9) Try.func56 #[.agg #[.int .i64 a0_1, .int .i64 a0_2]] ?_; (with_reducible refine (laws_toRole.calls a0_1 a0_2 t289 t290 _ A2.out).mono ?_); rintro e w13 ⟨rfl, hb⟩; refine ⟨_, rfl, ?_⟩; replace BK286 := aa_ (blk_below (g := gb286) (o := .cells #[.int .i64 a0_0, .int .i64 a0_1, .int .i64 a0_2, .int .i64 a0_3, .int .i64 a0_4, .int .i64 a0_5, .int .i64 a0_6, .int .i64 a0_7, .int .i64 a0_8, .int .i64 a0_9] 87 (0, 0)) (bk_ BK286) hb); replace BK287 := aa_ (blk_below (g := gb287) (o := .cells #[.int .i64 0, .int .i64 0, .int .i64 0, .int .i64 0, .int .i64 0, .int .i64 0, .int .i64 0, .int .i64 0, .int .i64 0, .int .i64 0] 61 (0, 0)) (bk_ BK287) hb); replace BK288 := aa_ (blk_below (g := gb288) (o := .cells #[.int .i64 a0_0, .int .i64 0, .int .i64 0, .int .i64 0, .int .i64 0, .int .i64 0, .int .i64 0, .int .i64 0, .int .i64 0, .int .i64 0] 61 (0, 0)) (bk_ BK288) hb); replace HB := hbs_ hb; clear hb; obtain ⟨hcz14, hfz14⟩ := bcf_ BK288; obtain ⟨hcz15, hfz15⟩ := bcf_ BK286) | ((with_reducible refine gC_ 56 rfl ?_); refine goesC_ (some 16) Try.func56 #[.agg #[.int .i64 a0_4, .int .i64 a0_5]] ?_; (with_reducible refine (laws_toRole.calls a0_4 a0_5 t291 t292 _ A3.out).mono ?_); rintro e w16 ⟨rfl, hb⟩; refine ⟨_, rfl, ?_⟩; replace BK286 := aa_ (blk_below (g := gb286) (o := .cells #[.int .i64 a0_0, .int .i64 a0_1, .int .i64 a0_2, .int .i64 a0_3, .int .i64 a0_4, .int .i64 a0_5, .int .i64 a0_6, .int .i64 a0_7, .int .i64 a0_8, .int .i64 a0_9] 87 (0, 0)) (bk_ BK286) hb); replace BK287 := aa_ (blk_below (g := gb287) (o := .cells #[.int .i64 0, .int .i64 0, .int .i64 0, .int .i64 0, .int .i64 0, .int .i64 0, .int .i64 0, .int .i64 0, .int .i64 0, .int .i64 0] 61 (0, 0)) (bk_ BK287) hb); replace BK288 := aa_ (blk_below (g := gb288) (o := .cells #[.int .i64 a0_0, .int .i64 t289, .int .i64 t290, .int .i64 a0_3, .int .i64 0, .int .i64 0, .int .i64 0, .int .i64 0, .int .i64 0, .int .i64 0] 61 (0, 0)) (bk_ BK288) hb); replace HB := hbs_ hb; clear hb; obtain ⟨hcz17, hfz17⟩ := bcf_ BK288; obtain ⟨hcz18, hfz18⟩ := bcf_ BK286) | ((with_reducible refine gC_ 56 rfl ?_); refine goesC_ (some 20) Try.func56 #[.agg #[.int .i64 a0_6, .int .i64 a0_7]] ?_; (with_reducible refine (laws_toRole.calls a0_6 a0_7 t293 t294 _ A4.out).mono ?_); rintro e w19 ⟨rfl, hb⟩; refine ⟨_, rfl, ?_⟩; replace BK286 := aa_ (blk_below (g := gb286) (o := .cells #[.int .i64 a0_0, .int .i64 a0_1, .int .i64 a0_2, .int .i64 a0_3, .int .i64 a0_4, .int .i64 a0_5, .int .i64 a0_6, .int .i64 a0_7, .int .i64 a0_8, .int .i64 a0_9] 87 (0, 0)) (bk_ BK286) hb); replace BK287 := aa_ (blk_below (g := gb287) (o := .cells #[.int .i64 0, .int .i64 0, .int .i64 0, .int .i64 0, .int .i64 0, .int .i64 0, .int .i64 0, .int .i64 0, .int .i64 0, .int .i64 0] 61 (0, 0)) (bk_ BK287) hb); replace BK288 := aa_ (blk_below (g := gb288) (o := .cells #[.int .i64 a0_0, .int .i64 t289, .int .i64 t290, .int .i64 a0_3, .int .i64 t291, .int .i64 t292, .int .i64 0, .int .i64 0, .int .i64 0, .int .i64 0] 61 (0, 0)) (bk_ BK288) hb); replace HB := hbs_ hb; clear hb; obtain ⟨hcz20, hfz20⟩ := bcf_ BK288; obtain ⟨hcz21, hfz21⟩ := bcf_ BK286; obtain ⟨hcz22, hfz22⟩ := bcf_ BK287))
 refine bodyPost_ret (results_cell_row rfl _ _ gb287 61 #[.int .i64 a0_0, .int .i64 t289, .int .i64 t290, .int .i64 a0_3, .int .i64 t291, .int .i64 t292, .int .i64 t293, .int .i64 t294, .int .i64 a0_8, .int .i64 a0_9] (0, 0) _ rfl (bk_ BK287) Try.underlying61 rfl (by kernel_rfl)) rfl ?_
 exact ⟨eq_, bl_⟩
def laws_toCredS.l0 : Nat → List (S87) → List (S61) → Int → Option ((List (S61)))
 | 0, _, _, _ => none
 | k + 1, x0, x3, x4 => if x4 < (x0.length : Int) then (if 0 ≤ x4 then ((laws_toCred.f ((rd_T87 x0 x4).f0) ((rd_T87 x0 x4).f1.f0) ((rd_T87 x0 x4).f1.f1) ((rd_T87 x0 x4).f2) ((rd_T87 x0 x4).f3.f0) ((rd_T87 x0 x4).f3.f1) ((rd_T87 x0 x4).f4.f0) ((rd_T87 x0 x4).f4.f1) ((rd_T87 x0 x4).f5) ((rd_T87 x0 x4).f6)).bind fun bt299 => (if x4 < (x3.length : Int) then (laws_toCredS.l0 k x0 (x3.set (x4 : Int).toNat (⟨bt299.1, (⟨bt299.2.1, bt299.2.2.1⟩ : S55), bt299.2.2.2.1, (⟨bt299.2.2.2.2.1, bt299.2.2.2.2.2.1⟩ : S55), (⟨bt299.2.2.2.2.2.2.1, bt299.2.2.2.2.2.2.2.1⟩ : S55), bt299.2.2.2.2.2.2.2.2.1, bt299.2.2.2.2.2.2.2.2.2⟩ : S61)) (wrap64 (x4 + 1))) else (none))) else (none)) else (some x3)
def laws_toCredS.f (k : Nat) (l0 : List (S87)) : Option ((List (S61))) := if 0 ≤ (l0.length : Int) then (if ((l0.length : Int) : Int).toNat ≤ 3518437208883 then (laws_toCredS.l0 k l0 (List.replicate ((l0.length : Int) : Int).toNat z61) 0) else (none)) else (none)
set_option maxHeartbeats 8000000 in
set_option maxRecDepth 100000 in
theorem laws_toCredS.calls (k : Nat) (A0 : Option Addr) (c0 : Nat) (l0 : List (S87)) (r : List (S61)) (w : World) (hr0 : Kd.C k87 w A0 l0.length l0) (hc0 : l0.length ≤ c0) (h : laws_toCredS.f k l0 = some r) :
  Calls Try.prog 20 #[.slice A0 l0.length c0] w fun e w' => ∃ v0_ : Value, e = .returned (v0_) ∧ Kd.R k61 61 w' w.heap.size (fun _ => True) v0_ r ∧ Below w.heap.size w w' := by
 have hu87 := Try.underlying87
 have hu61 := Try.underlying61
 have HR0 := aa_ hr0
 have HC0 := aa_ hc0
 clear hr0 hc0
 have HB := aa_ (Below.refl w.heap.size w)
 have H : (if 0 ≤ (l0.length : Int) then (if ((l0.length : Int) : Int).toNat ≤ 3518437208883 then (laws_toCredS.l0 k l0 (List.replicate ((l0.length : Int) : Int).toNat z61) 0) else (none)) else (none)) = some r := h
 clear h
 obtain ⟨c2, H⟩ := ifn_ H
 have c2b0 := eq_true c2
 have c2b1 : decide (0 ≤ (l0.length : Int)) = true := decide_eq_true c2
 clear c2
 obtain ⟨c3, H⟩ := ifn_ H
 have c3b0 := eq_true c3
 have c3b1 : decide (((l0.length : Int) : Int).toNat ≤ 3518437208883) = true := decide_eq_true c3
 clear c3
 obtain ⟨y295, hy295⟩ : ∃ y_ : List (S61), y_ = (List.replicate ((l0.length : Int) : Int).toNat z61) := ⟨_, rfl⟩
 replace H : (laws_toCredS.l0 k l0 y295 0) = some r := rh_ hy295 H
 have Ny295 := aa_ hy295
 clear hy295
 have H' := aa_ H
 clear H
 go_enter Try.func20, Try.ntmps20
 go_wp2_with (first | ((with_reducible refine gD_ 7 rfl ?_); refine Kd.R_make k61 _ 61 rfl (N := 7) rfl 36 _ _ rfl (l0.length : Int) rfl rfl Try.underlying36 (.agg #[(.int .i64 0), (.int .i64 0), (.int .i64 0), (.int .i64 0), (.int .i64 0), (.int .i64 0), (.int .i64 0), (.int .i64 0), (.int .i64 0), (.int .i64 0)]) 80 info61 rfl (by decide) (by omega) z61 (ok := fun _ => True) (okp := fun _ => True) (k61_mkM _ _ _ z61 ) (fun _ hk => hk) trivial (od_) (Nat.le_trans (Nat.mul_le_mul_right _ (od_ : (l0.length : Int).toNat ≤ 3518437208883)) (by omega)) (Below.refl _ _) (Nat.le_refl _) ?_; intro v296 w4 ho5 hb hg_ hnew_; clear hg_ hnew_; (first | rw [← Ny295.out] at ho5 | (simp only [Int.reduceToNat] at ho5; rw [← Ny295.out] at ho5)); have HO297 := aa_ (Kd.R_lower ho5 bls_); replace HB := hbs_ hb; clear hb ho5))
 go_loopg [4] k (fun kq v4 w' => ∃ (x3_1 : List (S61)) (x4_1 : Int), v4 = .int .i64 x4_1 ∧ Aside0 (laws_toCredS.l0 kq l0 x3_1 x4_1 = some r) ∧ Aside0 (kq ≤ k) ∧ Aside0 (Kd.R k61 61 w' w.heap.size (fun _ => True) v296 x3_1) ∧ Aside0 (Below w.heap.size w w'))
 case atStart => exact ⟨(y295), (0), rf_, H', ⟨Nat.le_refl _⟩, ⟨rr_ HO297⟩, ⟨bl_⟩⟩
 case round =>
  clear H'
  try clear c2
  try clear c2b0
  try clear c2b1
  try clear p2
  try clear c3
  try clear c3b0
  try clear c3b1
  obtain ⟨x3_1, x4_1, rfl, HA, HK1, HO_3, HB⟩ := hrel
  cases gk with
  | zero => exact absurd HA.out (by simp [laws_toCredS.l0])
  | succ k1 =>
   have H := HA.out
   clear HA
   simp only [laws_toCredS.l0] at H
   by_cases c6 : x4_1 < (l0.length : Int)
   ·rw [if_pos c6] at H
    have c6b0 : decide (x4_1 < (l0.length : Int)) = true := decide_eq_true c6
    clear c6
    obtain ⟨c7b0, H⟩ := ifd_ H
    obtain ⟨⟨t299, t300, t301, t302, t303, t304, t305, t306, t307, t308⟩, A8, H⟩ := bindE_ H
    replace H : (if x4_1 < (x3_1.length : Int) then (laws_toCredS.l0 k1 l0 (x3_1.set (x4_1 : Int).toNat (⟨t299, (⟨t300, t301⟩ : S55), t302, (⟨t303, t304⟩ : S55), (⟨t305, t306⟩ : S55), t307, t308⟩ : S61)) (wrap64 (x4_1 + 1))) else (none)) = some r := H
    obtain ⟨c9b0, H⟩ := ifd_ H
    obtain ⟨y309, hy309⟩ : ∃ y_ : List (S61), y_ = (x3_1.set (x4_1 : Int).toNat (⟨t299, (⟨t300, t301⟩ : S55), t302, (⟨t303, t304⟩ : S55), (⟨t305, t306⟩ : S55), t307, t308⟩ : S61)) := ⟨_, rfl⟩
    replace H : (laws_toCredS.l0 k1 l0 y309 (wrap64 (x4_1 + 1))) = some r := rh_ hy309 H
    have Ny309 := aa_ hy309
    clear hy309
    have H' := aa_ H
    clear H
    have p298 : 0 ≤ (x4_1 : Int) := od_
    have q298 : x4_1 < (l0.length : Int) := od_
    obtain ⟨ad298, e298, hx298_0, hx298_1, hx298_2, hx298_3, hx298_4, hx298_5, hx298_6, hx298_7, hx298_8, hx298_9⟩ := at_T87 (Kd.C_below HR0.out HB.out) x4_1 p298 q298
    cases e298
    replace p298 := eq_true p298
    replace q298 := eq_true q298
    go_wp2_with (first | ((with_reducible refine gC_ 39 rfl ?_); refine goesC_ (some 20) Try.func39 #[.agg #[.int .i64 ((rd_T87 l0 x4_1).f0), .int .i64 ((rd_T87 l0 x4_1).f1.f0), .int .i64 ((rd_T87 l0 x4_1).f1.f1), .int .i64 ((rd_T87 l0 x4_1).f2), .int .i64 ((rd_T87 l0 x4_1).f3.f0), .int .i64 ((rd_T87 l0 x4_1).f3.f1), .int .i64 ((rd_T87 l0 x4_1).f4.f0), .int .i64 ((rd_T87 l0 x4_1).f4.f1), .int .i64 ((rd_T87 l0 x4_1).f5), .int .i64 ((rd_T87 l0 x4_1).f6)]] ?_; (with_reducible refine (laws_toCred.calls ((rd_T87 l0 x4_1).f0) ((rd_T87 l0 x4_1).f1.f0) ((rd_T87 l0 x4_1).f1.f1) ((rd_T87 l0 x4_1).f2) ((rd_T87 l0 x4_1).f3.f0) ((rd_T87 l0 x4_1).f3.f1) ((rd_T87 l0 x4_1).f4.f0) ((rd_T87 l0 x4_1).f4.f1) ((rd_T87 l0 x4_1).f5) ((rd_T87 l0 x4_1).f6) t299 t300 t301 t302 t303 t304 t305 t306 t307 t308 _ A8.out).mono ?_); rintro e w11 ⟨rfl, hb⟩; refine ⟨_, rfl, ?_⟩; replace HO_3 := hob_ HO_3 hb; replace HB := hbs_ hb; clear hb; have p10 : 0 ≤ (x4_1 : Int) := od_; have q10 : (x4_1 : Int) < ((x3_1.length : Int) : Int) := od_; obtain ⟨go10, co10, eo10, gb10, gl10, cl10, HG10⟩ := Kd.R_form HO_3.out (by omega); (first | cases eo10 | (injection eo10 with ea_ en_ ec_; (first | subst ea_ | (injection ea_ with ea_; subst ea_)); subst ec_; clear en_)); have GB10 := aa_ gb10; have GG10 := aa_ HG10; clear gb10 gl10 HG10; obtain ⟨ce10, hcl10, hM10, hcc10, hfr10⟩ := Kd.R_elem HO_3.out z61 (x4_1 : Int) p10 q10; obtain rfl := k61_openM hM10; have hx10_0 : w11.cell? ⟨go10, (x4_1 : Int).toNat * 10, none⟩ = some (.int .i64 ((rd_T61 x3_1 x4_1).f0)) := hcc10 0 _ rfl; have hx10_1 : w11.cell? ⟨go10, (x4_1 : Int).toNat * 10 + 1, none⟩ = some (.int .i64 ((rd_T61 x3_1 x4_1).f1.f0)) := hcc10 1 _ rfl; have hx10_2 : w11.cell? ⟨go10, (x4_1 : Int).toNat * 10 + 2, none⟩ = some (.int .i64 ((rd_T61 x3_1 x4_1).f1.f1)) := hcc10 2 _ rfl; have hx10_3 : w11.cell? ⟨go10, (x4_1 : Int).toNat * 10 + 3, none⟩ = some (.int .i64 ((rd_T61 x3_1 x4_1).f2)) := hcc10 3 _ rfl; have hx10_4 : w11.cell? ⟨go10, (x4_1 : Int).toNat * 10 + 4, none⟩ = some (.int .i64 ((rd_T61 x3_1 x4_1).f3.f0)) := hcc10 4 _ rfl; have hx10_5 : w11.cell? ⟨go10, (x4_1 : Int).toNat * 10 + 5, none⟩ = some (.int .i64 ((rd_T61 x3_1 x4_1).f3.f1)) := hcc10 5 _ rfl; have hx10_6 : w11.cell? ⟨go10, (x4_1 : Int).toNat * 10 + 6, none⟩ = some (.int .i64 ((rd_T61 x3_1 x4_1).f4.f0)) := hcc10 6 _ rfl; have hx10_7 : w11.cell? ⟨go10, (x4_1 : Int).toNat * 10 + 7, none⟩ = some (.int .i64 ((rd_T61 x3_1 x4_1).f4.f1)) := hcc10 7 _ rfl; have hx10_8 : w11.cell? ⟨go10, (x4_1 : Int).toNat * 10 + 8, none⟩ = some (.int .i64 ((rd_T61 x3_1 x4_1).f5)) := hcc10 8 _ rfl; have hx10_9 : w11.cell? ⟨go10, (x4_1 : Int).toNat * 10 + 9, none⟩ = some (.int .i64 ((rd_T61 x3_1 x4_1).f6)) := hcc10 9 _ rfl; have hf10_0 : w11.frozen? ⟨go10, (x4_1 : Int).toNat * 10, none⟩ = false := hfr10 0; have hf10_1 : w11.frozen? ⟨go10, (x4_1 : Int).toNat * 10 + 1, none⟩ = false := hfr10 1; have hf10_2 : w11.frozen? ⟨go10, (x4_1 : Int).toNat * 10 + 2, none⟩ = false := hfr10 2; have hf10_3 : w11.frozen? ⟨go10, (x4_1 : Int).toNat * 10 + 3, none⟩ = false := hfr10 3; have hf10_4 : w11.frozen? ⟨go10, (x4_1 : Int).toNat * 10 + 4, none⟩ = false := hfr10 4; have hf10_5 : w11.frozen? ⟨go10, (x4_1 : Int).toNat * 10 + 5, none⟩ = false := hfr10 5; have hf10_6 : w11.frozen? ⟨go10, (x4_1 : Int).toNat * 10 + 6, none⟩ = false := hfr10 6; have hf10_7 : w11.frozen? ⟨go10, (x4_1 : Int).toNat * 10 + 7, none⟩ = false := hfr10 7; have hf10_8 : w11.frozen? ⟨go10, (x4_1 : Int).toNat * 10 + 8, none⟩ = false := hfr10 8; have hf10_9 : w11.frozen? ⟨go10, (x4_1 : Int).toNat * 10 + 9, none⟩ = false := hfr10 9; clear hcl10 hcc10 hfr10 hM10; replace p10 := eq_true p10; replace q10 := eq_true q10; have HX12 := aa_ (show Kd.R k61 61 w11 w.heap.size (fun _ => True) (.slice (some ⟨go10, 0, none⟩) x3_1.length co10) x3_1 from (rr_ HO_3)); obtain ⟨ce12, hcl12, hM12, hcc12, hfr12⟩ := Kd.R_elem HX12.out z61 (x4_1 : Int) (od_) (by have h_ : (x4_1 : Int) < ((x3_1.length : Int) : Int) := od_; first | exact h_ | (have e_ := (Kd.R_reads' HO_3.out).1; omega) | simpa using h_); obtain rfl := k61_openM hM12; have HP12 := Kd.R_seg HX12.out (x4_1 : Int) (od_) (by have h_ : (x4_1 : Int) < ((x3_1.length : Int) : Int) := od_; first | exact h_ | (have e_ := (Kd.R_reads' HO_3.out).1; omega) | simpa using h_) (seg := [.int .i64 t299, .int .i64 t300, .int .i64 t301, .int .i64 t302, .int .i64 t303, .int .i64 t304, .int .i64 t305, .int .i64 t306, .int .i64 t307, .int .i64 t308]) (j := 0) hcl12 hcc12 (show 10 ≤ 10 from by decide) (x' := (⟨t299, (⟨t300, t301⟩ : S55), t302, (⟨t303, t304⟩ : S55), (⟨t305, t306⟩ : S55), t307, t308⟩ : S61)) (k61_mkM _ _ _ (⟨t299, (⟨t300, t301⟩ : S55), t302, (⟨t303, t304⟩ : S55), (⟨t305, t306⟩ : S55), t307, t308⟩ : S61) ) (fun _ hk => hk); have hx12_0 := hcc12 0 _ rfl; (try simp only [show (k61).sz = 10 from rfl, Nat.mul_one, Nat.add_zero] at hx12_0); have hf12_0 := hfr12 0; (try simp only [show (k61).sz = 10 from rfl, Nat.mul_one, Nat.add_zero] at hf12_0); have hx12_1 := hcc12 1 _ rfl; (try simp only [show (k61).sz = 10 from rfl, Nat.mul_one, Nat.add_zero] at hx12_1); have hf12_1 := hfr12 1; (try simp only [show (k61).sz = 10 from rfl, Nat.mul_one, Nat.add_zero] at hf12_1); have hx12_2 := hcc12 2 _ rfl; (try simp only [show (k61).sz = 10 from rfl, Nat.mul_one, Nat.add_zero] at hx12_2); have hf12_2 := hfr12 2; (try simp only [show (k61).sz = 10 from rfl, Nat.mul_one, Nat.add_zero] at hf12_2); have hx12_3 := hcc12 3 _ rfl; (try simp only [show (k61).sz = 10 from rfl, Nat.mul_one, Nat.add_zero] at hx12_3); have hf12_3 := hfr12 3; (try simp only [show (k61).sz = 10 from rfl, Nat.mul_one, Nat.add_zero] at hf12_3); have hx12_4 := hcc12 4 _ rfl; (try simp only [show (k61).sz = 10 from rfl, Nat.mul_one, Nat.add_zero] at hx12_4); have hf12_4 := hfr12 4; (try simp only [show (k61).sz = 10 from rfl, Nat.mul_one, Nat.add_zero] at hf12_4); have hx12_5 := hcc12 5 _ rfl; (try simp only [show (k61).sz = 10 from rfl, Nat.mul_one, Nat.add_zero] at hx12_5); have hf12_5 := hfr12 5; (try simp only [show (k61).sz = 10 from rfl, Nat.mul_one, Nat.add_zero] at hf12_5); have hx12_6 := hcc12 6 _ rfl; (try simp only [show (k61).sz = 10 from rfl, Nat.mul_one, Nat.add_zero] at hx12_6); have hf12_6 := hfr12 6; (try simp only [show (k61).sz = 10 from rfl, Nat.mul_one, Nat.add_zero] at hf12_6); have hx12_7 := hcc12 7 _ rfl; (try simp only [show (k61).sz = 10 from rfl, Nat.mul_one, Nat.add_zero] at hx12_7); have hf12_7 := hfr12 7; (try simp only [show (k61).sz = 10 from rfl, Nat.mul_one, Nat.add_zero] at hf12_7); have hx12_8 := hcc12 8 _ rfl; (try simp only [show (k61).sz = 10 from rfl, Nat.mul_one, Nat.add_zero] at hx12_8); have hf12_8 := hfr12 8; (try simp only [show (k61).sz = 10 from rfl, Nat.mul_one, Nat.add_zero] at hf12_8); have hx12_9 := hcc12 9 _ rfl; (try simp only [show (k61).sz = 10 from rfl, Nat.mul_one, Nat.add_zero] at hx12_9); have hf12_9 := hfr12 9; (try simp only [show (k61).sz = 10 from rfl, Nat.mul_one, Nat.add_zero] at hf12_9); clear hcl12 hcc12 hfr12 hM12) | ((with_reducible refine gate_store (t := 61) (p := 21) rfl ?_); refine store_event (t := 61) (p := 21) (v := ?vo_w13) (w1 := ((((((((((w11.setCell ⟨go10, (x4_1 : Int).toNat * 10, none⟩ (.int .i64 t299)).setCell ⟨go10, (x4_1 : Int).toNat * 10 + 1, none⟩ (.int .i64 t300)).setCell ⟨go10, (x4_1 : Int).toNat * 10 + 2, none⟩ (.int .i64 t301)).setCell ⟨go10, (x4_1 : Int).toNat * 10 + 3, none⟩ (.int .i64 t302)).setCell ⟨go10, (x4_1 : Int).toNat * 10 + 4, none⟩ (.int .i64 t303)).setCell ⟨go10, (x4_1 : Int).toNat * 10 + 5, none⟩ (.int .i64 t304)).setCell ⟨go10, (x4_1 : Int).toNat * 10 + 6, none⟩ (.int .i64 t305)).setCell ⟨go10, (x4_1 : Int).toNat * 10 + 7, none⟩ (.int .i64 t306)).setCell ⟨go10, (x4_1 : Int).toNat * 10 + 8, none⟩ (.int .i64 t307)).setCell ⟨go10, (x4_1 : Int).toNat * 10 + 9, none⟩ (.int .i64 t308))) ?hg ?ho ?hn ?hr ?_; (case ho => rfl); (case hg => rfl); (case hn => rfl); (case hr => first | (go_simp; done) | (go_simp; rfl)); intro w13 hw; have hg : w11.grownBy w13 (some go10) := (by rw [hw]; exact HP12.2); have hp_ : Kd.R k61 61 w13 w.heap.size (fun _ => True) (.slice (some ⟨go10, 0, none⟩) x3_1.length co10) y309 := (by rw [hw, Ny309.out]; exact HP12.1); clear HP12; replace HO_3 := aa_ (hp_); replace HB := aa_ ((by rw [hw]; exact below_set (below_set (below_set (below_set (below_set (below_set (below_set (below_set (below_set (below_set (HB.out) GB10.out) GB10.out) GB10.out) GB10.out) GB10.out) GB10.out) GB10.out) GB10.out) GB10.out) GB10.out : Below w.heap.size w w13)); clear hg hw hp_))
    go_roundg k1
    case measure => have := HK1.out; omega
    case rel => exact ⟨(y309), (wrap64 (x4_1 + 1)), rf_, H', ⟨by have := HK1.out; omega⟩, ⟨rr_ HO_3⟩, ⟨bl_⟩⟩
   ·rw [if_neg c6] at H
    have c6b0 : decide (x4_1 < (l0.length : Int)) = false := decide_eq_false c6
    clear c6
    obtain rfl := Option.some.inj H
    go_wp2
    go_ret
    exact ⟨_, eq_, by (with_reducible repeat (first | apply Kd.R_alloc | apply Kd.R_drewN | apply Kd.R_drew)); exact HO_3.out, bl_⟩
def laws_toFact.f (a0_0 : Int) (a0_1 : Int) (a0_2 : Int) : Option (Int × Int × Int) := (laws_toRole.f a0_0 a0_1).bind fun bt313 => (some (bt313.1, bt313.2, a0_2))
set_option maxHeartbeats 8000000 in
set_option maxRecDepth 100000 in
theorem laws_toFact.calls (a0_0 : Int) (a0_1 : Int) (a0_2 : Int) (r1 : Int) (r2 : Int) (r3 : Int) (w : World) (h : laws_toFact.f a0_0 a0_1 a0_2 = some (r1, r2, r3)) :
  Calls Try.prog 41 #[.agg #[.int .i64 a0_0, .int .i64 a0_1, .int .i64 a0_2]] w fun e w' => e = .returned (.agg #[.int .i64 r1, .int .i64 r2, .int .i64 r3]) ∧ Below w.heap.size w w' := by
 have hu91 := Try.underlying91
 have hu57 := Try.underlying57
 have hu85 := Try.underlying85
 have hu55 := Try.underlying55
 have HB := aa_ (Below.refl w.heap.size w)
 have H : ((laws_toRole.f a0_0 a0_1).bind fun bt313 => (some (bt313.1, bt313.2, a0_2))) = some (r1, r2, r3) := h
 clear h
 obtain ⟨⟨t313, t314⟩, A2, H⟩ := bindE_ H
 (try dsimp only at H)
 simp only [Option.some.injEq, Prod.mk.injEq] at H
 obtain ⟨rfl, rfl, rfl⟩ := H
 go_enter Try.func41, Try.ntmps41
 go_wp2_with (first | ((with_reducible refine gD_ 1 rfl ?_); refine bx_ (N := 1) (cs := #[.int .i64 a0_0, .int .i64 a0_1, .int .i64 a0_2]) (t := 91) ?_; intro gb310 hg w3 hbox hb; have BK310 := aa_ (hbox); have GW310 := gs_ hg; have GE310 := gs_ hg; replace HB := hbs_ hb; clear hb hbox hg) | ((with_reducible refine gD_ 2 rfl ?_); refine bx_ (N := 2) (cs := #[.int .i64 0, .int .i64 0, .int .i64 0]) (t := 57) ?_; intro gb311 hg w4 hbox hb; have BK311 := aa_ (hbox); have GW311 := gs_ hg; have GE311 := gs_ hg; replace HB := hbs_ hb; have NB310_311 := nl_ hg BK310; have NB311_310 := nr_ hg BK310; replace BK310 := bkb_ BK310 hb; clear hb hbox hg) | ((with_reducible refine gD_ 3 rfl ?_); refine bx_ (N := 3) (cs := #[.int .i64 0, .int .i64 0, .int .i64 0]) (t := 57) ?_; intro gb312 hg w5 hbox hb; have BK312 := aa_ (hbox); have GW312 := gs_ hg; have GE312 := gs_ hg; replace HB := hbs_ hb; have NB310_312 := nl_ hg BK310; have NB312_310 := nr_ hg BK310; replace BK310 := bkb_ BK310 hb; have NB311_312 := nl_ hg BK311; have NB312_311 := nr_ hg BK311; replace BK311 := bkb_ BK311 hb; clear hb hbox hg; have hnb6 := NB310_311.out; have hnc6 := NB311_310.out; have hnb7 := NB310_312.out; have hnc7 := NB312_310.out; obtain ⟨hcz8, hfz8⟩ := bcf_ BK310) | ((with_reducible refine gC_ 56 rfl ?_); refine goesC_ (some 6) Try.func56 #[.agg #[.int .i64 a0_0, .int .i64 a0_1]] ?_; (with_reducible refine (laws_toRole.calls a0_0 a0_1 t313 t314 _ A2.out).mono ?_); rintro e w9 ⟨rfl, hb⟩; refine ⟨_, rfl, ?_⟩; replace BK310 := bkb_ BK310 hb; replace BK311 := bkb_ BK311 hb; replace BK312 := bkb_ BK312 hb; replace HB := hbs_ hb; clear hb; have hnb10 := NB312_311.out; have hnc10 := NB311_312.out; obtain ⟨hcz11, hfz11⟩ := bcf_ BK312; obtain ⟨hcz12, hfz12⟩ := bcf_ BK310; obtain ⟨hcz13, hfz13⟩ := bcf_ BK311))
 refine bodyPost_ret (results_cell_row rfl _ _ gb311 57 #[.int .i64 t313, .int .i64 t314, .int .i64 a0_2] (0, 0) _ rfl (bk_ BK311) Try.underlying57 rfl (by kernel_rfl)) rfl ?_
 exact ⟨eq_, bl_⟩
def laws_toStep.f (k : Nat) (a0_0 : Int) (a0_1 : Int) (a0_2 : Int) (a0_3 : Int) (a0_4 : Int) (a0_5 : Int) (a0_6 : Int) (a0_7 : Int) (a0_8 : Int) (a0_9 : Int) (a0_10 : Int) (a0_11 : Int) (a0_12 : Int) (l0_13 : List Int) : Option (Int × Int × Int × Int × Int × Int × Int × Int × Int × Int × Int × Int × Int × List Int) := (laws_toCred.f a0_0 a0_1 a0_2 a0_3 a0_4 a0_5 a0_6 a0_7 a0_8 a0_9).bind fun bt318 => ((laws_toFact.f a0_10 a0_11 a0_12).bind fun bt328 => ((laws_toIntS.f k l0_13).bind fun t331 => (some (bt318.1, bt318.2.1, bt318.2.2.1, bt318.2.2.2.1, bt318.2.2.2.2.1, bt318.2.2.2.2.2.1, bt318.2.2.2.2.2.2.1, bt318.2.2.2.2.2.2.2.1, bt318.2.2.2.2.2.2.2.2.1, bt318.2.2.2.2.2.2.2.2.2, bt328.1, bt328.2.1, bt328.2.2, t331))))
set_option maxHeartbeats 8000000 in
set_option maxRecDepth 100000 in
theorem laws_toStep.calls (k : Nat) (a0_0 : Int) (a0_1 : Int) (a0_2 : Int) (a0_3 : Int) (a0_4 : Int) (a0_5 : Int) (a0_6 : Int) (a0_7 : Int) (a0_8 : Int) (a0_9 : Int) (a0_10 : Int) (a0_11 : Int) (a0_12 : Int) (A0_13 : Option Addr) (c0_13 : Nat) (l0_13 : List Int) (r1 : Int) (r2 : Int) (r3 : Int) (r4 : Int) (r5 : Int) (r6 : Int) (r7 : Int) (r8 : Int) (r9 : Int) (r10 : Int) (r11 : Int) (r12 : Int) (r13 : Int) (r14 : List Int) (w : World) (hr0_13 : Kd.C (Kd.int .i64) w A0_13 l0_13.length l0_13) (hc0_13 : l0_13.length ≤ c0_13) (h : laws_toStep.f k a0_0 a0_1 a0_2 a0_3 a0_4 a0_5 a0_6 a0_7 a0_8 a0_9 a0_10 a0_11 a0_12 l0_13 = some (r1, r2, r3, r4, r5, r6, r7, r8, r9, r10, r11, r12, r13, r14)) :
  Calls Try.prog 69 #[.agg #[.int .i64 a0_0, .int .i64 a0_1, .int .i64 a0_2, .int .i64 a0_3, .int .i64 a0_4, .int .i64 a0_5, .int .i64 a0_6, .int .i64 a0_7, .int .i64 a0_8, .int .i64 a0_9, .int .i64 a0_10, .int .i64 a0_11, .int .i64 a0_12, .slice A0_13 l0_13.length c0_13]] w fun e w' => ∃ v13_ : Value, e = .returned (.agg #[.int .i64 r1, .int .i64 r2, .int .i64 r3, .int .i64 r4, .int .i64 r5, .int .i64 r6, .int .i64 r7, .int .i64 r8, .int .i64 r9, .int .i64 r10, .int .i64 r11, .int .i64 r12, .int .i64 r13, v13_]) ∧ Kd.R (Kd.int .i64) 3 w' w.heap.size (fun _ => True) v13_ r14 ∧ Below w.heap.size w w' := by
 have hu117 := Try.underlying117
 have hu80 := Try.underlying80
 have hu87 := Try.underlying87
 have hu61 := Try.underlying61
 have hu91 := Try.underlying91
 have hu57 := Try.underlying57
 have HR0_13 := aa_ hr0_13
 have HC0_13 := aa_ hc0_13
 clear hr0_13 hc0_13
 have HB := aa_ (Below.refl w.heap.size w)
 have H : ((laws_toCred.f a0_0 a0_1 a0_2 a0_3 a0_4 a0_5 a0_6 a0_7 a0_8 a0_9).bind fun bt318 => ((laws_toFact.f a0_10 a0_11 a0_12).bind fun bt328 => ((laws_toIntS.f k l0_13).bind fun t331 => (some (bt318.1, bt318.2.1, bt318.2.2.1, bt318.2.2.2.1, bt318.2.2.2.2.1, bt318.2.2.2.2.2.1, bt318.2.2.2.2.2.2.1, bt318.2.2.2.2.2.2.2.1, bt318.2.2.2.2.2.2.2.2.1, bt318.2.2.2.2.2.2.2.2.2, bt328.1, bt328.2.1, bt328.2.2, t331))))) = some (r1, r2, r3, r4, r5, r6, r7, r8, r9, r10, r11, r12, r13, r14) := h
 clear h
 obtain ⟨⟨t318, t319, t320, t321, t322, t323, t324, t325, t326, t327⟩, A2, H⟩ := bindE_ H
 (try dsimp only at H)
 obtain ⟨⟨t328, t329, t330⟩, A3, H⟩ := bindE_ H
 (try dsimp only at H)
 obtain ⟨t331, A4, H⟩ := bindE_ H
 simp only [Option.some.injEq, Prod.mk.injEq] at H
 obtain ⟨rfl, rfl, rfl, rfl, rfl, rfl, rfl, rfl, rfl, rfl, rfl, rfl, rfl, rfl⟩ := H
 go_enter Try.func69, Try.ntmps69
 go_wp2_with (first | ((with_reducible refine gD_ 1 rfl ?_); refine bx_ (N := 1) (cs := #[.int .i64 a0_0, .int .i64 a0_1, .int .i64 a0_2, .int .i64 a0_3, .int .i64 a0_4, .int .i64 a0_5, .int .i64 a0_6, .int .i64 a0_7, .int .i64 a0_8, .int .i64 a0_9, .int .i64 a0_10, .int .i64 a0_11, .int .i64 a0_12, .slice A0_13 l0_13.length c0_13]) (t := 117) ?_; intro gb315 hg w5 hbox hb; have BK315 := aa_ (hbox); have GW315 := gs_ hg; have GE315 := gs_ hg; replace HB := hbs_ hb; clear hb hbox hg) | ((with_reducible refine gD_ 2 rfl ?_); refine bx_ (N := 2) (cs := #[.int .i64 0, .int .i64 0, .int .i64 0, .int .i64 0, .int .i64 0, .int .i64 0, .int .i64 0, .int .i64 0, .int .i64 0, .int .i64 0, .int .i64 0, .int .i64 0, .int .i64 0, .slice none 0 0]) (t := 80) ?_; intro gb316 hg w6 hbox hb; have BK316 := aa_ (hbox); have GW316 := gs_ hg; have GE316 := gs_ hg; replace HB := hbs_ hb; have NB315_316 := nl_ hg BK315; have NB316_315 := nr_ hg BK315; replace BK315 := bkb_ BK315 hb; clear hb hbox hg) | ((with_reducible refine gD_ 3 rfl ?_); refine bx_ (N := 3) (cs := #[.int .i64 0, .int .i64 0, .int .i64 0, .int .i64 0, .int .i64 0, .int .i64 0, .int .i64 0, .int .i64 0, .int .i64 0, .int .i64 0, .int .i64 0, .int .i64 0, .int .i64 0, .slice none 0 0]) (t := 80) ?_; intro gb317 hg w7 hbox hb; have BK317 := aa_ (hbox); have GW317 := gs_ hg; have GE317 := gs_ hg; replace HB := hbs_ hb; have NB315_317 := nl_ hg BK315; have NB317_315 := nr_ hg BK315; replace BK315 := bkb_ BK315 hb; have NB316_317 := nl_ hg BK316; have NB317_316 := nr_ hg BK316; replace BK316 := bkb_ BK316 hb; clear hb hbox hg; have hnb8 := NB315_316.out; have hnc8 := NB316_315.out; have hnb9 := NB315_317.out; have hnc9 := NB317_315.out; obtain ⟨hcz10, hfz10⟩ := bcf_ BK315) | ((with_reducible refine gC_ 39 rfl ?_); refine goesC_ (some 6) Try.func39 #[.agg #[.int .i64 a0_0, .int .i64 a0_1, .int .i64 a0_2, .int .i64 a0_3, .int .i64 a0_4, .int .i64 a0_5, .int .i64 a0_6, .int .i64 a0_7, .int .i64 a0_8, .int .i64 a0_9]] ?_; (with_reducible refine (laws_toCred.calls a0_0 a0_1 a0_2 a0_3 a0_4 a0_5 a0_6 a0_7 a0_8 a0_9 t318 t319 t320 t321 t322 t323 t324 t325 t326 t327 _ A2.out).mono ?_); rintro e w11 ⟨rfl, hb⟩; refine ⟨_, rfl, ?_⟩; replace BK315 := bkb_ BK315 hb; replace BK316 := bkb_ BK316 hb; replace BK317 := bkb_ BK317 hb; replace HB := hbs_ hb; clear hb; have hnb12 := NB317_316.out; have hnc12 := NB316_317.out; obtain ⟨hcz13, hfz13⟩ := bcf_ BK317; obtain ⟨hcz14, hfz14⟩ := bcf_ BK315) | ((with_reducible refine gC_ 41 rfl ?_); refine goesC_ (some 10) Try.func41 #[.agg #[.int .i64 a0_10, .int .i64 a0_11, .int .i64 a0_12]] ?_; (with_reducible refine (laws_toFact.calls a0_10 a0_11 a0_12 t328 t329 t330 _ A3.out).mono ?_); rintro e w15 ⟨rfl, hb⟩; refine ⟨_, rfl, ?_⟩; replace BK315 := aa_ (blk_below (g := gb315) (o := .cells #[.int .i64 a0_0, .int .i64 a0_1, .int .i64 a0_2, .int .i64 a0_3, .int .i64 a0_4, .int .i64 a0_5, .int .i64 a0_6, .int .i64 a0_7, .int .i64 a0_8, .int .i64 a0_9, .int .i64 a0_10, .int .i64 a0_11, .int .i64 a0_12, .slice A0_13 l0_13.length c0_13] 117 (0, 0)) (bk_ BK315) hb); replace BK316 := aa_ (blk_below (g := gb316) (o := .cells #[.int .i64 0, .int .i64 0, .int .i64 0, .int .i64 0, .int .i64 0, .int .i64 0, .int .i64 0, .int .i64 0, .int .i64 0, .int .i64 0, .int .i64 0, .int .i64 0, .int .i64 0, .slice none 0 0] 80 (0, 0)) (bk_ BK316) hb); replace BK317 := aa_ (blk_below (g := gb317) (o := .cells #[.int .i64 t318, .int .i64 t319, .int .i64 t320, .int .i64 t321, .int .i64 t322, .int .i64 t323, .int .i64 t324, .int .i64 t325, .int .i64 t326, .int .i64 t327, .int .i64 0, .int .i64 0, .int .i64 0, .slice none 0 0] 80 (0, 0)) (bk_ BK317) hb); replace HB := hbs_ hb; clear hb; obtain ⟨hcz16, hfz16⟩ := bcf_ BK317; obtain ⟨hcz17, hfz17⟩ := bcf_ BK315) | ((with_reducible refine gC_ 19 rfl ?_); refine goesC_ (some 14) Try.func19 #[.slice A0_13 l0_13.length c0_13] ?_; (with_reducible refine (laws_toIntS.calls k _ _ l0_13 t331 _ ?side1 ?side2 A4.out).mono ?_); (case side1 => exact Kd.C_below HR0_13.out bl_); (case side2 => exact HC0_13.out); rintro e w18 ⟨v332, rfl, ho0, hb⟩; refine ⟨_, rfl, ?_⟩; have HO333 := aa_ (Kd.R_lower ho0 bls_); replace BK315 := aa_ (blk_below (g := gb315) (o := .cells #[.int .i64 a0_0, .int .i64 a0_1, .int .i64 a0_2, .int .i64 a0_3, .int .i64 a0_4, .int .i64 a0_5, .int .i64 a0_6, .int .i64 a0_7, .int .i64 a0_8, .int .i64 a0_9, .int .i64 a0_10, .int .i64 a0_11, .int .i64 a0_12, .slice A0_13 l0_13.length c0_13] 117 (0, 0)) (bk_ BK315) hb); replace BK316 := aa_ (blk_below (g := gb316) (o := .cells #[.int .i64 0, .int .i64 0, .int .i64 0, .int .i64 0, .int .i64 0, .int .i64 0, .int .i64 0, .int .i64 0, .int .i64 0, .int .i64 0, .int .i64 0, .int .i64 0, .int .i64 0, .slice none 0 0] 80 (0, 0)) (bk_ BK316) hb); replace BK317 := aa_ (blk_below (g := gb317) (o := .cells #[.int .i64 t318, .int .i64 t319, .int .i64 t320, .int .i64 t321, .int .i64 t322, .int .i64 t323, .int .i64 t324, .int .i64 t325, .int .i64 t326, .int .i64 t327, .int .i64 t328, .int .i64 t329, .int .i64 t330, .slice none 0 0] 80 (0, 0)) (bk_ BK317) hb); replace HB := hbs_ hb; (try clear hb ho0); obtain ⟨Ao19, co19, eo19⟩ := Kd.R_slice HO333.out; subst eo19; obtain ⟨hcz20, hfz20⟩ := bcf_ BK317; obtain ⟨hcz21, hfz21⟩ := bcf_ BK316))
 refine bodyPost_ret (results_cell_row rfl _ _ gb316 80 #[.int .i64 t318, .int .i64 t319, .int .i64 t320, .int .i64 t321, .int .i64 t322, .int .i64 t323, .int .i64 t324, .int .i64 t325, .int .i64 t326, .int .i64 t327, .int .i64 t328, .int .i64 t329, .int .i64 t330, .slice Ao19 t331.length co19] (0, 0) _ rfl (bk_ BK316) Try.underlying80 rfl (by kernel_rfl)) rfl ?_
 exact ⟨_, eq_, by (with_reducible repeat (first | apply Kd.R_alloc | apply Kd.R_drewN | apply Kd.R_drew)); exact Kd.R_mono (fr14_ (Kd.R_far (p := ⟨gb317, 13, none⟩) (Kd.R_types (Kd.R_types HO333.out BK317.out (by decide)) BK316.out (by decide)) (fun _ hk => hk.1.2) (.slice Ao19 t331.length co19)) (fun _ hk => hk.2)) (fun _ hk => trivial), bl_⟩
end Go.Proofs.Ytcnjbkfnijnpnaa.PA
