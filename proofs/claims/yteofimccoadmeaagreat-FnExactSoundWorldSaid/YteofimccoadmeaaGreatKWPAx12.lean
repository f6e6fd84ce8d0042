import Derived.Test.YteofimccoadmeaaGreatKWPAx11
-- printed by wip/tools
namespace Go.Proofs.YteofimccoadmeaaGreat.PA
open Go.RowKit Go.Proofs.YteofimccoadmeaaGreatW.PrintWords Go.Proofs.YteofimccoadmeaaGreatW.PrintLast Go.Proofs.YteofimccoadmeaaGreatW.PrintMore
attribute [local go_sem] max2_int min2_int max_two min_two max_three min_three max_four min_four
set_option linter.unusedVariables false
set_option linter.unusedSimpArgs false
def laws_toStep.f (k : Nat) (a0_0 : Int) (a0_1 : Int) (a0_2 : Int) (a0_3 : Int) (a0_4 : Int) (a0_5 : Int) (a0_6 : Int) (a0_7 : Int) (a0_8 : Int) (a0_9 : Int) (a0_10 : Int) (a0_11 : Int) (a0_12 : Int) (l0_13 : List Int) : Option (Int × Int × Int × Int × Int × Int × Int × Int × Int × Int × Int × Int × Int × List Int) := (laws_toCred.f a0_0 a0_1 a0_2 a0_3 a0_4 a0_5 a0_6 a0_7 a0_8 a0_9).bind fun bt357 => ((laws_toFact.f a0_10 a0_11 a0_12).bind fun bt367 => ((laws_toIntS.f k l0_13).bind fun t370 => (some (bt357.1, bt357.2.1, bt357.2.2.1, bt357.2.2.2.1, bt357.2.2.2.2.1, bt357.2.2.2.2.2.1, bt357.2.2.2.2.2.2.1, bt357.2.2.2.2.2.2.2.1, bt357.2.2.2.2.2.2.2.2.1, bt357.2.2.2.2.2.2.2.2.2, bt367.1, bt367.2.1, bt367.2.2, t370))))
set_option maxHeartbeats 8000000 in
set_option maxRecDepth 100000 in
theorem laws_toStep.calls (k : Nat) (a0_0 : Int) (a0_1 : Int) (a0_2 : Int) (a0_3 : Int) (a0_4 : Int) (a0_5 : Int) (a0_6 : Int) (a0_7 : Int) (a0_8 : Int) (a0_9 : Int) (a0_10 : Int) (a0_11 : Int) (a0_12 : Int) (A0_13 : Option Addr) (c0_13 : Nat) (l0_13 : List Int) (r1 : Int) (r2 : Int) (r3 : Int) (r4 : Int) (r5 : Int) (r6 : Int) (r7 : Int) (r8 : Int) (r9 : Int) (r10 : Int) (r11 : Int) (r12 : Int) (r13 : Int) (r14 : List Int) (w : World) (hr0_13 : Kd.C (Kd.int .i64) w A0_13 l0_13.length l0_13) (hc0_13 : l0_13.length ≤ c0_13) (h : laws_toStep.f k a0_0 a0_1 a0_2 a0_3 a0_4 a0_5 a0_6 a0_7 a0_8 a0_9 a0_10 a0_11 a0_12 l0_13 = some (r1, r2, r3, r4, r5, r6, r7, r8, r9, r10, r11, r12, r13, r14)) :
  Calls Tryz.prog 85 #[.agg #[.int .i64 a0_0, .int .i64 a0_1, .int .i64 a0_2, .int .i64 a0_3, .int .i64 a0_4, .int .i64 a0_5, .int .i64 a0_6, .int .i64 a0_7, .int .i64 a0_8, .int .i64 a0_9, .int .i64 a0_10, .int .i64 a0_11, .int .i64 a0_12, .slice A0_13 l0_13.length c0_13]] w fun e w' => ∃ v13_ : Value, e = .returned (.agg #[.int .i64 r1, .int .i64 r2, .int .i64 r3, .int .i64 r4, .int .i64 r5, .int .i64 r6, .int .i64 r7, .int .i64 r8, .int .i64 r9, .int .i64 r10, .int .i64 r11, .int .i64 r12, .int .i64 r13, v13_]) ∧ Kd.R (Kd.int .i64) 3 w' w.heap.size (fun _ => True) v13_ r14 ∧ Below w.heap.size w w' := by
 have hu129 := Tryz.underlying129
 have hu111 := Tryz.underlying111
 have hu88 := Tryz.underlying88
 have hu83 := Tryz.underlying83
 have hu92 := Tryz.underlying92
 have hu79 := Tryz.underlying79
 have HR0_13 := aa_ hr0_13
 have HC0_13 := aa_ hc0_13
 clear hr0_13 hc0_13
 have HB := aa_ (Below.refl w.heap.size w)
 have H : ((laws_toCred.f a0_0 a0_1 a0_2 a0_3 a0_4 a0_5 a0_6 a0_7 a0_8 a0_9).bind fun bt357 => ((laws_toFact.f a0_10 a0_11 a0_12).bind fun bt367 => ((laws_toIntS.f k l0_13).bind fun t370 => (some (bt357.1, bt357.2.1, bt357.2.2.1, bt357.2.2.2.1, bt357.2.2.2.2.1, bt357.2.2.2.2.2.1, bt357.2.2.2.2.2.2.1, bt357.2.2.2.2.2.2.2.1, bt357.2.2.2.2.2.2.2.2.1, bt357.2.2.2.2.2.2.2.2.2, bt367.1, bt367.2.1, bt367.2.2, t370))))) = some (r1, r2, r3, r4, r5, r6, r7, r8, r9, r10, r11, r12, r13, r14) := h
 clear h
 obtain ⟨⟨t357, t358, t359, t360, t361, t362, t363, t364, t365, t366⟩, A2, H⟩ := bindE_ H
 (try dsimp only at H)
 obtain ⟨⟨t367, t368, t369⟩, A3, H⟩ := bindE_ H
 (try dsimp only at H)
 obtain ⟨t370, A4, H⟩ := bindE_ H
 simp only [Option.some.injEq, Prod.mk.injEq] at H
 obtain ⟨rfl, rfl, rfl, rfl, rfl, rfl, rfl, rfl, rfl, rfl, rfl, rfl, rfl, rfl⟩ := H
 go_enter Tryz.func85, Tryz.ntmps85
 go_wp2_with (first | ((with_reducible refine gD_ 1 rfl ?_); refine bx_ (N := 1) (cs := #[.int .i64 a0_0, .int .i64 a0_1, .int .i64 a0_2, .int .i64 a0_3, .int .i64 a0_4, .int .i64 a0_5, .int .i64 a0_6, .int .i64 a0_7, .int .i64 a0_8, .int .i64 a0_9, .int .i64 a0_10, .int .i64 a0_11, .int .i64 a0_12, .slice A0_13 l0_13.length c0_13]) (t := 129) ?_; intro gb354 hg w5 hbox hb; have BK354 := aa_ (hbox); have GW354 := gs_ hg; have GE354 := gs_ hg; replace HB := hbs_ hb; clear hb hbox hg) | ((with_reducible refine gD_ 2 rfl ?_); refine bx_ (N := 2) (cs := #[.int .i64 0, .int .i64 0, .int .i64 0, .int .i64 0, .int .i64 0, .int .i64 0, .int .i64 0, .int .i64 0, .int .i64 0, .int .i64 0, .int .i64 0, .int .i64 0, .int .i64 0, .slice none 0 0]) (t := 111) ?_; intro gb355 hg w6 hbox hb; have BK355 := aa_ (hbox); have GW355 := gs_ hg; have GE355 := gs_ hg; replace HB := hbs_ hb; have NB354_355 := nl_ hg BK354; have NB355_354 := nr_ hg BK354; replace BK354 := bkb_ BK354 hb; clear hb hbox hg) | ((with_reducible refine gD_ 3 rfl ?_); refine bx_ (N := 3) (cs := #[.int .i64 0, .int .i64 0, .int .i64 0, .int .i64 0, .int .i64 0, .int .i64 0, .int .i64 0, .int .i64 0, .int .i64 0, .int .i64 0, .int .i64 0, .int .i64 0, .int .i64 0, .slice none 0 0]) (t := 111) ?_; intro gb356 hg w7 hbox hb; have BK356 := aa_ (hbox); have GW356 := gs_ hg; have GE356 := gs_ hg; replace HB := hbs_ hb; have NB354_356 := nl_ hg BK354; have NB356_354 := nr_ hg BK354; replace BK354 := bkb_ BK354 hb; have NB355_356 := nl_ hg BK355; have NB356_355 := nr_ hg BK355; replace BK355 := bkb_ BK355 hb; clear hb hbox hg; have hnb8 := NB354_355.out; have hnc8 := NB355_354.out; have hnb9 := NB354_356.out; have hnc9 := NB356_354.out; obtain ⟨hcz10, hfz10⟩ := bcf_ BK354) | ((with_reducible refine gC_ 38 rfl ?_); refine goesC_ (some 6) Tryz.func38 #[.agg #[.int .i64 a0_0, .int .i64 a0_1, .int .i64 a0_2, .int .i64 a0_3, .int .i64 a0_4, .int .i64 a0_5, .int .i64 a0_6, .int .i64 a0_7, .int .i64 a0_8, .int .i64 a0_9]] ?_; (with_reducible refine (laws_toCred.calls a0_0 a0_1 a0_2 a0_3 a0_4 a0_5 a0_6 a0_7 a0_8 a0_9 t357 t358 t359 t360 t361 t362 t363 t364 t365 t366 _ A2.out).mono ?_); rintro e w11 ⟨rfl, hb⟩; refine ⟨_, rfl, ?_⟩; replace BK354 := bkb_ BK354 hb; replace BK355 := bkb_ BK355 hb; replace BK356 := bkb_ BK356 hb; replace HB := hbs_ hb; clear hb; have hnb12 := NB356_355.out; have hnc12 := NB355_356.out; obtain ⟨hcz13, hfz13⟩ := bcf_ BK356; obtain ⟨hcz14, hfz14⟩ := bcf_ BK354) | ((with_reducible refine gC_ 40 rfl ?_); refine goesC_ (some 10) Tryz.func40 #[.agg #[.int .i64 a0_10, .int .i64 a0_11, .int .i64 a0_12]] ?_; (with_reducible refine (laws_toFact.calls a0_10 a0_11 a0_12 t367 t368 t369 _ A3.out).mono ?_); rintro e w15 ⟨rfl, hb⟩; refine ⟨_, rfl, ?_⟩; replace BK354 := aa_ (blk_below (g := gb354) (o := .cells #[.int .i64 a0_0, .int .i64 a0_1, .int .i64 a0_2, .int .i64 a0_3, .int .i64 a0_4, .int .i64 a0_5, .int .i64 a0_6, .int .i64 a0_7, .int .i64 a0_8, .int .i64 a0_9, .int .i64 a0_10, .int .i64 a0_11, .int .i64 a0_12, .slice A0_13 l0_13.length c0_13] 129 (0, 0)) (bk_ BK354) hb); replace BK355 := aa_ (blk_below (g := gb355) (o := .cells #[.int .i64 0, .int .i64 0, .int .i64 0, .int .i64 0, .int .i64 0, .int .i64 0, .int .i64 0, .int .i64 0, .int .i64 0, .int .i64 0, .int .i64 0, .int .i64 0, .int .i64 0, .slice none 0 0] 111 (0, 0)) (bk_ BK355) hb); replace BK356 := aa_ (blk_below (g := gb356) (o := .cells #[.int .i64 t357, .int .i64 t358, .int .i64 t359, .int .i64 t360, .int .i64 t361, .int .i64 t362, .int .i64 t363, .int .i64 t364, .int .i64 t365, .int .i64 t366, .int .i64 0, .int .i64 0, .int .i64 0, .slice none 0 0] 111 (0, 0)) (bk_ BK356) hb); replace HB := hbs_ hb; clear hb; obtain ⟨hcz16, hfz16⟩ := bcf_ BK356; obtain ⟨hcz17, hfz17⟩ := bcf_ BK354) | ((with_reducible refine gC_ 17 rfl ?_); refine goesC_ (some 14) Tryz.func17 #[.slice A0_13 l0_13.length c0_13] ?_; (with_reducible refine (laws_toIntS.calls k _ _ l0_13 t370 _ ?side1 ?side2 A4.out).mono ?_); (case side1 => exact Kd.C_below HR0_13.out bl_); (case side2 => exact HC0_13.out); rintro e w18 ⟨v371, rfl, ho0, hb⟩; refine ⟨_, rfl, ?_⟩; have HO372 := aa_ (Kd.R_lower ho0 bls_); replace BK354 := aa_ (blk_below (g := gb354) (o := .cells #[.int .i64 a0_0, .int .i64 a0_1, .int .i64 a0_2, .int .i64 a0_3, .int .i64 a0_4, .int .i64 a0_5, .int .i64 a0_6, .int .i64 a0_7, .int .i64 a0_8, .int .i64 a0_9, .int .i64 a0_10, .int .i64 a0_11, .int .i64 a0_12, .slice A0_13 l0_13.length c0_13] 129 (0, 0)) (bk_ BK354) hb); replace BK355 := aa_ (blk_below (g := gb355) (o := .cells #[.int .i64 0, .int .i64 0, .int .i64 0, .int .i64 0, .int .i64 0, .int .i64 0, .int .i64 0, .int .i64 0, .int .i64 0, .int .i64 0, .int .i64 0, .int .i64 0, .int .i64 0, .slice none 0 0] 111 (0, 0)) (bk_ BK355) hb); replace BK356 := aa_ (blk_below (g := gb356) (o := .cells #[.int .i64 t357, .int .i64 t358, .int .i64 t359, .int .i64 t360, .int .i64 t361, .int .i64 t362, .int .i64 t363, .int .i64 t364, .int .i64 t365, .int .i64 t366, .int .i64 t367, .int .i64 t368, .int .i64 t369, .slice none 0 0] 111 (0, 0)) (bk_ BK356) hb); replace HB := hbs_ hb; (try clear hb ho0); obtain ⟨Ao19, co19, eo19⟩ := Kd.R_slice HO372.out; subst eo19; obtain ⟨hcz20, hfz20⟩ := bcf_ BK356; obtain ⟨hcz21, hfz21⟩ := bcf_ BK355))
 refine bodyPost_ret (results_cell_row rfl _ _ gb355 111 #[.int .i64 t357, .int .i64 t358, .int .i64 t359, .int .i64 t360, .int .i64 t361, .int .i64 t362, .int .i64 t363, .int .i64 t364, .int .i64 t365, .int .i64 t366, .int .i64 t367, .int .i64 t368, .int .i64 t369, .slice Ao19 t370.length co19] (0, 0) _ rfl (bk_ BK355) Tryz.underlying111 rfl (by kernel_rfl)) rfl ?_
 exact ⟨_, eq_, by (with_reducible repeat (first | apply Kd.R_alloc | apply Kd.R_drewN | apply Kd.R_drew)); exact Kd.R_mono (fr14_ (Kd.R_far (p := ⟨gb356, 13, none⟩) (Kd.R_types (Kd.R_types HO372.out BK356.out (by decide)) BK355.out (by decide)) (fun _ hk => hk.1.2) (.slice Ao19 t370.length co19)) (fun _ hk => hk.2)) (fun _ hk => trivial), bl_⟩
def laws_toStepS.l0 : Nat → List (S129) → List (S111) → Int → Option ((List (S111)))
 | 0, _, _, _ => none
 | k + 1, x0, x3, x4 => if x4 < (x0.length : Int) then (if 0 ≤ x4 then ((laws_toStep.f k ((rd_T129 x0 x4).f0.f0) ((rd_T129 x0 x4).f0.f1.f0) ((rd_T129 x0 x4).f0.f1.f1) ((rd_T129 x0 x4).f0.f2) ((rd_T129 x0 x4).f0.f3.f0) ((rd_T129 x0 x4).f0.f3.f1) ((rd_T129 x0 x4).f0.f4.f0) ((rd_T129 x0 x4).f0.f4.f1) ((rd_T129 x0 x4).f0.f5) ((rd_T129 x0 x4).f0.f6) ((rd_T129 x0 x4).f1.f0.f0) ((rd_T129 x0 x4).f1.f0.f1) ((rd_T129 x0 x4).f1.f1) ((rd_T129 x0 x4).f2)).bind fun bt377 => (if x4 < (x3.length : Int) then (laws_toStepS.l0 k x0 (x3.set (x4 : Int).toNat (⟨(⟨bt377.1, (⟨bt377.2.1, bt377.2.2.1⟩ : S77), bt377.2.2.2.1, (⟨bt377.2.2.2.2.1, bt377.2.2.2.2.2.1⟩ : S77), (⟨bt377.2.2.2.2.2.2.1, bt377.2.2.2.2.2.2.2.1⟩ : S77), bt377.2.2.2.2.2.2.2.2.1, bt377.2.2.2.2.2.2.2.2.2.1⟩ : S83), (⟨(⟨bt377.2.2.2.2.2.2.2.2.2.2.1, bt377.2.2.2.2.2.2.2.2.2.2.2.1⟩ : S77), bt377.2.2.2.2.2.2.2.2.2.2.2.2.1⟩ : S79), bt377.2.2.2.2.2.2.2.2.2.2.2.2.2⟩ : S111)) (wrap64 (x4 + 1))) else (none))) else (none)) else (some x3)
def laws_toStepS.f (k : Nat) (l0 : List (S129)) : Option ((List (S111))) := if 0 ≤ (l0.length : Int) then (if ((l0.length : Int) : Int).toNat ≤ 2199023255552 then (laws_toStepS.l0 k l0 (List.replicate ((l0.length : Int) : Int).toNat z111) 0) else (none)) else (none)
set_option maxHeartbeats 8000000 in
set_option maxRecDepth 100000 in
theorem laws_toStepS.calls (k : Nat) (A0 : Option Addr) (c0 : Nat) (l0 : List (S129)) (r : List (S111)) (w : World) (hr0 : Kd.C k129 w A0 l0.length l0) (hc0 : l0.length ≤ c0) (h : laws_toStepS.f k l0 = some r) :
  Calls Tryz.prog 64 #[.slice A0 l0.length c0] w fun e w' => ∃ v0_ : Value, e = .returned (v0_) ∧ Kd.S k111 111 w' w.heap.size (fun _ => True) v0_ r ∧ Below w.heap.size w w' := by
 have hu129 := Tryz.underlying129
 have hu111 := Tryz.underlying111
 have HR0 := aa_ hr0
 have HC0 := aa_ hc0
 clear hr0 hc0
 have HB := aa_ (Below.refl w.heap.size w)
 have H : (if 0 ≤ (l0.length : Int) then (if ((l0.length : Int) : Int).toNat ≤ 2199023255552 then (laws_toStepS.l0 k l0 (List.replicate ((l0.length : Int) : Int).toNat z111) 0) else (none)) else (none)) = some r := h
 clear h
 obtain ⟨c2, H⟩ := ifn_ H
 have c2b0 := eq_true c2
 have c2b1 : decide (0 ≤ (l0.length : Int)) = true := decide_eq_true c2
 clear c2
 obtain ⟨c3, H⟩ := ifn_ H
 have c3b0 := eq_true c3
 have c3b1 : decide (((l0.length : Int) : Int).toNat ≤ 2199023255552) = true := decide_eq_true c3
 clear c3
 obtain ⟨y373, hy373⟩ : ∃ y_ : List (S111), y_ = (List.replicate ((l0.length : Int) : Int).toNat z111) := ⟨_, rfl⟩
 replace H : (laws_toStepS.l0 k l0 y373 0) = some r := rh_ hy373 H
 have Ny373 := aa_ hy373
 clear hy373
 have H' := aa_ H
 clear H
 go_enter Tryz.func64, Tryz.ntmps64
 go_wp2_with (first | ((with_reducible refine gD_ 7 rfl ?_); refine Kd.S_make k111 _ 111 rfl (N := 7) rfl 71 _ _ rfl (l0.length : Int) rfl rfl Tryz.underlying71 (.agg #[(.int .i64 0), (.int .i64 0), (.int .i64 0), (.int .i64 0), (.int .i64 0), (.int .i64 0), (.int .i64 0), (.int .i64 0), (.int .i64 0), (.int .i64 0), (.int .i64 0), (.int .i64 0), (.int .i64 0), (.slice none 0 0)]) 128 info111 rfl (by decide) (by omega) z111 (ok := fun _ => True) (okp := fun _ => True) (k111_mkM _ _ _ z111 (Kd.R_nil _ _ _ _ _)) (fun _ hk => hk) trivial (od_) (Nat.le_trans (Nat.mul_le_mul_right _ (od_ : (l0.length : Int).toNat ≤ 2199023255552)) (by omega)) (Below.refl _ _) (Nat.le_refl _) ?_; intro v374 w4 ho5 hb hg_ hnew_; clear hg_ hnew_; (first | rw [← Ny373.out] at ho5 | (simp only [Int.reduceToNat] at ho5; rw [← Ny373.out] at ho5)); have HO375 := aa_ (Kd.S_lower ho5 bls_); replace HB := hbs_ hb; clear hb ho5))
 go_loopg [4] k (fun kq v4 w' => ∃ (x3_1 : List (S111)) (x4_1 : Int), v4 = .int .i64 x4_1 ∧ Aside0 (laws_toStepS.l0 kq l0 x3_1 x4_1 = some r) ∧ Aside0 (kq ≤ k) ∧ Aside0 (Kd.S k111 111 w' w.heap.size (fun _ => True) v374 x3_1) ∧ Aside0 (Below w.heap.size w w'))
 case atStart => exact ⟨(y373), (0), rf_, H', ⟨Nat.le_refl _⟩, ⟨rs_ HO375⟩, ⟨bl_⟩⟩
 case round =>
  clear H'
  try clear c2b0
  try clear c2b1
  try clear p2
  try clear c3b0
  try clear c3b1
  obtain ⟨x3_1, x4_1, rfl, HA, HK1, HO_3, HB⟩ := hrel
  cases gk with
  | zero => exact absurd HA.out (by simp [laws_toStepS.l0])
  | succ k1 =>
   have H := HA.out
   clear HA
   simp only [laws_toStepS.l0] at H
   by_cases c6 : x4_1 < (l0.length : Int)
   ·rw [if_pos c6] at H
    have c6b0 : decide (x4_1 < (l0.length : Int)) = true := decide_eq_true c6
    clear c6
    obtain ⟨c7b0, H⟩ := ifd_ H
    obtain ⟨⟨t377, t378, t379, t380, t381, t382, t383, t384, t385, t386, t387, t388, t389, t390⟩, A8, H⟩ := bindE_ H
    replace H : (if x4_1 < (x3_1.length : Int) then (laws_toStepS.l0 k1 l0 (x3_1.set (x4_1 : Int).toNat (⟨(⟨t377, (⟨t378, t379⟩ : S77), t380, (⟨t381, t382⟩ : S77), (⟨t383, t384⟩ : S77), t385, t386⟩ : S83), (⟨(⟨t387, t388⟩ : S77), t389⟩ : S79), t390⟩ : S111)) (wrap64 (x4_1 + 1))) else (none)) = some r := H
    obtain ⟨c9b0, H⟩ := ifd_ H
    obtain ⟨y393, hy393⟩ : ∃ y_ : List (S111), y_ = (x3_1.set (x4_1 : Int).toNat (⟨(⟨t377, (⟨t378, t379⟩ : S77), t380, (⟨t381, t382⟩ : S77), (⟨t383, t384⟩ : S77), t385, t386⟩ : S83), (⟨(⟨t387, t388⟩ : S77), t389⟩ : S79), t390⟩ : S111)) := ⟨_, rfl⟩
    replace H : (laws_toStepS.l0 k1 l0 y393 (wrap64 (x4_1 + 1))) = some r := rh_ hy393 H
    have Ny393 := aa_ hy393
    clear hy393
    have H' := aa_ H
    clear H
    have p376 : 0 ≤ (x4_1 : Int) := od_
    have q376 : x4_1 < (l0.length : Int) := od_
    obtain ⟨ad376, A376_13, c376_13, e376, hx376_0, hx376_1, hx376_2, hx376_3, hx376_4, hx376_5, hx376_6, hx376_7, hx376_8, hx376_9, hx376_10, hx376_11, hx376_12, hx376_13, hl376_13, hi376_13⟩ := at_T129 HR0.out x4_1 p376 q376
    cases e376
    replace hx376_0 := cb_ HB hx376_0
    replace hx376_1 := cb_ HB hx376_1
    replace hx376_2 := cb_ HB hx376_2
    replace hx376_3 := cb_ HB hx376_3
    replace hx376_4 := cb_ HB hx376_4
    replace hx376_5 := cb_ HB hx376_5
    replace hx376_6 := cb_ HB hx376_6
    replace hx376_7 := cb_ HB hx376_7
    replace hx376_8 := cb_ HB hx376_8
    replace hx376_9 := cb_ HB hx376_9
    replace hx376_10 := cb_ HB hx376_10
    replace hx376_11 := cb_ HB hx376_11
    replace hx376_12 := cb_ HB hx376_12
    replace hx376_13 := cb_ HB hx376_13
    have HR376_13 := aa_ hi376_13
    have HC376_13 := aa_ hl376_13
    clear hi376_13 hl376_13
    replace p376 := eq_true p376
    replace q376 := eq_true q376
    go_wp2_with (first | ((with_reducible refine gC_ 85 rfl ?_); refine goesC_ (some 20) Tryz.func85 #[.agg #[.int .i64 ((rd_T129 l0 x4_1).f0.f0), .int .i64 ((rd_T129 l0 x4_1).f0.f1.f0), .int .i64 ((rd_T129 l0 x4_1).f0.f1.f1), .int .i64 ((rd_T129 l0 x4_1).f0.f2), .int .i64 ((rd_T129 l0 x4_1).f0.f3.f0), .int .i64 ((rd_T129 l0 x4_1).f0.f3.f1), .int .i64 ((rd_T129 l0 x4_1).f0.f4.f0), .int .i64 ((rd_T129 l0 x4_1).f0.f4.f1), .int .i64 ((rd_T129 l0 x4_1).f0.f5), .int .i64 ((rd_T129 l0 x4_1).f0.f6), .int .i64 ((rd_T129 l0 x4_1).f1.f0.f0), .int .i64 ((rd_T129 l0 x4_1).f1.f0.f1), .int .i64 ((rd_T129 l0 x4_1).f1.f1), .slice A376_13 ((rd_T129 l0 x4_1).f2).length c376_13]] ?_; (with_reducible refine (laws_toStep.calls k1 ((rd_T129 l0 x4_1).f0.f0) ((rd_T129 l0 x4_1).f0.f1.f0) ((rd_T129 l0 x4_1).f0.f1.f1) ((rd_T129 l0 x4_1).f0.f2) ((rd_T129 l0 x4_1).f0.f3.f0) ((rd_T129 l0 x4_1).f0.f3.f1) ((rd_T129 l0 x4_1).f0.f4.f0) ((rd_T129 l0 x4_1).f0.f4.f1) ((rd_T129 l0 x4_1).f0.f5) ((rd_T129 l0 x4_1).f0.f6) ((rd_T129 l0 x4_1).f1.f0.f0) ((rd_T129 l0 x4_1).f1.f0.f1) ((rd_T129 l0 x4_1).f1.f1) _ _ ((rd_T129 l0 x4_1).f2) t377 t378 t379 t380 t381 t382 t383 t384 t385 t386 t387 t388 t389 t390 _ ?side1 ?side2 A8.out).mono ?_); (case side1 => repeat (first | exact (Kd.C_below HR376_13.out HB.out) | (with_reducible refine Kd.C_alloc ?_ _) | (with_reducible refine Kd.C_drewN ?_ _) | (with_reducible refine Kd.C_drew ?_))); (case side2 => exact HC376_13.out); rintro e w11 ⟨v391, rfl, ho0, hb⟩; refine ⟨_, rfl, ?_⟩; replace HO_3 := aa_ (Kd.S_elder' (rs_ HO_3) (Kd.R_base ho0) hb); have HO392 := aa_ (Kd.R_lower ho0 bls_); replace HB := hbs_ hb; (try clear hb ho0); have p10 : 0 ≤ (x4_1 : Int) := od_; have q10 : (x4_1 : Int) < ((x3_1.length : Int) : Int) := od_; obtain ⟨go10, co10, eo10, gb10, gl10, cl10, HG10⟩ := Kd.S_form HO_3.out (by omega); (first | cases eo10 | (injection eo10 with ea_ en_ ec_; (first | subst ea_ | (injection ea_ with ea_; subst ea_)); subst ec_; clear en_)); have GB10 := aa_ gb10; have GG10 := aa_ HG10; clear gb10 gl10 HG10; obtain ⟨_, ce10, hcl10, hM10, hcc10, hfr10, _, _⟩ := Kd.S_elem HO_3.out z111 (x4_1 : Int) p10 q10; obtain ⟨ve10_13, rfl, ge10_13⟩ := k111_openM hM10; have hx10_0 : w11.cell? ⟨go10, (x4_1 : Int).toNat * 14, none⟩ = some (.int .i64 ((rd_T111 x3_1 x4_1).f0.f0)) := hcc10 0 _ rfl; have hx10_1 : w11.cell? ⟨go10, (x4_1 : Int).toNat * 14 + 1, none⟩ = some (.int .i64 ((rd_T111 x3_1 x4_1).f0.f1.f0)) := hcc10 1 _ rfl; have hx10_2 : w11.cell? ⟨go10, (x4_1 : Int).toNat * 14 + 2, none⟩ = some (.int .i64 ((rd_T111 x3_1 x4_1).f0.f1.f1)) := hcc10 2 _ rfl; have hx10_3 : w11.cell? ⟨go10, (x4_1 : Int).toNat * 14 + 3, none⟩ = some (.int .i64 ((rd_T111 x3_1 x4_1).f0.f2)) := hcc10 3 _ rfl; have hx10_4 : w11.cell? ⟨go10, (x4_1 : Int).toNat * 14 + 4, none⟩ = some (.int .i64 ((rd_T111 x3_1 x4_1).f0.f3.f0)) := hcc10 4 _ rfl; have hx10_5 : w11.cell? ⟨go10, (x4_1 : Int).toNat * 14 + 5, none⟩ = some (.int .i64 ((rd_T111 x3_1 x4_1).f0.f3.f1)) := hcc10 5 _ rfl; have hx10_6 : w11.cell? ⟨go10, (x4_1 : Int).toNat * 14 + 6, none⟩ = some (.int .i64 ((rd_T111 x3_1 x4_1).f0.f4.f0)) := hcc10 6 _ rfl; have hx10_7 : w11.cell? ⟨go10, (x4_1 : Int).toNat * 14 + 7, none⟩ = some (.int .i64 ((rd_T111 x3_1 x4_1).f0.f4.f1)) := hcc10 7 _ rfl; have hx10_8 : w11.cell? ⟨go10, (x4_1 : Int).toNat * 14 + 8, none⟩ = some (.int .i64 ((rd_T111 x3_1 x4_1).f0.f5)) := hcc10 8 _ rfl; have hx10_9 : w11.cell? ⟨go10, (x4_1 : Int).toNat * 14 + 9, none⟩ = some (.int .i64 ((rd_T111 x3_1 x4_1).f0.f6)) := hcc10 9 _ rfl; have hx10_10 : w11.cell? ⟨go10, (x4_1 : Int).toNat * 14 + 10, none⟩ = some (.int .i64 ((rd_T111 x3_1 x4_1).f1.f0.f0)) := hcc10 10 _ rfl; have hx10_11 : w11.cell? ⟨go10, (x4_1 : Int).toNat * 14 + 11, none⟩ = some (.int .i64 ((rd_T111 x3_1 x4_1).f1.f0.f1)) := hcc10 11 _ rfl; have hx10_12 : w11.cell? ⟨go10, (x4_1 : Int).toNat * 14 + 12, none⟩ = some (.int .i64 ((rd_T111 x3_1 x4_1).f1.f1)) := hcc10 12 _ rfl; have hx10_13 : w11.cell? ⟨go10, (x4_1 : Int).toNat * 14 + 13, none⟩ = some (ve10_13) := hcc10 13 _ rfl; have hf10_0 : w11.frozen? ⟨go10, (x4_1 : Int).toNat * 14, none⟩ = false := hfr10 0; have hf10_1 : w11.frozen? ⟨go10, (x4_1 : Int).toNat * 14 + 1, none⟩ = false := hfr10 1; have hf10_2 : w11.frozen? ⟨go10, (x4_1 : Int).toNat * 14 + 2, none⟩ = false := hfr10 2; have hf10_3 : w11.frozen? ⟨go10, (x4_1 : Int).toNat * 14 + 3, none⟩ = false := hfr10 3; have hf10_4 : w11.frozen? ⟨go10, (x4_1 : Int).toNat * 14 + 4, none⟩ = false := hfr10 4; have hf10_5 : w11.frozen? ⟨go10, (x4_1 : Int).toNat * 14 + 5, none⟩ = false := hfr10 5; have hf10_6 : w11.frozen? ⟨go10, (x4_1 : Int).toNat * 14 + 6, none⟩ = false := hfr10 6; have hf10_7 : w11.frozen? ⟨go10, (x4_1 : Int).toNat * 14 + 7, none⟩ = false := hfr10 7; have hf10_8 : w11.frozen? ⟨go10, (x4_1 : Int).toNat * 14 + 8, none⟩ = false := hfr10 8; have hf10_9 : w11.frozen? ⟨go10, (x4_1 : Int).toNat * 14 + 9, none⟩ = false := hfr10 9; have hf10_10 : w11.frozen? ⟨go10, (x4_1 : Int).toNat * 14 + 10, none⟩ = false := hfr10 10; have hf10_11 : w11.frozen? ⟨go10, (x4_1 : Int).toNat * 14 + 11, none⟩ = false := hfr10 11; have hf10_12 : w11.frozen? ⟨go10, (x4_1 : Int).toNat * 14 + 12, none⟩ = false := hfr10 12; have hf10_13 : w11.frozen? ⟨go10, (x4_1 : Int).toNat * 14 + 13, none⟩ = false := hfr10 13; clear hcl10 hcc10 hfr10 hM10; replace p10 := eq_true p10; replace q10 := eq_true q10; have n_ := aa_ (Kd.S_mono (ok' := (fun k_ => some k_ ≠ (v391 : Value).ownBlock)) HO_3.out (fun k_ hk => hk.2)); clear HO_3; have HO_3 := n_; clear n_; have honeo14 := one_R_ Tryz.prog HO392.out; have HX12 := aa_ (show Kd.S k111 111 w11 w.heap.size (fun k_ => ((fun _ => True)) k_ ∧ ¬ ((fun k_ => some k_ = (v391 : Value).ownBlock)) k_) (.slice (some ⟨go10, 0, none⟩) x3_1.length co10) x3_1 from (by (with_reducible repeat (first | apply Kd.S_alloc | apply Kd.S_drewN | apply Kd.S_drew)); exact Kd.S_mono HO_3.out (fun k_ hk => ⟨trivial, fun e_ => hk e_⟩))); obtain ⟨oki12, ce12, hcl12, hM12, hcc12, hfr12, hoki12, hH12⟩ := Kd.S_elem HX12.out z111 (x4_1 : Int) (od_) (by have h_ : (x4_1 : Int) < ((x3_1.length : Int) : Int) := od_; first | exact h_ | (have e_ := (Kd.S_reads' HO_3.out).1; omega) | simpa using h_); obtain ⟨ve12_13, rfl, ge12_13⟩ := k111_openM hM12; have HP12 := Kd.S_seg hH12 (od_) (by have h_ : (x4_1 : Int) < ((x3_1.length : Int) : Int) := od_; first | exact h_ | (have e_ := (Kd.S_reads' HO_3.out).1; omega) | simpa using h_) (seg := [.int .i64 t377, .int .i64 t378, .int .i64 t379, .int .i64 t380, .int .i64 t381, .int .i64 t382, .int .i64 t383, .int .i64 t384, .int .i64 t385, .int .i64 t386, .int .i64 t387, .int .i64 t388, .int .i64 t389, v391]) (j := 0) (show 14 ≤ 14 from by decide) (x' := (⟨(⟨t377, (⟨t378, t379⟩ : S77), t380, (⟨t381, t382⟩ : S77), (⟨t383, t384⟩ : S77), t385, t386⟩ : S83), (⟨(⟨t387, t388⟩ : S77), t389⟩ : S79), t390⟩ : S111)) (k111_mkM _ _ _ (⟨(⟨t377, (⟨t378, t379⟩ : S77), t380, (⟨t381, t382⟩ : S77), (⟨t383, t384⟩ : S77), t385, t386⟩ : S83), (⟨(⟨t387, t388⟩ : S77), t389⟩ : S79), t390⟩ : S111) (Kd.R_mono (Kd.R_tight rfl (Kd.R_mono (ok' := fun k_ => ((fun _ => True)) k_ ∧ k_ ≠ go10) (Kd.R_apart' (HO392.out) (Kd.S_typed HO_3.out) (by decide)) (fun k_ hk => ⟨trivial, fun e_ => (hk.2) (by rw [e_]; rfl)⟩))) (fun _ h_ => Or.inr (h_)))) (fun _ hk => hk) (fun k_ hk_ => ((Kd.R_mono (ok' := fun k_ => ((fun _ => True)) k_ ∧ k_ ≠ go10) (Kd.R_apart' (HO392.out) (Kd.S_typed HO_3.out) (by decide)) (fun k_ hk => ⟨trivial, fun e_ => (hk.2) (by rw [e_]; rfl)⟩))).1 k_ hk_.symm); have hx12_0 := hcc12 0 _ rfl; (try simp only [show (k111).sz = 14 from rfl, Nat.mul_one, Nat.add_zero] at hx12_0); have hf12_0 := hfr12 0; (try simp only [show (k111).sz = 14 from rfl, Nat.mul_one, Nat.add_zero] at hf12_0); have hx12_1 := hcc12 1 _ rfl; (try simp only [show (k111).sz = 14 from rfl, Nat.mul_one, Nat.add_zero] at hx12_1); have hf12_1 := hfr12 1; (try simp only [show (k111).sz = 14 from rfl, Nat.mul_one, Nat.add_zero] at hf12_1); have hx12_2 := hcc12 2 _ rfl; (try simp only [show (k111).sz = 14 from rfl, Nat.mul_one, Nat.add_zero] at hx12_2); have hf12_2 := hfr12 2; (try simp only [show (k111).sz = 14 from rfl, Nat.mul_one, Nat.add_zero] at hf12_2); have hx12_3 := hcc12 3 _ rfl; (try simp only [show (k111).sz = 14 from rfl, Nat.mul_one, Nat.add_zero] at hx12_3); have hf12_3 := hfr12 3; (try simp only [show (k111).sz = 14 from rfl, Nat.mul_one, Nat.add_zero] at hf12_3); have hx12_4 := hcc12 4 _ rfl; (try simp only [show (k111).sz = 14 from rfl, Nat.mul_one, Nat.add_zero] at hx12_4); have hf12_4 := hfr12 4; (try simp only [show (k111).sz = 14 from rfl, Nat.mul_one, Nat.add_zero] at hf12_4); have hx12_5 := hcc12 5 _ rfl; (try simp only [show (k111).sz = 14 from rfl, Nat.mul_one, Nat.add_zero] at hx12_5); have hf12_5 := hfr12 5; (try simp only [show (k111).sz = 14 from rfl, Nat.mul_one, Nat.add_zero] at hf12_5); have hx12_6 := hcc12 6 _ rfl; (try simp only [show (k111).sz = 14 from rfl, Nat.mul_one, Nat.add_zero] at hx12_6); have hf12_6 := hfr12 6; (try simp only [show (k111).sz = 14 from rfl, Nat.mul_one, Nat.add_zero] at hf12_6); have hx12_7 := hcc12 7 _ rfl; (try simp only [show (k111).sz = 14 from rfl, Nat.mul_one, Nat.add_zero] at hx12_7); have hf12_7 := hfr12 7; (try simp only [show (k111).sz = 14 from rfl, Nat.mul_one, Nat.add_zero] at hf12_7); have hx12_8 := hcc12 8 _ rfl; (try simp only [show (k111).sz = 14 from rfl, Nat.mul_one, Nat.add_zero] at hx12_8); have hf12_8 := hfr12 8; (try simp only [show (k111).sz = 14 from rfl, Nat.mul_one, Nat.add_zero] at hf12_8); have hx12_9 := hcc12 9 _ rfl; (try simp only [show (k111).sz = 14 from rfl, Nat.mul_one, Nat.add_zero] at hx12_9); have hf12_9 := hfr12 9; (try simp only [show (k111).sz = 14 from rfl, Nat.mul_one, Nat.add_zero] at hf12_9); have hx12_10 := hcc12 10 _ rfl; (try simp only [show (k111).sz = 14 from rfl, Nat.mul_one, Nat.add_zero] at hx12_10); have hf12_10 := hfr12 10; (try simp only [show (k111).sz = 14 from rfl, Nat.mul_one, Nat.add_zero] at hf12_10); have hx12_11 := hcc12 11 _ rfl; (try simp only [show (k111).sz = 14 from rfl, Nat.mul_one, Nat.add_zero] at hx12_11); have hf12_11 := hfr12 11; (try simp only [show (k111).sz = 14 from rfl, Nat.mul_one, Nat.add_zero] at hf12_11); have hx12_12 := hcc12 12 _ rfl; (try simp only [show (k111).sz = 14 from rfl, Nat.mul_one, Nat.add_zero] at hx12_12); have hf12_12 := hfr12 12; (try simp only [show (k111).sz = 14 from rfl, Nat.mul_one, Nat.add_zero] at hf12_12); have hx12_13 := hcc12 13 _ rfl; (try simp only [show (k111).sz = 14 from rfl, Nat.mul_one, Nat.add_zero] at hx12_13); have hf12_13 := hfr12 13; (try simp only [show (k111).sz = 14 from rfl, Nat.mul_one, Nat.add_zero] at hf12_13); clear hcl12 hcc12 hfr12 hM12 hoki12 hH12) | ((with_reducible refine gate_store (t := 111) (p := 21) rfl ?_); refine store_event (t := 111) (p := 21) (v := ?vo_w13) (w1 := ((((((((((((((w11.setCell ⟨go10, (x4_1 : Int).toNat * 14, none⟩ (.int .i64 t377)).setCell ⟨go10, (x4_1 : Int).toNat * 14 + 1, none⟩ (.int .i64 t378)).setCell ⟨go10, (x4_1 : Int).toNat * 14 + 2, none⟩ (.int .i64 t379)).setCell ⟨go10, (x4_1 : Int).toNat * 14 + 3, none⟩ (.int .i64 t380)).setCell ⟨go10, (x4_1 : Int).toNat * 14 + 4, none⟩ (.int .i64 t381)).setCell ⟨go10, (x4_1 : Int).toNat * 14 + 5, none⟩ (.int .i64 t382)).setCell ⟨go10, (x4_1 : Int).toNat * 14 + 6, none⟩ (.int .i64 t383)).setCell ⟨go10, (x4_1 : Int).toNat * 14 + 7, none⟩ (.int .i64 t384)).setCell ⟨go10, (x4_1 : Int).toNat * 14 + 8, none⟩ (.int .i64 t385)).setCell ⟨go10, (x4_1 : Int).toNat * 14 + 9, none⟩ (.int .i64 t386)).setCell ⟨go10, (x4_1 : Int).toNat * 14 + 10, none⟩ (.int .i64 t387)).setCell ⟨go10, (x4_1 : Int).toNat * 14 + 11, none⟩ (.int .i64 t388)).setCell ⟨go10, (x4_1 : Int).toNat * 14 + 12, none⟩ (.int .i64 t389)).setCell ⟨go10, (x4_1 : Int).toNat * 14 + 13, none⟩ (v391))) ?hg ?ho ?hn ?hr ?_; (case ho => rfl); (case hg => rfl); (case hn => rfl); (case hr => first | (go_simp; done) | (go_simp; rfl)); intro w13 hw; have hg : w11.grownBy w13 (some go10) := (by rw [hw]; exact HP12.2); have hp_ : Kd.S k111 111 w13 w.heap.size (fun _ => True) (.slice (some ⟨go10, 0, none⟩) x3_1.length co10) y393 := (by rw [hw, Ny393.out]; exact HP12.1); clear HP12; replace HO_3 := aa_ (hp_); replace HB := aa_ ((by rw [hw]; exact below_set (below_set (below_set (below_set (below_set (below_set (below_set (below_set (below_set (below_set (below_set (below_set (below_set (below_set (HB.out) GB10.out) GB10.out) GB10.out) GB10.out) GB10.out) GB10.out) GB10.out) GB10.out) GB10.out) GB10.out) GB10.out) GB10.out) GB10.out) GB10.out : Below w.heap.size w w13)); clear HO392; clear hg hw hp_))
    go_roundg k1
    case measure => have := HK1.out; omega
    case rel => exact ⟨(y393), (wrap64 (x4_1 + 1)), rf_, H', ⟨by have := HK1.out; omega⟩, ⟨rs_ HO_3⟩, ⟨bl_⟩⟩
   ·rw [if_neg c6] at H
    have c6b0 : decide (x4_1 < (l0.length : Int)) = false := decide_eq_false c6
    clear c6
    obtain rfl := Option.some.inj H
    go_wp2
    go_ret
    exact ⟨_, eq_, by (with_reducible repeat (first | apply Kd.S_alloc | apply Kd.S_drewN | apply Kd.S_drew)); exact HO_3.out, bl_⟩
def laws_toAnswer.f (k : Nat) (a0_0 : Bool) (l0_1 : List (S129)) (a0_2 : Int) (a0_3 : Bool) (a0_4 : Bool) : Option (Bool × (List (S111)) × Int × Bool × Bool) := (laws_toStepS.f k l0_1).bind fun t397 => (some (a0_0, t397, a0_2, a0_3, a0_4))
set_option maxHeartbeats 8000000 in
set_option maxRecDepth 100000 in
theorem laws_toAnswer.calls (k : Nat) (a0_0 : Bool) (A0_1 : Option Addr) (c0_1 : Nat) (l0_1 : List (S129)) (a0_2 : Int) (a0_3 : Bool) (a0_4 : Bool) (r1 : Bool) (r2 : List (S111)) (r3 : Int) (r4 : Bool) (r5 : Bool) (w : World) (hr0_1 : Kd.C k129 w A0_1 l0_1.length l0_1) (hc0_1 : l0_1.length ≤ c0_1) (h : laws_toAnswer.f k a0_0 l0_1 a0_2 a0_3 a0_4 = some (r1, r2, r3, r4, r5)) :
  Calls Tryz.prog 39 #[.agg #[.bool a0_0, .slice A0_1 l0_1.length c0_1, .int .i64 a0_2, .bool a0_3, .bool a0_4]] w fun e w' => ∃ v1_ : Value, e = .returned (.agg #[.bool r1, v1_, .int .i64 r3, .bool r4, .bool r5]) ∧ Kd.S k111 111 w' w.heap.size (fun _ => True) v1_ r2 ∧ Below w.heap.size w w' := by
 have hu64 := Tryz.underlying64
 have hu73 := Tryz.underlying73
 have HR0_1 := aa_ hr0_1
 have HC0_1 := aa_ hc0_1
 clear hr0_1 hc0_1
 have HB := aa_ (Below.refl w.heap.size w)
 have H : ((laws_toStepS.f k l0_1).bind fun t397 => (some (a0_0, t397, a0_2, a0_3, a0_4))) = some (r1, r2, r3, r4, r5) := h
 clear h
 obtain ⟨t397, A2, H⟩ := bindE_ H
 simp only [Option.some.injEq, Prod.mk.injEq] at H
 obtain ⟨rfl, rfl, rfl, rfl, rfl⟩ := H
 go_enter Tryz.func39, Tryz.ntmps39
 go_wp2_with (first | ((with_reducible refine gD_ 1 rfl ?_); refine bx_ (N := 1) (cs := #[.bool a0_0, .slice A0_1 l0_1.length c0_1, .int .i64 a0_2, .bool a0_3, .bool a0_4]) (t := 64) ?_; intro gb394 hg w3 hbox hb; have BK394 := aa_ (hbox); have GW394 := gs_ hg; have GE394 := gs_ hg; replace HB := hbs_ hb; clear hb hbox hg) | ((with_reducible refine gD_ 2 rfl ?_); refine bx_ (N := 2) (cs := #[.bool false, .slice none 0 0, .int .i64 0, .bool false, .bool false]) (t := 73) ?_; intro gb395 hg w4 hbox hb; have BK395 := aa_ (hbox); have GW395 := gs_ hg; have GE395 := gs_ hg; replace HB := hbs_ hb; have NB394_395 := nl_ hg BK394; have NB395_394 := nr_ hg BK394; replace BK394 := bkb_ BK394 hb; clear hb hbox hg) | ((with_reducible refine gD_ 3 rfl ?_); refine bx_ (N := 3) (cs := #[.bool false, .slice none 0 0, .int .i64 0, .bool false, .bool false]) (t := 73) ?_; intro gb396 hg w5 hbox hb; have BK396 := aa_ (hbox); have GW396 := gs_ hg; have GE396 := gs_ hg; replace HB := hbs_ hb; have NB394_396 := nl_ hg BK394; have NB396_394 := nr_ hg BK394; replace BK394 := bkb_ BK394 hb; have NB395_396 := nl_ hg BK395; have NB396_395 := nr_ hg BK395; replace BK395 := bkb_ BK395 hb; clear hb hbox hg; have hnb6 := NB394_395.out; have hnc6 := NB395_394.out; have hnb7 := NB394_396.out; have hnc7 := NB396_394.out; obtain ⟨hcz8, hfz8⟩ := bcf_ BK394; have hnb9 := NB396_395.out; have hnc9 := NB395_396.out; obtain ⟨hcz10, hfz10⟩ := bcf_ BK396) | ((with_reducible refine gC_ 64 rfl ?_); refine goesC_ (some 9) Tryz.func64 #[.slice A0_1 l0_1.length c0_1] ?_; (with_reducible refine (laws_toStepS.calls k _ _ l0_1 t397 _ ?side1 ?side2 A2.out).mono ?_); (case side1 => exact Kd.C_below HR0_1.out bl_); (case side2 => exact HC0_1.out); rintro e w11 ⟨v398, rfl, ho0, hb⟩; refine ⟨_, rfl, ?_⟩; have HO399 := aa_ (Kd.S_lower ho0 bls_); replace BK394 := aa_ (blk_below (g := gb394) (o := .cells #[.bool a0_0, .slice A0_1 l0_1.length c0_1, .int .i64 a0_2, .bool a0_3, .bool a0_4] 64 (0, 0)) (bk_ BK394) hb); replace BK395 := aa_ (blk_below (g := gb395) (o := .cells #[.bool false, .slice none 0 0, .int .i64 0, .bool false, .bool false] 73 (0, 0)) (bk_ BK395) hb); replace BK396 := aa_ (blk_below (g := gb396) (o := .cells #[.bool a0_0, .slice none 0 0, .int .i64 0, .bool false, .bool false] 73 (0, 0)) (bk_ BK396) hb); replace HB := hbs_ hb; (try clear hb ho0); obtain ⟨Ao12, co12, eo12⟩ := Kd.S_slice HO399.out; subst eo12; obtain ⟨hcz13, hfz13⟩ := bcf_ BK396; obtain ⟨hcz14, hfz14⟩ := bcf_ BK394; obtain ⟨hcz15, hfz15⟩ := bcf_ BK395))
 refine bodyPost_ret (results_cell_row rfl _ _ gb395 73 #[.bool a0_0, .slice Ao12 t397.length co12, .int .i64 a0_2, .bool a0_3, .bool a0_4] (0, 0) _ rfl (bk_ BK395) Tryz.underlying73 rfl (by kernel_rfl)) rfl ?_
 exact ⟨_, eq_, by (with_reducible repeat (first | apply Kd.S_alloc | apply Kd.S_drewN | apply Kd.S_drew)); exact Kd.S_mono (fs5_ (Kd.S_far (p := ⟨gb396, 4, none⟩) (Kd.S_far (p := ⟨gb396, 3, none⟩) (Kd.S_far (p := ⟨gb396, 2, none⟩) (Kd.S_far (p := ⟨gb396, 1, none⟩) (Kd.S_types (Kd.S_types HO399.out BK396.out (by decide)) BK395.out (by decide)) (fun _ hk => hk.1.2) (.slice Ao12 t397.length co12)) (fun _ hk => hk.1.2) (.int .i64 a0_2)) (fun _ hk => hk.1.2) (.bool a0_3)) (fun _ hk => hk.1.2) (.bool a0_4)) (fun _ hk => hk.2)) (fun _ hk => trivial), bl_⟩
def laws_toAnswerS.l0 : Nat → List (S64) → List (S73) → Int → Option ((List (S73)))
 | 0, _, _, _ => none
 | k + 1, x0, x3, x4 => if x4 < (x0.length : Int) then (if 0 ≤ x4 then ((laws_toAnswer.f k ((rd_T64 x0 x4).f0) ((rd_T64 x0 x4).f1) ((rd_T64 x0 x4).f2) ((rd_T64 x0 x4).f3) ((rd_T64 x0 x4).f4)).bind fun bt404 => (if x4 < (x3.length : Int) then (laws_toAnswerS.l0 k x0 (x3.set (x4 : Int).toNat (⟨bt404.1, bt404.2.1, bt404.2.2.1, bt404.2.2.2.1, bt404.2.2.2.2⟩ : S73)) (wrap64 (x4 + 1))) else (none))) else (none)) else (some x3)
def laws_toAnswerS.f (k : Nat) (l0 : List (S64)) : Option ((List (S73))) := if 0 ≤ (l0.length : Int) then (if ((l0.length : Int) : Int).toNat ≤ 5864062014805 then (laws_toAnswerS.l0 k l0 (List.replicate ((l0.length : Int) : Int).toNat z73) 0) else (none)) else (none)
set_option maxHeartbeats 8000000 in
set_option maxRecDepth 100000 in
theorem laws_toAnswerS.calls (k : Nat) (A0 : Option Addr) (c0 : Nat) (l0 : List (S64)) (r : List (S73)) (w : World) (hr0 : Kd.C k64 w A0 l0.length l0) (hc0 : l0.length ≤ c0) (h : laws_toAnswerS.f k l0 = some r) :
  Calls Tryz.prog 19 #[.slice A0 l0.length c0] w fun e w' => ∃ v0_ : Value, e = .returned (v0_) ∧ Kd.R k73 73 w' w.heap.size (fun _ => True) v0_ r ∧ Below w.heap.size w w' := by
 have hu64 := Tryz.underlying64
 have hu73 := Tryz.underlying73
 have HR0 := aa_ hr0
 have HC0 := aa_ hc0
 clear hr0 hc0
 have HB := aa_ (Below.refl w.heap.size w)
 have H : (if 0 ≤ (l0.length : Int) then (if ((l0.length : Int) : Int).toNat ≤ 5864062014805 then (laws_toAnswerS.l0 k l0 (List.replicate ((l0.length : Int) : Int).toNat z73) 0) else (none)) else (none)) = some r := h
 clear h
 obtain ⟨c2, H⟩ := ifn_ H
 have c2b0 := eq_true c2
 have c2b1 : decide (0 ≤ (l0.length : Int)) = true := decide_eq_true c2
 clear c2
 obtain ⟨c3, H⟩ := ifn_ H
 have c3b0 := eq_true c3
 have c3b1 : decide (((l0.length : Int) : Int).toNat ≤ 5864062014805) = true := decide_eq_true c3
 clear c3
 obtain ⟨y400, hy400⟩ : ∃ y_ : List (S73), y_ = (List.replicate ((l0.length : Int) : Int).toNat z73) := ⟨_, rfl⟩
 replace H : (laws_toAnswerS.l0 k l0 y400 0) = some r := rh_ hy400 H
 have Ny400 := aa_ hy400
 clear hy400
 have H' := aa_ H
 clear H
 go_enter Tryz.func19, Tryz.ntmps19
 go_wp2_with (first | ((with_reducible refine gD_ 7 rfl ?_); refine Kd.R_make k73 _ 73 rfl (N := 7) rfl 37 _ _ rfl (l0.length : Int) rfl rfl Tryz.underlying37 (.agg #[(.bool false), (.slice none 0 0), (.int .i64 0), (.bool false), (.bool false)]) 48 info73 rfl (by decide) (by omega) z73 (ok := fun _ => True) (okp := fun _ => True) (k73_mkM _ _ _ z73 (Kd.R_nil _ _ _ _ _)) (fun _ hk => hk) trivial (od_) (Nat.le_trans (Nat.mul_le_mul_right _ (od_ : (l0.length : Int).toNat ≤ 5864062014805)) (by omega)) (Below.refl _ _) (Nat.le_refl _) ?_; intro v401 w4 ho5 hb hg_ hnew_; clear hg_ hnew_; (first | rw [← Ny400.out] at ho5 | (simp only [Int.reduceToNat] at ho5; rw [← Ny400.out] at ho5)); have HO402 := aa_ (Kd.R_lower ho5 bls_); replace HB := hbs_ hb; clear hb ho5))
 go_loopg [4] k (fun kq v4 w' => ∃ (x3_1 : List (S73)) (x4_1 : Int), v4 = .int .i64 x4_1 ∧ Aside0 (laws_toAnswerS.l0 kq l0 x3_1 x4_1 = some r) ∧ Aside0 (kq ≤ k) ∧ Aside0 (Kd.R k73 73 w' w.heap.size (fun _ => True) v401 x3_1) ∧ Aside0 (Below w.heap.size w w'))
 case atStart => exact ⟨(y400), (0), rf_, H', ⟨Nat.le_refl _⟩, ⟨rr_ HO402⟩, ⟨bl_⟩⟩
 case round =>
  clear H'
  try clear c2b0
  try clear c2b1
  try clear p2
  try clear c3b0
  try clear c3b1
  obtain ⟨x3_1, x4_1, rfl, HA, HK1, HO_3, HB⟩ := hrel
  cases gk with
  | zero => exact absurd HA.out (by simp [laws_toAnswerS.l0])
  | succ k1 =>
   have H := HA.out
   clear HA
   simp only [laws_toAnswerS.l0] at H
   by_cases c6 : x4_1 < (l0.length : Int)
   ·rw [if_pos c6] at H
    have c6b0 : decide (x4_1 < (l0.length : Int)) = true := decide_eq_true c6
    clear c6
    obtain ⟨c7b0, H⟩ := ifd_ H
    obtain ⟨⟨t404, t405, t408, t409, t410⟩, A8, H⟩ := bindE_ H
    replace H : (if x4_1 < (x3_1.length : Int) then (laws_toAnswerS.l0 k1 l0 (x3_1.set (x4_1 : Int).toNat (⟨t404, t405, t408, t409, t410⟩ : S73)) (wrap64 (x4_1 + 1))) else (none)) = some r := H
    obtain ⟨c9b0, H⟩ := ifd_ H
    obtain ⟨y411, hy411⟩ : ∃ y_ : List (S73), y_ = (x3_1.set (x4_1 : Int).toNat (⟨t404, t405, t408, t409, t410⟩ : S73)) := ⟨_, rfl⟩
    replace H : (laws_toAnswerS.l0 k1 l0 y411 (wrap64 (x4_1 + 1))) = some r := rh_ hy411 H
    have Ny411 := aa_ hy411
    clear hy411
    have H' := aa_ H
    clear H
    have p403 : 0 ≤ (x4_1 : Int) := od_
    have q403 : x4_1 < (l0.length : Int) := od_
    obtain ⟨ad403, A403_1, c403_1, e403, hx403_0, hx403_1, hx403_2, hx403_3, hx403_4, hl403_1, hi403_1⟩ := at_T64 HR0.out x4_1 p403 q403
    cases e403
    replace hx403_0 := cb_ HB hx403_0
    replace hx403_1 := cb_ HB hx403_1
    replace hx403_2 := cb_ HB hx403_2
    replace hx403_3 := cb_ HB hx403_3
    replace hx403_4 := cb_ HB hx403_4
    have HR403_1 := aa_ hi403_1
    have HC403_1 := aa_ hl403_1
    clear hi403_1 hl403_1
    replace p403 := eq_true p403
    replace q403 := eq_true q403
    go_wp2_with (first | ((with_reducible refine gC_ 39 rfl ?_); refine goesC_ (some 20) Tryz.func39 #[.agg #[.bool ((rd_T64 l0 x4_1).f0), .slice A403_1 ((rd_T64 l0 x4_1).f1).length c403_1, .int .i64 ((rd_T64 l0 x4_1).f2), .bool ((rd_T64 l0 x4_1).f3), .bool ((rd_T64 l0 x4_1).f4)]] ?_; (with_reducible refine (laws_toAnswer.calls k1 ((rd_T64 l0 x4_1).f0) _ _ ((rd_T64 l0 x4_1).f1) ((rd_T64 l0 x4_1).f2) ((rd_T64 l0 x4_1).f3) ((rd_T64 l0 x4_1).f4) t404 t405 t408 t409 t410 _ ?side1 ?side2 A8.out).mono ?_); (case side1 => repeat (first | exact (Kd.C_below HR403_1.out HB.out) | (with_reducible refine Kd.C_alloc ?_ _) | (with_reducible refine Kd.C_drewN ?_ _) | (with_reducible refine Kd.C_drew ?_))); (case side2 => exact HC403_1.out); rintro e w11 ⟨v406, rfl, ho0, hb⟩; refine ⟨_, rfl, ?_⟩; replace HO_3 := aa_ (Kd.R_elder' (rr_ HO_3) (Kd.S_base ho0) hb); have HO407 := aa_ (Kd.S_lower ho0 bls_); replace HB := hbs_ hb; (try clear hb ho0); have p10 : 0 ≤ (x4_1 : Int) := od_; have q10 : (x4_1 : Int) < ((x3_1.length : Int) : Int) := od_; obtain ⟨go10, co10, eo10, gb10, gl10, cl10, HG10⟩ := Kd.R_form HO_3.out (by omega); (first | cases eo10 | (injection eo10 with ea_ en_ ec_; (first | subst ea_ | (injection ea_ with ea_; subst ea_)); subst ec_; clear en_)); have GB10 := aa_ gb10; have GG10 := aa_ HG10; clear gb10 gl10 HG10; obtain ⟨ce10, hcl10, hM10, hcc10, hfr10⟩ := Kd.R_elem HO_3.out z73 (x4_1 : Int) p10 q10; obtain ⟨ve10_1, rfl, ge10_1⟩ := k73_openM hM10; have hx10_0 : w11.cell? ⟨go10, (x4_1 : Int).toNat * 5, none⟩ = some (.bool ((rd_T73 x3_1 x4_1).f0)) := hcc10 0 _ rfl; have hx10_1 : w11.cell? ⟨go10, (x4_1 : Int).toNat * 5 + 1, none⟩ = some (ve10_1) := hcc10 1 _ rfl; have hx10_2 : w11.cell? ⟨go10, (x4_1 : Int).toNat * 5 + 2, none⟩ = some (.int .i64 ((rd_T73 x3_1 x4_1).f2)) := hcc10 2 _ rfl; have hx10_3 : w11.cell? ⟨go10, (x4_1 : Int).toNat * 5 + 3, none⟩ = some (.bool ((rd_T73 x3_1 x4_1).f3)) := hcc10 3 _ rfl; have hx10_4 : w11.cell? ⟨go10, (x4_1 : Int).toNat * 5 + 4, none⟩ = some (.bool ((rd_T73 x3_1 x4_1).f4)) := hcc10 4 _ rfl; have hf10_0 : w11.frozen? ⟨go10, (x4_1 : Int).toNat * 5, none⟩ = false := hfr10 0; have hf10_1 : w11.frozen? ⟨go10, (x4_1 : Int).toNat * 5 + 1, none⟩ = false := hfr10 1; have hf10_2 : w11.frozen? ⟨go10, (x4_1 : Int).toNat * 5 + 2, none⟩ = false := hfr10 2; have hf10_3 : w11.frozen? ⟨go10, (x4_1 : Int).toNat * 5 + 3, none⟩ = false := hfr10 3; have hf10_4 : w11.frozen? ⟨go10, (x4_1 : Int).toNat * 5 + 4, none⟩ = false := hfr10 4; clear hcl10 hcc10 hfr10 hM10; replace p10 := eq_true p10; replace q10 := eq_true q10; have n_ := aa_ (Kd.R_mono (ok' := (fun k_ => some k_ ≠ (v406 : Value).ownBlock)) HO_3.out (fun k_ hk => hk.2)); clear HO_3; have HO_3 := n_; clear n_; have honeo14 := one_S_ Tryz.prog HO407.out; have HX12 := aa_ (show Kd.R k73 73 w11 w.heap.size (fun _ => True) (.slice (some ⟨go10, 0, none⟩) x3_1.length co10) x3_1 from (by (with_reducible repeat (first | apply Kd.R_alloc | apply Kd.R_drewN | apply Kd.R_drew)); exact Kd.R_mono HO_3.out (fun _ hk => trivial))); obtain ⟨ce12, hcl12, hM12, hcc12, hfr12⟩ := Kd.R_elem HX12.out z73 (x4_1 : Int) (od_) (by have h_ : (x4_1 : Int) < ((x3_1.length : Int) : Int) := od_; first | exact h_ | (have e_ := (Kd.R_reads' HO_3.out).1; omega) | simpa using h_); obtain ⟨ve12_1, rfl, ge12_1⟩ := k73_openM hM12; have HP12 := Kd.R_seg HX12.out (x4_1 : Int) (od_) (by have h_ : (x4_1 : Int) < ((x3_1.length : Int) : Int) := od_; first | exact h_ | (have e_ := (Kd.R_reads' HO_3.out).1; omega) | simpa using h_) (seg := [.bool t404, v406, .int .i64 t408, .bool t409, .bool t410]) (j := 0) hcl12 hcc12 (show 5 ≤ 5 from by decide) (x' := (⟨t404, t405, t408, t409, t410⟩ : S73)) (k73_mkM _ _ _ (⟨t404, t405, t408, t409, t410⟩ : S73) (Kd.R_mono (Kd.R_apart' ((Kd.S_R HO407.out)) (Kd.R_typed HO_3.out) (by decide)) (fun k_ hk => ⟨trivial, fun e_ => (hk.2) (by rw [e_]; rfl)⟩))) (fun _ hk => hk); have hx12_0 := hcc12 0 _ rfl; (try simp only [show (k73).sz = 5 from rfl, Nat.mul_one, Nat.add_zero] at hx12_0); have hf12_0 := hfr12 0; (try simp only [show (k73).sz = 5 from rfl, Nat.mul_one, Nat.add_zero] at hf12_0); have hx12_1 := hcc12 1 _ rfl; (try simp only [show (k73).sz = 5 from rfl, Nat.mul_one, Nat.add_zero] at hx12_1); have hf12_1 := hfr12 1; (try simp only [show (k73).sz = 5 from rfl, Nat.mul_one, Nat.add_zero] at hf12_1); have hx12_2 := hcc12 2 _ rfl; (try simp only [show (k73).sz = 5 from rfl, Nat.mul_one, Nat.add_zero] at hx12_2); have hf12_2 := hfr12 2; (try simp only [show (k73).sz = 5 from rfl, Nat.mul_one, Nat.add_zero] at hf12_2); have hx12_3 := hcc12 3 _ rfl; (try simp only [show (k73).sz = 5 from rfl, Nat.mul_one, Nat.add_zero] at hx12_3); have hf12_3 := hfr12 3; (try simp only [show (k73).sz = 5 from rfl, Nat.mul_one, Nat.add_zero] at hf12_3); have hx12_4 := hcc12 4 _ rfl; (try simp only [show (k73).sz = 5 from rfl, Nat.mul_one, Nat.add_zero] at hx12_4); have hf12_4 := hfr12 4; (try simp only [show (k73).sz = 5 from rfl, Nat.mul_one, Nat.add_zero] at hf12_4); clear hcl12 hcc12 hfr12 hM12) | ((with_reducible refine gate_store (t := 73) (p := 21) rfl ?_); refine store_event (t := 73) (p := 21) (v := ?vo_w13) (w1 := (((((w11.setCell ⟨go10, (x4_1 : Int).toNat * 5, none⟩ (.bool t404)).setCell ⟨go10, (x4_1 : Int).toNat * 5 + 1, none⟩ (v406)).setCell ⟨go10, (x4_1 : Int).toNat * 5 + 2, none⟩ (.int .i64 t408)).setCell ⟨go10, (x4_1 : Int).toNat * 5 + 3, none⟩ (.bool t409)).setCell ⟨go10, (x4_1 : Int).toNat * 5 + 4, none⟩ (.bool t410))) ?hg ?ho ?hn ?hr ?_; (case ho => rfl); (case hg => rfl); (case hn => rfl); (case hr => first | (go_simp; done) | (go_simp; rfl)); intro w13 hw; have hg : w11.grownBy w13 (some go10) := (by rw [hw]; exact HP12.2); have hp_ : Kd.R k73 73 w13 w.heap.size (fun _ => True) (.slice (some ⟨go10, 0, none⟩) x3_1.length co10) y411 := (by rw [hw, Ny411.out]; exact HP12.1); clear HP12; replace HO_3 := aa_ (hp_); replace HB := aa_ ((by rw [hw]; exact below_set (below_set (below_set (below_set (below_set (HB.out) GB10.out) GB10.out) GB10.out) GB10.out) GB10.out : Below w.heap.size w w13)); clear HO407; clear hg hw hp_))
    go_roundg k1
    case measure => have := HK1.out; omega
    case rel => exact ⟨(y411), (wrap64 (x4_1 + 1)), rf_, H', ⟨by have := HK1.out; omega⟩, ⟨rr_ HO_3⟩, ⟨bl_⟩⟩
   ·rw [if_neg c6] at H
    have c6b0 : decide (x4_1 < (l0.length : Int)) = false := decide_eq_false c6
    clear c6
    obtain rfl := Option.some.inj H
    go_wp2
    go_ret
    exact ⟨_, eq_, by (with_reducible repeat (first | apply Kd.R_alloc | apply Kd.R_drewN | apply Kd.R_drew)); exact HO_3.out, bl_⟩
def laws_toFactS.l0 : Nat → List (S92) → List (S79) → Int → Option ((List (S79)))
 | 0, _, _, _ => none
 | k + 1, x0, x3, x4 => if x4 < (x0.length : Int) then (if 0 ≤ x4 then ((laws_toFact.f ((rd_T92 x0 x4).f0.f0) ((rd_T92 x0 x4).f0.f1) ((rd_T92 x0 x4).f1)).bind fun bt416 => (if x4 < (x3.length : Int) then (laws_toFactS.l0 k x0 (x3.set (x4 : Int).toNat (⟨(⟨bt416.1, bt416.2.1⟩ : S77), bt416.2.2⟩ : S79)) (wrap64 (x4 + 1))) else (none))) else (none)) else (some x3)
def laws_toFactS.f (k : Nat) (l0 : List (S92)) : Option ((List (S79))) := if 0 ≤ (l0.length : Int) then (if ((l0.length : Int) : Int).toNat ≤ 11728124029610 then (laws_toFactS.l0 k l0 (List.replicate ((l0.length : Int) : Int).toNat z79) 0) else (none)) else (none)
set_option maxHeartbeats 8000000 in
set_option maxRecDepth 100000 in
theorem laws_toFactS.calls (k : Nat) (A0 : Option Addr) (c0 : Nat) (l0 : List (S92)) (r : List (S79)) (w : World) (hr0 : Kd.C k92 w A0 l0.length l0) (hc0 : l0.length ≤ c0) (h : laws_toFactS.f k l0 = some r) :
  Calls Tryz.prog 20 #[.slice A0 l0.length c0] w fun e w' => ∃ v0_ : Value, e = .returned (v0_) ∧ Kd.R k79 79 w' w.heap.size (fun _ => True) v0_ r ∧ Below w.heap.size w w' := by
 have hu92 := Tryz.underlying92
 have hu79 := Tryz.underlying79
 have HR0 := aa_ hr0
 have HC0 := aa_ hc0
 clear hr0 hc0
 have HB := aa_ (Below.refl w.heap.size w)
 have H : (if 0 ≤ (l0.length : Int) then (if ((l0.length : Int) : Int).toNat ≤ 11728124029610 then (laws_toFactS.l0 k l0 (List.replicate ((l0.length : Int) : Int).toNat z79) 0) else (none)) else (none)) = some r := h
 clear h
 obtain ⟨c2, H⟩ := ifn_ H
 have c2b0 := eq_true c2
 have c2b1 : decide (0 ≤ (l0.length : Int)) = true := decide_eq_true c2
 clear c2
 obtain ⟨c3, H⟩ := ifn_ H
 have c3b0 := eq_true c3
 have c3b1 : decide (((l0.length : Int) : Int).toNat ≤ 11728124029610) = true := decide_eq_true c3
 clear c3
 obtain ⟨y412, hy412⟩ : ∃ y_ : List (S79), y_ = (List.replicate ((l0.length : Int) : Int).toNat z79) := ⟨_, rfl⟩
 replace H : (laws_toFactS.l0 k l0 y412 0) = some r := rh_ hy412 H
 have Ny412 := aa_ hy412
 clear hy412
 have H' := aa_ H
 clear H
 go_enter Tryz.func20, Tryz.ntmps20
 go_wp2_with (first | ((with_reducible refine gD_ 7 rfl ?_); refine Kd.R_make k79 _ 79 rfl (N := 7) rfl 38 _ _ rfl (l0.length : Int) rfl rfl Tryz.underlying38 (.agg #[(.int .i64 0), (.int .i64 0), (.int .i64 0)]) 24 info79 rfl (by decide) (by omega) z79 (ok := fun _ => True) (okp := fun _ => True) (k79_mkM _ _ _ z79 ) (fun _ hk => hk) trivial (od_) (Nat.le_trans (Nat.mul_le_mul_right _ (od_ : (l0.length : Int).toNat ≤ 11728124029610)) (by omega)) (Below.refl _ _) (Nat.le_refl _) ?_; intro v413 w4 ho5 hb hg_ hnew_; clear hg_ hnew_; (first | rw [← Ny412.out] at ho5 | (simp only [Int.reduceToNat] at ho5; rw [← Ny412.out] at ho5)); have HO414 := aa_ (Kd.R_lower ho5 bls_); replace HB := hbs_ hb; clear hb ho5))
 go_loopg [4] k (fun kq v4 w' => ∃ (x3_1 : List (S79)) (x4_1 : Int), v4 = .int .i64 x4_1 ∧ Aside0 (laws_toFactS.l0 kq l0 x3_1 x4_1 = some r) ∧ Aside0 (kq ≤ k) ∧ Aside0 (Kd.R k79 79 w' w.heap.size (fun _ => True) v413 x3_1) ∧ Aside0 (Below w.heap.size w w'))
 case atStart => exact ⟨(y412), (0), rf_, H', ⟨Nat.le_refl _⟩, ⟨rr_ HO414⟩, ⟨bl_⟩⟩
 case round =>
  clear H'
  try clear c2b0
  try clear c2b1
  try clear p2
  try clear c3b0
  try clear c3b1
  obtain ⟨x3_1, x4_1, rfl, HA, HK1, HO_3, HB⟩ := hrel
  cases gk with
  | zero => exact absurd HA.out (by simp [laws_toFactS.l0])
  | succ k1 =>
   have H := HA.out
   clear HA
   simp only [laws_toFactS.l0] at H
   by_cases c6 : x4_1 < (l0.length : Int)
   ·rw [if_pos c6] at H
    have c6b0 : decide (x4_1 < (l0.length : Int)) = true := decide_eq_true c6
    clear c6
    obtain ⟨c7b0, H⟩ := ifd_ H
    obtain ⟨⟨t416, t417, t418⟩, A8, H⟩ := bindE_ H
    replace H : (if x4_1 < (x3_1.length : Int) then (laws_toFactS.l0 k1 l0 (x3_1.set (x4_1 : Int).toNat (⟨(⟨t416, t417⟩ : S77), t418⟩ : S79)) (wrap64 (x4_1 + 1))) else (none)) = some r := H
    obtain ⟨c9b0, H⟩ := ifd_ H
    obtain ⟨y419, hy419⟩ : ∃ y_ : List (S79), y_ = (x3_1.set (x4_1 : Int).toNat (⟨(⟨t416, t417⟩ : S77), t418⟩ : S79)) := ⟨_, rfl⟩
    replace H : (laws_toFactS.l0 k1 l0 y419 (wrap64 (x4_1 + 1))) = some r := rh_ hy419 H
    have Ny419 := aa_ hy419
    clear hy419
    have H' := aa_ H
    clear H
    have p415 : 0 ≤ (x4_1 : Int) := od_
    have q415 : x4_1 < (l0.length : Int) := od_
    obtain ⟨ad415, e415, hx415_0, hx415_1, hx415_2⟩ := at_T92 (Kd.C_below HR0.out HB.out) x4_1 p415 q415
    cases e415
    replace p415 := eq_true p415
    replace q415 := eq_true q415
    go_wp2_with (first | ((with_reducible refine gC_ 40 rfl ?_); refine goesC_ (some 20) Tryz.func40 #[.agg #[.int .i64 ((rd_T92 l0 x4_1).f0.f0), .int .i64 ((rd_T92 l0 x4_1).f0.f1), .int .i64 ((rd_T92 l0 x4_1).f1)]] ?_; (with_reducible refine (laws_toFact.calls ((rd_T92 l0 x4_1).f0.f0) ((rd_T92 l0 x4_1).f0.f1) ((rd_T92 l0 x4_1).f1) t416 t417 t418 _ A8.out).mono ?_); rintro e w11 ⟨rfl, hb⟩; refine ⟨_, rfl, ?_⟩; replace HO_3 := hob_ HO_3 hb; replace HB := hbs_ hb; clear hb; have p10 : 0 ≤ (x4_1 : Int) := od_; have q10 : (x4_1 : Int) < ((x3_1.length : Int) : Int) := od_; obtain ⟨go10, co10, eo10, gb10, gl10, cl10, HG10⟩ := Kd.R_form HO_3.out (by omega); (first | cases eo10 | (injection eo10 with ea_ en_ ec_; (first | subst ea_ | (injection ea_ with ea_; subst ea_)); subst ec_; clear en_)); have GB10 := aa_ gb10; have GG10 := aa_ HG10; clear gb10 gl10 HG10; obtain ⟨ce10, hcl10, hM10, hcc10, hfr10⟩ := Kd.R_elem HO_3.out z79 (x4_1 : Int) p10 q10; obtain rfl := k79_openM hM10; have hx10_0 : w11.cell? ⟨go10, (x4_1 : Int).toNat * 3, none⟩ = some (.int .i64 ((rd_T79 x3_1 x4_1).f0.f0)) := hcc10 0 _ rfl; have hx10_1 : w11.cell? ⟨go10, (x4_1 : Int).toNat * 3 + 1, none⟩ = some (.int .i64 ((rd_T79 x3_1 x4_1).f0.f1)) := hcc10 1 _ rfl; have hx10_2 : w11.cell? ⟨go10, (x4_1 : Int).toNat * 3 + 2, none⟩ = some (.int .i64 ((rd_T79 x3_1 x4_1).f1)) := hcc10 2 _ rfl; have hf10_0 : w11.frozen? ⟨go10, (x4_1 : Int).toNat * 3, none⟩ = false := hfr10 0; have hf10_1 : w11.frozen? ⟨go10, (x4_1 : Int).toNat * 3 + 1, none⟩ = false := hfr10 1; have hf10_2 : w11.frozen? ⟨go10, (x4_1 : Int).toNat * 3 + 2, none⟩ = false := hfr10 2; clear hcl10 hcc10 hfr10 hM10; replace p10 := eq_true p10; replace q10 := eq_true q10; have HX12 := aa_ (show Kd.R k79 79 w11 w.heap.size (fun _ => True) (.slice (some ⟨go10, 0, none⟩) x3_1.length co10) x3_1 from (rr_ HO_3)); obtain ⟨ce12, hcl12, hM12, hcc12, hfr12⟩ := Kd.R_elem HX12.out z79 (x4_1 : Int) (od_) (by have h_ : (x4_1 : Int) < ((x3_1.length : Int) : Int) := od_; first | exact h_ | (have e_ := (Kd.R_reads' HO_3.out).1; omega) | simpa using h_); obtain rfl := k79_openM hM12; have HP12 := Kd.R_seg HX12.out (x4_1 : Int) (od_) (by have h_ : (x4_1 : Int) < ((x3_1.length : Int) : Int) := od_; first | exact h_ | (have e_ := (Kd.R_reads' HO_3.out).1; omega) | simpa using h_) (seg := [.int .i64 t416, .int .i64 t417, .int .i64 t418]) (j := 0) hcl12 hcc12 (show 3 ≤ 3 from by decide) (x' := (⟨(⟨t416, t417⟩ : S77), t418⟩ : S79)) (k79_mkM _ _ _ (⟨(⟨t416, t417⟩ : S77), t418⟩ : S79) ) (fun _ hk => hk); have hx12_0 := hcc12 0 _ rfl; (try simp only [show (k79).sz = 3 from rfl, Nat.mul_one, Nat.add_zero] at hx12_0); have hf12_0 := hfr12 0; (try simp only [show (k79).sz = 3 from rfl, Nat.mul_one, Nat.add_zero] at hf12_0); have hx12_1 := hcc12 1 _ rfl; (try simp only [show (k79).sz = 3 from rfl, Nat.mul_one, Nat.add_zero] at hx12_1); have hf12_1 := hfr12 1; (try simp only [show (k79).sz = 3 from rfl, Nat.mul_one, Nat.add_zero] at hf12_1); have hx12_2 := hcc12 2 _ rfl; (try simp only [show (k79).sz = 3 from rfl, Nat.mul_one, Nat.add_zero] at hx12_2); have hf12_2 := hfr12 2; (try simp only [show (k79).sz = 3 from rfl, Nat.mul_one, Nat.add_zero] at hf12_2); clear hcl12 hcc12 hfr12 hM12) | ((with_reducible refine gate_store (t := 79) (p := 21) rfl ?_); refine store_event (t := 79) (p := 21) (v := ?vo_w13) (w1 := (((w11.setCell ⟨go10, (x4_1 : Int).toNat * 3, none⟩ (.int .i64 t416)).setCell ⟨go10, (x4_1 : Int).toNat * 3 + 1, none⟩ (.int .i64 t417)).setCell ⟨go10, (x4_1 : Int).toNat * 3 + 2, none⟩ (.int .i64 t418))) ?hg ?ho ?hn ?hr ?_; (case ho => rfl); (case hg => rfl); (case hn => rfl); (case hr => first | (go_simp; done) | (go_simp; rfl)); intro w13 hw; have hg : w11.grownBy w13 (some go10) := (by rw [hw]; exact HP12.2); have hp_ : Kd.R k79 79 w13 w.heap.size (fun _ => True) (.slice (some ⟨go10, 0, none⟩) x3_1.length co10) y419 := (by rw [hw, Ny419.out]; exact HP12.1); clear HP12; replace HO_3 := aa_ (hp_); replace HB := aa_ ((by rw [hw]; exact below_set (below_set (below_set (HB.out) GB10.out) GB10.out) GB10.out : Below w.heap.size w w13)); clear hg hw hp_))
    go_roundg k1
    case measure => have := HK1.out; omega
    case rel => exact ⟨(y419), (wrap64 (x4_1 + 1)), rf_, H', ⟨by have := HK1.out; omega⟩, ⟨rr_ HO_3⟩, ⟨bl_⟩⟩
   ·rw [if_neg c6] at H
    have c6b0 : decide (x4_1 < (l0.length : Int)) = false := decide_eq_false c6
    clear c6
    obtain rfl := Option.some.inj H
    go_wp2
    go_ret
    exact ⟨_, eq_, by (with_reducible repeat (first | apply Kd.R_alloc | apply Kd.R_drewN | apply Kd.R_drew)); exact HO_3.out, bl_⟩
end Go.Proofs.YteofimccoadmeaaGreat.PA
