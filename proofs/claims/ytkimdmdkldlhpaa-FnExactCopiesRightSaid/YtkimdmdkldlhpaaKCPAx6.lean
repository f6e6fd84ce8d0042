import Derived.Test.YtkimdmdkldlhpaaKCPAx2
import Derived.Test.YtkimdmdkldlhpaaKCPAx5
-- printed by wip/tools
namespace Go.Proofs.Ytkimdmdkldlhpaa.PA
open Go.RowKit Go.Proofs.YtkimdmdkldlhpaaW.PrintWords Go.Proofs.YtkimdmdkldlhpaaW.PrintLast Go.Proofs.YtkimdmdkldlhpaaW.PrintMore
attribute [local go_sem] max2_int min2_int max_two min_two max_three min_three max_four min_four
set_option linter.unusedVariables false
set_option linter.unusedSimpArgs false
mutual
def spec_CopiesRight.l0 : Nat → List Int → List Int → Int → List (S42) → Option (Bool)
 | 0, _, _, _, _ => none
 | k + 1, x3, x4, x5, x258000 => if x5 < (x3.length : Int) then (if 0 ≤ x5 then ((spec_l15All.f k x258000 (rd x3 x5)).bind fun t265 => ((spec_OwnerOf.f k x4 (rd x3 x5)).bind fun t269 => ((spec_HoldersOf.f k x258000 t269).bind fun t270 => (spec_CopiesRight.l1 k x3 x4 x5 t265 t270 0 x258000)))) else (none)) else (some true)
def spec_CopiesRight.l1 : Nat → List Int → List Int → Int → List (S52) → List Int → Int → List (S42) → Option (Bool)
 | 0, _, _, _, _, _, _, _ => none
 | k + 1, x3, x4, x5, x6, x7, x8, x258000 => if x8 < (x258000.length : Int) then (if 0 ≤ x8 then ((spec_l08Has.f k x7 ((rd_T42 x258000 x8).f0)).bind fun t275 => (if t275 = true then (if 0 ≤ x5 then (if x5 < (x3.length : Int) then ((spec_ShelfOf.f k ((rd_T42 x258000 x8).f0) ((rd_T42 x258000 x8).f1) ((rd_T42 x258000 x8).f2) ((rd_T42 x258000 x8).f3) ((rd_T42 x258000 x8).f4) ((rd_T42 x258000 x8).f5) (rd x3 x5)).bind fun t277 => ((spec_l15Items.f k t277 x6).bind fun t280 => (if t280 = true then (spec_CopiesRight.l1 k x3 x4 x5 x6 x7 (wrap64 (x8 + 1)) x258000) else (some false)))) else (none)) else (none)) else (if 0 ≤ x5 then (if x5 < (x3.length : Int) then ((spec_l15Has.f k ((rd_T42 x258000 x8).f0) ((rd_T42 x258000 x8).f1) ((rd_T42 x258000 x8).f2) ((rd_T42 x258000 x8).f3) ((rd_T42 x258000 x8).f4) ((rd_T42 x258000 x8).f5) (rd x3 x5)).bind fun t282 => (if t282 = true then (some false) else (spec_CopiesRight.l1 k x3 x4 x5 x6 x7 (wrap64 (x8 + 1)) x258000))) else (none)) else (none)))) else (none)) else (spec_CopiesRight.l0 k x3 x4 (wrap64 (x5 + 1)) x258000)
end
def spec_CopiesRight.f (k : Nat) (l0_0 : List (S42)) : Option (Bool) := (spec_l15Keys.f k l0_0).bind fun t258 => ((spec_HereOf.f k l0_0).bind fun t261 => (spec_CopiesRight.l0 k t258 t261 0 l0_0))
def spec_CopiesRight.T7 : Bool × List (List Nat × List Nat) := (true, [([], []), ([], []), ([], []), ([], []), ([2, 3], [2, 3]), ([4], [4]), ([1, 5], [1, 5]), ([0, 6, 6], [0, 6]), ([7, 7, 0, 1, 2, 3, 4, 5, 6, 7], [7])])
def spec_CopiesRight.B7 : List Nat := [0, 0, 0, 0, 12, 28, 62, 127, 255]
theorem spec_CopiesRight.tab7 : rtab .any (opsOf Try.f5 7) = spec_CopiesRight.T7 := by kernel_rfl
theorem spec_CopiesRight.bits7 : waitsOk spec_CopiesRight.T7.2 spec_CopiesRight.B7 = true := by kernel_rfl
def spec_CopiesRight.T13 : Bool × List (List Nat × List Nat) := (true, [([], []), ([], []), ([], []), ([1, 2], [1, 2]), ([3], [3]), ([0, 4], [0, 4]), ([], []), ([5, 6, 5], [5, 6]), ([7], [7])])
def spec_CopiesRight.B13 : List Nat := [0, 0, 0, 6, 14, 31, 0, 127, 255]
theorem spec_CopiesRight.tab13 : rtab .any (opsOf Try.f5 13) = spec_CopiesRight.T13 := by kernel_rfl
theorem spec_CopiesRight.bits13 : waitsOk spec_CopiesRight.T13.2 spec_CopiesRight.B13 = true := by kernel_rfl
set_option maxHeartbeats 8000000 in
set_option maxRecDepth 100000 in
theorem spec_CopiesRight.calls (k : Nat) (A0_0 : Option Addr) (c0_0 : Nat) (l0_0 : List (S42)) (r : Bool) (w : World) (hr0_0 : Kd.C k42 w A0_0 l0_0.length l0_0) (hc0_0 : l0_0.length ≤ c0_0) (h : spec_CopiesRight.f k l0_0 = some r) :
  Calls Try.prog 5 #[.agg #[.slice A0_0 l0_0.length c0_0]] w fun e w' => e = .returned (.bool r) ∧ Below w.heap.size w w' := by
 have hu29 := Try.underlying29
 have hu42 := Try.underlying42
 have HR0_0 := aa_ hr0_0
 have HC0_0 := aa_ hc0_0
 clear hr0_0 hc0_0
 have HB := aa_ (Below.refl w.heap.size w)
 have H : ((spec_l15Keys.f k l0_0).bind fun t258 => ((spec_HereOf.f k l0_0).bind fun t261 => (spec_CopiesRight.l0 k t258 t261 0 l0_0))) = some r := h
 clear h
 obtain ⟨t258, A2, H⟩ := bindE_ H
 obtain ⟨t261, A3, H⟩ := bindE_ H
 have H' := aa_ H
 clear H
 go_enter Try.func5, Try.ntmps5
 go_wp2_with (first | ((with_reducible refine gD_ 1 rfl ?_); refine bx_ (N := 1) (cs := #[.slice A0_0 l0_0.length c0_0]) (t := 29) ?_; intro gb257 hg w4 hbox hb; have BK257 := aa_ (hbox); have GW257 := gs_ hg; have GE257 := gs_ hg; replace HB := hbs_ hb; clear hb hbox hg; obtain ⟨hcz5, hfz5⟩ := bcf_ BK257) | ((with_reducible refine gC_ 10 rfl ?_); refine goesC_ (some 11) Try.func10 #[.agg #[.slice A0_0 l0_0.length c0_0]] ?_; (with_reducible refine (spec_l15Keys.calls k _ _ l0_0 t258 _ ?side1 ?side2 A2.out).mono ?_); (case side1 => repeat (first | exact (Kd.C_below HR0_0.out HB.out) | (with_reducible refine Kd.C_alloc ?_ _) | (with_reducible refine Kd.C_drewN ?_ _) | (with_reducible refine Kd.C_drew ?_))); (case side2 => exact HC0_0.out); rintro e w6 ⟨v259, rfl, ho0, hb⟩; refine ⟨_, rfl, ?_⟩; have HO260 := aa_ (Kd.R_lower ho0 bls_); replace BK257 := bkb_ BK257 hb; replace HB := hbs_ hb; (try clear hb ho0); obtain ⟨hcz7, hfz7⟩ := bcf_ BK257) | ((with_reducible refine gC_ 11 rfl ?_); refine goesC_ (some 13) Try.func11 #[.agg #[.slice A0_0 l0_0.length c0_0]] ?_; (with_reducible refine (spec_HereOf.calls k _ _ l0_0 t261 _ ?side1 ?side2 A3.out).mono ?_); (case side1 => repeat (first | exact (Kd.C_below HR0_0.out HB.out) | (with_reducible refine Kd.C_alloc ?_ _) | (with_reducible refine Kd.C_drewN ?_ _) | (with_reducible refine Kd.C_drew ?_))); (case side2 => exact HC0_0.out); rintro e w8 ⟨v262, rfl, ho0, hb⟩; refine ⟨_, rfl, ?_⟩; have HO263 := aa_ (Kd.R_lower (Kd.R_new' ho0 (Kd.R_lt (rr_ HO260))) bls_); replace HO260 := aa_ (Kd.R_elder' (rr_ HO260) (Kd.R_base ho0) hb); replace BK257 := bkb_ BK257 hb; replace HB := hbs_ hb; (try clear hb ho0)))
 go_loopg [5] k (fun kq v5 w' => ∃ (x5_1 : Int), v5 = .int .i64 x5_1 ∧ Aside0 (spec_CopiesRight.l0 kq t258 t261 x5_1 l0_0 = some r) ∧ Aside0 (kq ≤ k) ∧ Aside0 (Kd.R (Kd.int .i64) 3 w' w.heap.size (fun k_ => some k_ ≠ (v262 : Value).ownBlock) v259 t258) ∧ Aside0 (Kd.R (Kd.int .i64) 3 w' w.heap.size (fun k_ => some k_ ≠ (v259 : Value).ownBlock) v262 t261) ∧ Aside0 (w'.heap[gb257]? = some (.cells #[(.slice A0_0 l0_0.length c0_0)] 29 (0, 0))) ∧ Aside0 (Below w.heap.size w w'))
 case atStart => exact ⟨(0), rf_, H', ⟨Nat.le_refl _⟩, ⟨by (with_reducible repeat (first | apply Kd.R_alloc | apply Kd.R_drewN | apply Kd.R_drew)); exact Kd.R_mono HO260.out (fun _ hk => hk.2)⟩, ⟨by (with_reducible repeat (first | apply Kd.R_alloc | apply Kd.R_drewN | apply Kd.R_drew)); exact Kd.R_mono HO263.out (fun _ hk => hk.2)⟩, ⟨bk_ BK257⟩, ⟨bl_⟩⟩
 case round =>
  clear H'
  try clear c1
  try clear p2
  try clear c5
  try clear hcz5
  try clear hcz7
  try clear hfz5
  try clear hfz7
  obtain ⟨x5_1, rfl, HA, HK1, HO_3, HO_4, BK257, HB⟩ := hrel
  cases gk with
  | zero => exact absurd HA.out (by simp [spec_CopiesRight.l0])
  | succ k1 =>
   have H := HA.out
   clear HA
   simp only [spec_CopiesRight.l0] at H
   by_cases c9 : x5_1 < (t258.length : Int)
   ·rw [if_pos c9] at H
    have c9b0 : decide (x5_1 < (t258.length : Int)) = true := decide_eq_true c9
    clear c9
    obtain ⟨c10b0, H⟩ := ifd_ H
    obtain ⟨t265, A11, H⟩ := bindE_ H
    obtain ⟨t269, A12, H⟩ := bindE_ H
    obtain ⟨t270, A13, H⟩ := bindE_ H
    have H' := aa_ H
    clear H
    obtain ⟨Ao14, co14, eo14⟩ := Kd.R_slice HO_3.out
    subst eo14
    try go_wp2
    replace HO_3 := aa_ (Kd.R_drew HO_3.out)
    replace HO_4 := aa_ (Kd.R_drew HO_4.out)
    replace BK257 := aa_ (blk_drew BK257.out)
    replace HB := aa_ (below_drew1 HB.out)
    have p264 : 0 ≤ (x5_1 : Int) := od_
    have q264 : x5_1 < (t258.length : Int) := od_
    obtain ⟨ad264, e264, hx264_0⟩ := Kd.at_int (Kd.R_reads' HO_3.out).2.2 x5_1 p264 q264
    cases e264
    replace p264 := eq_true p264
    replace q264 := eq_true q264
    refine start_ (n := 7) (S := fun w' => w'.cell? ⟨gb257, 0, none⟩ = some (.slice A0_0 l0_0.length c0_0) ∧ w'.cell? (ad264.add (x5_1).toNat) = some (.int .i64 (rd t258 x5_1))) (ds := []) (ba_ 7 0) (by kernel_rfl) rfl rfl ⟨(blk_cell BK257.out 0).trans rfl, hx264_0⟩ (fun hHeld => ?_)
    generalize wr.drew = w15 at HO_3 HO_4 BK257 HB hx264_0 hHeld ⊢
    refine pure_ (i := 1) (N := some 21) (v := ?_) (a' := ?_) (ba_ 7 2) rfl rfl (by kernel_rfl) (fun _ _ _ h => h) (Or.inl ⟨by rfl, ?_⟩) ?_ ?_
    rotate_left
    ·intro w'
     go_simp
     with_reducible rfl
    rotate_left
    ·simp only [Act.put, List.setIfInBounds_toArray, List.set_cons_zero, List.set_cons_succ, i64_w, i32_w]
     rfl
    refine pure_ (i := 2) (N := some 22) (v := ?_) (a' := ?_) (ba_ 7 6) rfl rfl (by kernel_rfl) (fun _ _ _ h => h) (Or.inl ⟨by rfl, ?_⟩) ?_ ?_
    rotate_left
    ·intro w'
     go_simp
     with_reducible rfl
    rotate_left
    ·simp only [Act.put, List.setIfInBounds_toArray, List.set_cons_zero, List.set_cons_succ, i64_w, i32_w]
     rfl
    refine pure_ (i := 3) (N := some 23) (v := ?_) (a' := ?_) (ba_ 7 14) rfl rfl (by kernel_rfl) (fun _ _ _ h => h) (Or.inl ⟨by rfl, ?_⟩) ?_ ?_
    rotate_left
    ·intro w'
     go_simp
     with_reducible rfl
    rotate_left
    ·simp only [Act.put, List.setIfInBounds_toArray, List.set_cons_zero, List.set_cons_succ, i64_w, i32_w]
     rfl
    refine take_ (i := 0) (N := some 20) (v := ?_) (a' := ?_) (ba_ 7 15) rfl rfl (by kernel_rfl) (fun _ _ _ h => h) (Or.inl ⟨by rfl, ?_⟩) hHeld ?_ ?_
    rotate_left
    ·rintro w' ⟨s0, s1⟩
     go_simp
     with_reducible rfl
    rotate_left
    ·simp only [Act.put, List.setIfInBounds_toArray, List.set_cons_zero, List.set_cons_succ, i64_w, i32_w]
     rfl
    refine take_ (i := 4) (N := some 24) (v := ?_) (a' := ?_) (ba_ 7 31) rfl rfl (by kernel_rfl) (fun _ _ _ h => h) (Or.inl ⟨by rfl, ?_⟩) hHeld ?_ ?_
    rotate_left
    ·rintro w' ⟨s0, s1⟩
     go_simp
     with_reducible rfl
    rotate_left
    ·simp only [Act.put, List.setIfInBounds_toArray, List.set_cons_zero, List.set_cons_succ, i64_w, i32_w]
     rfl
    refine one_ (i := 5) (N := some 25) (ba_ 7 63) rfl rfl (by kernel_rfl) (by decide) (fun K hK => ?_)
    refine goes_ Try.func12 (by kernel_rfl) rfl #[.agg #[.slice A0_0 l0_0.length c0_0], .int .i64 (rd t258 x5_1)] (by rfl) rfl rfl (by (try simp only [List.map_toArray, List.map_cons, List.map_nil]); first | done | rfl | (simp only [List.length_drop, List.length_take]; rfl)) ?_
    with_reducible refine (spec_l15All.calls k1 _ _ l0_0 (rd t258 x5_1) t265 _ ?side1 ?side2 A11.out).mono ?_
    (case side1 => repeat (first | exact (Kd.C_below HR0_0.out HB.out) | (with_reducible refine Kd.C_alloc ?_ _) | (with_reducible refine Kd.C_drewN ?_ _) | (with_reducible refine Kd.C_drew ?_)))
    (case side2 => exact HC0_0.out)
    rintro e w16 ⟨v266, rfl, ho0, hb⟩
    have HS1_ := (hb.cell (World.block_lt_of_cell? _ _ (hHeld.2))).trans (hHeld.2)
    refine ⟨_, rfl, ?_⟩
    replace HO_3 := hob_ HO_3 hb
    replace HO_4 := hob_ HO_4 hb
    have HO267 := aa_ (Kd.R_lower ho0 bls_)
    replace BK257 := bkb_ BK257 hb
    replace HB := hbs_ hb
    (try clear hb)
    (try clear hb2)
    (try clear hk)
    (try clear hi)
    (try clear ho0)
    refine hK.out _ _ ⟨(blk_cell BK257.out 0).trans rfl, HS1_⟩ (fun hHeld => ?_)
    clear hK K
    refine norm_ (a' := ?_) ?_ ?_
    rotate_left
    ·show Act.put _ (some 25) _ = _
     simp only [Act.put, List.setIfInBounds_toArray, List.set_cons_zero, List.set_cons_succ, i64_w, i32_w]
     rfl
    refine pure_ (i := 6) (N := some 6) (v := ?_) (a' := ?_) (ba_ 7 127) rfl rfl (by kernel_rfl) (fun _ _ _ h => h) (Or.inl ⟨by rfl, ?_⟩) ?_ ?_
    rotate_left
    ·intro w'
     go_simp
     with_reducible rfl
    rotate_left
    ·simp only [Act.put, List.setIfInBounds_toArray, List.set_cons_zero, List.set_cons_succ, i64_w, i32_w]
     rfl
    refine done_ (by kernel_rfl) ?_
    try go_wp2
    replace HO_3 := aa_ (Kd.R_drew HO_3.out)
    replace HO_4 := aa_ (Kd.R_drew HO_4.out)
    replace HO267 := aa_ (Kd.R_drew HO267.out)
    replace BK257 := aa_ (blk_drew BK257.out)
    replace HB := aa_ (below_drew1 HB.out)
    have p268 : 0 ≤ (x5_1 : Int) := od_
    have q268 : x5_1 < (t258.length : Int) := od_
    obtain ⟨ad268, e268, hx268_0⟩ := Kd.at_int (Kd.R_reads' HO_3.out).2.2 x5_1 p268 q268
    obtain rfl : ad264 = ad268 := (by injection e268)
    replace p268 := eq_true p268
    replace q268 := eq_true q268
    obtain ⟨Ao18, co18, eo18⟩ := Kd.R_slice HO_4.out
    (first | subst eo18 | (injection eo18 with f1_ f2_ f3_; have f4_ := f1_.symm; have f5_ := f3_.symm; clear f1_ f2_ f3_; subst f4_; subst f5_))
    refine start_ (n := 9) (S := fun w' => w'.cell? ⟨gb257, 0, none⟩ = some (.slice A0_0 l0_0.length c0_0) ∧ w'.cell? (ad264.add (x5_1).toNat) = some (.int .i64 (rd t258 x5_1))) (ds := []) (ba_ 9 0) (by kernel_rfl) rfl rfl ⟨(blk_cell BK257.out 0).trans rfl, hx268_0⟩ (fun hHeld => ?_); refine with_tabW spec_CopiesRight.tab7 spec_CopiesRight.bits7 (fun HT_ HW_ => ?_)
    generalize w16.drew = w17 at HO_3 HO_4 HO267 BK257 HB hx268_0 hHeld ⊢
    refine pureZ_ (i := 1) (some 27) (ba_ 9 2) (ao_ HT_) ?_
    refine pureZ_ (i := 2) (some 28) (ba_ 9 6) (ao_ HT_) ?_
    refine pureZ_ (i := 3) (some 29) (ba_ 9 14) (ao_ HT_) ?_
    refine pureZ_ (i := 4) (some 30) (ba_ 9 30) (ao_ HT_) ?_
    refine takeZ_ (i := 0) (some 26) (ba_ 9 31) (take_ofW HT_.out HW_.out (by kernel_rfl)) hHeld ?_
    refine takeZ_ (i := 5) (some 31) (ba_ 9 63) (take_ofW HT_.out HW_.out (by kernel_rfl)) hHeld ?_
    refine one_ (i := 6) (N := some 32) (ba_ 9 127) rfl rfl (one_of HT_.out (by kernel_rfl)) (by decide) (fun K hK => ?_)
    refine goes_ Try.func14 (by kernel_rfl) rfl #[.slice Ao18 t261.length co18, .int .i64 (rd t258 x5_1)] (by rfl) rfl rfl (by (try simp only [List.map_toArray, List.map_cons, List.map_nil]); first | done | rfl | (simp only [List.length_drop, List.length_take]; rfl)) ?_
    with_reducible refine (spec_OwnerOf.calls k1 _ _ t261 (rd t258 x5_1) t269 _ ?side1 ?side2 A12.out).mono ?_
    (case side1 => repeat (first | exact (Kd.R_reads' HO_4.out).2.2 | (with_reducible refine Kd.C_alloc ?_ _) | (with_reducible refine Kd.C_drewN ?_ _) | (with_reducible refine Kd.C_drew ?_)))
    (case side2 => exact (Kd.R_reads' HO_4.out).2.1)
    rintro e w' ⟨rfl, ⟨nd, rfl⟩⟩
    refine ⟨_, rfl, ?_⟩
    refine hK.out _ _ ⟨(blk_cell BK257.out 0).trans rfl, hHeld.2⟩ (fun hHeld => ?_)
    clear hK K
    refine norm_ (a' := ?_) ?_ ?_
    rotate_left
    ·show Act.put _ (some 32) _ = _
     simp only [Act.put, List.setIfInBounds_toArray, List.set_cons_zero, List.set_cons_succ, i64_w, i32_w]
     rfl
    refine one_ (i := 7) (N := some 33) (ba_ 9 255) rfl rfl (one_of HT_.out (by kernel_rfl)) (by decide) (fun K hK => ?_)
    refine goes_ Try.func13 (by kernel_rfl) rfl #[.agg #[.slice A0_0 l0_0.length c0_0], .int .i64 t269] (by rfl) rfl rfl (by (try simp only [List.map_toArray, List.map_cons, List.map_nil]); first | done | rfl | (simp only [List.length_drop, List.length_take]; rfl)) ?_
    with_reducible refine (spec_HoldersOf.calls k1 _ _ l0_0 t269 t270 _ ?side1 ?side2 A13.out).mono ?_
    (case side1 => repeat (first | exact (Kd.C_below HR0_0.out bl_) | (with_reducible refine Kd.C_alloc ?_ _) | (with_reducible refine Kd.C_drewN ?_ _) | (with_reducible refine Kd.C_drew ?_)))
    (case side2 => exact HC0_0.out)
    rintro e w19 ⟨v271, rfl, ho0, hb⟩
    have HS1_ := (hb.cell (World.block_lt_of_cell? _ _ (hHeld.2))).trans (hHeld.2)
    refine ⟨_, rfl, ?_⟩
    replace HO267 := hob_ HO267 hb
    have HO272 := aa_ (Kd.R_lower (Kd.R_new' (Kd.R_new' ho0 (Kd.R_lt (rr_ HO_3))) (Kd.R_lt (rr_ HO_4))) bls_)
    replace HO_3 := aa_ (Kd.R_elder' (rr_ HO_3) (Kd.R_base ho0) hb)
    replace HO_4 := aa_ (Kd.R_elder' (rr_ HO_4) (Kd.R_base ho0) hb)
    replace BK257 := bkb_ BK257 hb
    replace HB := hbs_ hb
    (try clear hb)
    (try clear hb2)
    (try clear hk)
    (try clear hi)
    (try clear ho0)
    refine hK.out _ _ ⟨(blk_cell BK257.out 0).trans rfl, HS1_⟩ (fun hHeld => ?_)
    clear hK K
    refine norm_ (a' := ?_) ?_ ?_
    rotate_left
    ·show Act.put _ (some 33) _ = _
     simp only [Act.put, List.setIfInBounds_toArray, List.set_cons_zero, List.set_cons_succ, i64_w, i32_w]
     rfl
    refine pureZ_ (i := 8) (some 7) (ba_ 9 511) (ao_ HT_) ?_
    refine done_ (done_of HT_.out (by kernel_rfl)) ?_
    try go_wp2
    go_loopg [8] k1 (fun kq v8 w' => ∃ (x8_2 : Int), v8 = .int .i64 x8_2 ∧ Aside0 (spec_CopiesRight.l1 kq t258 t261 x5_1 t265 t270 x8_2 l0_0 = some r) ∧ Aside0 (kq ≤ k1) ∧ Aside0 (Kd.R (Kd.int .i64) 3 w' w.heap.size (fun k_ => some k_ ≠ ((.slice Ao18 t261.length co18) : Value).ownBlock ∧ some k_ ≠ (v271 : Value).ownBlock) (.slice (some ad264) t258.length co14) t258) ∧ Aside0 (Kd.R (Kd.int .i64) 3 w' w.heap.size (fun k_ => some k_ ≠ ((.slice (some ad264) t258.length co14) : Value).ownBlock ∧ some k_ ≠ (v271 : Value).ownBlock) (.slice Ao18 t261.length co18) t261) ∧ Aside0 (Kd.R k52 52 w' w.heap.size (fun _ => True) v266 t265) ∧ Aside0 (Kd.R (Kd.int .i64) 3 w' w.heap.size (fun k_ => some k_ ≠ ((.slice (some ad264) t258.length co14) : Value).ownBlock ∧ some k_ ≠ ((.slice Ao18 t261.length co18) : Value).ownBlock) v271 t270) ∧ Aside0 (w'.heap[gb257]? = some (.cells #[(.slice A0_0 l0_0.length c0_0)] 29 (0, 0))) ∧ Aside0 (Below w.heap.size w w'))
    case atStart => exact ⟨(0), rf_, H', ⟨Nat.le_refl _⟩, ⟨rr_ HO_3⟩, ⟨rr_ HO_4⟩, ⟨rr_ HO267⟩, ⟨by (with_reducible repeat (first | apply Kd.R_alloc | apply Kd.R_drewN | apply Kd.R_drew)); exact Kd.R_mono HO272.out (fun _ hk => ⟨hk.1.2, hk.2⟩)⟩, ⟨bk_ BK257⟩, ⟨bl_⟩⟩
    case round =>
     clear H'
     try clear c1
     try clear p2
     try clear q2
     try clear hx2
     try clear c5
     try clear c9
     try clear c9b0
     try clear c10
     try clear c10b0
     try clear c11
     try clear c12
     try clear c13
     try clear c14
     try clear hcz5
     try clear hcz7
     try clear hfz5
     try clear hfz7
     try clear hx264_0
     try clear hx268_0
     try clear p2
     try clear p264
     try clear p268
     try clear q264
     try clear q268
     obtain ⟨x8_2, rfl, HA, HK2, HO_3, HO_4, HO_6, HO_7, BK257, HB⟩ := hrel
     cases gk with
     | zero => exact absurd HA.out (by simp [spec_CopiesRight.l1])
     | succ k2 =>
      have H := HA.out
      clear HA
      simp only [spec_CopiesRight.l1] at H
      by_cases c20 : x8_2 < (l0_0.length : Int)
      ·rw [if_pos c20] at H
       have c20b0 : decide (x8_2 < (l0_0.length : Int)) = true := decide_eq_true c20
       clear c20
       obtain ⟨c21b0, H⟩ := ifd_ H
       obtain ⟨t275, A22, H⟩ := bindE_ H
       by_cases c23 : t275 = true
       ·subst c23
        replace H := ite_t_ H
        obtain ⟨c24b0, H⟩ := ifd_ H
        obtain ⟨c25b0, H⟩ := ifd_ H
        obtain ⟨t277, A26, H⟩ := bindE_ H
        obtain ⟨t280, A27, H⟩ := bindE_ H
        by_cases c28 : t280 = true
        ·subst c28
         replace H := ite_t_ H
         have H' := aa_ H
         clear H
         have hcz29 := blk_cell BK257.out
         have hfz29 := blk_frozen BK257.out
         have p273 : 0 ≤ (x8_2 : Int) := od_
         have q273 : x8_2 < (l0_0.length : Int) := od_
         obtain ⟨ad273, A273_3, c273_3, A273_4, c273_4, A273_5, c273_5, e273, hx273_0, hx273_1, hx273_2, hx273_3, hx273_4, hx273_5, hl273_3, hi273_3, hl273_4, hi273_4, hl273_5, hi273_5⟩ := at_T42 HR0_0.out x8_2 p273 q273
         cases e273
         replace hx273_0 := cb_ HB hx273_0
         replace hx273_1 := cb_ HB hx273_1
         replace hx273_2 := cb_ HB hx273_2
         replace hx273_3 := cb_ HB hx273_3
         replace hx273_4 := cb_ HB hx273_4
         replace hx273_5 := cb_ HB hx273_5
         have HR273_3 := aa_ hi273_3
         have HC273_3 := aa_ hl273_3
         clear hi273_3 hl273_3
         have HR273_4 := aa_ hi273_4
         have HC273_4 := aa_ hl273_4
         clear hi273_4 hl273_4
         have HR273_5 := aa_ hi273_5
         have HC273_5 := aa_ hl273_5
         clear hi273_5 hl273_5
         replace p273 := eq_true p273
         replace q273 := eq_true q273
         try go_wp2_with (first | ((with_reducible refine gD_ 9 rfl ?_); refine bx_ (N := 9) (cs := #[.int .i64 0, .bool false, .int .i64 0, .slice none 0 0, .slice none 0 0, .slice none 0 0]) (t := 42) ?_; intro gb274 hg w30 hbox hb; replace HO_3 := hob_ HO_3 hb; replace HO_4 := hob_ HO_4 hb; replace HO_6 := hob_ HO_6 hb; replace HO_7 := hob_ HO_7 hb; have BK274 := aa_ (hbox); have GW274 := gs_ hg; have GE274 := gs_ hg; replace HB := hbs_ hb; have NB257_274 := nl_ hg BK257; have NB274_257 := nr_ hg BK257; replace BK257 := bkb_ BK257 hb; clear hb hbox hg; have hnb31 := NB274_257.out; have hnc31 := NB257_274.out; obtain ⟨hcz32, hfz32⟩ := bcf_ BK274; obtain ⟨Ao33, co33, eo33⟩ := Kd.R_slice HO_7.out; subst eo33) | ((with_reducible refine gC_ 15 rfl ?_); refine goesC_ (some 49) Try.func15 #[.slice Ao33 t270.length co33, .int .i64 ((rd_T42 l0_0 x8_2).f0)] ?_; (with_reducible refine (spec_l08Has.calls k2 _ _ t270 ((rd_T42 l0_0 x8_2).f0) true _ ?side1 ?side2 A22.out).mono ?_); (case side1 => refine (Kd.R_reads' (e := 3) (base := w.heap.size) (ok := fun k_ => (some k_ ≠ (.slice (some ad264) t258.length co14 : Value).ownBlock ∧ some k_ ≠ (.slice Ao18 t261.length co18 : Value).ownBlock)) (n := t270.length) (c := co33) ?_).2.2; exact (by (with_reducible repeat (first | apply Kd.R_alloc | apply Kd.R_drewN | apply Kd.R_drew)); exact (Kd.R_mono (fr6_ (Kd.R_types HO_7.out BK274.out (by decide)) (fun _ hk => hk.2)) (fun _ h_ => h_.1)))); (case side2 => exact (Kd.R_reads' HO_7.out).2.1); rintro e w' ⟨rfl, ⟨nd, rfl⟩⟩; refine ⟨_, rfl, ?_⟩))
         have n0_ : Aside0 (Kd.R (Kd.int .i64) 3 ((((((w30.setCell ⟨gb274, 0, none⟩ (.int .i64 ((rd_T42 l0_0 x8_2).f0))).setCell ⟨gb274, 1, none⟩ (.bool ((rd_T42 l0_0 x8_2).f1))).setCell ⟨gb274, 2, none⟩ (.int .i64 ((rd_T42 l0_0 x8_2).f2))).setCell ⟨gb274, 3, none⟩ (.slice A273_3 ((rd_T42 l0_0 x8_2).f3).length c273_3)).setCell ⟨gb274, 4, none⟩ (.slice A273_4 ((rd_T42 l0_0 x8_2).f4).length c273_4)).setCell ⟨gb274, 5, none⟩ (.slice A273_5 ((rd_T42 l0_0 x8_2).f5).length c273_5)) w.heap.size (fun k_ => some k_ ≠ (.slice Ao18 t261.length co18 : Value).ownBlock ∧ some k_ ≠ (.slice Ao33 t270.length co33 : Value).ownBlock) (.slice (some ad264) t258.length co14) t258) := ⟨by (with_reducible repeat (first | apply Kd.R_alloc | apply Kd.R_drewN | apply Kd.R_drew)); exact Kd.R_mono (fr6_ (Kd.R_types HO_3.out BK274.out (by decide)) (fun _ hk => hk.2)) (fun _ hk => ⟨hk.1.1, hk.1.2⟩)⟩
         have n1_ : Aside0 (Kd.R (Kd.int .i64) 3 ((((((w30.setCell ⟨gb274, 0, none⟩ (.int .i64 ((rd_T42 l0_0 x8_2).f0))).setCell ⟨gb274, 1, none⟩ (.bool ((rd_T42 l0_0 x8_2).f1))).setCell ⟨gb274, 2, none⟩ (.int .i64 ((rd_T42 l0_0 x8_2).f2))).setCell ⟨gb274, 3, none⟩ (.slice A273_3 ((rd_T42 l0_0 x8_2).f3).length c273_3)).setCell ⟨gb274, 4, none⟩ (.slice A273_4 ((rd_T42 l0_0 x8_2).f4).length c273_4)).setCell ⟨gb274, 5, none⟩ (.slice A273_5 ((rd_T42 l0_0 x8_2).f5).length c273_5)) w.heap.size (fun k_ => some k_ ≠ (.slice (some ad264) t258.length co14 : Value).ownBlock ∧ some k_ ≠ (.slice Ao33 t270.length co33 : Value).ownBlock) (.slice Ao18 t261.length co18) t261) := ⟨by (with_reducible repeat (first | apply Kd.R_alloc | apply Kd.R_drewN | apply Kd.R_drew)); exact Kd.R_mono (fr6_ (Kd.R_types HO_4.out BK274.out (by decide)) (fun _ hk => hk.2)) (fun _ hk => ⟨hk.1.1, hk.1.2⟩)⟩
         have n2_ : Aside0 (Kd.R k52 52 ((((((w30.setCell ⟨gb274, 0, none⟩ (.int .i64 ((rd_T42 l0_0 x8_2).f0))).setCell ⟨gb274, 1, none⟩ (.bool ((rd_T42 l0_0 x8_2).f1))).setCell ⟨gb274, 2, none⟩ (.int .i64 ((rd_T42 l0_0 x8_2).f2))).setCell ⟨gb274, 3, none⟩ (.slice A273_3 ((rd_T42 l0_0 x8_2).f3).length c273_3)).setCell ⟨gb274, 4, none⟩ (.slice A273_4 ((rd_T42 l0_0 x8_2).f4).length c273_4)).setCell ⟨gb274, 5, none⟩ (.slice A273_5 ((rd_T42 l0_0 x8_2).f5).length c273_5)) w.heap.size (fun _ => True) v266 t265) := ⟨by (with_reducible repeat (first | apply Kd.R_alloc | apply Kd.R_drewN | apply Kd.R_drew)); exact Kd.R_mono (fr6_ (Kd.R_types HO_6.out BK274.out (by decide)) (fun _ hk => hk.2)) (fun _ hk => trivial)⟩
         have n3_ : Aside0 (Kd.R (Kd.int .i64) 3 ((((((w30.setCell ⟨gb274, 0, none⟩ (.int .i64 ((rd_T42 l0_0 x8_2).f0))).setCell ⟨gb274, 1, none⟩ (.bool ((rd_T42 l0_0 x8_2).f1))).setCell ⟨gb274, 2, none⟩ (.int .i64 ((rd_T42 l0_0 x8_2).f2))).setCell ⟨gb274, 3, none⟩ (.slice A273_3 ((rd_T42 l0_0 x8_2).f3).length c273_3)).setCell ⟨gb274, 4, none⟩ (.slice A273_4 ((rd_T42 l0_0 x8_2).f4).length c273_4)).setCell ⟨gb274, 5, none⟩ (.slice A273_5 ((rd_T42 l0_0 x8_2).f5).length c273_5)) w.heap.size (fun k_ => some k_ ≠ (.slice (some ad264) t258.length co14 : Value).ownBlock ∧ some k_ ≠ (.slice Ao18 t261.length co18 : Value).ownBlock) (.slice Ao33 t270.length co33) t270) := ⟨by (with_reducible repeat (first | apply Kd.R_alloc | apply Kd.R_drewN | apply Kd.R_drew)); exact Kd.R_mono (fr6_ (Kd.R_types HO_7.out BK274.out (by decide)) (fun _ hk => hk.2)) (fun _ hk => ⟨hk.1.1, hk.1.2⟩)⟩
         have n4_ : Aside0 (((((((w30.setCell ⟨gb274, 0, none⟩ (.int .i64 ((rd_T42 l0_0 x8_2).f0))).setCell ⟨gb274, 1, none⟩ (.bool ((rd_T42 l0_0 x8_2).f1))).setCell ⟨gb274, 2, none⟩ (.int .i64 ((rd_T42 l0_0 x8_2).f2))).setCell ⟨gb274, 3, none⟩ (.slice A273_3 ((rd_T42 l0_0 x8_2).f3).length c273_3)).setCell ⟨gb274, 4, none⟩ (.slice A273_4 ((rd_T42 l0_0 x8_2).f4).length c273_4)).setCell ⟨gb274, 5, none⟩ (.slice A273_5 ((rd_T42 l0_0 x8_2).f5).length c273_5)).heap[gb257]? = some (.cells #[.slice (some ad273) l0_0.length c0_0] 29 (0, 0))) := ⟨bk_ BK257⟩
         have n5_ : Aside0 (((((((w30.setCell ⟨gb274, 0, none⟩ (.int .i64 ((rd_T42 l0_0 x8_2).f0))).setCell ⟨gb274, 1, none⟩ (.bool ((rd_T42 l0_0 x8_2).f1))).setCell ⟨gb274, 2, none⟩ (.int .i64 ((rd_T42 l0_0 x8_2).f2))).setCell ⟨gb274, 3, none⟩ (.slice A273_3 ((rd_T42 l0_0 x8_2).f3).length c273_3)).setCell ⟨gb274, 4, none⟩ (.slice A273_4 ((rd_T42 l0_0 x8_2).f4).length c273_4)).setCell ⟨gb274, 5, none⟩ (.slice A273_5 ((rd_T42 l0_0 x8_2).f5).length c273_5)).heap[gb274]? = some (.cells #[.int .i64 ((rd_T42 l0_0 x8_2).f0), .bool ((rd_T42 l0_0 x8_2).f1), .int .i64 ((rd_T42 l0_0 x8_2).f2), .slice A273_3 ((rd_T42 l0_0 x8_2).f3).length c273_3, .slice A273_4 ((rd_T42 l0_0 x8_2).f4).length c273_4, .slice A273_5 ((rd_T42 l0_0 x8_2).f5).length c273_5] 42 (0, 0))) := ⟨bk_ BK274⟩
         have n6_ : Aside0 (Below w.heap.size w ((((((w30.setCell ⟨gb274, 0, none⟩ (.int .i64 ((rd_T42 l0_0 x8_2).f0))).setCell ⟨gb274, 1, none⟩ (.bool ((rd_T42 l0_0 x8_2).f1))).setCell ⟨gb274, 2, none⟩ (.int .i64 ((rd_T42 l0_0 x8_2).f2))).setCell ⟨gb274, 3, none⟩ (.slice A273_3 ((rd_T42 l0_0 x8_2).f3).length c273_3)).setCell ⟨gb274, 4, none⟩ (.slice A273_4 ((rd_T42 l0_0 x8_2).f4).length c273_4)).setCell ⟨gb274, 5, none⟩ (.slice A273_5 ((rd_T42 l0_0 x8_2).f5).length c273_5))) := ⟨bl_⟩
         (try clear HO_3)
         (try clear HO_4)
         (try clear HO_6)
         (try clear HO_7)
         (try clear BK257)
         (try clear BK274)
         (try clear HB)
         generalize ((((((w30.setCell ⟨gb274, 0, none⟩ (.int .i64 ((rd_T42 l0_0 x8_2).f0))).setCell ⟨gb274, 1, none⟩ (.bool ((rd_T42 l0_0 x8_2).f1))).setCell ⟨gb274, 2, none⟩ (.int .i64 ((rd_T42 l0_0 x8_2).f2))).setCell ⟨gb274, 3, none⟩ (.slice A273_3 ((rd_T42 l0_0 x8_2).f3).length c273_3)).setCell ⟨gb274, 4, none⟩ (.slice A273_4 ((rd_T42 l0_0 x8_2).f4).length c273_4)).setCell ⟨gb274, 5, none⟩ (.slice A273_5 ((rd_T42 l0_0 x8_2).f5).length c273_5)) = w34 at n0_ n1_ n2_ n3_ n4_ n5_ n6_ ⊢
         have HO_3 := n0_
         have HO_4 := n1_
         have HO_6 := n2_
         have HO_7 := n3_
         have BK257 := n4_
         have BK274 := n5_
         have HB := n6_
         clear n0_ n1_ n2_ n3_ n4_ n5_ n6_
         (try (rw [drewN_self w34]; generalize hq_ : World.drewN w34 _ = w34; have n0_ : Aside0 (Kd.R (Kd.int .i64) 3 w34 w.heap.size (fun k_ => some k_ ≠ (.slice Ao18 t261.length co18 : Value).ownBlock ∧ some k_ ≠ (.slice Ao33 t270.length co33 : Value).ownBlock) (.slice (some ad264) t258.length co14) t258) := ⟨by rw [← hq_]; exact (rr_ HO_3)⟩; have n1_ : Aside0 (Kd.R (Kd.int .i64) 3 w34 w.heap.size (fun k_ => some k_ ≠ (.slice (some ad264) t258.length co14 : Value).ownBlock ∧ some k_ ≠ (.slice Ao33 t270.length co33 : Value).ownBlock) (.slice Ao18 t261.length co18) t261) := ⟨by rw [← hq_]; exact (rr_ HO_4)⟩; have n2_ : Aside0 (Kd.R k52 52 w34 w.heap.size (fun _ => True) v266 t265) := ⟨by rw [← hq_]; exact (rr_ HO_6)⟩; have n3_ : Aside0 (Kd.R (Kd.int .i64) 3 w34 w.heap.size (fun k_ => some k_ ≠ (.slice (some ad264) t258.length co14 : Value).ownBlock ∧ some k_ ≠ (.slice Ao18 t261.length co18 : Value).ownBlock) (.slice Ao33 t270.length co33) t270) := ⟨by rw [← hq_]; exact (rr_ HO_7)⟩; have n4_ : Aside0 (w34.heap[gb257]? = some (.cells #[.slice (some ad273) l0_0.length c0_0] 29 (0, 0))) := ⟨by rw [← hq_]; exact (bk_ BK257)⟩; have n5_ : Aside0 (w34.heap[gb274]? = some (.cells #[.int .i64 ((rd_T42 l0_0 x8_2).f0), .bool ((rd_T42 l0_0 x8_2).f1), .int .i64 ((rd_T42 l0_0 x8_2).f2), .slice A273_3 ((rd_T42 l0_0 x8_2).f3).length c273_3, .slice A273_4 ((rd_T42 l0_0 x8_2).f4).length c273_4, .slice A273_5 ((rd_T42 l0_0 x8_2).f5).length c273_5] 42 (0, 0))) := ⟨by rw [← hq_]; exact (bk_ BK274)⟩; have n6_ : Aside0 (Below w.heap.size w w34) := ⟨by rw [← hq_]; exact bl_⟩; clear HO_3 HO_4 HO_6 HO_7 BK257 BK274 HB hq_; have HO_3 := n0_; have HO_4 := n1_; have HO_6 := n2_; have HO_7 := n3_; have BK257 := n4_; have BK274 := n5_; have HB := n6_; clear n0_ n1_ n2_ n3_ n4_ n5_ n6_))
         replace HO_3 := aa_ (Kd.R_drew HO_3.out)
         replace HO_4 := aa_ (Kd.R_drew HO_4.out)
         replace HO_6 := aa_ (Kd.R_drew HO_6.out)
         replace HO_7 := aa_ (Kd.R_drew HO_7.out)
         replace BK257 := aa_ (blk_drew BK257.out)
         replace BK274 := aa_ (blk_drew BK274.out)
         replace HB := aa_ (below_drew1 HB.out)
         have p276 : 0 ≤ (x5_1 : Int) := od_
         have q276 : x5_1 < (t258.length : Int) := od_
         obtain ⟨ad276, e276, hx276_0⟩ := Kd.at_int (Kd.R_reads' HO_3.out).2.2 x5_1 p276 q276
         obtain rfl : ad264 = ad276 := (by injection e276)
         replace p276 := eq_true p276
         replace q276 := eq_true q276
         refine start_ (n := 9) (S := fun w' => w'.cell? ⟨gb274, 0, none⟩ = some (.int .i64 ((rd_T42 l0_0 x8_2).f0)) ∧ w'.cell? ⟨gb274, 1, none⟩ = some (.bool ((rd_T42 l0_0 x8_2).f1)) ∧ w'.cell? ⟨gb274, 2, none⟩ = some (.int .i64 ((rd_T42 l0_0 x8_2).f2)) ∧ w'.cell? ⟨gb274, 3, none⟩ = some (.slice A273_3 ((rd_T42 l0_0 x8_2).f3).length c273_3) ∧ w'.cell? ⟨gb274, 4, none⟩ = some (.slice A273_4 ((rd_T42 l0_0 x8_2).f4).length c273_4) ∧ w'.cell? ⟨gb274, 5, none⟩ = some (.slice A273_5 ((rd_T42 l0_0 x8_2).f5).length c273_5) ∧ w'.cell? (ad264.add (x5_1).toNat) = some (.int .i64 (rd t258 x5_1))) (ds := []) (ba_ 9 0) (by kernel_rfl) rfl rfl ⟨(blk_cell BK274.out 0).trans rfl, (blk_cell BK274.out 1).trans rfl, (blk_cell BK274.out 2).trans rfl, (blk_cell BK274.out 3).trans rfl, (blk_cell BK274.out 4).trans rfl, (blk_cell BK274.out 5).trans rfl, hx276_0⟩ (fun hHeld => ?_); refine with_tabW spec_CopiesRight.tab13 spec_CopiesRight.bits13 (fun HT_ HW_ => ?_)
         generalize w34.drew = w35 at HO_3 HO_4 HO_6 HO_7 BK257 BK274 HB hx276_0 hHeld ⊢
         refine pureZ_ (i := 1) (some 51) (ba_ 9 2) (ao_ HT_) ?_
         refine pureZ_ (i := 2) (some 52) (ba_ 9 6) (ao_ HT_) ?_
         refine pureZ_ (i := 3) (some 53) (ba_ 9 14) (ao_ HT_) ?_
         refine pureZ_ (i := 6) (some 56) (ba_ 9 78) (ao_ HT_) ?_
         refine takeZ_ (i := 0) (some 50) (ba_ 9 79) (take_ofW HT_.out HW_.out (by kernel_rfl)) hHeld ?_
         refine takeZ_ (i := 4) (some 54) (ba_ 9 95) (take_ofW HT_.out HW_.out (by kernel_rfl)) hHeld ?_
         refine one_ (i := 5) (N := some 55) (ba_ 9 127) rfl rfl (one_of HT_.out (by kernel_rfl)) (by decide) (fun K hK => ?_)
         refine goes_ Try.func17 (by kernel_rfl) rfl #[.agg #[.int .i64 ((rd_T42 l0_0 x8_2).f0), .bool ((rd_T42 l0_0 x8_2).f1), .int .i64 ((rd_T42 l0_0 x8_2).f2), .slice A273_3 ((rd_T42 l0_0 x8_2).f3).length c273_3, .slice A273_4 ((rd_T42 l0_0 x8_2).f4).length c273_4, .slice A273_5 ((rd_T42 l0_0 x8_2).f5).length c273_5], .int .i64 (rd t258 x5_1)] (by rfl) rfl rfl (by (try simp only [List.map_toArray, List.map_cons, List.map_nil]); first | done | rfl | (simp only [List.length_drop, List.length_take]; rfl)) ?_
         with_reducible refine (spec_ShelfOf.calls k2 ((rd_T42 l0_0 x8_2).f0) ((rd_T42 l0_0 x8_2).f1) ((rd_T42 l0_0 x8_2).f2) _ _ ((rd_T42 l0_0 x8_2).f3) _ _ ((rd_T42 l0_0 x8_2).f4) _ _ ((rd_T42 l0_0 x8_2).f5) (rd t258 x5_1) t277 _ ?side1 ?side2 ?side3 ?side4 ?side5 ?side6 A26.out).mono ?_
         (case side1 => repeat (first | exact (Kd.C_below HR273_3.out HB.out) | (with_reducible refine Kd.C_alloc ?_ _) | (with_reducible refine Kd.C_drewN ?_ _) | (with_reducible refine Kd.C_drew ?_)))
         (case side2 => exact HC273_3.out)
         (case side3 => repeat (first | exact (Kd.C_below HR273_4.out HB.out) | (with_reducible refine Kd.C_alloc ?_ _) | (with_reducible refine Kd.C_drewN ?_ _) | (with_reducible refine Kd.C_drew ?_)))
         (case side4 => exact HC273_4.out)
         (case side5 => repeat (first | exact (Kd.C_below HR273_5.out HB.out) | (with_reducible refine Kd.C_alloc ?_ _) | (with_reducible refine Kd.C_drewN ?_ _) | (with_reducible refine Kd.C_drew ?_)))
         (case side6 => exact HC273_5.out)
         rintro e w36 ⟨v278, rfl, ho0, hb⟩
         have HS6_ := (hb.cell (World.block_lt_of_cell? _ _ (hHeld.2.2.2.2.2.2))).trans (hHeld.2.2.2.2.2.2)
         refine ⟨_, rfl, ?_⟩
         replace HO_3 := hob_ HO_3 hb
         replace HO_4 := hob_ HO_4 hb
         replace HO_7 := hob_ HO_7 hb
         have HO279 := aa_ (Kd.R_lower (Kd.R_new' ho0 (Kd.R_lt (rr_ HO_6))) bls_)
         replace HO_6 := aa_ (Kd.R_elder' (rr_ HO_6) (Kd.R_base ho0) hb)
         replace BK257 := bkb_ BK257 hb
         replace BK274 := bkb_ BK274 hb
         replace HB := hbs_ hb
         (try clear hb)
         (try clear hb2)
         (try clear hk)
         (try clear hi)
         (try clear ho0)
         obtain ⟨Ao37, co37, eo37⟩ := Kd.R_slice HO279.out
         (first | subst eo37 | (injection eo37 with f1_ f2_ f3_; have f4_ := f1_.symm; have f5_ := f3_.symm; clear f1_ f2_ f3_; subst f4_; subst f5_))
         obtain ⟨Ao38, co38, eo38⟩ := Kd.R_slice HO_6.out
         (first | subst eo38 | (injection eo38 with f1_ f2_ f3_; have f4_ := f1_.symm; have f5_ := f3_.symm; clear f1_ f2_ f3_; subst f4_; subst f5_))
         refine hK.out _ _ ⟨(blk_cell BK274.out 0).trans rfl, (blk_cell BK274.out 1).trans rfl, (blk_cell BK274.out 2).trans rfl, (blk_cell BK274.out 3).trans rfl, (blk_cell BK274.out 4).trans rfl, (blk_cell BK274.out 5).trans rfl, HS6_⟩ (fun hHeld => ?_)
         clear hK K
         refine norm_ (a' := ?_) ?_ ?_
         rotate_left
         ·show Act.put _ (some 55) _ = _
          simp only [Act.put, List.setIfInBounds_toArray, List.set_cons_zero, List.set_cons_succ, i64_w, i32_w]
          rfl
         refine one_ (i := 7) (N := some 57) (ba_ 9 255) rfl rfl (one_of HT_.out (by kernel_rfl)) (by decide) (fun K hK => ?_)
         refine goes_ Try.func16 (by kernel_rfl) rfl #[.slice Ao37 t277.length co37, .slice Ao38 t265.length co38] (by rfl) rfl rfl (by (try simp only [List.map_toArray, List.map_cons, List.map_nil]); first | done | rfl | (simp only [List.length_drop, List.length_take]; rfl)) ?_
         with_reducible refine (spec_l15Items.calls k2 _ _ t277 _ _ t265 true _ ?side1 ?side2 ?side3 ?side4 A27.out).mono ?_
         (case side1 => repeat (first | exact (Kd.R_reads' HO279.out).2.2 | (with_reducible refine Kd.C_alloc ?_ _) | (with_reducible refine Kd.C_drewN ?_ _) | (with_reducible refine Kd.C_drew ?_)))
         (case side2 => exact (Kd.R_reads' HO279.out).2.1)
         (case side3 => repeat (first | exact (Kd.R_reads' HO_6.out).2.2 | (with_reducible refine Kd.C_alloc ?_ _) | (with_reducible refine Kd.C_drewN ?_ _) | (with_reducible refine Kd.C_drew ?_)))
         (case side4 => exact (Kd.R_reads' HO_6.out).2.1)
         rintro e w' ⟨rfl, ⟨nd, rfl⟩⟩
         refine ⟨_, rfl, ?_⟩
         refine hK.out _ _ ⟨(blk_cell BK274.out 0).trans rfl, (blk_cell BK274.out 1).trans rfl, (blk_cell BK274.out 2).trans rfl, (blk_cell BK274.out 3).trans rfl, (blk_cell BK274.out 4).trans rfl, (blk_cell BK274.out 5).trans rfl, hHeld.2.2.2.2.2.2⟩ (fun hHeld => ?_)
         clear hK K
         refine norm_ (a' := ?_) ?_ ?_
         rotate_left
         ·show Act.put _ (some 57) _ = _
          simp only [Act.put, List.setIfInBounds_toArray, List.set_cons_zero, List.set_cons_succ, i64_w, i32_w]
          rfl
         refine pureZ_ (i := 8) (some 58) (ba_ 9 511) (ao_ HT_) ?_
         refine done_ (done_of HT_.out (by kernel_rfl)) ?_
         try go_wp2
         go_roundg k2
         case measure => have := HK1.out; have := HK2.out; omega
         case rel => exact ⟨(wrap64 (x8_2 + 1)), rf_, H', ⟨by have := HK1.out; have := HK2.out; omega⟩, ⟨rr_ HO_3⟩, ⟨rr_ HO_4⟩, ⟨by (with_reducible repeat (first | apply Kd.R_alloc | apply Kd.R_drewN | apply Kd.R_drew)); exact Kd.R_mono HO_6.out (fun _ hk => trivial)⟩, ⟨rr_ HO_7⟩, ⟨bk_ BK257⟩, ⟨bl_⟩⟩
        ·replace c28 := Bool.eq_false_iff.mpr c28
         subst c28
         replace H := ite_f_ H
         obtain rfl := Option.some.inj H
         have hcz39 := blk_cell BK257.out
         have hfz39 := blk_frozen BK257.out
         have p273 : 0 ≤ (x8_2 : Int) := od_
         have q273 : x8_2 < (l0_0.length : Int) := od_
         obtain ⟨ad273, A273_3, c273_3, A273_4, c273_4, A273_5, c273_5, e273, hx273_0, hx273_1, hx273_2, hx273_3, hx273_4, hx273_5, hl273_3, hi273_3, hl273_4, hi273_4, hl273_5, hi273_5⟩ := at_T42 HR0_0.out x8_2 p273 q273
         cases e273
         replace hx273_0 := cb_ HB hx273_0
         replace hx273_1 := cb_ HB hx273_1
         replace hx273_2 := cb_ HB hx273_2
         replace hx273_3 := cb_ HB hx273_3
         replace hx273_4 := cb_ HB hx273_4
         replace hx273_5 := cb_ HB hx273_5
         have HR273_3 := aa_ hi273_3
         have HC273_3 := aa_ hl273_3
         clear hi273_3 hl273_3
         have HR273_4 := aa_ hi273_4
         have HC273_4 := aa_ hl273_4
         clear hi273_4 hl273_4
         have HR273_5 := aa_ hi273_5
         have HC273_5 := aa_ hl273_5
         clear hi273_5 hl273_5
         replace p273 := eq_true p273
         replace q273 := eq_true q273
         try go_wp2_with (first | ((with_reducible refine gD_ 9 rfl ?_); refine bx_ (N := 9) (cs := #[.int .i64 0, .bool false, .int .i64 0, .slice none 0 0, .slice none 0 0, .slice none 0 0]) (t := 42) ?_; intro gb274 hg w40 hbox hb; replace HO_3 := hob_ HO_3 hb; replace HO_4 := hob_ HO_4 hb; replace HO_6 := hob_ HO_6 hb; replace HO_7 := hob_ HO_7 hb; have BK274 := aa_ (hbox); have GW274 := gs_ hg; have GE274 := gs_ hg; replace HB := hbs_ hb; have NB257_274 := nl_ hg BK257; have NB274_257 := nr_ hg BK257; replace BK257 := bkb_ BK257 hb; clear hb hbox hg; have hnb41 := NB274_257.out; have hnc41 := NB257_274.out; obtain ⟨hcz42, hfz42⟩ := bcf_ BK274; obtain ⟨Ao43, co43, eo43⟩ := Kd.R_slice HO_7.out; subst eo43) | ((with_reducible refine gC_ 15 rfl ?_); refine goesC_ (some 49) Try.func15 #[.slice Ao43 t270.length co43, .int .i64 ((rd_T42 l0_0 x8_2).f0)] ?_; (with_reducible refine (spec_l08Has.calls k2 _ _ t270 ((rd_T42 l0_0 x8_2).f0) true _ ?side1 ?side2 A22.out).mono ?_); (case side1 => refine (Kd.R_reads' (e := 3) (base := w.heap.size) (ok := fun k_ => (some k_ ≠ (.slice (some ad264) t258.length co14 : Value).ownBlock ∧ some k_ ≠ (.slice Ao18 t261.length co18 : Value).ownBlock)) (n := t270.length) (c := co43) ?_).2.2; exact (by (with_reducible repeat (first | apply Kd.R_alloc | apply Kd.R_drewN | apply Kd.R_drew)); exact (Kd.R_mono (fr6_ (Kd.R_types HO_7.out BK274.out (by decide)) (fun _ hk => hk.2)) (fun _ h_ => h_.1)))); (case side2 => exact (Kd.R_reads' HO_7.out).2.1); rintro e w' ⟨rfl, ⟨nd, rfl⟩⟩; refine ⟨_, rfl, ?_⟩))
         have n0_ : Aside0 (Kd.R (Kd.int .i64) 3 ((((((w40.setCell ⟨gb274, 0, none⟩ (.int .i64 ((rd_T42 l0_0 x8_2).f0))).setCell ⟨gb274, 1, none⟩ (.bool ((rd_T42 l0_0 x8_2).f1))).setCell ⟨gb274, 2, none⟩ (.int .i64 ((rd_T42 l0_0 x8_2).f2))).setCell ⟨gb274, 3, none⟩ (.slice A273_3 ((rd_T42 l0_0 x8_2).f3).length c273_3)).setCell ⟨gb274, 4, none⟩ (.slice A273_4 ((rd_T42 l0_0 x8_2).f4).length c273_4)).setCell ⟨gb274, 5, none⟩ (.slice A273_5 ((rd_T42 l0_0 x8_2).f5).length c273_5)) w.heap.size (fun k_ => some k_ ≠ (.slice Ao18 t261.length co18 : Value).ownBlock ∧ some k_ ≠ (.slice Ao43 t270.length co43 : Value).ownBlock) (.slice (some ad264) t258.length co14) t258) := ⟨by (with_reducible repeat (first | apply Kd.R_alloc | apply Kd.R_drewN | apply Kd.R_drew)); exact Kd.R_mono (fr6_ (Kd.R_types HO_3.out BK274.out (by decide)) (fun _ hk => hk.2)) (fun _ hk => ⟨hk.1.1, hk.1.2⟩)⟩
         have n1_ : Aside0 (Kd.R (Kd.int .i64) 3 ((((((w40.setCell ⟨gb274, 0, none⟩ (.int .i64 ((rd_T42 l0_0 x8_2).f0))).setCell ⟨gb274, 1, none⟩ (.bool ((rd_T42 l0_0 x8_2).f1))).setCell ⟨gb274, 2, none⟩ (.int .i64 ((rd_T42 l0_0 x8_2).f2))).setCell ⟨gb274, 3, none⟩ (.slice A273_3 ((rd_T42 l0_0 x8_2).f3).length c273_3)).setCell ⟨gb274, 4, none⟩ (.slice A273_4 ((rd_T42 l0_0 x8_2).f4).length c273_4)).setCell ⟨gb274, 5, none⟩ (.slice A273_5 ((rd_T42 l0_0 x8_2).f5).length c273_5)) w.heap.size (fun k_ => some k_ ≠ (.slice (some ad264) t258.length co14 : Value).ownBlock ∧ some k_ ≠ (.slice Ao43 t270.length co43 : Value).ownBlock) (.slice Ao18 t261.length co18) t261) := ⟨by (with_reducible repeat (first | apply Kd.R_alloc | apply Kd.R_drewN | apply Kd.R_drew)); exact Kd.R_mono (fr6_ (Kd.R_types HO_4.out BK274.out (by decide)) (fun _ hk => hk.2)) (fun _ hk => ⟨hk.1.1, hk.1.2⟩)⟩
         have n2_ : Aside0 (Kd.R k52 52 ((((((w40.setCell ⟨gb274, 0, none⟩ (.int .i64 ((rd_T42 l0_0 x8_2).f0))).setCell ⟨gb274, 1, none⟩ (.bool ((rd_T42 l0_0 x8_2).f1))).setCell ⟨gb274, 2, none⟩ (.int .i64 ((rd_T42 l0_0 x8_2).f2))).setCell ⟨gb274, 3, none⟩ (.slice A273_3 ((rd_T42 l0_0 x8_2).f3).length c273_3)).setCell ⟨gb274, 4, none⟩ (.slice A273_4 ((rd_T42 l0_0 x8_2).f4).length c273_4)).setCell ⟨gb274, 5, none⟩ (.slice A273_5 ((rd_T42 l0_0 x8_2).f5).length c273_5)) w.heap.size (fun _ => True) v266 t265) := ⟨by (with_reducible repeat (first | apply Kd.R_alloc | apply Kd.R_drewN | apply Kd.R_drew)); exact Kd.R_mono (fr6_ (Kd.R_types HO_6.out BK274.out (by decide)) (fun _ hk => hk.2)) (fun _ hk => trivial)⟩
         have n3_ : Aside0 (Kd.R (Kd.int .i64) 3 ((((((w40.setCell ⟨gb274, 0, none⟩ (.int .i64 ((rd_T42 l0_0 x8_2).f0))).setCell ⟨gb274, 1, none⟩ (.bool ((rd_T42 l0_0 x8_2).f1))).setCell ⟨gb274, 2, none⟩ (.int .i64 ((rd_T42 l0_0 x8_2).f2))).setCell ⟨gb274, 3, none⟩ (.slice A273_3 ((rd_T42 l0_0 x8_2).f3).length c273_3)).setCell ⟨gb274, 4, none⟩ (.slice A273_4 ((rd_T42 l0_0 x8_2).f4).length c273_4)).setCell ⟨gb274, 5, none⟩ (.slice A273_5 ((rd_T42 l0_0 x8_2).f5).length c273_5)) w.heap.size (fun k_ => some k_ ≠ (.slice (some ad264) t258.length co14 : Value).ownBlock ∧ some k_ ≠ (.slice Ao18 t261.length co18 : Value).ownBlock) (.slice Ao43 t270.length co43) t270) := ⟨by (with_reducible repeat (first | apply Kd.R_alloc | apply Kd.R_drewN | apply Kd.R_drew)); exact Kd.R_mono (fr6_ (Kd.R_types HO_7.out BK274.out (by decide)) (fun _ hk => hk.2)) (fun _ hk => ⟨hk.1.1, hk.1.2⟩)⟩
         have n4_ : Aside0 (((((((w40.setCell ⟨gb274, 0, none⟩ (.int .i64 ((rd_T42 l0_0 x8_2).f0))).setCell ⟨gb274, 1, none⟩ (.bool ((rd_T42 l0_0 x8_2).f1))).setCell ⟨gb274, 2, none⟩ (.int .i64 ((rd_T42 l0_0 x8_2).f2))).setCell ⟨gb274, 3, none⟩ (.slice A273_3 ((rd_T42 l0_0 x8_2).f3).length c273_3)).setCell ⟨gb274, 4, none⟩ (.slice A273_4 ((rd_T42 l0_0 x8_2).f4).length c273_4)).setCell ⟨gb274, 5, none⟩ (.slice A273_5 ((rd_T42 l0_0 x8_2).f5).length c273_5)).heap[gb257]? = some (.cells #[.slice (some ad273) l0_0.length c0_0] 29 (0, 0))) := ⟨bk_ BK257⟩
         have n5_ : Aside0 (((((((w40.setCell ⟨gb274, 0, none⟩ (.int .i64 ((rd_T42 l0_0 x8_2).f0))).setCell ⟨gb274, 1, none⟩ (.bool ((rd_T42 l0_0 x8_2).f1))).setCell ⟨gb274, 2, none⟩ (.int .i64 ((rd_T42 l0_0 x8_2).f2))).setCell ⟨gb274, 3, none⟩ (.slice A273_3 ((rd_T42 l0_0 x8_2).f3).length c273_3)).setCell ⟨gb274, 4, none⟩ (.slice A273_4 ((rd_T42 l0_0 x8_2).f4).length c273_4)).setCell ⟨gb274, 5, none⟩ (.slice A273_5 ((rd_T42 l0_0 x8_2).f5).length c273_5)).heap[gb274]? = some (.cells #[.int .i64 ((rd_T42 l0_0 x8_2).f0), .bool ((rd_T42 l0_0 x8_2).f1), .int .i64 ((rd_T42 l0_0 x8_2).f2), .slice A273_3 ((rd_T42 l0_0 x8_2).f3).length c273_3, .slice A273_4 ((rd_T42 l0_0 x8_2).f4).length c273_4, .slice A273_5 ((rd_T42 l0_0 x8_2).f5).length c273_5] 42 (0, 0))) := ⟨bk_ BK274⟩
         have n6_ : Aside0 (Below w.heap.size w ((((((w40.setCell ⟨gb274, 0, none⟩ (.int .i64 ((rd_T42 l0_0 x8_2).f0))).setCell ⟨gb274, 1, none⟩ (.bool ((rd_T42 l0_0 x8_2).f1))).setCell ⟨gb274, 2, none⟩ (.int .i64 ((rd_T42 l0_0 x8_2).f2))).setCell ⟨gb274, 3, none⟩ (.slice A273_3 ((rd_T42 l0_0 x8_2).f3).length c273_3)).setCell ⟨gb274, 4, none⟩ (.slice A273_4 ((rd_T42 l0_0 x8_2).f4).length c273_4)).setCell ⟨gb274, 5, none⟩ (.slice A273_5 ((rd_T42 l0_0 x8_2).f5).length c273_5))) := ⟨bl_⟩
         (try clear HO_3)
         (try clear HO_4)
         (try clear HO_6)
         (try clear HO_7)
         (try clear BK257)
         (try clear BK274)
         (try clear HB)
         generalize ((((((w40.setCell ⟨gb274, 0, none⟩ (.int .i64 ((rd_T42 l0_0 x8_2).f0))).setCell ⟨gb274, 1, none⟩ (.bool ((rd_T42 l0_0 x8_2).f1))).setCell ⟨gb274, 2, none⟩ (.int .i64 ((rd_T42 l0_0 x8_2).f2))).setCell ⟨gb274, 3, none⟩ (.slice A273_3 ((rd_T42 l0_0 x8_2).f3).length c273_3)).setCell ⟨gb274, 4, none⟩ (.slice A273_4 ((rd_T42 l0_0 x8_2).f4).length c273_4)).setCell ⟨gb274, 5, none⟩ (.slice A273_5 ((rd_T42 l0_0 x8_2).f5).length c273_5)) = w44 at n0_ n1_ n2_ n3_ n4_ n5_ n6_ ⊢
         have HO_3 := n0_
         have HO_4 := n1_
         have HO_6 := n2_
         have HO_7 := n3_
         have BK257 := n4_
         have BK274 := n5_
         have HB := n6_
         clear n0_ n1_ n2_ n3_ n4_ n5_ n6_
         (try (rw [drewN_self w44]; generalize hq_ : World.drewN w44 _ = w44; have n0_ : Aside0 (Kd.R (Kd.int .i64) 3 w44 w.heap.size (fun k_ => some k_ ≠ (.slice Ao18 t261.length co18 : Value).ownBlock ∧ some k_ ≠ (.slice Ao43 t270.length co43 : Value).ownBlock) (.slice (some ad264) t258.length co14) t258) := ⟨by rw [← hq_]; exact (rr_ HO_3)⟩; have n1_ : Aside0 (Kd.R (Kd.int .i64) 3 w44 w.heap.size (fun k_ => some k_ ≠ (.slice (some ad264) t258.length co14 : Value).ownBlock ∧ some k_ ≠ (.slice Ao43 t270.length co43 : Value).ownBlock) (.slice Ao18 t261.length co18) t261) := ⟨by rw [← hq_]; exact (rr_ HO_4)⟩; have n2_ : Aside0 (Kd.R k52 52 w44 w.heap.size (fun _ => True) v266 t265) := ⟨by rw [← hq_]; exact (rr_ HO_6)⟩; have n3_ : Aside0 (Kd.R (Kd.int .i64) 3 w44 w.heap.size (fun k_ => some k_ ≠ (.slice (some ad264) t258.length co14 : Value).ownBlock ∧ some k_ ≠ (.slice Ao18 t261.length co18 : Value).ownBlock) (.slice Ao43 t270.length co43) t270) := ⟨by rw [← hq_]; exact (rr_ HO_7)⟩; have n4_ : Aside0 (w44.heap[gb257]? = some (.cells #[.slice (some ad273) l0_0.length c0_0] 29 (0, 0))) := ⟨by rw [← hq_]; exact (bk_ BK257)⟩; have n5_ : Aside0 (w44.heap[gb274]? = some (.cells #[.int .i64 ((rd_T42 l0_0 x8_2).f0), .bool ((rd_T42 l0_0 x8_2).f1), .int .i64 ((rd_T42 l0_0 x8_2).f2), .slice A273_3 ((rd_T42 l0_0 x8_2).f3).length c273_3, .slice A273_4 ((rd_T42 l0_0 x8_2).f4).length c273_4, .slice A273_5 ((rd_T42 l0_0 x8_2).f5).length c273_5] 42 (0, 0))) := ⟨by rw [← hq_]; exact (bk_ BK274)⟩; have n6_ : Aside0 (Below w.heap.size w w44) := ⟨by rw [← hq_]; exact bl_⟩; clear HO_3 HO_4 HO_6 HO_7 BK257 BK274 HB hq_; have HO_3 := n0_; have HO_4 := n1_; have HO_6 := n2_; have HO_7 := n3_; have BK257 := n4_; have BK274 := n5_; have HB := n6_; clear n0_ n1_ n2_ n3_ n4_ n5_ n6_))
         replace HO_3 := aa_ (Kd.R_drew HO_3.out)
         replace HO_4 := aa_ (Kd.R_drew HO_4.out)
         replace HO_6 := aa_ (Kd.R_drew HO_6.out)
         replace HO_7 := aa_ (Kd.R_drew HO_7.out)
         replace BK257 := aa_ (blk_drew BK257.out)
         replace BK274 := aa_ (blk_drew BK274.out)
         replace HB := aa_ (below_drew1 HB.out)
         have p276 : 0 ≤ (x5_1 : Int) := od_
         have q276 : x5_1 < (t258.length : Int) := od_
         obtain ⟨ad276, e276, hx276_0⟩ := Kd.at_int (Kd.R_reads' HO_3.out).2.2 x5_1 p276 q276
         obtain rfl : ad264 = ad276 := (by injection e276)
         replace p276 := eq_true p276
         replace q276 := eq_true q276
         refine start_ (n := 9) (S := fun w' => w'.cell? ⟨gb274, 0, none⟩ = some (.int .i64 ((rd_T42 l0_0 x8_2).f0)) ∧ w'.cell? ⟨gb274, 1, none⟩ = some (.bool ((rd_T42 l0_0 x8_2).f1)) ∧ w'.cell? ⟨gb274, 2, none⟩ = some (.int .i64 ((rd_T42 l0_0 x8_2).f2)) ∧ w'.cell? ⟨gb274, 3, none⟩ = some (.slice A273_3 ((rd_T42 l0_0 x8_2).f3).length c273_3) ∧ w'.cell? ⟨gb274, 4, none⟩ = some (.slice A273_4 ((rd_T42 l0_0 x8_2).f4).length c273_4) ∧ w'.cell? ⟨gb274, 5, none⟩ = some (.slice A273_5 ((rd_T42 l0_0 x8_2).f5).length c273_5) ∧ w'.cell? (ad264.add (x5_1).toNat) = some (.int .i64 (rd t258 x5_1))) (ds := []) (ba_ 9 0) (by kernel_rfl) rfl rfl ⟨(blk_cell BK274.out 0).trans rfl, (blk_cell BK274.out 1).trans rfl, (blk_cell BK274.out 2).trans rfl, (blk_cell BK274.out 3).trans rfl, (blk_cell BK274.out 4).trans rfl, (blk_cell BK274.out 5).trans rfl, hx276_0⟩ (fun hHeld => ?_); refine with_tabW spec_CopiesRight.tab13 spec_CopiesRight.bits13 (fun HT_ HW_ => ?_)
         generalize w44.drew = w45 at HO_3 HO_4 HO_6 HO_7 BK257 BK274 HB hx276_0 hHeld ⊢
         refine pureZ_ (i := 1) (some 51) (ba_ 9 2) (ao_ HT_) ?_
         refine pureZ_ (i := 2) (some 52) (ba_ 9 6) (ao_ HT_) ?_
         refine pureZ_ (i := 3) (some 53) (ba_ 9 14) (ao_ HT_) ?_
         refine pureZ_ (i := 6) (some 56) (ba_ 9 78) (ao_ HT_) ?_
         refine takeZ_ (i := 0) (some 50) (ba_ 9 79) (take_ofW HT_.out HW_.out (by kernel_rfl)) hHeld ?_
         refine takeZ_ (i := 4) (some 54) (ba_ 9 95) (take_ofW HT_.out HW_.out (by kernel_rfl)) hHeld ?_
         refine one_ (i := 5) (N := some 55) (ba_ 9 127) rfl rfl (one_of HT_.out (by kernel_rfl)) (by decide) (fun K hK => ?_)
         refine goes_ Try.func17 (by kernel_rfl) rfl #[.agg #[.int .i64 ((rd_T42 l0_0 x8_2).f0), .bool ((rd_T42 l0_0 x8_2).f1), .int .i64 ((rd_T42 l0_0 x8_2).f2), .slice A273_3 ((rd_T42 l0_0 x8_2).f3).length c273_3, .slice A273_4 ((rd_T42 l0_0 x8_2).f4).length c273_4, .slice A273_5 ((rd_T42 l0_0 x8_2).f5).length c273_5], .int .i64 (rd t258 x5_1)] (by rfl) rfl rfl (by (try simp only [List.map_toArray, List.map_cons, List.map_nil]); first | done | rfl | (simp only [List.length_drop, List.length_take]; rfl)) ?_
         with_reducible refine (spec_ShelfOf.calls k2 ((rd_T42 l0_0 x8_2).f0) ((rd_T42 l0_0 x8_2).f1) ((rd_T42 l0_0 x8_2).f2) _ _ ((rd_T42 l0_0 x8_2).f3) _ _ ((rd_T42 l0_0 x8_2).f4) _ _ ((rd_T42 l0_0 x8_2).f5) (rd t258 x5_1) t277 _ ?side1 ?side2 ?side3 ?side4 ?side5 ?side6 A26.out).mono ?_
         (case side1 => repeat (first | exact (Kd.C_below HR273_3.out HB.out) | (with_reducible refine Kd.C_alloc ?_ _) | (with_reducible refine Kd.C_drewN ?_ _) | (with_reducible refine Kd.C_drew ?_)))
         (case side2 => exact HC273_3.out)
         (case side3 => repeat (first | exact (Kd.C_below HR273_4.out HB.out) | (with_reducible refine Kd.C_alloc ?_ _) | (with_reducible refine Kd.C_drewN ?_ _) | (with_reducible refine Kd.C_drew ?_)))
         (case side4 => exact HC273_4.out)
         (case side5 => repeat (first | exact (Kd.C_below HR273_5.out HB.out) | (with_reducible refine Kd.C_alloc ?_ _) | (with_reducible refine Kd.C_drewN ?_ _) | (with_reducible refine Kd.C_drew ?_)))
         (case side6 => exact HC273_5.out)
         rintro e w46 ⟨v278, rfl, ho0, hb⟩
         have HS6_ := (hb.cell (World.block_lt_of_cell? _ _ (hHeld.2.2.2.2.2.2))).trans (hHeld.2.2.2.2.2.2)
         refine ⟨_, rfl, ?_⟩
         replace HO_3 := hob_ HO_3 hb
         replace HO_4 := hob_ HO_4 hb
         replace HO_7 := hob_ HO_7 hb
         have HO279 := aa_ (Kd.R_lower (Kd.R_new' ho0 (Kd.R_lt (rr_ HO_6))) bls_)
         replace HO_6 := aa_ (Kd.R_elder' (rr_ HO_6) (Kd.R_base ho0) hb)
         replace BK257 := bkb_ BK257 hb
         replace BK274 := bkb_ BK274 hb
         replace HB := hbs_ hb
         (try clear hb)
         (try clear hb2)
         (try clear hk)
         (try clear hi)
         (try clear ho0)
         obtain ⟨Ao47, co47, eo47⟩ := Kd.R_slice HO279.out
         (first | subst eo47 | (injection eo47 with f1_ f2_ f3_; have f4_ := f1_.symm; have f5_ := f3_.symm; clear f1_ f2_ f3_; subst f4_; subst f5_))
         obtain ⟨Ao48, co48, eo48⟩ := Kd.R_slice HO_6.out
         (first | subst eo48 | (injection eo48 with f1_ f2_ f3_; have f4_ := f1_.symm; have f5_ := f3_.symm; clear f1_ f2_ f3_; subst f4_; subst f5_))
         refine hK.out _ _ ⟨(blk_cell BK274.out 0).trans rfl, (blk_cell BK274.out 1).trans rfl, (blk_cell BK274.out 2).trans rfl, (blk_cell BK274.out 3).trans rfl, (blk_cell BK274.out 4).trans rfl, (blk_cell BK274.out 5).trans rfl, HS6_⟩ (fun hHeld => ?_)
         clear hK K
         refine norm_ (a' := ?_) ?_ ?_
         rotate_left
         ·show Act.put _ (some 55) _ = _
          simp only [Act.put, List.setIfInBounds_toArray, List.set_cons_zero, List.set_cons_succ, i64_w, i32_w]
          rfl
         refine one_ (i := 7) (N := some 57) (ba_ 9 255) rfl rfl (one_of HT_.out (by kernel_rfl)) (by decide) (fun K hK => ?_)
         refine goes_ Try.func16 (by kernel_rfl) rfl #[.slice Ao47 t277.length co47, .slice Ao48 t265.length co48] (by rfl) rfl rfl (by (try simp only [List.map_toArray, List.map_cons, List.map_nil]); first | done | rfl | (simp only [List.length_drop, List.length_take]; rfl)) ?_
         with_reducible refine (spec_l15Items.calls k2 _ _ t277 _ _ t265 false _ ?side1 ?side2 ?side3 ?side4 A27.out).mono ?_
         (case side1 => repeat (first | exact (Kd.R_reads' HO279.out).2.2 | (with_reducible refine Kd.C_alloc ?_ _) | (with_reducible refine Kd.C_drewN ?_ _) | (with_reducible refine Kd.C_drew ?_)))
         (case side2 => exact (Kd.R_reads' HO279.out).2.1)
         (case side3 => repeat (first | exact (Kd.R_reads' HO_6.out).2.2 | (with_reducible refine Kd.C_alloc ?_ _) | (with_reducible refine Kd.C_drewN ?_ _) | (with_reducible refine Kd.C_drew ?_)))
         (case side4 => exact (Kd.R_reads' HO_6.out).2.1)
         rintro e w' ⟨rfl, ⟨nd, rfl⟩⟩
         refine ⟨_, rfl, ?_⟩
         refine hK.out _ _ ⟨(blk_cell BK274.out 0).trans rfl, (blk_cell BK274.out 1).trans rfl, (blk_cell BK274.out 2).trans rfl, (blk_cell BK274.out 3).trans rfl, (blk_cell BK274.out 4).trans rfl, (blk_cell BK274.out 5).trans rfl, hHeld.2.2.2.2.2.2⟩ (fun hHeld => ?_)
         clear hK K
         refine norm_ (a' := ?_) ?_ ?_
         rotate_left
         ·show Act.put _ (some 57) _ = _
          simp only [Act.put, List.setIfInBounds_toArray, List.set_cons_zero, List.set_cons_succ, i64_w, i32_w]
          rfl
         refine pureZ_ (i := 8) (some 58) (ba_ 9 511) (ao_ HT_) ?_
         refine done_ (done_of HT_.out (by kernel_rfl)) ?_
         try go_wp2
         go_ret
         exact ⟨eq_, bl_⟩
       ·replace c23 := Bool.eq_false_iff.mpr c23
        subst c23
        replace H := ite_f_ H
        obtain ⟨c49b0, H⟩ := ifd_ H
        obtain ⟨c50b0, H⟩ := ifd_ H
        obtain ⟨t282, A51, H⟩ := bindE_ H
        by_cases c52 : t282 = true
        ·subst c52
         replace H := ite_t_ H
         obtain rfl := Option.some.inj H
         have hcz53 := blk_cell BK257.out
         have hfz53 := blk_frozen BK257.out
         have p273 : 0 ≤ (x8_2 : Int) := od_
         have q273 : x8_2 < (l0_0.length : Int) := od_
         obtain ⟨ad273, A273_3, c273_3, A273_4, c273_4, A273_5, c273_5, e273, hx273_0, hx273_1, hx273_2, hx273_3, hx273_4, hx273_5, hl273_3, hi273_3, hl273_4, hi273_4, hl273_5, hi273_5⟩ := at_T42 HR0_0.out x8_2 p273 q273
         cases e273
         replace hx273_0 := cb_ HB hx273_0
         replace hx273_1 := cb_ HB hx273_1
         replace hx273_2 := cb_ HB hx273_2
         replace hx273_3 := cb_ HB hx273_3
         replace hx273_4 := cb_ HB hx273_4
         replace hx273_5 := cb_ HB hx273_5
         have HR273_3 := aa_ hi273_3
         have HC273_3 := aa_ hl273_3
         clear hi273_3 hl273_3
         have HR273_4 := aa_ hi273_4
         have HC273_4 := aa_ hl273_4
         clear hi273_4 hl273_4
         have HR273_5 := aa_ hi273_5
         have HC273_5 := aa_ hl273_5
         clear hi273_5 hl273_5
         replace p273 := eq_true p273
         replace q273 := eq_true q273
         try go_wp2_with (first | ((with_reducible refine gD_ 9 rfl ?_); refine bx_ (N := 9) (cs := #[.int .i64 0, .bool false, .int .i64 0, .slice none 0 0, .slice none 0 0, .slice none 0 0]) (t := 42) ?_; intro gb274 hg w54 hbox hb; replace HO_3 := hob_ HO_3 hb; replace HO_4 := hob_ HO_4 hb; replace HO_6 := hob_ HO_6 hb; replace HO_7 := hob_ HO_7 hb; have BK274 := aa_ (hbox); have GW274 := gs_ hg; have GE274 := gs_ hg; replace HB := hbs_ hb; have NB257_274 := nl_ hg BK257; have NB274_257 := nr_ hg BK257; replace BK257 := bkb_ BK257 hb; clear hb hbox hg; have hnb55 := NB274_257.out; have hnc55 := NB257_274.out; obtain ⟨hcz56, hfz56⟩ := bcf_ BK274; obtain ⟨Ao57, co57, eo57⟩ := Kd.R_slice HO_7.out; subst eo57) | ((with_reducible refine gC_ 15 rfl ?_); refine goesC_ (some 49) Try.func15 #[.slice Ao57 t270.length co57, .int .i64 ((rd_T42 l0_0 x8_2).f0)] ?_; (with_reducible refine (spec_l08Has.calls k2 _ _ t270 ((rd_T42 l0_0 x8_2).f0) false _ ?side1 ?side2 A22.out).mono ?_); (case side1 => refine (Kd.R_reads' (e := 3) (base := w.heap.size) (ok := fun k_ => (some k_ ≠ (.slice (some ad264) t258.length co14 : Value).ownBlock ∧ some k_ ≠ (.slice Ao18 t261.length co18 : Value).ownBlock)) (n := t270.length) (c := co57) ?_).2.2; exact (by (with_reducible repeat (first | apply Kd.R_alloc | apply Kd.R_drewN | apply Kd.R_drew)); exact (Kd.R_mono (fr6_ (Kd.R_types HO_7.out BK274.out (by decide)) (fun _ hk => hk.2)) (fun _ h_ => h_.1)))); (case side2 => exact (Kd.R_reads' HO_7.out).2.1); rintro e w' ⟨rfl, ⟨nd, rfl⟩⟩; refine ⟨_, rfl, ?_⟩))
         have n0_ : Aside0 (Kd.R (Kd.int .i64) 3 ((((((w54.setCell ⟨gb274, 0, none⟩ (.int .i64 ((rd_T42 l0_0 x8_2).f0))).setCell ⟨gb274, 1, none⟩ (.bool ((rd_T42 l0_0 x8_2).f1))).setCell ⟨gb274, 2, none⟩ (.int .i64 ((rd_T42 l0_0 x8_2).f2))).setCell ⟨gb274, 3, none⟩ (.slice A273_3 ((rd_T42 l0_0 x8_2).f3).length c273_3)).setCell ⟨gb274, 4, none⟩ (.slice A273_4 ((rd_T42 l0_0 x8_2).f4).length c273_4)).setCell ⟨gb274, 5, none⟩ (.slice A273_5 ((rd_T42 l0_0 x8_2).f5).length c273_5)) w.heap.size (fun k_ => some k_ ≠ (.slice Ao18 t261.length co18 : Value).ownBlock ∧ some k_ ≠ (.slice Ao57 t270.length co57 : Value).ownBlock) (.slice (some ad264) t258.length co14) t258) := ⟨by (with_reducible repeat (first | apply Kd.R_alloc | apply Kd.R_drewN | apply Kd.R_drew)); exact Kd.R_mono (fr6_ (Kd.R_types HO_3.out BK274.out (by decide)) (fun _ hk => hk.2)) (fun _ hk => ⟨hk.1.1, hk.1.2⟩)⟩
         have n1_ : Aside0 (Kd.R (Kd.int .i64) 3 ((((((w54.setCell ⟨gb274, 0, none⟩ (.int .i64 ((rd_T42 l0_0 x8_2).f0))).setCell ⟨gb274, 1, none⟩ (.bool ((rd_T42 l0_0 x8_2).f1))).setCell ⟨gb274, 2, none⟩ (.int .i64 ((rd_T42 l0_0 x8_2).f2))).setCell ⟨gb274, 3, none⟩ (.slice A273_3 ((rd_T42 l0_0 x8_2).f3).length c273_3)).setCell ⟨gb274, 4, none⟩ (.slice A273_4 ((rd_T42 l0_0 x8_2).f4).length c273_4)).setCell ⟨gb274, 5, none⟩ (.slice A273_5 ((rd_T42 l0_0 x8_2).f5).length c273_5)) w.heap.size (fun k_ => some k_ ≠ (.slice (some ad264) t258.length co14 : Value).ownBlock ∧ some k_ ≠ (.slice Ao57 t270.length co57 : Value).ownBlock) (.slice Ao18 t261.length co18) t261) := ⟨by (with_reducible repeat (first | apply Kd.R_alloc | apply Kd.R_drewN | apply Kd.R_drew)); exact Kd.R_mono (fr6_ (Kd.R_types HO_4.out BK274.out (by decide)) (fun _ hk => hk.2)) (fun _ hk => ⟨hk.1.1, hk.1.2⟩)⟩
         have n2_ : Aside0 (Kd.R k52 52 ((((((w54.setCell ⟨gb274, 0, none⟩ (.int .i64 ((rd_T42 l0_0 x8_2).f0))).setCell ⟨gb274, 1, none⟩ (.bool ((rd_T42 l0_0 x8_2).f1))).setCell ⟨gb274, 2, none⟩ (.int .i64 ((rd_T42 l0_0 x8_2).f2))).setCell ⟨gb274, 3, none⟩ (.slice A273_3 ((rd_T42 l0_0 x8_2).f3).length c273_3)).setCell ⟨gb274, 4, none⟩ (.slice A273_4 ((rd_T42 l0_0 x8_2).f4).length c273_4)).setCell ⟨gb274, 5, none⟩ (.slice A273_5 ((rd_T42 l0_0 x8_2).f5).length c273_5)) w.heap.size (fun _ => True) v266 t265) := ⟨by (with_reducible repeat (first | apply Kd.R_alloc | apply Kd.R_drewN | apply Kd.R_drew)); exact Kd.R_mono (fr6_ (Kd.R_types HO_6.out BK274.out (by decide)) (fun _ hk => hk.2)) (fun _ hk => trivial)⟩
         have n3_ : Aside0 (Kd.R (Kd.int .i64) 3 ((((((w54.setCell ⟨gb274, 0, none⟩ (.int .i64 ((rd_T42 l0_0 x8_2).f0))).setCell ⟨gb274, 1, none⟩ (.bool ((rd_T42 l0_0 x8_2).f1))).setCell ⟨gb274, 2, none⟩ (.int .i64 ((rd_T42 l0_0 x8_2).f2))).setCell ⟨gb274, 3, none⟩ (.slice A273_3 ((rd_T42 l0_0 x8_2).f3).length c273_3)).setCell ⟨gb274, 4, none⟩ (.slice A273_4 ((rd_T42 l0_0 x8_2).f4).length c273_4)).setCell ⟨gb274, 5, none⟩ (.slice A273_5 ((rd_T42 l0_0 x8_2).f5).length c273_5)) w.heap.size (fun k_ => some k_ ≠ (.slice (some ad264) t258.length co14 : Value).ownBlock ∧ some k_ ≠ (.slice Ao18 t261.length co18 : Value).ownBlock) (.slice Ao57 t270.length co57) t270) := ⟨by (with_reducible repeat (first | apply Kd.R_alloc | apply Kd.R_drewN | apply Kd.R_drew)); exact Kd.R_mono (fr6_ (Kd.R_types HO_7.out BK274.out (by decide)) (fun _ hk => hk.2)) (fun _ hk => ⟨hk.1.1, hk.1.2⟩)⟩
         have n4_ : Aside0 (((((((w54.setCell ⟨gb274, 0, none⟩ (.int .i64 ((rd_T42 l0_0 x8_2).f0))).setCell ⟨gb274, 1, none⟩ (.bool ((rd_T42 l0_0 x8_2).f1))).setCell ⟨gb274, 2, none⟩ (.int .i64 ((rd_T42 l0_0 x8_2).f2))).setCell ⟨gb274, 3, none⟩ (.slice A273_3 ((rd_T42 l0_0 x8_2).f3).length c273_3)).setCell ⟨gb274, 4, none⟩ (.slice A273_4 ((rd_T42 l0_0 x8_2).f4).length c273_4)).setCell ⟨gb274, 5, none⟩ (.slice A273_5 ((rd_T42 l0_0 x8_2).f5).length c273_5)).heap[gb257]? = some (.cells #[.slice (some ad273) l0_0.length c0_0] 29 (0, 0))) := ⟨bk_ BK257⟩
         have n5_ : Aside0 (((((((w54.setCell ⟨gb274, 0, none⟩ (.int .i64 ((rd_T42 l0_0 x8_2).f0))).setCell ⟨gb274, 1, none⟩ (.bool ((rd_T42 l0_0 x8_2).f1))).setCell ⟨gb274, 2, none⟩ (.int .i64 ((rd_T42 l0_0 x8_2).f2))).setCell ⟨gb274, 3, none⟩ (.slice A273_3 ((rd_T42 l0_0 x8_2).f3).length c273_3)).setCell ⟨gb274, 4, none⟩ (.slice A273_4 ((rd_T42 l0_0 x8_2).f4).length c273_4)).setCell ⟨gb274, 5, none⟩ (.slice A273_5 ((rd_T42 l0_0 x8_2).f5).length c273_5)).heap[gb274]? = some (.cells #[.int .i64 ((rd_T42 l0_0 x8_2).f0), .bool ((rd_T42 l0_0 x8_2).f1), .int .i64 ((rd_T42 l0_0 x8_2).f2), .slice A273_3 ((rd_T42 l0_0 x8_2).f3).length c273_3, .slice A273_4 ((rd_T42 l0_0 x8_2).f4).length c273_4, .slice A273_5 ((rd_T42 l0_0 x8_2).f5).length c273_5] 42 (0, 0))) := ⟨bk_ BK274⟩
         have n6_ : Aside0 (Below w.heap.size w ((((((w54.setCell ⟨gb274, 0, none⟩ (.int .i64 ((rd_T42 l0_0 x8_2).f0))).setCell ⟨gb274, 1, none⟩ (.bool ((rd_T42 l0_0 x8_2).f1))).setCell ⟨gb274, 2, none⟩ (.int .i64 ((rd_T42 l0_0 x8_2).f2))).setCell ⟨gb274, 3, none⟩ (.slice A273_3 ((rd_T42 l0_0 x8_2).f3).length c273_3)).setCell ⟨gb274, 4, none⟩ (.slice A273_4 ((rd_T42 l0_0 x8_2).f4).length c273_4)).setCell ⟨gb274, 5, none⟩ (.slice A273_5 ((rd_T42 l0_0 x8_2).f5).length c273_5))) := ⟨bl_⟩
         (try clear HO_3)
         (try clear HO_4)
         (try clear HO_6)
         (try clear HO_7)
         (try clear BK257)
         (try clear BK274)
         (try clear HB)
         generalize ((((((w54.setCell ⟨gb274, 0, none⟩ (.int .i64 ((rd_T42 l0_0 x8_2).f0))).setCell ⟨gb274, 1, none⟩ (.bool ((rd_T42 l0_0 x8_2).f1))).setCell ⟨gb274, 2, none⟩ (.int .i64 ((rd_T42 l0_0 x8_2).f2))).setCell ⟨gb274, 3, none⟩ (.slice A273_3 ((rd_T42 l0_0 x8_2).f3).length c273_3)).setCell ⟨gb274, 4, none⟩ (.slice A273_4 ((rd_T42 l0_0 x8_2).f4).length c273_4)).setCell ⟨gb274, 5, none⟩ (.slice A273_5 ((rd_T42 l0_0 x8_2).f5).length c273_5)) = w58 at n0_ n1_ n2_ n3_ n4_ n5_ n6_ ⊢
         have HO_3 := n0_
         have HO_4 := n1_
         have HO_6 := n2_
         have HO_7 := n3_
         have BK257 := n4_
         have BK274 := n5_
         have HB := n6_
         clear n0_ n1_ n2_ n3_ n4_ n5_ n6_
         (try (rw [drewN_self w58]; generalize hq_ : World.drewN w58 _ = w58; have n0_ : Aside0 (Kd.R (Kd.int .i64) 3 w58 w.heap.size (fun k_ => some k_ ≠ (.slice Ao18 t261.length co18 : Value).ownBlock ∧ some k_ ≠ (.slice Ao57 t270.length co57 : Value).ownBlock) (.slice (some ad264) t258.length co14) t258) := ⟨by rw [← hq_]; exact (rr_ HO_3)⟩; have n1_ : Aside0 (Kd.R (Kd.int .i64) 3 w58 w.heap.size (fun k_ => some k_ ≠ (.slice (some ad264) t258.length co14 : Value).ownBlock ∧ some k_ ≠ (.slice Ao57 t270.length co57 : Value).ownBlock) (.slice Ao18 t261.length co18) t261) := ⟨by rw [← hq_]; exact (rr_ HO_4)⟩; have n2_ : Aside0 (Kd.R k52 52 w58 w.heap.size (fun _ => True) v266 t265) := ⟨by rw [← hq_]; exact (rr_ HO_6)⟩; have n3_ : Aside0 (Kd.R (Kd.int .i64) 3 w58 w.heap.size (fun k_ => some k_ ≠ (.slice (some ad264) t258.length co14 : Value).ownBlock ∧ some k_ ≠ (.slice Ao18 t261.length co18 : Value).ownBlock) (.slice Ao57 t270.length co57) t270) := ⟨by rw [← hq_]; exact (rr_ HO_7)⟩; have n4_ : Aside0 (w58.heap[gb257]? = some (.cells #[.slice (some ad273) l0_0.length c0_0] 29 (0, 0))) := ⟨by rw [← hq_]; exact (bk_ BK257)⟩; have n5_ : Aside0 (w58.heap[gb274]? = some (.cells #[.int .i64 ((rd_T42 l0_0 x8_2).f0), .bool ((rd_T42 l0_0 x8_2).f1), .int .i64 ((rd_T42 l0_0 x8_2).f2), .slice A273_3 ((rd_T42 l0_0 x8_2).f3).length c273_3, .slice A273_4 ((rd_T42 l0_0 x8_2).f4).length c273_4, .slice A273_5 ((rd_T42 l0_0 x8_2).f5).length c273_5] 42 (0, 0))) := ⟨by rw [← hq_]; exact (bk_ BK274)⟩; have n6_ : Aside0 (Below w.heap.size w w58) := ⟨by rw [← hq_]; exact bl_⟩; clear HO_3 HO_4 HO_6 HO_7 BK257 BK274 HB hq_; have HO_3 := n0_; have HO_4 := n1_; have HO_6 := n2_; have HO_7 := n3_; have BK257 := n4_; have BK274 := n5_; have HB := n6_; clear n0_ n1_ n2_ n3_ n4_ n5_ n6_))
         replace HO_3 := aa_ (Kd.R_drew HO_3.out)
         replace HO_4 := aa_ (Kd.R_drew HO_4.out)
         replace HO_6 := aa_ (Kd.R_drew HO_6.out)
         replace HO_7 := aa_ (Kd.R_drew HO_7.out)
         replace BK257 := aa_ (blk_drew BK257.out)
         replace BK274 := aa_ (blk_drew BK274.out)
         replace HB := aa_ (below_drew1 HB.out)
         have p281 : 0 ≤ (x5_1 : Int) := od_
         have q281 : x5_1 < (t258.length : Int) := od_
         obtain ⟨ad281, e281, hx281_0⟩ := Kd.at_int (Kd.R_reads' HO_3.out).2.2 x5_1 p281 q281
         obtain rfl : ad264 = ad281 := (by injection e281)
         replace p281 := eq_true p281
         replace q281 := eq_true q281
         refine start_ (n := 6) (S := fun w' => w'.cell? ⟨gb274, 0, none⟩ = some (.int .i64 ((rd_T42 l0_0 x8_2).f0)) ∧ w'.cell? ⟨gb274, 1, none⟩ = some (.bool ((rd_T42 l0_0 x8_2).f1)) ∧ w'.cell? ⟨gb274, 2, none⟩ = some (.int .i64 ((rd_T42 l0_0 x8_2).f2)) ∧ w'.cell? ⟨gb274, 3, none⟩ = some (.slice A273_3 ((rd_T42 l0_0 x8_2).f3).length c273_3) ∧ w'.cell? ⟨gb274, 4, none⟩ = some (.slice A273_4 ((rd_T42 l0_0 x8_2).f4).length c273_4) ∧ w'.cell? ⟨gb274, 5, none⟩ = some (.slice A273_5 ((rd_T42 l0_0 x8_2).f5).length c273_5) ∧ w'.cell? (ad264.add (x5_1).toNat) = some (.int .i64 (rd t258 x5_1))) (ds := []) (ba_ 6 0) (by kernel_rfl) rfl rfl ⟨(blk_cell BK274.out 0).trans rfl, (blk_cell BK274.out 1).trans rfl, (blk_cell BK274.out 2).trans rfl, (blk_cell BK274.out 3).trans rfl, (blk_cell BK274.out 4).trans rfl, (blk_cell BK274.out 5).trans rfl, hx281_0⟩ (fun hHeld => ?_)
         generalize w58.drew = w59 at HO_3 HO_4 HO_6 HO_7 BK257 BK274 HB hx281_0 hHeld ⊢
         refine pure_ (i := 1) (N := some 60) (v := ?_) (a' := ?_) (ba_ 6 2) rfl rfl (by kernel_rfl) (fun _ _ _ h => h) (Or.inl ⟨by rfl, ?_⟩) ?_ ?_
         rotate_left
         ·intro w'
          go_simp
          with_reducible rfl
         rotate_left
         ·simp only [Act.put, List.setIfInBounds_toArray, List.set_cons_zero, List.set_cons_succ, i64_w, i32_w]
          rfl
         refine pure_ (i := 2) (N := some 61) (v := ?_) (a' := ?_) (ba_ 6 6) rfl rfl (by kernel_rfl) (fun _ _ _ h => h) (Or.inl ⟨by rfl, ?_⟩) ?_ ?_
         rotate_left
         ·intro w'
          go_simp
          with_reducible rfl
         rotate_left
         ·simp only [Act.put, List.setIfInBounds_toArray, List.set_cons_zero, List.set_cons_succ, i64_w, i32_w]
          rfl
         refine pure_ (i := 3) (N := some 62) (v := ?_) (a' := ?_) (ba_ 6 14) rfl rfl (by kernel_rfl) (fun _ _ _ h => h) (Or.inl ⟨by rfl, ?_⟩) ?_ ?_
         rotate_left
         ·intro w'
          go_simp
          with_reducible rfl
         rotate_left
         ·simp only [Act.put, List.setIfInBounds_toArray, List.set_cons_zero, List.set_cons_succ, i64_w, i32_w]
          rfl
         refine take_ (i := 0) (N := some 59) (v := ?_) (a' := ?_) (ba_ 6 15) rfl rfl (by kernel_rfl) (fun _ _ _ h => h) (Or.inl ⟨by rfl, ?_⟩) hHeld ?_ ?_
         rotate_left
         ·rintro w' ⟨s0, s1, s2, s3, s4, s5, s6⟩
          go_simp
          with_reducible rfl
         rotate_left
         ·simp only [Act.put, List.setIfInBounds_toArray, List.set_cons_zero, List.set_cons_succ, i64_w, i32_w]
          rfl
         refine take_ (i := 4) (N := some 63) (v := ?_) (a' := ?_) (ba_ 6 31) rfl rfl (by kernel_rfl) (fun _ _ _ h => h) (Or.inl ⟨by rfl, ?_⟩) hHeld ?_ ?_
         rotate_left
         ·rintro w' ⟨s0, s1, s2, s3, s4, s5, s6⟩
          go_simp
          with_reducible rfl
         rotate_left
         ·simp only [Act.put, List.setIfInBounds_toArray, List.set_cons_zero, List.set_cons_succ, i64_w, i32_w]
          rfl
         refine one_ (i := 5) (N := some 64) (ba_ 6 63) rfl rfl (by kernel_rfl) (by decide) (fun K hK => ?_)
         refine goes_ Try.func18 (by kernel_rfl) rfl #[.agg #[.int .i64 ((rd_T42 l0_0 x8_2).f0), .bool ((rd_T42 l0_0 x8_2).f1), .int .i64 ((rd_T42 l0_0 x8_2).f2), .slice A273_3 ((rd_T42 l0_0 x8_2).f3).length c273_3, .slice A273_4 ((rd_T42 l0_0 x8_2).f4).length c273_4, .slice A273_5 ((rd_T42 l0_0 x8_2).f5).length c273_5], .int .i64 (rd t258 x5_1)] (by rfl) rfl rfl (by (try simp only [List.map_toArray, List.map_cons, List.map_nil]); first | done | rfl | (simp only [List.length_drop, List.length_take]; rfl)) ?_
         with_reducible refine (spec_l15Has.calls k2 ((rd_T42 l0_0 x8_2).f0) ((rd_T42 l0_0 x8_2).f1) ((rd_T42 l0_0 x8_2).f2) _ _ ((rd_T42 l0_0 x8_2).f3) _ _ ((rd_T42 l0_0 x8_2).f4) _ _ ((rd_T42 l0_0 x8_2).f5) (rd t258 x5_1) true _ ?side1 ?side2 ?side3 ?side4 ?side5 ?side6 A51.out).mono ?_
         (case side1 => repeat (first | exact (Kd.C_below HR273_3.out HB.out) | (with_reducible refine Kd.C_alloc ?_ _) | (with_reducible refine Kd.C_drewN ?_ _) | (with_reducible refine Kd.C_drew ?_)))
         (case side2 => exact HC273_3.out)
         (case side3 => repeat (first | exact (Kd.C_below HR273_4.out HB.out) | (with_reducible refine Kd.C_alloc ?_ _) | (with_reducible refine Kd.C_drewN ?_ _) | (with_reducible refine Kd.C_drew ?_)))
         (case side4 => exact HC273_4.out)
         (case side5 => repeat (first | exact (Kd.C_below HR273_5.out HB.out) | (with_reducible refine Kd.C_alloc ?_ _) | (with_reducible refine Kd.C_drewN ?_ _) | (with_reducible refine Kd.C_drew ?_)))
         (case side6 => exact HC273_5.out)
         rintro e w60 ⟨rfl, hb⟩
         have HS6_ := (hb.cell (World.block_lt_of_cell? _ _ (hHeld.2.2.2.2.2.2))).trans (hHeld.2.2.2.2.2.2)
         refine ⟨_, rfl, ?_⟩
         replace HO_3 := hob_ HO_3 hb
         replace HO_4 := hob_ HO_4 hb
         replace HO_6 := hob_ HO_6 hb
         replace HO_7 := hob_ HO_7 hb
         replace BK257 := bkb_ BK257 hb
         replace BK274 := bkb_ BK274 hb
         replace HB := hbs_ hb
         (try clear hb)
         (try clear hb2)
         (try clear hk)
         (try clear hi)
         refine hK.out _ _ ⟨(blk_cell BK274.out 0).trans rfl, (blk_cell BK274.out 1).trans rfl, (blk_cell BK274.out 2).trans rfl, (blk_cell BK274.out 3).trans rfl, (blk_cell BK274.out 4).trans rfl, (blk_cell BK274.out 5).trans rfl, HS6_⟩ (fun hHeld => ?_)
         clear hK K
         refine norm_ (a' := ?_) ?_ ?_
         rotate_left
         ·show Act.put _ (some 64) _ = _
          simp only [Act.put, List.setIfInBounds_toArray, List.set_cons_zero, List.set_cons_succ, i64_w, i32_w]
          rfl
         refine done_ (by kernel_rfl) ?_
         try go_wp2
         go_ret
         exact ⟨eq_, bl_⟩
        ·replace c52 := Bool.eq_false_iff.mpr c52
         subst c52
         replace H := ite_f_ H
         have H' := aa_ H
         clear H
         have hcz61 := blk_cell BK257.out
         have hfz61 := blk_frozen BK257.out
         have p273 : 0 ≤ (x8_2 : Int) := od_
         have q273 : x8_2 < (l0_0.length : Int) := od_
         obtain ⟨ad273, A273_3, c273_3, A273_4, c273_4, A273_5, c273_5, e273, hx273_0, hx273_1, hx273_2, hx273_3, hx273_4, hx273_5, hl273_3, hi273_3, hl273_4, hi273_4, hl273_5, hi273_5⟩ := at_T42 HR0_0.out x8_2 p273 q273
         cases e273
         replace hx273_0 := cb_ HB hx273_0
         replace hx273_1 := cb_ HB hx273_1
         replace hx273_2 := cb_ HB hx273_2
         replace hx273_3 := cb_ HB hx273_3
         replace hx273_4 := cb_ HB hx273_4
         replace hx273_5 := cb_ HB hx273_5
         have HR273_3 := aa_ hi273_3
         have HC273_3 := aa_ hl273_3
         clear hi273_3 hl273_3
         have HR273_4 := aa_ hi273_4
         have HC273_4 := aa_ hl273_4
         clear hi273_4 hl273_4
         have HR273_5 := aa_ hi273_5
         have HC273_5 := aa_ hl273_5
         clear hi273_5 hl273_5
         replace p273 := eq_true p273
         replace q273 := eq_true q273
         try go_wp2_with (first | ((with_reducible refine gD_ 9 rfl ?_); refine bx_ (N := 9) (cs := #[.int .i64 0, .bool false, .int .i64 0, .slice none 0 0, .slice none 0 0, .slice none 0 0]) (t := 42) ?_; intro gb274 hg w62 hbox hb; replace HO_3 := hob_ HO_3 hb; replace HO_4 := hob_ HO_4 hb; replace HO_6 := hob_ HO_6 hb; replace HO_7 := hob_ HO_7 hb; have BK274 := aa_ (hbox); have GW274 := gs_ hg; have GE274 := gs_ hg; replace HB := hbs_ hb; have NB257_274 := nl_ hg BK257; have NB274_257 := nr_ hg BK257; replace BK257 := bkb_ BK257 hb; clear hb hbox hg; have hnb63 := NB274_257.out; have hnc63 := NB257_274.out; obtain ⟨hcz64, hfz64⟩ := bcf_ BK274; obtain ⟨Ao65, co65, eo65⟩ := Kd.R_slice HO_7.out; subst eo65) | ((with_reducible refine gC_ 15 rfl ?_); refine goesC_ (some 49) Try.func15 #[.slice Ao65 t270.length co65, .int .i64 ((rd_T42 l0_0 x8_2).f0)] ?_; (with_reducible refine (spec_l08Has.calls k2 _ _ t270 ((rd_T42 l0_0 x8_2).f0) false _ ?side1 ?side2 A22.out).mono ?_); (case side1 => refine (Kd.R_reads' (e := 3) (base := w.heap.size) (ok := fun k_ => (some k_ ≠ (.slice (some ad264) t258.length co14 : Value).ownBlock ∧ some k_ ≠ (.slice Ao18 t261.length co18 : Value).ownBlock)) (n := t270.length) (c := co65) ?_).2.2; exact (by (with_reducible repeat (first | apply Kd.R_alloc | apply Kd.R_drewN | apply Kd.R_drew)); exact (Kd.R_mono (fr6_ (Kd.R_types HO_7.out BK274.out (by decide)) (fun _ hk => hk.2)) (fun _ h_ => h_.1)))); (case side2 => exact (Kd.R_reads' HO_7.out).2.1); rintro e w' ⟨rfl, ⟨nd, rfl⟩⟩; refine ⟨_, rfl, ?_⟩))
         have n0_ : Aside0 (Kd.R (Kd.int .i64) 3 ((((((w62.setCell ⟨gb274, 0, none⟩ (.int .i64 ((rd_T42 l0_0 x8_2).f0))).setCell ⟨gb274, 1, none⟩ (.bool ((rd_T42 l0_0 x8_2).f1))).setCell ⟨gb274, 2, none⟩ (.int .i64 ((rd_T42 l0_0 x8_2).f2))).setCell ⟨gb274, 3, none⟩ (.slice A273_3 ((rd_T42 l0_0 x8_2).f3).length c273_3)).setCell ⟨gb274, 4, none⟩ (.slice A273_4 ((rd_T42 l0_0 x8_2).f4).length c273_4)).setCell ⟨gb274, 5, none⟩ (.slice A273_5 ((rd_T42 l0_0 x8_2).f5).length c273_5)) w.heap.size (fun k_ => some k_ ≠ (.slice Ao18 t261.length co18 : Value).ownBlock ∧ some k_ ≠ (.slice Ao65 t270.length co65 : Value).ownBlock) (.slice (some ad264) t258.length co14) t258) := ⟨by (with_reducible repeat (first | apply Kd.R_alloc | apply Kd.R_drewN | apply Kd.R_drew)); exact Kd.R_mono (fr6_ (Kd.R_types HO_3.out BK274.out (by decide)) (fun _ hk => hk.2)) (fun _ hk => ⟨hk.1.1, hk.1.2⟩)⟩
         have n1_ : Aside0 (Kd.R (Kd.int .i64) 3 ((((((w62.setCell ⟨gb274, 0, none⟩ (.int .i64 ((rd_T42 l0_0 x8_2).f0))).setCell ⟨gb274, 1, none⟩ (.bool ((rd_T42 l0_0 x8_2).f1))).setCell ⟨gb274, 2, none⟩ (.int .i64 ((rd_T42 l0_0 x8_2).f2))).setCell ⟨gb274, 3, none⟩ (.slice A273_3 ((rd_T42 l0_0 x8_2).f3).length c273_3)).setCell ⟨gb274, 4, none⟩ (.slice A273_4 ((rd_T42 l0_0 x8_2).f4).length c273_4)).setCell ⟨gb274, 5, none⟩ (.slice A273_5 ((rd_T42 l0_0 x8_2).f5).length c273_5)) w.heap.size (fun k_ => some k_ ≠ (.slice (some ad264) t258.length co14 : Value).ownBlock ∧ some k_ ≠ (.slice Ao65 t270.length co65 : Value).ownBlock) (.slice Ao18 t261.length co18) t261) := ⟨by (with_reducible repeat (first | apply Kd.R_alloc | apply Kd.R_drewN | apply Kd.R_drew)); exact Kd.R_mono (fr6_ (Kd.R_types HO_4.out BK274.out (by decide)) (fun _ hk => hk.2)) (fun _ hk => ⟨hk.1.1, hk.1.2⟩)⟩
         have n2_ : Aside0 (Kd.R k52 52 ((((((w62.setCell ⟨gb274, 0, none⟩ (.int .i64 ((rd_T42 l0_0 x8_2).f0))).setCell ⟨gb274, 1, none⟩ (.bool ((rd_T42 l0_0 x8_2).f1))).setCell ⟨gb274, 2, none⟩ (.int .i64 ((rd_T42 l0_0 x8_2).f2))).setCell ⟨gb274, 3, none⟩ (.slice A273_3 ((rd_T42 l0_0 x8_2).f3).length c273_3)).setCell ⟨gb274, 4, none⟩ (.slice A273_4 ((rd_T42 l0_0 x8_2).f4).length c273_4)).setCell ⟨gb274, 5, none⟩ (.slice A273_5 ((rd_T42 l0_0 x8_2).f5).length c273_5)) w.heap.size (fun _ => True) v266 t265) := ⟨by (with_reducible repeat (first | apply Kd.R_alloc | apply Kd.R_drewN | apply Kd.R_drew)); exact Kd.R_mono (fr6_ (Kd.R_types HO_6.out BK274.out (by decide)) (fun _ hk => hk.2)) (fun _ hk => trivial)⟩
         have n3_ : Aside0 (Kd.R (Kd.int .i64) 3 ((((((w62.setCell ⟨gb274, 0, none⟩ (.int .i64 ((rd_T42 l0_0 x8_2).f0))).setCell ⟨gb274, 1, none⟩ (.bool ((rd_T42 l0_0 x8_2).f1))).setCell ⟨gb274, 2, none⟩ (.int .i64 ((rd_T42 l0_0 x8_2).f2))).setCell ⟨gb274, 3, none⟩ (.slice A273_3 ((rd_T42 l0_0 x8_2).f3).length c273_3)).setCell ⟨gb274, 4, none⟩ (.slice A273_4 ((rd_T42 l0_0 x8_2).f4).length c273_4)).setCell ⟨gb274, 5, none⟩ (.slice A273_5 ((rd_T42 l0_0 x8_2).f5).length c273_5)) w.heap.size (fun k_ => some k_ ≠ (.slice (some ad264) t258.length co14 : Value).ownBlock ∧ some k_ ≠ (.slice Ao18 t261.length co18 : Value).ownBlock) (.slice Ao65 t270.length co65) t270) := ⟨by (with_reducible repeat (first | apply Kd.R_alloc | apply Kd.R_drewN | apply Kd.R_drew)); exact Kd.R_mono (fr6_ (Kd.R_types HO_7.out BK274.out (by decide)) (fun _ hk => hk.2)) (fun _ hk => ⟨hk.1.1, hk.1.2⟩)⟩
         have n4_ : Aside0 (((((((w62.setCell ⟨gb274, 0, none⟩ (.int .i64 ((rd_T42 l0_0 x8_2).f0))).setCell ⟨gb274, 1, none⟩ (.bool ((rd_T42 l0_0 x8_2).f1))).setCell ⟨gb274, 2, none⟩ (.int .i64 ((rd_T42 l0_0 x8_2).f2))).setCell ⟨gb274, 3, none⟩ (.slice A273_3 ((rd_T42 l0_0 x8_2).f3).length c273_3)).setCell ⟨gb274, 4, none⟩ (.slice A273_4 ((rd_T42 l0_0 x8_2).f4).length c273_4)).setCell ⟨gb274, 5, none⟩ (.slice A273_5 ((rd_T42 l0_0 x8_2).f5).length c273_5)).heap[gb257]? = some (.cells #[.slice (some ad273) l0_0.length c0_0] 29 (0, 0))) := ⟨bk_ BK257⟩
         have n5_ : Aside0 (((((((w62.setCell ⟨gb274, 0, none⟩ (.int .i64 ((rd_T42 l0_0 x8_2).f0))).setCell ⟨gb274, 1, none⟩ (.bool ((rd_T42 l0_0 x8_2).f1))).setCell ⟨gb274, 2, none⟩ (.int .i64 ((rd_T42 l0_0 x8_2).f2))).setCell ⟨gb274, 3, none⟩ (.slice A273_3 ((rd_T42 l0_0 x8_2).f3).length c273_3)).setCell ⟨gb274, 4, none⟩ (.slice A273_4 ((rd_T42 l0_0 x8_2).f4).length c273_4)).setCell ⟨gb274, 5, none⟩ (.slice A273_5 ((rd_T42 l0_0 x8_2).f5).length c273_5)).heap[gb274]? = some (.cells #[.int .i64 ((rd_T42 l0_0 x8_2).f0), .bool ((rd_T42 l0_0 x8_2).f1), .int .i64 ((rd_T42 l0_0 x8_2).f2), .slice A273_3 ((rd_T42 l0_0 x8_2).f3).length c273_3, .slice A273_4 ((rd_T42 l0_0 x8_2).f4).length c273_4, .slice A273_5 ((rd_T42 l0_0 x8_2).f5).length c273_5] 42 (0, 0))) := ⟨bk_ BK274⟩
         have n6_ : Aside0 (Below w.heap.size w ((((((w62.setCell ⟨gb274, 0, none⟩ (.int .i64 ((rd_T42 l0_0 x8_2).f0))).setCell ⟨gb274, 1, none⟩ (.bool ((rd_T42 l0_0 x8_2).f1))).setCell ⟨gb274, 2, none⟩ (.int .i64 ((rd_T42 l0_0 x8_2).f2))).setCell ⟨gb274, 3, none⟩ (.slice A273_3 ((rd_T42 l0_0 x8_2).f3).length c273_3)).setCell ⟨gb274, 4, none⟩ (.slice A273_4 ((rd_T42 l0_0 x8_2).f4).length c273_4)).setCell ⟨gb274, 5, none⟩ (.slice A273_5 ((rd_T42 l0_0 x8_2).f5).length c273_5))) := ⟨bl_⟩
         (try clear HO_3)
         (try clear HO_4)
         (try clear HO_6)
         (try clear HO_7)
         (try clear BK257)
         (try clear BK274)
         (try clear HB)
         generalize ((((((w62.setCell ⟨gb274, 0, none⟩ (.int .i64 ((rd_T42 l0_0 x8_2).f0))).setCell ⟨gb274, 1, none⟩ (.bool ((rd_T42 l0_0 x8_2).f1))).setCell ⟨gb274, 2, none⟩ (.int .i64 ((rd_T42 l0_0 x8_2).f2))).setCell ⟨gb274, 3, none⟩ (.slice A273_3 ((rd_T42 l0_0 x8_2).f3).length c273_3)).setCell ⟨gb274, 4, none⟩ (.slice A273_4 ((rd_T42 l0_0 x8_2).f4).length c273_4)).setCell ⟨gb274, 5, none⟩ (.slice A273_5 ((rd_T42 l0_0 x8_2).f5).length c273_5)) = w66 at n0_ n1_ n2_ n3_ n4_ n5_ n6_ ⊢
         have HO_3 := n0_
         have HO_4 := n1_
         have HO_6 := n2_
         have HO_7 := n3_
         have BK257 := n4_
         have BK274 := n5_
         have HB := n6_
         clear n0_ n1_ n2_ n3_ n4_ n5_ n6_
         (try (rw [drewN_self w66]; generalize hq_ : World.drewN w66 _ = w66; have n0_ : Aside0 (Kd.R (Kd.int .i64) 3 w66 w.heap.size (fun k_ => some k_ ≠ (.slice Ao18 t261.length co18 : Value).ownBlock ∧ some k_ ≠ (.slice Ao65 t270.length co65 : Value).ownBlock) (.slice (some ad264) t258.length co14) t258) := ⟨by rw [← hq_]; exact (rr_ HO_3)⟩; have n1_ : Aside0 (Kd.R (Kd.int .i64) 3 w66 w.heap.size (fun k_ => some k_ ≠ (.slice (some ad264) t258.length co14 : Value).ownBlock ∧ some k_ ≠ (.slice Ao65 t270.length co65 : Value).ownBlock) (.slice Ao18 t261.length co18) t261) := ⟨by rw [← hq_]; exact (rr_ HO_4)⟩; have n2_ : Aside0 (Kd.R k52 52 w66 w.heap.size (fun _ => True) v266 t265) := ⟨by rw [← hq_]; exact (rr_ HO_6)⟩; have n3_ : Aside0 (Kd.R (Kd.int .i64) 3 w66 w.heap.size (fun k_ => some k_ ≠ (.slice (some ad264) t258.length co14 : Value).ownBlock ∧ some k_ ≠ (.slice Ao18 t261.length co18 : Value).ownBlock) (.slice Ao65 t270.length co65) t270) := ⟨by rw [← hq_]; exact (rr_ HO_7)⟩; have n4_ : Aside0 (w66.heap[gb257]? = some (.cells #[.slice (some ad273) l0_0.length c0_0] 29 (0, 0))) := ⟨by rw [← hq_]; exact (bk_ BK257)⟩; have n5_ : Aside0 (w66.heap[gb274]? = some (.cells #[.int .i64 ((rd_T42 l0_0 x8_2).f0), .bool ((rd_T42 l0_0 x8_2).f1), .int .i64 ((rd_T42 l0_0 x8_2).f2), .slice A273_3 ((rd_T42 l0_0 x8_2).f3).length c273_3, .slice A273_4 ((rd_T42 l0_0 x8_2).f4).length c273_4, .slice A273_5 ((rd_T42 l0_0 x8_2).f5).length c273_5] 42 (0, 0))) := ⟨by rw [← hq_]; exact (bk_ BK274)⟩; have n6_ : Aside0 (Below w.heap.size w w66) := ⟨by rw [← hq_]; exact bl_⟩; clear HO_3 HO_4 HO_6 HO_7 BK257 BK274 HB hq_; have HO_3 := n0_; have HO_4 := n1_; have HO_6 := n2_; have HO_7 := n3_; have BK257 := n4_; have BK274 := n5_; have HB := n6_; clear n0_ n1_ n2_ n3_ n4_ n5_ n6_))
         replace HO_3 := aa_ (Kd.R_drew HO_3.out)
         replace HO_4 := aa_ (Kd.R_drew HO_4.out)
         replace HO_6 := aa_ (Kd.R_drew HO_6.out)
         replace HO_7 := aa_ (Kd.R_drew HO_7.out)
         replace BK257 := aa_ (blk_drew BK257.out)
         replace BK274 := aa_ (blk_drew BK274.out)
         replace HB := aa_ (below_drew1 HB.out)
         have p281 : 0 ≤ (x5_1 : Int) := od_
         have q281 : x5_1 < (t258.length : Int) := od_
         obtain ⟨ad281, e281, hx281_0⟩ := Kd.at_int (Kd.R_reads' HO_3.out).2.2 x5_1 p281 q281
         obtain rfl : ad264 = ad281 := (by injection e281)
         replace p281 := eq_true p281
         replace q281 := eq_true q281
         refine start_ (n := 6) (S := fun w' => w'.cell? ⟨gb274, 0, none⟩ = some (.int .i64 ((rd_T42 l0_0 x8_2).f0)) ∧ w'.cell? ⟨gb274, 1, none⟩ = some (.bool ((rd_T42 l0_0 x8_2).f1)) ∧ w'.cell? ⟨gb274, 2, none⟩ = some (.int .i64 ((rd_T42 l0_0 x8_2).f2)) ∧ w'.cell? ⟨gb274, 3, none⟩ = some (.slice A273_3 ((rd_T42 l0_0 x8_2).f3).length c273_3) ∧ w'.cell? ⟨gb274, 4, none⟩ = some (.slice A273_4 ((rd_T42 l0_0 x8_2).f4).length c273_4) ∧ w'.cell? ⟨gb274, 5, none⟩ = some (.slice A273_5 ((rd_T42 l0_0 x8_2).f5).length c273_5) ∧ w'.cell? (ad264.add (x5_1).toNat) = some (.int .i64 (rd t258 x5_1))) (ds := []) (ba_ 6 0) (by kernel_rfl) rfl rfl ⟨(blk_cell BK274.out 0).trans rfl, (blk_cell BK274.out 1).trans rfl, (blk_cell BK274.out 2).trans rfl, (blk_cell BK274.out 3).trans rfl, (blk_cell BK274.out 4).trans rfl, (blk_cell BK274.out 5).trans rfl, hx281_0⟩ (fun hHeld => ?_)
         generalize w66.drew = w67 at HO_3 HO_4 HO_6 HO_7 BK257 BK274 HB hx281_0 hHeld ⊢
         refine pure_ (i := 1) (N := some 60) (v := ?_) (a' := ?_) (ba_ 6 2) rfl rfl (by kernel_rfl) (fun _ _ _ h => h) (Or.inl ⟨by rfl, ?_⟩) ?_ ?_
         rotate_left
         ·intro w'
          go_simp
          with_reducible rfl
         rotate_left
         ·simp only [Act.put, List.setIfInBounds_toArray, List.set_cons_zero, List.set_cons_succ, i64_w, i32_w]
          rfl
         refine pure_ (i := 2) (N := some 61) (v := ?_) (a' := ?_) (ba_ 6 6) rfl rfl (by kernel_rfl) (fun _ _ _ h => h) (Or.inl ⟨by rfl, ?_⟩) ?_ ?_
         rotate_left
         ·intro w'
          go_simp
          with_reducible rfl
         rotate_left
         ·simp only [Act.put, List.setIfInBounds_toArray, List.set_cons_zero, List.set_cons_succ, i64_w, i32_w]
          rfl
         refine pure_ (i := 3) (N := some 62) (v := ?_) (a' := ?_) (ba_ 6 14) rfl rfl (by kernel_rfl) (fun _ _ _ h => h) (Or.inl ⟨by rfl, ?_⟩) ?_ ?_
         rotate_left
         ·intro w'
          go_simp
          with_reducible rfl
         rotate_left
         ·simp only [Act.put, List.setIfInBounds_toArray, List.set_cons_zero, List.set_cons_succ, i64_w, i32_w]
          rfl
         refine take_ (i := 0) (N := some 59) (v := ?_) (a' := ?_) (ba_ 6 15) rfl rfl (by kernel_rfl) (fun _ _ _ h => h) (Or.inl ⟨by rfl, ?_⟩) hHeld ?_ ?_
         rotate_left
         ·rintro w' ⟨s0, s1, s2, s3, s4, s5, s6⟩
          go_simp
          with_reducible rfl
         rotate_left
         ·simp only [Act.put, List.setIfInBounds_toArray, List.set_cons_zero, List.set_cons_succ, i64_w, i32_w]
          rfl
         refine take_ (i := 4) (N := some 63) (v := ?_) (a' := ?_) (ba_ 6 31) rfl rfl (by kernel_rfl) (fun _ _ _ h => h) (Or.inl ⟨by rfl, ?_⟩) hHeld ?_ ?_
         rotate_left
         ·rintro w' ⟨s0, s1, s2, s3, s4, s5, s6⟩
          go_simp
          with_reducible rfl
         rotate_left
         ·simp only [Act.put, List.setIfInBounds_toArray, List.set_cons_zero, List.set_cons_succ, i64_w, i32_w]
          rfl
         refine one_ (i := 5) (N := some 64) (ba_ 6 63) rfl rfl (by kernel_rfl) (by decide) (fun K hK => ?_)
         refine goes_ Try.func18 (by kernel_rfl) rfl #[.agg #[.int .i64 ((rd_T42 l0_0 x8_2).f0), .bool ((rd_T42 l0_0 x8_2).f1), .int .i64 ((rd_T42 l0_0 x8_2).f2), .slice A273_3 ((rd_T42 l0_0 x8_2).f3).length c273_3, .slice A273_4 ((rd_T42 l0_0 x8_2).f4).length c273_4, .slice A273_5 ((rd_T42 l0_0 x8_2).f5).length c273_5], .int .i64 (rd t258 x5_1)] (by rfl) rfl rfl (by (try simp only [List.map_toArray, List.map_cons, List.map_nil]); first | done | rfl | (simp only [List.length_drop, List.length_take]; rfl)) ?_
         with_reducible refine (spec_l15Has.calls k2 ((rd_T42 l0_0 x8_2).f0) ((rd_T42 l0_0 x8_2).f1) ((rd_T42 l0_0 x8_2).f2) _ _ ((rd_T42 l0_0 x8_2).f3) _ _ ((rd_T42 l0_0 x8_2).f4) _ _ ((rd_T42 l0_0 x8_2).f5) (rd t258 x5_1) false _ ?side1 ?side2 ?side3 ?side4 ?side5 ?side6 A51.out).mono ?_
         (case side1 => repeat (first | exact (Kd.C_below HR273_3.out HB.out) | (with_reducible refine Kd.C_alloc ?_ _) | (with_reducible refine Kd.C_drewN ?_ _) | (with_reducible refine Kd.C_drew ?_)))
         (case side2 => exact HC273_3.out)
         (case side3 => repeat (first | exact (Kd.C_below HR273_4.out HB.out) | (with_reducible refine Kd.C_alloc ?_ _) | (with_reducible refine Kd.C_drewN ?_ _) | (with_reducible refine Kd.C_drew ?_)))
         (case side4 => exact HC273_4.out)
         (case side5 => repeat (first | exact (Kd.C_below HR273_5.out HB.out) | (with_reducible refine Kd.C_alloc ?_ _) | (with_reducible refine Kd.C_drewN ?_ _) | (with_reducible refine Kd.C_drew ?_)))
         (case side6 => exact HC273_5.out)
         rintro e w68 ⟨rfl, hb⟩
         have HS6_ := (hb.cell (World.block_lt_of_cell? _ _ (hHeld.2.2.2.2.2.2))).trans (hHeld.2.2.2.2.2.2)
         refine ⟨_, rfl, ?_⟩
         replace HO_3 := hob_ HO_3 hb
         replace HO_4 := hob_ HO_4 hb
         replace HO_6 := hob_ HO_6 hb
         replace HO_7 := hob_ HO_7 hb
         replace BK257 := bkb_ BK257 hb
         replace BK274 := bkb_ BK274 hb
         replace HB := hbs_ hb
         (try clear hb)
         (try clear hb2)
         (try clear hk)
         (try clear hi)
         refine hK.out _ _ ⟨(blk_cell BK274.out 0).trans rfl, (blk_cell BK274.out 1).trans rfl, (blk_cell BK274.out 2).trans rfl, (blk_cell BK274.out 3).trans rfl, (blk_cell BK274.out 4).trans rfl, (blk_cell BK274.out 5).trans rfl, HS6_⟩ (fun hHeld => ?_)
         clear hK K
         refine norm_ (a' := ?_) ?_ ?_
         rotate_left
         ·show Act.put _ (some 64) _ = _
          simp only [Act.put, List.setIfInBounds_toArray, List.set_cons_zero, List.set_cons_succ, i64_w, i32_w]
          rfl
         refine done_ (by kernel_rfl) ?_
         try go_wp2
         go_roundg k2
         case measure => have := HK1.out; have := HK2.out; omega
         case rel => exact ⟨(wrap64 (x8_2 + 1)), rf_, H', ⟨by have := HK1.out; have := HK2.out; omega⟩, ⟨rr_ HO_3⟩, ⟨rr_ HO_4⟩, ⟨rr_ HO_6⟩, ⟨rr_ HO_7⟩, ⟨bk_ BK257⟩, ⟨bl_⟩⟩
      ·rw [if_neg c20] at H
       have c20b0 : decide (x8_2 < (l0_0.length : Int)) = false := decide_eq_false c20
       clear c20
       have H' := aa_ H
       clear H
       have hcz69 := blk_cell BK257.out
       have hfz69 := blk_frozen BK257.out
       go_wp2
       go_roundg k2
       case measure => have := HK1.out; have := HK2.out; omega
       case rel => exact ⟨(wrap64 (x5_1 + 1)), rf_, H', ⟨by have := HK1.out; have := HK2.out; omega⟩, ⟨by (with_reducible repeat (first | apply Kd.R_alloc | apply Kd.R_drewN | apply Kd.R_drew)); exact Kd.R_mono HO_3.out (fun _ hk => hk.1)⟩, ⟨by (with_reducible repeat (first | apply Kd.R_alloc | apply Kd.R_drewN | apply Kd.R_drew)); exact Kd.R_mono HO_4.out (fun _ hk => hk.1)⟩, ⟨bk_ BK257⟩, ⟨bl_⟩⟩
   ·rw [if_neg c9] at H
    have c9b0 : decide (x5_1 < (t258.length : Int)) = false := decide_eq_false c9
    clear c9
    obtain rfl := Option.some.inj H
    obtain ⟨Ao70, co70, eo70⟩ := Kd.R_slice HO_3.out
    subst eo70
    go_wp2
    go_ret
    exact ⟨eq_, bl_⟩
end Go.Proofs.Ytkimdmdkldlhpaa.PA
