import Derived.Test.YteofimccoadmeaaGreatKWPAx6
import Derived.Test.YteofimccoadmeaaGreatKWPAx9
-- printed by wip/tools
namespace Go.Proofs.YteofimccoadmeaaGreat.PA
open Go.RowKit Go.Proofs.YteofimccoadmeaaGreatW.PrintWords Go.Proofs.YteofimccoadmeaaGreatW.PrintLast Go.Proofs.YteofimccoadmeaaGreatW.PrintMore
attribute [local go_sem] max2_int min2_int max_two min_two max_three min_three max_four min_four
set_option linter.unusedVariables false
set_option linter.unusedSimpArgs false
mutual
def spec_Sound.l0 : Nat → Int → List (S68) → Int → List Int → List (S83) → List (S83) → List (S73) → List (S79) → List Int → Option (Bool)
 | 0, _, _, _, _, _, _, _, _, _ => none
 | k + 1, x3, x243000, x243001, x243002, x243003, x243004, x243005, x243006, x243007 => if x3 < (x243005.length : Int) then (if 0 ≤ x3 then ((spec_CredsIn.f k ((rd_T73 x243005 x3).f1)).bind fun t245 => (if x3 < (x243006.length : Int) then ((spec_l16Least.f k t245).bind fun t250 => ((spec_AnswerOk.f k ((rd_T73 x243005 x3).f0) ((rd_T73 x243005 x3).f1) ((rd_T73 x243005 x3).f2) ((rd_T73 x243005 x3).f3) ((rd_T73 x243005 x3).f4) ((rd_T79 x243006 x3).f0.f0) ((rd_T79 x243006 x3).f0.f1) ((rd_T79 x243006 x3).f1) t250).bind fun t251 => (if t251 = true then (spec_Sound.l1 k x3 t245 0 x243000 x243001 x243002 x243003 x243004 x243005 x243006 x243007) else (some false)))) else (none))) else (none)) else (some true)
def spec_Sound.l1 : Nat → Int → List (S83) → Int → List (S68) → Int → List Int → List (S83) → List (S83) → List (S73) → List (S79) → List Int → Option (Bool)
 | 0, _, _, _, _, _, _, _, _, _, _, _ => none
 | k + 1, x3, x5, x6, x243000, x243001, x243002, x243003, x243004, x243005, x243006, x243007 => if x6 < (x5.length : Int) then (if 0 ≤ x6 then ((spec_l14Said.f k x243003 ((rd_T83 x5 x6).f0) ((rd_T83 x5 x6).f1.f0) ((rd_T83 x5 x6).f1.f1) ((rd_T83 x5 x6).f2) ((rd_T83 x5 x6).f3.f0) ((rd_T83 x5 x6).f3.f1) ((rd_T83 x5 x6).f4.f0) ((rd_T83 x5 x6).f4.f1) ((rd_T83 x5 x6).f5) ((rd_T83 x5 x6).f6)).bind fun t253 => (if t253 = true then (spec_Sound.l1 k x3 x5 (wrap64 (x6 + 1)) x243000 x243001 x243002 x243003 x243004 x243005 x243006 x243007) else (some false))) else (none)) else (spec_Sound.l0 k (wrap64 (x3 + 1)) x243000 x243001 x243002 x243003 x243004 x243005 x243006 x243007)
end
def spec_Sound.f (k : Nat) (l0_0 : List (S68)) (a0_1 : Int) (l0_2 : List Int) (l0_3 : List (S83)) (l0_4 : List (S83)) (l0_5 : List (S73)) (l0_6 : List (S79)) (l0_7 : List Int) : Option (Bool) := if (l0_5.length : Int) = (l0_6.length : Int) then (spec_Sound.l0 k 0 l0_0 a0_1 l0_2 l0_3 l0_4 l0_5 l0_6 l0_7) else (some false)
def spec_Sound.T8 : Bool × List (List Nat × List Nat) := (true, [([], []), ([], []), ([1], [1]), ([], []), ([2, 3], [2, 3]), ([4], [4]), ([5], [5]), ([], []), ([7], [7]), ([], []), ([8, 9], [8, 9]), ([10], [10]), ([11], [11]), ([], []), ([13], [13]), ([0, 6, 12, 14, 14], [0, 6, 12, 14]), ([15], [15])])
def spec_Sound.B8 : List Nat := [0, 0, 2, 0, 14, 30, 62, 0, 128, 0, 896, 1920, 3968, 0, 8192, 32767, 65535]
theorem spec_Sound.tab8 : rtab .any (opsOf Tryz.f15 8) = spec_Sound.T8 := by kernel_rfl
theorem spec_Sound.bits8 : waitsOk spec_Sound.T8.2 spec_Sound.B8 = true := by kernel_rfl
def spec_Sound.T13 : Bool × List (List Nat × List Nat) := (true, [([], []), ([0], [0]), ([], []), ([], []), ([2, 3], [2, 3]), ([4], [4]), ([1, 5], [1, 5]), ([6], [6])])
def spec_Sound.B13 : List Nat := [0, 1, 0, 0, 12, 28, 63, 127]
theorem spec_Sound.tab13 : rtab .any (opsOf Tryz.f15 13) = spec_Sound.T13 := by kernel_rfl
theorem spec_Sound.bits13 : waitsOk spec_Sound.T13.2 spec_Sound.B13 = true := by kernel_rfl
set_option maxHeartbeats 8000000 in
set_option maxRecDepth 100000 in
theorem spec_Sound.calls (k : Nat) (A0_0 : Option Addr) (c0_0 : Nat) (l0_0 : List (S68)) (a0_1 : Int) (A0_2 : Option Addr) (c0_2 : Nat) (l0_2 : List Int) (A0_3 : Option Addr) (c0_3 : Nat) (l0_3 : List (S83)) (A0_4 : Option Addr) (c0_4 : Nat) (l0_4 : List (S83)) (A0_5 : Option Addr) (c0_5 : Nat) (l0_5 : List (S73)) (A0_6 : Option Addr) (c0_6 : Nat) (l0_6 : List (S79)) (A0_7 : Option Addr) (c0_7 : Nat) (l0_7 : List Int) (r : Bool) (w : World) (hr0_0 : Kd.C k68 w A0_0 l0_0.length l0_0) (hc0_0 : l0_0.length ≤ c0_0) (hr0_2 : Kd.C (Kd.int .i64) w A0_2 l0_2.length l0_2) (hc0_2 : l0_2.length ≤ c0_2) (hr0_3 : Kd.C k83 w A0_3 l0_3.length l0_3) (hc0_3 : l0_3.length ≤ c0_3) (hr0_4 : Kd.C k83 w A0_4 l0_4.length l0_4) (hc0_4 : l0_4.length ≤ c0_4) (hr0_5 : Kd.C k73 w A0_5 l0_5.length l0_5) (hc0_5 : l0_5.length ≤ c0_5) (hr0_6 : Kd.C k79 w A0_6 l0_6.length l0_6) (hc0_6 : l0_6.length ≤ c0_6) (hr0_7 : Kd.C (Kd.int .i64) w A0_7 l0_7.length l0_7) (hc0_7 : l0_7.length ≤ c0_7) (h : spec_Sound.f k l0_0 a0_1 l0_2 l0_3 l0_4 l0_5 l0_6 l0_7 = some r) :
  Calls Tryz.prog 15 #[.agg #[.slice A0_0 l0_0.length c0_0, .int .i64 a0_1, .slice A0_2 l0_2.length c0_2, .slice A0_3 l0_3.length c0_3, .slice A0_4 l0_4.length c0_4, .slice A0_5 l0_5.length c0_5, .slice A0_6 l0_6.length c0_6, .slice A0_7 l0_7.length c0_7]] w fun e w' => e = .returned (.bool r) ∧ Below w.heap.size w w' := by
 have hu40 := Tryz.underlying40
 have hu73 := Tryz.underlying73
 have hu77 := Tryz.underlying77
 have hu83 := Tryz.underlying83
 have HR0_0 := aa_ hr0_0
 have HC0_0 := aa_ hc0_0
 clear hr0_0 hc0_0
 have HR0_2 := aa_ hr0_2
 have HC0_2 := aa_ hc0_2
 clear hr0_2 hc0_2
 have HR0_3 := aa_ hr0_3
 have HC0_3 := aa_ hc0_3
 clear hr0_3 hc0_3
 have HR0_4 := aa_ hr0_4
 have HC0_4 := aa_ hc0_4
 clear hr0_4 hc0_4
 have HR0_5 := aa_ hr0_5
 have HC0_5 := aa_ hc0_5
 clear hr0_5 hc0_5
 have HR0_6 := aa_ hr0_6
 have HC0_6 := aa_ hc0_6
 clear hr0_6 hc0_6
 have HR0_7 := aa_ hr0_7
 have HC0_7 := aa_ hc0_7
 clear hr0_7 hc0_7
 have HB := aa_ (Below.refl w.heap.size w)
 have H : (if (l0_5.length : Int) = (l0_6.length : Int) then (spec_Sound.l0 k 0 l0_0 a0_1 l0_2 l0_3 l0_4 l0_5 l0_6 l0_7) else (some false)) = some r := h
 clear h
 have HC2 := aa_ H
 clear H
 go_enter Tryz.func15, Tryz.ntmps15
 go_upto_if 13 with (first | ((with_reducible refine gD_ 1 rfl ?_); refine bx_ (N := 1) (cs := #[.slice A0_0 l0_0.length c0_0, .int .i64 a0_1, .slice A0_2 l0_2.length c0_2, .slice A0_3 l0_3.length c0_3, .slice A0_4 l0_4.length c0_4, .slice A0_5 l0_5.length c0_5, .slice A0_6 l0_6.length c0_6, .slice A0_7 l0_7.length c0_7]) (t := 40) ?_; intro gb242 hg w3 hbox hb; have BK242 := aa_ (hbox); have GW242 := gs_ hg; have GE242 := gs_ hg; replace HB := hbs_ hb; clear hb hbox hg; obtain ⟨hcz4, hfz4⟩ := bcf_ BK242))
 (try simp only [Act.put, sb_, sz_, ss_])
 have H := HC2.out
 clear HC2
 by_cases c5 : (l0_5.length : Int) = (l0_6.length : Int)
 ·rw [if_pos c5] at H
  have c5b0 : ((l0_5.length : Int) == (l0_6.length : Int)) = true := beq_iff_eq.mpr c5
  have c5b1 : ((l0_5.length : Int) != (l0_6.length : Int)) = false := bne_eq_false_iff_eq.mpr c5
  have c5b2 : (l0_5.length == l0_6.length) = true := by first | simpa using c5 | (simp at c5 ⊢; omega)
  clear c5
  (first | rw [c5b1] | rw [c5b0] | (simp only [i64_w, i32_w]; rw [c5b0]) | (have cz_ := c5b0; simp only [Int.ofNat_lt, Int.ofNat_le, gt_iff_lt, ge_iff_le] at cz_; rw [cz_]; clear cz_) | skip)
  have H' := aa_ H
  clear H
  go_wp2
  go_loopg [3] k (fun kq v3 w' => ∃ (x3_1 : Int), v3 = .int .i64 x3_1 ∧ Aside0 (spec_Sound.l0 kq x3_1 l0_0 a0_1 l0_2 l0_3 l0_4 l0_5 l0_6 l0_7 = some r) ∧ Aside0 (kq ≤ k) ∧ Aside0 (w'.heap[gb242]? = some (.cells #[(.slice A0_0 l0_0.length c0_0), .int .i64 a0_1, (.slice A0_2 l0_2.length c0_2), (.slice A0_3 l0_3.length c0_3), (.slice A0_4 l0_4.length c0_4), (.slice A0_5 l0_5.length c0_5), (.slice A0_6 l0_6.length c0_6), (.slice A0_7 l0_7.length c0_7)] 40 (0, 0))) ∧ Aside0 (Below w.heap.size w w'))
  case atStart => exact ⟨(0), rf_, H', ⟨Nat.le_refl _⟩, ⟨bk_ BK242⟩, ⟨bl_⟩⟩
  case round =>
   clear H'
   try clear p2
   try clear c5b0
   try clear c5b1
   try clear c5b2
   try clear hcz4
   try clear hfz4
   obtain ⟨x3_1, rfl, HA, HK1, BK242, HB⟩ := hrel
   cases gk with
   | zero => exact absurd HA.out (by simp [spec_Sound.l0])
   | succ k1 =>
    have H := HA.out
    clear HA
    simp only [spec_Sound.l0] at H
    by_cases c6 : x3_1 < (l0_5.length : Int)
    ·rw [if_pos c6] at H
     have c6b0 : decide (x3_1 < (l0_5.length : Int)) = true := decide_eq_true c6
     clear c6
     obtain ⟨c7b0, H⟩ := ifd_ H
     obtain ⟨t245, A8, H⟩ := bindE_ H
     obtain ⟨c9b0, H⟩ := ifd_ H
     obtain ⟨t250, A10, H⟩ := bindE_ H
     obtain ⟨t251, A11, H⟩ := bindE_ H
     have HC12 := aa_ H
     clear H
     have hcz13 := blk_cell BK242.out
     have hfz13 := blk_frozen BK242.out
     have p243 : 0 ≤ (x3_1 : Int) := od_
     have q243 : x3_1 < (l0_5.length : Int) := od_
     obtain ⟨ad243, A243_1, c243_1, e243, hx243_0, hx243_1, hx243_2, hx243_3, hx243_4, hl243_1, hi243_1⟩ := at_T73 HR0_5.out x3_1 p243 q243
     cases e243
     replace hx243_0 := cb_ HB hx243_0
     replace hx243_1 := cb_ HB hx243_1
     replace hx243_2 := cb_ HB hx243_2
     replace hx243_3 := cb_ HB hx243_3
     replace hx243_4 := cb_ HB hx243_4
     have HR243_1 := aa_ hi243_1
     have HC243_1 := aa_ hl243_1
     clear hi243_1 hl243_1
     replace p243 := eq_true p243
     replace q243 := eq_true q243
     try go_wp2_with (first | ((with_reducible refine gD_ 4 rfl ?_); refine bx_ (N := 4) (cs := #[.bool false, .slice none 0 0, .int .i64 0, .bool false, .bool false]) (t := 73) ?_; intro gb244 hg w14 hbox hb; have BK244 := aa_ (hbox); have GW244 := gs_ hg; have GE244 := gs_ hg; replace HB := hbs_ hb; have NB242_244 := nl_ hg BK242; have NB244_242 := nr_ hg BK242; replace BK242 := bkb_ BK242 hb; clear hb hbox hg; have hnb15 := NB244_242.out; have hnc15 := NB242_244.out; obtain ⟨hcz16, hfz16⟩ := bcf_ BK244) | ((with_reducible refine gC_ 33 rfl ?_); refine goesC_ (some 28) Tryz.func33 #[.slice A243_1 ((rd_T73 l0_5 x3_1).f1).length c243_1] ?_; (with_reducible refine (spec_CredsIn.calls k1 _ _ ((rd_T73 l0_5 x3_1).f1) t245 _ ?side1 ?side2 A8.out).mono ?_); (case side1 => exact Kd.C_below HR243_1.out bl_); (case side2 => exact HC243_1.out); rintro e w17 ⟨v246, rfl, ho0, hb⟩; refine ⟨_, rfl, ?_⟩; have HO247 := aa_ (Kd.R_lower ho0 bls_); replace BK242 := aa_ (blk_below (g := gb242) (o := .cells #[.slice A0_0 l0_0.length c0_0, .int .i64 a0_1, .slice A0_2 l0_2.length c0_2, .slice A0_3 l0_3.length c0_3, .slice A0_4 l0_4.length c0_4, .slice (some ad243) l0_5.length c0_5, .slice A0_6 l0_6.length c0_6, .slice A0_7 l0_7.length c0_7] 40 (0, 0)) (bk_ BK242) hb); replace BK244 := aa_ (blk_below (g := gb244) (o := .cells #[.bool ((rd_T73 l0_5 x3_1).f0), .slice A243_1 ((rd_T73 l0_5 x3_1).f1).length c243_1, .int .i64 ((rd_T73 l0_5 x3_1).f2), .bool ((rd_T73 l0_5 x3_1).f3), .bool ((rd_T73 l0_5 x3_1).f4)] 73 (0, 0)) (bk_ BK244) hb); replace HB := hbs_ hb; (try clear hb ho0)))
     replace HO247 := aa_ (Kd.R_drew HO247.out)
     replace BK242 := aa_ (blk_drew BK242.out)
     replace BK244 := aa_ (blk_drew BK244.out)
     replace HB := aa_ (below_drew1 HB.out)
     have p248 : 0 ≤ (x3_1 : Int) := od_
     have q248 : x3_1 < (l0_6.length : Int) := od_
     obtain ⟨ad248, e248, hx248_0, hx248_1, hx248_2⟩ := at_T79 HR0_6.out x3_1 p248 q248
     have hw248_2 := hx248_2
     have hw248_1 := hx248_1
     have hw248_0 := hx248_0
     cases e248
     replace hx248_0 := cb_ HB hx248_0
     replace hx248_1 := cb_ HB hx248_1
     replace hx248_2 := cb_ HB hx248_2
     replace p248 := eq_true p248
     replace q248 := eq_true q248
     have p249 : 0 ≤ (x3_1 : Int) := od_
     have q249 : x3_1 < (l0_6.length : Int) := od_
     obtain ⟨ad249, e249, hx249_0, hx249_1, hx249_2⟩ := at_T79 HR0_6.out x3_1 p249 q249
     have hw249_2 := hx249_2
     have hw249_1 := hx249_1
     have hw249_0 := hx249_0
     obtain rfl : ad248 = ad249 := (by injection e249)
     replace hx249_0 := cb_ HB hx249_0
     replace hx249_1 := cb_ HB hx249_1
     replace hx249_2 := cb_ HB hx249_2
     replace p249 := eq_true p249
     replace q249 := eq_true q249
     obtain ⟨Ao19, co19, eo19⟩ := Kd.R_slice HO247.out
     (first | subst eo19 | (injection eo19 with f1_ f2_ f3_; have f4_ := f1_.symm; have f5_ := f3_.symm; clear f1_ f2_ f3_; subst f4_; subst f5_))
     refine start_ (n := 17) (S := fun w' => w'.cell? ⟨gb244, 0, none⟩ = some (.bool ((rd_T73 l0_5 x3_1).f0)) ∧ w'.cell? ⟨gb244, 1, none⟩ = some (.slice A243_1 ((rd_T73 l0_5 x3_1).f1).length c243_1) ∧ w'.cell? ⟨gb244, 2, none⟩ = some (.int .i64 ((rd_T73 l0_5 x3_1).f2)) ∧ w'.cell? ⟨gb244, 3, none⟩ = some (.bool ((rd_T73 l0_5 x3_1).f3)) ∧ w'.cell? ⟨gb244, 4, none⟩ = some (.bool ((rd_T73 l0_5 x3_1).f4)) ∧ w'.cell? ⟨gb242, 0, none⟩ = some (.slice A0_0 l0_0.length c0_0) ∧ w'.cell? ⟨gb242, 1, none⟩ = some (.int .i64 a0_1) ∧ w'.cell? ⟨gb242, 2, none⟩ = some (.slice A0_2 l0_2.length c0_2) ∧ w'.cell? ⟨gb242, 3, none⟩ = some (.slice A0_3 l0_3.length c0_3) ∧ w'.cell? ⟨gb242, 4, none⟩ = some (.slice A0_4 l0_4.length c0_4) ∧ w'.cell? ⟨gb242, 5, none⟩ = some (.slice (some ad243) l0_5.length c0_5) ∧ w'.cell? ⟨gb242, 6, none⟩ = some (.slice (some ad248) l0_6.length c0_6) ∧ w'.cell? ⟨gb242, 7, none⟩ = some (.slice A0_7 l0_7.length c0_7) ∧ w'.cell? (ad248.add ((x3_1).toNat * 3)) = some (.int .i64 ((rd_T79 l0_6 x3_1).f0.f0)) ∧ w'.cell? ⟨(ad248.add ((x3_1).toNat * 3)).block, (ad248.add ((x3_1).toNat * 3)).off + 1, none⟩ = some (.int .i64 ((rd_T79 l0_6 x3_1).f0.f1)) ∧ w'.cell? ⟨(ad248.add ((x3_1).toNat * 3)).block, (ad248.add ((x3_1).toNat * 3)).off + 2, none⟩ = some (.int .i64 ((rd_T79 l0_6 x3_1).f1)) ∧ w'.cell? (ad248.add ((x3_1).toNat * 3)) = some (.int .i64 ((rd_T79 l0_6 x3_1).f0.f0)) ∧ w'.cell? ⟨(ad248.add ((x3_1).toNat * 3)).block, (ad248.add ((x3_1).toNat * 3)).off + 1, none⟩ = some (.int .i64 ((rd_T79 l0_6 x3_1).f0.f1)) ∧ w'.cell? ⟨(ad248.add ((x3_1).toNat * 3)).block, (ad248.add ((x3_1).toNat * 3)).off + 2, none⟩ = some (.int .i64 ((rd_T79 l0_6 x3_1).f1))) (ds := []) (ba_ 17 0) (by kernel_rfl) rfl rfl ⟨(blk_cell BK244.out 0).trans rfl, (blk_cell BK244.out 1).trans rfl, (blk_cell BK244.out 2).trans rfl, (blk_cell BK244.out 3).trans rfl, (blk_cell BK244.out 4).trans rfl, (blk_cell BK242.out 0).trans rfl, (blk_cell BK242.out 1).trans rfl, (blk_cell BK242.out 2).trans rfl, (blk_cell BK242.out 3).trans rfl, (blk_cell BK242.out 4).trans rfl, (blk_cell BK242.out 5).trans rfl, (blk_cell BK242.out 6).trans rfl, (blk_cell BK242.out 7).trans rfl, (cb_ HB hw248_0 :), (cb_ HB hw248_1 :), (cb_ HB hw248_2 :), (cb_ HB hw249_0 :), (cb_ HB hw249_1 :), (cb_ HB hw249_2 :)⟩ (fun hHeld => ?_); refine with_tabW spec_Sound.tab8 spec_Sound.bits8 (fun HT_ HW_ => ?_)
     generalize w17.drew = w18 at HO247 BK242 BK244 HB hx248_0 hx248_1 hx248_2 hx249_0 hx249_1 hx249_2 hHeld ⊢
     refine pz_ 1 30 (ba_ 17 2) (ao_ HT_) ?_
     refine pz_ 3 32 (ba_ 17 10) (ao_ HT_) ?_
     refine pz_ 7 36 (ba_ 17 138) (ao_ HT_) ?_
     refine pz_ 9 38 (ba_ 17 650) (ao_ HT_) ?_
     refine pz_ 13 42 (ba_ 17 8842) (ao_ HT_) ?_
     refine tz_ 0 29 (ba_ 17 8843) (take_ofW HT_.out HW_.out (by kernel_rfl)) hHeld ?_
     refine tz_ 2 31 (ba_ 17 8847) (take_ofW HT_.out HW_.out (by kernel_rfl)) hHeld ?_
     refine pz_ 4 33 (ba_ 17 8863) (ao_ HT_) ?_
     refine pz_ 5 34 (ba_ 17 8895) (ao_ HT_) ?_
     refine tz_ 6 35 (ba_ 17 8959) (take_ofW HT_.out HW_.out (by kernel_rfl)) hHeld ?_
     refine tz_ 8 37 (ba_ 17 9215) (take_ofW HT_.out HW_.out (by kernel_rfl)) hHeld ?_
     refine pz_ 10 39 (ba_ 17 10239) (ao_ HT_) ?_
     refine pz_ 11 40 (ba_ 17 12287) (ao_ HT_) ?_
     refine tz_ 12 41 (ba_ 17 16383) (take_ofW HT_.out HW_.out (by kernel_rfl)) hHeld ?_
     refine one_ (i := 14) (N := some 43) (ba_ 17 32767) rfl rfl (one_of HT_.out (by kernel_rfl)) (by decide) (fun K hK => ?_)
     refine goes_ Tryz.func35 (by kernel_rfl) rfl #[.slice Ao19 t245.length co19] (by rfl) rfl rfl (by (try simp only [List.map_toArray, List.map_cons, List.map_nil]); first | done | rfl | (simp only [List.length_drop, List.length_take]; rfl)) ?_
     with_reducible refine (spec_l16Least.calls k1 _ _ t245 t250 _ ?side1 ?side2 A10.out).mono ?_
     (case side1 => repeat (first | exact (Kd.R_reads' HO247.out).2.2 | (with_reducible refine Kd.C_alloc ?_ _) | (with_reducible refine Kd.C_drewN ?_ _) | (with_reducible refine Kd.C_drew ?_)))
     (case side2 => exact (Kd.R_reads' HO247.out).2.1)
     rintro e w' ⟨rfl, ⟨nd, rfl⟩⟩
     refine ⟨_, rfl, ?_⟩
     refine hK.out _ _ ⟨(blk_cell BK244.out 0).trans rfl, (blk_cell BK244.out 1).trans rfl, (blk_cell BK244.out 2).trans rfl, (blk_cell BK244.out 3).trans rfl, (blk_cell BK244.out 4).trans rfl, (blk_cell BK242.out 0).trans rfl, (blk_cell BK242.out 1).trans rfl, (blk_cell BK242.out 2).trans rfl, (blk_cell BK242.out 3).trans rfl, (blk_cell BK242.out 4).trans rfl, (blk_cell BK242.out 5).trans rfl, (blk_cell BK242.out 6).trans rfl, (blk_cell BK242.out 7).trans rfl, (cb_ HB hw248_0 :), (cb_ HB hw248_1 :), (cb_ HB hw248_2 :), (cb_ HB hw249_0 :), (cb_ HB hw249_1 :), (cb_ HB hw249_2 :)⟩ (fun hHeld => ?_)
     clear hK K
     refine norm_ (a' := ?_) ?_ ?_
     rotate_left
     ·show Act.put _ (some 43) _ = _
      simp only [Act.put, sb_, sz_, ss_, i64_w, i32_w]
      rfl
     refine one_ (i := 15) (N := some 44) (ba_ 17 65535) rfl rfl (one_of HT_.out (by kernel_rfl)) (by decide) (fun K hK => ?_)
     refine goes_ Tryz.func34 (by kernel_rfl) rfl #[.agg #[.bool ((rd_T73 l0_5 x3_1).f0), .slice A243_1 ((rd_T73 l0_5 x3_1).f1).length c243_1, .int .i64 ((rd_T73 l0_5 x3_1).f2), .bool ((rd_T73 l0_5 x3_1).f3), .bool ((rd_T73 l0_5 x3_1).f4)], .agg #[.int .i64 ((rd_T79 l0_6 x3_1).f0.f0), .int .i64 ((rd_T79 l0_6 x3_1).f0.f1)], .int .i64 ((rd_T79 l0_6 x3_1).f1), .int .i64 t250] (by rfl) rfl rfl (by (try simp only [List.map_toArray, List.map_cons, List.map_nil]); first | done | rfl | (simp only [List.length_drop, List.length_take]; rfl)) ?_
     with_reducible refine (spec_AnswerOk.calls k1 ((rd_T73 l0_5 x3_1).f0) _ _ ((rd_T73 l0_5 x3_1).f1) ((rd_T73 l0_5 x3_1).f2) ((rd_T73 l0_5 x3_1).f3) ((rd_T73 l0_5 x3_1).f4) ((rd_T79 l0_6 x3_1).f0.f0) ((rd_T79 l0_6 x3_1).f0.f1) ((rd_T79 l0_6 x3_1).f1) t250 t251 _ ?side1 ?side2 A11.out).mono ?_
     (case side1 => repeat (first | exact (Kd.C_below HR243_1.out bl_) | (with_reducible refine Kd.C_alloc ?_ _) | (with_reducible refine Kd.C_drewN ?_ _) | (with_reducible refine Kd.C_drew ?_)))
     (case side2 => exact HC243_1.out)
     rintro e w20 ⟨rfl, hb⟩
     refine ⟨_, rfl, ?_⟩
     replace HO247 := hob_ HO247 hb
     replace BK242 := bkb_ BK242 hb
     replace BK244 := bkb_ BK244 hb
     replace HB := hbs_ hb
     (try clear hb)
     (try clear hb2)
     (try clear hk)
     (try clear hi)
     refine hK.out _ _ ⟨(blk_cell BK244.out 0).trans rfl, (blk_cell BK244.out 1).trans rfl, (blk_cell BK244.out 2).trans rfl, (blk_cell BK244.out 3).trans rfl, (blk_cell BK244.out 4).trans rfl, (blk_cell BK242.out 0).trans rfl, (blk_cell BK242.out 1).trans rfl, (blk_cell BK242.out 2).trans rfl, (blk_cell BK242.out 3).trans rfl, (blk_cell BK242.out 4).trans rfl, (blk_cell BK242.out 5).trans rfl, (blk_cell BK242.out 6).trans rfl, (blk_cell BK242.out 7).trans rfl, (cb_ HB hw248_0 :), (cb_ HB hw248_1 :), (cb_ HB hw248_2 :), (cb_ HB hw249_0 :), (cb_ HB hw249_1 :), (cb_ HB hw249_2 :)⟩ (fun hHeld => ?_)
     clear hK K
     refine norm_ (a' := ?_) ?_ ?_
     rotate_left
     ·show Act.put _ (some 44) _ = _
      simp only [Act.put, sb_, sz_, ss_, i64_w, i32_w]
      rfl
     refine pz_ 16 45 (ba_ 17 131071) (ao_ HT_) ?_
     refine done_ (done_of HT_.out (by kernel_rfl)) ?_
     go_upto_if 45 with (fail)
     have H := HC12.out
     clear HC12
     by_cases c21 : t251 = true
     ·subst c21
      replace H := ite_t_ H
      have H' := aa_ H
      clear H
      go_wp2
      go_loopg [6] k1 (fun kq v6 w' => ∃ (x6_2 : Int), v6 = .int .i64 x6_2 ∧ Aside0 (spec_Sound.l1 kq x3_1 t245 x6_2 l0_0 a0_1 l0_2 l0_3 l0_4 l0_5 l0_6 l0_7 = some r) ∧ Aside0 (kq ≤ k1) ∧ Aside0 (Kd.R k83 83 w' w.heap.size (fun _ => True) (.slice Ao19 t245.length co19) t245) ∧ Aside0 (w'.heap[gb242]? = some (.cells #[(.slice A0_0 l0_0.length c0_0), .int .i64 a0_1, (.slice A0_2 l0_2.length c0_2), (.slice A0_3 l0_3.length c0_3), (.slice A0_4 l0_4.length c0_4), (.slice (some ad243) l0_5.length c0_5), (.slice (some ad248) l0_6.length c0_6), (.slice A0_7 l0_7.length c0_7)] 40 (0, 0))) ∧ Aside0 (w'.heap[gb244]? = some (.cells #[.bool ((rd_T73 l0_5 x3_1).f0), (.slice A243_1 ((rd_T73 l0_5 x3_1).f1).length c243_1), .int .i64 ((rd_T73 l0_5 x3_1).f2), .bool ((rd_T73 l0_5 x3_1).f3), .bool ((rd_T73 l0_5 x3_1).f4)] 73 (0, 0))) ∧ Aside0 (Below w.heap.size w w'))
      case atStart => exact ⟨(0), rf_, H', ⟨Nat.le_refl _⟩, ⟨rr_ HO247⟩, ⟨bk_ BK242⟩, ⟨bk_ BK244⟩, ⟨bl_⟩⟩
      case round =>
       clear H'
       try clear p2
       try clear q2
       try clear hx2
       try clear c5b0
       try clear c5b1
       try clear c5b2
       try clear c6b0
       try clear c7b0
       try clear c9b0
       try clear hcz13
       try clear hcz16
       try clear hcz4
       try clear hfz13
       try clear hfz16
       try clear hfz4
       try clear hx243_0
       try clear hx243_1
       try clear hx243_2
       try clear hx243_3
       try clear hx243_4
       try clear hx248_0
       try clear hx248_1
       try clear hx248_2
       try clear hx249_0
       try clear hx249_1
       try clear hx249_2
       try clear p2
       try clear p243
       try clear p248
       try clear p249
       try clear q243
       try clear q248
       try clear q249
       obtain ⟨x6_2, rfl, HA, HK2, HO_5, BK242, BK244, HB⟩ := hrel
       cases gk with
       | zero => exact absurd HA.out (by simp [spec_Sound.l1])
       | succ k2 =>
        have H := HA.out
        clear HA
        simp only [spec_Sound.l1] at H
        by_cases c22 : x6_2 < (t245.length : Int)
        ·rw [if_pos c22] at H
         have c22b0 : decide (x6_2 < (t245.length : Int)) = true := decide_eq_true c22
         clear c22
         (first | rw [c22b0] | (simp only [i64_w, i32_w]; rw [c22b0]) | (have cz_ := c22b0; simp only [Int.ofNat_lt, Int.ofNat_le, gt_iff_lt, ge_iff_le] at cz_; rw [cz_]; clear cz_) | skip)
         obtain ⟨c23b0, H⟩ := ifd_ H
         obtain ⟨t253, A24, H⟩ := bindE_ H
         have HC25 := aa_ H
         clear H
         try go_wp2
         replace HO_5 := aa_ (Kd.R_drew HO_5.out)
         replace BK242 := aa_ (blk_drew BK242.out)
         replace BK244 := aa_ (blk_drew BK244.out)
         replace HB := aa_ (below_drew1 HB.out)
         have p252 : 0 ≤ (x6_2 : Int) := od_
         have q252 : x6_2 < (t245.length : Int) := od_
         obtain ⟨ad252, e252, hx252_0, hx252_1, hx252_2, hx252_3, hx252_4, hx252_5, hx252_6, hx252_7, hx252_8, hx252_9⟩ := at_T83 (Kd.R_reads' HO_5.out).2.2 x6_2 p252 q252
         cases e252
         replace p252 := eq_true p252
         replace q252 := eq_true q252
         refine start_ (n := 8) (S := fun w' => w'.cell? ⟨gb242, 0, none⟩ = some (.slice A0_0 l0_0.length c0_0) ∧ w'.cell? ⟨gb242, 1, none⟩ = some (.int .i64 a0_1) ∧ w'.cell? ⟨gb242, 2, none⟩ = some (.slice A0_2 l0_2.length c0_2) ∧ w'.cell? ⟨gb242, 3, none⟩ = some (.slice A0_3 l0_3.length c0_3) ∧ w'.cell? ⟨gb242, 4, none⟩ = some (.slice A0_4 l0_4.length c0_4) ∧ w'.cell? ⟨gb242, 5, none⟩ = some (.slice (some ad243) l0_5.length c0_5) ∧ w'.cell? ⟨gb242, 6, none⟩ = some (.slice (some ad248) l0_6.length c0_6) ∧ w'.cell? ⟨gb242, 7, none⟩ = some (.slice A0_7 l0_7.length c0_7) ∧ w'.cell? (ad252.add ((x6_2).toNat * 10)) = some (.int .i64 ((rd_T83 t245 x6_2).f0)) ∧ w'.cell? ⟨(ad252.add ((x6_2).toNat * 10)).block, (ad252.add ((x6_2).toNat * 10)).off + 1, none⟩ = some (.int .i64 ((rd_T83 t245 x6_2).f1.f0)) ∧ w'.cell? ⟨(ad252.add ((x6_2).toNat * 10)).block, (ad252.add ((x6_2).toNat * 10)).off + 2, none⟩ = some (.int .i64 ((rd_T83 t245 x6_2).f1.f1)) ∧ w'.cell? ⟨(ad252.add ((x6_2).toNat * 10)).block, (ad252.add ((x6_2).toNat * 10)).off + 3, none⟩ = some (.int .i64 ((rd_T83 t245 x6_2).f2)) ∧ w'.cell? ⟨(ad252.add ((x6_2).toNat * 10)).block, (ad252.add ((x6_2).toNat * 10)).off + 4, none⟩ = some (.int .i64 ((rd_T83 t245 x6_2).f3.f0)) ∧ w'.cell? ⟨(ad252.add ((x6_2).toNat * 10)).block, (ad252.add ((x6_2).toNat * 10)).off + 5, none⟩ = some (.int .i64 ((rd_T83 t245 x6_2).f3.f1)) ∧ w'.cell? ⟨(ad252.add ((x6_2).toNat * 10)).block, (ad252.add ((x6_2).toNat * 10)).off + 6, none⟩ = some (.int .i64 ((rd_T83 t245 x6_2).f4.f0)) ∧ w'.cell? ⟨(ad252.add ((x6_2).toNat * 10)).block, (ad252.add ((x6_2).toNat * 10)).off + 7, none⟩ = some (.int .i64 ((rd_T83 t245 x6_2).f4.f1)) ∧ w'.cell? ⟨(ad252.add ((x6_2).toNat * 10)).block, (ad252.add ((x6_2).toNat * 10)).off + 8, none⟩ = some (.int .i64 ((rd_T83 t245 x6_2).f5)) ∧ w'.cell? ⟨(ad252.add ((x6_2).toNat * 10)).block, (ad252.add ((x6_2).toNat * 10)).off + 9, none⟩ = some (.int .i64 ((rd_T83 t245 x6_2).f6))) (ds := []) (ba_ 8 0) (by kernel_rfl) rfl rfl ⟨(blk_cell BK242.out 0).trans rfl, (blk_cell BK242.out 1).trans rfl, (blk_cell BK242.out 2).trans rfl, (blk_cell BK242.out 3).trans rfl, (blk_cell BK242.out 4).trans rfl, (blk_cell BK242.out 5).trans rfl, (blk_cell BK242.out 6).trans rfl, (blk_cell BK242.out 7).trans rfl, hx252_0, hx252_1, hx252_2, hx252_3, hx252_4, hx252_5, hx252_6, hx252_7, hx252_8, hx252_9⟩ (fun hHeld => ?_); refine with_tabW spec_Sound.tab13 spec_Sound.bits13 (fun HT_ HW_ => ?_)
         generalize wr.drew = w26 at HO_5 BK242 BK244 HB hx252_0 hx252_1 hx252_2 hx252_3 hx252_4 hx252_5 hx252_6 hx252_7 hx252_8 hx252_9 hHeld ⊢
         refine pz_ 0 52 (ba_ 8 1) (ao_ HT_) ?_
         refine pz_ 2 54 (ba_ 8 5) (ao_ HT_) ?_
         refine pz_ 3 55 (ba_ 8 13) (ao_ HT_) ?_
         refine pz_ 4 56 (ba_ 8 29) (ao_ HT_) ?_
         refine tz_ 1 53 (ba_ 8 31) (take_ofW HT_.out HW_.out (by kernel_rfl)) hHeld ?_
         refine tz_ 5 57 (ba_ 8 63) (take_ofW HT_.out HW_.out (by kernel_rfl)) hHeld ?_
         refine one_ (i := 6) (N := some 58) (ba_ 8 127) rfl rfl (one_of HT_.out (by kernel_rfl)) (by decide) (fun K hK => ?_)
         refine goes_ Tryz.func36 (by kernel_rfl) rfl #[.slice A0_3 l0_3.length c0_3, .agg #[.int .i64 ((rd_T83 t245 x6_2).f0), .int .i64 ((rd_T83 t245 x6_2).f1.f0), .int .i64 ((rd_T83 t245 x6_2).f1.f1), .int .i64 ((rd_T83 t245 x6_2).f2), .int .i64 ((rd_T83 t245 x6_2).f3.f0), .int .i64 ((rd_T83 t245 x6_2).f3.f1), .int .i64 ((rd_T83 t245 x6_2).f4.f0), .int .i64 ((rd_T83 t245 x6_2).f4.f1), .int .i64 ((rd_T83 t245 x6_2).f5), .int .i64 ((rd_T83 t245 x6_2).f6)]] (by rfl) rfl rfl (by (try simp only [List.map_toArray, List.map_cons, List.map_nil]); first | done | rfl | (simp only [List.length_drop, List.length_take]; rfl)) ?_
         with_reducible refine (spec_l14Said.calls k2 _ _ l0_3 ((rd_T83 t245 x6_2).f0) ((rd_T83 t245 x6_2).f1.f0) ((rd_T83 t245 x6_2).f1.f1) ((rd_T83 t245 x6_2).f2) ((rd_T83 t245 x6_2).f3.f0) ((rd_T83 t245 x6_2).f3.f1) ((rd_T83 t245 x6_2).f4.f0) ((rd_T83 t245 x6_2).f4.f1) ((rd_T83 t245 x6_2).f5) ((rd_T83 t245 x6_2).f6) t253 _ ?side1 ?side2 A24.out).mono ?_
         (case side1 => repeat (first | exact (Kd.C_below HR0_3.out HB.out) | (with_reducible refine Kd.C_alloc ?_ _) | (with_reducible refine Kd.C_drewN ?_ _) | (with_reducible refine Kd.C_drew ?_)))
         (case side2 => exact HC0_3.out)
         rintro e w27 ⟨rfl, hb⟩
         have HS8_ := (hb.cell (World.block_lt_of_cell? _ _ (hHeld.2.2.2.2.2.2.2.2.1))).trans (hHeld.2.2.2.2.2.2.2.2.1)
         have HS9_ := (hb.cell (World.block_lt_of_cell? _ _ (hHeld.2.2.2.2.2.2.2.2.2.1))).trans (hHeld.2.2.2.2.2.2.2.2.2.1)
         have HS10_ := (hb.cell (World.block_lt_of_cell? _ _ (hHeld.2.2.2.2.2.2.2.2.2.2.1))).trans (hHeld.2.2.2.2.2.2.2.2.2.2.1)
         have HS11_ := (hb.cell (World.block_lt_of_cell? _ _ (hHeld.2.2.2.2.2.2.2.2.2.2.2.1))).trans (hHeld.2.2.2.2.2.2.2.2.2.2.2.1)
         have HS12_ := (hb.cell (World.block_lt_of_cell? _ _ (hHeld.2.2.2.2.2.2.2.2.2.2.2.2.1))).trans (hHeld.2.2.2.2.2.2.2.2.2.2.2.2.1)
         have HS13_ := (hb.cell (World.block_lt_of_cell? _ _ (hHeld.2.2.2.2.2.2.2.2.2.2.2.2.2.1))).trans (hHeld.2.2.2.2.2.2.2.2.2.2.2.2.2.1)
         have HS14_ := (hb.cell (World.block_lt_of_cell? _ _ (hHeld.2.2.2.2.2.2.2.2.2.2.2.2.2.2.1))).trans (hHeld.2.2.2.2.2.2.2.2.2.2.2.2.2.2.1)
         have HS15_ := (hb.cell (World.block_lt_of_cell? _ _ (hHeld.2.2.2.2.2.2.2.2.2.2.2.2.2.2.2.1))).trans (hHeld.2.2.2.2.2.2.2.2.2.2.2.2.2.2.2.1)
         have HS16_ := (hb.cell (World.block_lt_of_cell? _ _ (hHeld.2.2.2.2.2.2.2.2.2.2.2.2.2.2.2.2.1))).trans (hHeld.2.2.2.2.2.2.2.2.2.2.2.2.2.2.2.2.1)
         have HS17_ := (hb.cell (World.block_lt_of_cell? _ _ (hHeld.2.2.2.2.2.2.2.2.2.2.2.2.2.2.2.2.2))).trans (hHeld.2.2.2.2.2.2.2.2.2.2.2.2.2.2.2.2.2)
         refine ⟨_, rfl, ?_⟩
         replace HO_5 := hob_ HO_5 hb
         replace BK242 := bkb_ BK242 hb
         replace BK244 := bkb_ BK244 hb
         replace HB := hbs_ hb
         (try clear hb)
         (try clear hb2)
         (try clear hk)
         (try clear hi)
         refine hK.out _ _ ⟨(blk_cell BK242.out 0).trans rfl, (blk_cell BK242.out 1).trans rfl, (blk_cell BK242.out 2).trans rfl, (blk_cell BK242.out 3).trans rfl, (blk_cell BK242.out 4).trans rfl, (blk_cell BK242.out 5).trans rfl, (blk_cell BK242.out 6).trans rfl, (blk_cell BK242.out 7).trans rfl, HS8_, HS9_, HS10_, HS11_, HS12_, HS13_, HS14_, HS15_, HS16_, HS17_⟩ (fun hHeld => ?_)
         clear hK K
         refine norm_ (a' := ?_) ?_ ?_
         rotate_left
         ·show Act.put _ (some 58) _ = _
          simp only [Act.put, sb_, sz_, ss_, i64_w, i32_w]
          rfl
         refine pz_ 7 59 (ba_ 8 255) (ao_ HT_) ?_
         refine done_ (done_of HT_.out (by kernel_rfl)) ?_
         go_upto_if 59 with (fail)
         have H := HC25.out
         clear HC25
         by_cases c28 : t253 = true
         ·subst c28
          replace H := ite_t_ H
          have H' := aa_ H
          clear H
          go_wp2
          go_roundg k2
          case measure => have := HK1.out; have := HK2.out; omega
          case rel => exact ⟨(wrap64 (x6_2 + 1)), rf_, H', ⟨by have := HK1.out; have := HK2.out; omega⟩, ⟨rr_ HO_5⟩, ⟨bk_ BK242⟩, ⟨bk_ BK244⟩, ⟨bl_⟩⟩
         ·replace c28 := Bool.eq_false_iff.mpr c28
          subst c28
          replace H := ite_f_ H
          obtain rfl := Option.some.inj H
          go_wp2
          go_ret
          exact ⟨eq_, bl_⟩
        ·rw [if_neg c22] at H
         have c22b0 : decide (x6_2 < (t245.length : Int)) = false := decide_eq_false c22
         clear c22
         (first | rw [c22b0] | (simp only [i64_w, i32_w]; rw [c22b0]) | (have cz_ := c22b0; simp only [Int.ofNat_lt, Int.ofNat_le, gt_iff_lt, ge_iff_le] at cz_; rw [cz_]; clear cz_) | skip)
         have H' := aa_ H
         clear H
         go_wp2
         go_roundg k2
         case measure => have := HK1.out; have := HK2.out; omega
         case rel => exact ⟨(wrap64 (x3_1 + 1)), rf_, H', ⟨by have := HK1.out; have := HK2.out; omega⟩, ⟨bk_ BK242⟩, ⟨bl_⟩⟩
     ·replace c21 := Bool.eq_false_iff.mpr c21
      subst c21
      replace H := ite_f_ H
      obtain rfl := Option.some.inj H
      go_wp2
      go_ret
      exact ⟨eq_, bl_⟩
    ·rw [if_neg c6] at H
     have c6b0 : decide (x3_1 < (l0_5.length : Int)) = false := decide_eq_false c6
     clear c6
     obtain rfl := Option.some.inj H
     have hcz29 := blk_cell BK242.out
     have hfz29 := blk_frozen BK242.out
     go_wp2
     go_ret
     exact ⟨eq_, bl_⟩
 ·rw [if_neg c5] at H
  have c5b0 : ((l0_5.length : Int) == (l0_6.length : Int)) = false := beq_eq_false_iff_ne.mpr c5
  have c5b1 : ((l0_5.length : Int) != (l0_6.length : Int)) = true := bne_iff_ne.mpr c5
  have c5b2 : (l0_5.length == l0_6.length) = false := by first | simpa using c5 | (simp at c5 ⊢; omega)
  (first | rw [c5b1] | rw [c5b0] | (simp only [i64_w, i32_w]; rw [c5b0]) | (have cz_ := c5b0; simp only [Int.ofNat_lt, Int.ofNat_le, gt_iff_lt, ge_iff_le] at cz_; rw [cz_]; clear cz_) | skip)
  obtain rfl := Option.some.inj H
  go_wp2
  go_ret
  exact ⟨eq_, bl_⟩
def spec_SoundWorld.f (k : Nat) (l0_0 : List (S68)) (a0_1 : Int) (l0_2 : List Int) (l0_3 : List (S83)) (l0_4 : List (S83)) (l0_5 : List (S73)) (l0_6 : List (S79)) (l0_7 : List Int) : Option (Bool) := (spec_RingOk.f k l0_0).bind fun t255 => (if t255 = true then ((spec_Sound.f k l0_0 a0_1 l0_2 l0_3 l0_4 l0_5 l0_6 l0_7).bind fun t256 => (some t256)) else (some false))
set_option maxHeartbeats 8000000 in
set_option maxRecDepth 100000 in
theorem spec_SoundWorld.calls (k : Nat) (A0_0 : Option Addr) (c0_0 : Nat) (l0_0 : List (S68)) (a0_1 : Int) (A0_2 : Option Addr) (c0_2 : Nat) (l0_2 : List Int) (A0_3 : Option Addr) (c0_3 : Nat) (l0_3 : List (S83)) (A0_4 : Option Addr) (c0_4 : Nat) (l0_4 : List (S83)) (A0_5 : Option Addr) (c0_5 : Nat) (l0_5 : List (S73)) (A0_6 : Option Addr) (c0_6 : Nat) (l0_6 : List (S79)) (A0_7 : Option Addr) (c0_7 : Nat) (l0_7 : List Int) (r : Bool) (w : World) (hr0_0 : Kd.C k68 w A0_0 l0_0.length l0_0) (hc0_0 : l0_0.length ≤ c0_0) (hr0_2 : Kd.C (Kd.int .i64) w A0_2 l0_2.length l0_2) (hc0_2 : l0_2.length ≤ c0_2) (hr0_3 : Kd.C k83 w A0_3 l0_3.length l0_3) (hc0_3 : l0_3.length ≤ c0_3) (hr0_4 : Kd.C k83 w A0_4 l0_4.length l0_4) (hc0_4 : l0_4.length ≤ c0_4) (hr0_5 : Kd.C k73 w A0_5 l0_5.length l0_5) (hc0_5 : l0_5.length ≤ c0_5) (hr0_6 : Kd.C k79 w A0_6 l0_6.length l0_6) (hc0_6 : l0_6.length ≤ c0_6) (hr0_7 : Kd.C (Kd.int .i64) w A0_7 l0_7.length l0_7) (hc0_7 : l0_7.length ≤ c0_7) (h : spec_SoundWorld.f k l0_0 a0_1 l0_2 l0_3 l0_4 l0_5 l0_6 l0_7 = some r) :
  Calls Tryz.prog 5 #[.agg #[.slice A0_0 l0_0.length c0_0, .int .i64 a0_1, .slice A0_2 l0_2.length c0_2, .slice A0_3 l0_3.length c0_3, .slice A0_4 l0_4.length c0_4, .slice A0_5 l0_5.length c0_5, .slice A0_6 l0_6.length c0_6, .slice A0_7 l0_7.length c0_7]] w fun e w' => e = .returned (.bool r) ∧ Below w.heap.size w w' := by
 have hu40 := Tryz.underlying40
 have hu35 := Tryz.underlying35
 have HR0_0 := aa_ hr0_0
 have HC0_0 := aa_ hc0_0
 clear hr0_0 hc0_0
 have HR0_2 := aa_ hr0_2
 have HC0_2 := aa_ hc0_2
 clear hr0_2 hc0_2
 have HR0_3 := aa_ hr0_3
 have HC0_3 := aa_ hc0_3
 clear hr0_3 hc0_3
 have HR0_4 := aa_ hr0_4
 have HC0_4 := aa_ hc0_4
 clear hr0_4 hc0_4
 have HR0_5 := aa_ hr0_5
 have HC0_5 := aa_ hc0_5
 clear hr0_5 hc0_5
 have HR0_6 := aa_ hr0_6
 have HC0_6 := aa_ hc0_6
 clear hr0_6 hc0_6
 have HR0_7 := aa_ hr0_7
 have HC0_7 := aa_ hc0_7
 clear hr0_7 hc0_7
 have HB := aa_ (Below.refl w.heap.size w)
 have H : ((spec_RingOk.f k l0_0).bind fun t255 => (if t255 = true then ((spec_Sound.f k l0_0 a0_1 l0_2 l0_3 l0_4 l0_5 l0_6 l0_7).bind fun t256 => (some t256)) else (some false))) = some r := h
 clear h
 obtain ⟨t255, A2, H⟩ := bindE_ H
 by_cases c3 : t255 = true
 ·subst c3
  replace H := ite_t_ H
  obtain ⟨t256, A4, H⟩ := bindE_ H
  obtain rfl := Option.some.inj H
  go_enter Tryz.func5, Tryz.ntmps5
  go_wp2_with (first | ((with_reducible refine gD_ 1 rfl ?_); refine bx_ (N := 1) (cs := #[.slice A0_0 l0_0.length c0_0, .int .i64 a0_1, .slice A0_2 l0_2.length c0_2, .slice A0_3 l0_3.length c0_3, .slice A0_4 l0_4.length c0_4, .slice A0_5 l0_5.length c0_5, .slice A0_6 l0_6.length c0_6, .slice A0_7 l0_7.length c0_7]) (t := 40) ?_; intro gb254 hg w5 hbox hb; have BK254 := aa_ (hbox); have GW254 := gs_ hg; have GE254 := gs_ hg; replace HB := hbs_ hb; clear hb hbox hg; obtain ⟨hcz6, hfz6⟩ := bcf_ BK254) | ((with_reducible refine gC_ 14 rfl ?_); refine goesC_ (some 5) Tryz.func14 #[.agg #[.slice A0_0 l0_0.length c0_0]] ?_; (with_reducible refine (spec_RingOk.calls k _ _ l0_0 true _ ?side1 ?side2 A2.out).mono ?_); (case side1 => repeat (first | exact (Kd.C_below HR0_0.out HB.out) | (with_reducible refine Kd.C_alloc ?_ _) | (with_reducible refine Kd.C_drewN ?_ _) | (with_reducible refine Kd.C_drew ?_))); (case side2 => exact HC0_0.out); rintro e w7 ⟨rfl, hb⟩; refine ⟨_, rfl, ?_⟩; replace BK254 := bkb_ BK254 hb; replace HB := hbs_ hb; clear hb; obtain ⟨hcz8, hfz8⟩ := bcf_ BK254) | (go_at_call 15; (with_reducible refine (spec_Sound.calls k _ _ l0_0 a0_1 _ _ l0_2 _ _ l0_3 _ _ l0_4 _ _ l0_5 _ _ l0_6 _ _ l0_7 t256 _ ?side1 ?side2 ?side3 ?side4 ?side5 ?side6 ?side7 ?side8 ?side9 ?side10 ?side11 ?side12 ?side13 ?side14 A4.out).mono ?_); (case side1 => repeat (first | exact (Kd.C_below HR0_0.out HB.out) | (with_reducible refine Kd.C_alloc ?_ _) | (with_reducible refine Kd.C_drewN ?_ _) | (with_reducible refine Kd.C_drew ?_))); (case side2 => exact HC0_0.out); (case side3 => repeat (first | exact (Kd.C_below HR0_2.out HB.out) | (with_reducible refine Kd.C_alloc ?_ _) | (with_reducible refine Kd.C_drewN ?_ _) | (with_reducible refine Kd.C_drew ?_))); (case side4 => exact HC0_2.out); (case side5 => repeat (first | exact (Kd.C_below HR0_3.out HB.out) | (with_reducible refine Kd.C_alloc ?_ _) | (with_reducible refine Kd.C_drewN ?_ _) | (with_reducible refine Kd.C_drew ?_))); (case side6 => exact HC0_3.out); (case side7 => repeat (first | exact (Kd.C_below HR0_4.out HB.out) | (with_reducible refine Kd.C_alloc ?_ _) | (with_reducible refine Kd.C_drewN ?_ _) | (with_reducible refine Kd.C_drew ?_))); (case side8 => exact HC0_4.out); (case side9 => repeat (first | exact (Kd.C_below HR0_5.out HB.out) | (with_reducible refine Kd.C_alloc ?_ _) | (with_reducible refine Kd.C_drewN ?_ _) | (with_reducible refine Kd.C_drew ?_))); (case side10 => exact HC0_5.out); (case side11 => repeat (first | exact (Kd.C_below HR0_6.out HB.out) | (with_reducible refine Kd.C_alloc ?_ _) | (with_reducible refine Kd.C_drewN ?_ _) | (with_reducible refine Kd.C_drew ?_))); (case side12 => exact HC0_6.out); (case side13 => repeat (first | exact (Kd.C_below HR0_7.out HB.out) | (with_reducible refine Kd.C_alloc ?_ _) | (with_reducible refine Kd.C_drewN ?_ _) | (with_reducible refine Kd.C_drew ?_))); (case side14 => exact HC0_7.out); rintro e w9 ⟨rfl, hb⟩; replace BK254 := bkb_ BK254 hb; replace HB := hbs_ hb; clear hb))
  go_ret
  exact ⟨eq_, bl_⟩
 ·replace c3 := Bool.eq_false_iff.mpr c3
  subst c3
  replace H := ite_f_ H
  obtain rfl := Option.some.inj H
  go_enter Tryz.func5, Tryz.ntmps5
  go_wp2_with (first | ((with_reducible refine gD_ 1 rfl ?_); refine bx_ (N := 1) (cs := #[.slice A0_0 l0_0.length c0_0, .int .i64 a0_1, .slice A0_2 l0_2.length c0_2, .slice A0_3 l0_3.length c0_3, .slice A0_4 l0_4.length c0_4, .slice A0_5 l0_5.length c0_5, .slice A0_6 l0_6.length c0_6, .slice A0_7 l0_7.length c0_7]) (t := 40) ?_; intro gb254 hg w10 hbox hb; have BK254 := aa_ (hbox); have GW254 := gs_ hg; have GE254 := gs_ hg; replace HB := hbs_ hb; clear hb hbox hg; obtain ⟨hcz11, hfz11⟩ := bcf_ BK254) | ((with_reducible refine gC_ 14 rfl ?_); refine goesC_ (some 5) Tryz.func14 #[.agg #[.slice A0_0 l0_0.length c0_0]] ?_; (with_reducible refine (spec_RingOk.calls k _ _ l0_0 false _ ?side1 ?side2 A2.out).mono ?_); (case side1 => repeat (first | exact (Kd.C_below HR0_0.out HB.out) | (with_reducible refine Kd.C_alloc ?_ _) | (with_reducible refine Kd.C_drewN ?_ _) | (with_reducible refine Kd.C_drew ?_))); (case side2 => exact HC0_0.out); rintro e w12 ⟨rfl, hb⟩; refine ⟨_, rfl, ?_⟩; replace BK254 := bkb_ BK254 hb; replace HB := hbs_ hb; clear hb))
  go_ret
  exact ⟨eq_, bl_⟩
def laws_toIntS.l0 : Nat → List Int → List Int → Int → Option (List Int)
 | 0, _, _, _ => none
 | k + 1, x0, x3, x4 => if x4 < (x0.length : Int) then (if 0 ≤ x4 then (if x4 < (x3.length : Int) then (laws_toIntS.l0 k x0 (x3.set (x4 : Int).toNat (rd x0 x4)) (wrap64 (x4 + 1))) else (none)) else (none)) else (some x3)
def laws_toIntS.f (k : Nat) (l0 : List Int) : Option (List Int) := if 0 ≤ (l0.length : Int) then (if ((l0.length : Int) : Int).toNat ≤ 35184372088832 then (laws_toIntS.l0 k l0 (List.replicate ((l0.length : Int) : Int).toNat 0) 0) else (none)) else (none)
set_option maxHeartbeats 8000000 in
set_option maxRecDepth 100000 in
theorem laws_toIntS.calls (k : Nat) (A0 : Option Addr) (c0 : Nat) (l0 : List Int) (r : List Int) (w : World) (hr0 : Kd.C (Kd.int .i64) w A0 l0.length l0) (hc0 : l0.length ≤ c0) (h : laws_toIntS.f k l0 = some r) :
  Calls Tryz.prog 17 #[.slice A0 l0.length c0] w fun e w' => ∃ v0_ : Value, e = .returned (v0_) ∧ Kd.R (Kd.int .i64) 3 w' w.heap.size (fun _ => True) v0_ r ∧ Below w.heap.size w w' := by
 have HR0 := aa_ hr0
 have HC0 := aa_ hc0
 clear hr0 hc0
 have HB := aa_ (Below.refl w.heap.size w)
 have H : (if 0 ≤ (l0.length : Int) then (if ((l0.length : Int) : Int).toNat ≤ 35184372088832 then (laws_toIntS.l0 k l0 (List.replicate ((l0.length : Int) : Int).toNat 0) 0) else (none)) else (none)) = some r := h
 clear h
 obtain ⟨c2, H⟩ := ifn_ H
 have c2b0 := eq_true c2
 have c2b1 : decide (0 ≤ (l0.length : Int)) = true := decide_eq_true c2
 clear c2
 obtain ⟨c3, H⟩ := ifn_ H
 have c3b0 := eq_true c3
 have c3b1 : decide (((l0.length : Int) : Int).toNat ≤ 35184372088832) = true := decide_eq_true c3
 clear c3
 obtain ⟨y257, hy257⟩ : ∃ y_ : List Int, y_ = (List.replicate ((l0.length : Int) : Int).toNat 0) := ⟨_, rfl⟩
 replace H : (laws_toIntS.l0 k l0 y257 0) = some r := rh_ hy257 H
 have Ny257 := aa_ hy257
 clear hy257
 have H' := aa_ H
 clear H
 go_enter Tryz.func17, Tryz.ntmps17
 go_wp2_with (first | ((with_reducible refine gD_ 7 rfl ?_); refine Kd.R_make (Kd.int .i64) _ 3 rfl (N := 7) rfl 25 _ _ rfl (l0.length : Int) rfl rfl Tryz.underlying25 (.int .i64 0) 8 info3 rfl (by decide) (by omega) 0 (ok := fun _ => True) (okp := fun _ => True) rfl (fun _ hk => hk) trivial (od_) (Nat.le_trans (Nat.mul_le_mul_right _ (od_ : (l0.length : Int).toNat ≤ 35184372088832)) (by omega)) (Below.refl _ _) (Nat.le_refl _) ?_; intro v258 w4 ho5 hb hg_ hnew_; clear hg_ hnew_; (first | rw [← Ny257.out] at ho5 | (simp only [Int.reduceToNat] at ho5; rw [← Ny257.out] at ho5)); have HO259 := aa_ (Kd.R_lower ho5 bls_); replace HB := hbs_ hb; clear hb ho5))
 go_loopg [4] k (fun kq v4 w' => ∃ (x3_1 : List Int) (x4_1 : Int), v4 = .int .i64 x4_1 ∧ Aside0 (laws_toIntS.l0 kq l0 x3_1 x4_1 = some r) ∧ Aside0 (kq ≤ k) ∧ Aside0 (Kd.R (Kd.int .i64) 3 w' w.heap.size (fun _ => True) v258 x3_1) ∧ Aside0 (Below w.heap.size w w'))
 case atStart => exact ⟨(y257), (0), rf_, H', ⟨Nat.le_refl _⟩, ⟨rr_ HO259⟩, ⟨bl_⟩⟩
 case round =>
  clear H'
  try clear c2b0
  try clear c2b1
  try clear p2
  try clear c3b0
  try clear c3b1
  obtain ⟨x3_1, x4_1, rfl, HA, HK1, HO_3, HB⟩ := hrel
  cases gk with
  | zero => exact absurd HA.out (by simp [laws_toIntS.l0])
  | succ k1 =>
   have H := HA.out
   clear HA
   simp only [laws_toIntS.l0] at H
   by_cases c6 : x4_1 < (l0.length : Int)
   ·rw [if_pos c6] at H
    have c6b0 : decide (x4_1 < (l0.length : Int)) = true := decide_eq_true c6
    clear c6
    obtain ⟨c7b0, H⟩ := ifd_ H
    obtain ⟨c8b0, H⟩ := ifd_ H
    obtain ⟨y261, hy261⟩ : ∃ y_ : List Int, y_ = (x3_1.set (x4_1 : Int).toNat (rd l0 x4_1)) := ⟨_, rfl⟩
    replace H : (laws_toIntS.l0 k1 l0 y261 (wrap64 (x4_1 + 1))) = some r := rh_ hy261 H
    have Ny261 := aa_ hy261
    clear hy261
    have H' := aa_ H
    clear H
    have p260 : 0 ≤ (x4_1 : Int) := od_
    have q260 : x4_1 < (l0.length : Int) := od_
    obtain ⟨ad260, e260, hx260_0⟩ := Kd.at_int (Kd.C_below HR0.out HB.out) x4_1 p260 q260
    cases e260
    replace p260 := eq_true p260
    replace q260 := eq_true q260
    have p9 : 0 ≤ (x4_1 : Int) := od_
    have q9 : (x4_1 : Int) < ((x3_1.length : Int) : Int) := od_
    obtain ⟨go9, co9, eo9, gb9, gl9, cl9, HG9⟩ := Kd.R_form HO_3.out (by omega)
    (first | cases eo9 | (injection eo9 with ea_ en_ ec_; (first | subst ea_ | (injection ea_ with ea_; subst ea_)); subst ec_; clear en_))
    have GB9 := aa_ gb9
    have GG9 := aa_ HG9
    clear gb9 gl9 HG9
    obtain ⟨hx9_0, hf9_0⟩ := Kd.R_celln 0 HO_3.out (x4_1 : Int) p9 q9
    replace p9 := eq_true p9
    replace q9 := eq_true q9
    have HP10 := Kd.R_putg HO_3.out (x4_1 : Int) (rd l0 x4_1)
    go_wp2_with (first | ((with_reducible refine gate_store (t := 3) (p := 20) rfl ?_); refine store_event (t := 3) (p := 20) (v := ?vo_w11) (w1 := (wr.setCell ⟨go9, (x4_1 : Int).toNat, none⟩ (.int .i64 (rd l0 x4_1)))) ?hg ?ho ?hn ?hr ?_; (case ho => rfl); (case hg => rfl); (case hn => rfl); (case hr => first | (go_simp; done) | (go_simp; rfl)); intro w11 hw; have hg : wr.grownBy w11 (some go9) := (by rw [hw]; exact HP10.2); have hp_ : Kd.R (Kd.int .i64) 3 w11 w.heap.size (fun _ => True) (.slice (some ⟨go9, 0, none⟩) x3_1.length co9) y261 := (by rw [hw, Ny261.out]; exact HP10.1); clear HP10; replace HO_3 := aa_ (hp_); replace HB := aa_ ((by rw [hw]; exact below_set (HB.out) GB9.out : Below w.heap.size w w11)); clear hg hw hp_))
    go_roundg k1
    case measure => have := HK1.out; omega
    case rel => exact ⟨(y261), (wrap64 (x4_1 + 1)), rf_, H', ⟨by have := HK1.out; omega⟩, ⟨rr_ HO_3⟩, ⟨bl_⟩⟩
   ·rw [if_neg c6] at H
    have c6b0 : decide (x4_1 < (l0.length : Int)) = false := decide_eq_false c6
    clear c6
    obtain rfl := Option.some.inj H
    go_wp2
    go_ret
    exact ⟨_, eq_, by (with_reducible repeat (first | apply Kd.R_alloc | apply Kd.R_drewN | apply Kd.R_drew)); exact HO_3.out, bl_⟩
def laws_toItem.f (a0_0 : ByteArray) (a0_1 : Bool) : Option (ByteArray × Bool) := some (a0_0, a0_1)
set_option maxHeartbeats 8000000 in
set_option maxRecDepth 100000 in
theorem laws_toItem.calls (a0_0 : ByteArray) (a0_1 : Bool) (r1 : ByteArray) (r2 : Bool) (w : World) (h : laws_toItem.f a0_0 a0_1 = some (r1, r2)) :
  Calls Tryz.prog 104 #[.agg #[.string a0_0, .bool a0_1]] w fun e w' => e = .returned (.agg #[.string r1, .bool r2]) ∧ Below w.heap.size w w' := by
 have hu152 := Tryz.underlying152
 have hu131 := Tryz.underlying131
 have HB := aa_ (Below.refl w.heap.size w)
 have H : (some (a0_0, a0_1)) = some (r1, r2) := h
 clear h
 simp only [Option.some.injEq, Prod.mk.injEq] at H
 obtain ⟨rfl, rfl⟩ := H
 go_enter Tryz.func104, Tryz.ntmps104
 go_wp2_with (first | ((with_reducible refine gD_ 1 rfl ?_); refine bx_ (N := 1) (cs := #[.string a0_0, .bool a0_1]) (t := 152) ?_; intro gb262 hg w2 hbox hb; have BK262 := aa_ (hbox); have GW262 := gs_ hg; have GE262 := gs_ hg; replace HB := hbs_ hb; clear hb hbox hg) | ((with_reducible refine gD_ 2 rfl ?_); refine box_event ?hg (N := 2) ?hd (cs := #[.string (⟨#[]⟩ : ByteArray), .bool false]) (t := 131) ?hr ?_; (case hd => rfl); (case hg => rfl); (case hr => first | (go_simp; done) | (go_simp; rfl)); intro gb263 hg w3 hbox hb; have BK263 := aa_ (hbox); have GW263 := gs_ hg; have GE263 := gs_ hg; replace HB := hbs_ hb; have NB262_263 := nl_ hg BK262; have NB263_262 := nr_ hg BK262; replace BK262 := bkb_ BK262 hb; clear hb hbox hg) | ((with_reducible refine gD_ 3 rfl ?_); refine box_event ?hg (N := 3) ?hd (cs := #[.string (⟨#[]⟩ : ByteArray), .bool false]) (t := 131) ?hr ?_; (case hd => rfl); (case hg => rfl); (case hr => first | (go_simp; done) | (go_simp; rfl)); intro gb264 hg w4 hbox hb; have BK264 := aa_ (hbox); have GW264 := gs_ hg; have GE264 := gs_ hg; replace HB := hbs_ hb; have NB262_264 := nl_ hg BK262; have NB264_262 := nr_ hg BK262; replace BK262 := bkb_ BK262 hb; have NB263_264 := nl_ hg BK263; have NB264_263 := nr_ hg BK263; replace BK263 := bkb_ BK263 hb; clear hb hbox hg; have hnb5 := NB262_263.out; have hnc5 := NB263_262.out; have hnb6 := NB262_264.out; have hnc6 := NB264_262.out; obtain ⟨hcz7, hfz7⟩ := bcf_ BK262; have hnb8 := NB264_263.out; have hnc8 := NB263_264.out; obtain ⟨hcz9, hfz9⟩ := bcf_ BK264; obtain ⟨hcz10, hfz10⟩ := bcf_ BK263))
 refine bodyPost_ret (results_cell_row rfl _ _ gb263 131 #[.string a0_0, .bool a0_1] (0, 0) _ rfl (bk_ BK263) Tryz.underlying131 rfl (by kernel_rfl)) rfl ?_
 exact ⟨eq_, bl_⟩
def laws_toItemS.l0 : Nat → List (S152) → List (S131) → Int → Option ((List (S131)))
 | 0, _, _, _ => none
 | k + 1, x0, x3, x4 => if x4 < (x0.length : Int) then (if 0 ≤ x4 then ((laws_toItem.f ((rd_T152 x0 x4).f0) ((rd_T152 x0 x4).f1)).bind fun bt269 => (if x4 < (x3.length : Int) then (laws_toItemS.l0 k x0 (x3.set (x4 : Int).toNat (⟨bt269.1, bt269.2⟩ : S131)) (wrap64 (x4 + 1))) else (none))) else (none)) else (some x3)
def laws_toItemS.f (k : Nat) (l0 : List (S152)) : Option ((List (S131))) := if 0 ≤ (l0.length : Int) then (if ((l0.length : Int) : Int).toNat ≤ 11728124029610 then (laws_toItemS.l0 k l0 (List.replicate ((l0.length : Int) : Int).toNat z131) 0) else (none)) else (none)
set_option maxHeartbeats 8000000 in
set_option maxRecDepth 100000 in
theorem laws_toItemS.calls (k : Nat) (A0 : Option Addr) (c0 : Nat) (l0 : List (S152)) (r : List (S131)) (w : World) (hr0 : Kd.C k152 w A0 l0.length l0) (hc0 : l0.length ≤ c0) (h : laws_toItemS.f k l0 = some r) :
  Calls Tryz.prog 101 #[.slice A0 l0.length c0] w fun e w' => ∃ v0_ : Value, e = .returned (v0_) ∧ Kd.R k131 131 w' w.heap.size (fun _ => True) v0_ r ∧ Below w.heap.size w w' := by
 have hu152 := Tryz.underlying152
 have hu131 := Tryz.underlying131
 have HR0 := aa_ hr0
 have HC0 := aa_ hc0
 clear hr0 hc0
 have HB := aa_ (Below.refl w.heap.size w)
 have H : (if 0 ≤ (l0.length : Int) then (if ((l0.length : Int) : Int).toNat ≤ 11728124029610 then (laws_toItemS.l0 k l0 (List.replicate ((l0.length : Int) : Int).toNat z131) 0) else (none)) else (none)) = some r := h
 clear h
 obtain ⟨c2, H⟩ := ifn_ H
 have c2b0 := eq_true c2
 have c2b1 : decide (0 ≤ (l0.length : Int)) = true := decide_eq_true c2
 clear c2
 obtain ⟨c3, H⟩ := ifn_ H
 have c3b0 := eq_true c3
 have c3b1 : decide (((l0.length : Int) : Int).toNat ≤ 11728124029610) = true := decide_eq_true c3
 clear c3
 obtain ⟨y265, hy265⟩ : ∃ y_ : List (S131), y_ = (List.replicate ((l0.length : Int) : Int).toNat z131) := ⟨_, rfl⟩
 replace H : (laws_toItemS.l0 k l0 y265 0) = some r := rh_ hy265 H
 have Ny265 := aa_ hy265
 clear hy265
 have H' := aa_ H
 clear H
 go_enter Tryz.func101, Tryz.ntmps101
 go_wp2_with (first | ((with_reducible refine gD_ 7 rfl ?_); refine Kd.R_make k131 _ 131 rfl (N := 7) rfl 106 _ _ rfl (l0.length : Int) rfl rfl Tryz.underlying106 (.agg #[(.string ⟨#[]⟩), (.bool false)]) 24 info131 rfl (by decide) (by omega) z131 (ok := fun _ => True) (okp := fun _ => True) (k131_mkM _ _ _ z131 ) (fun _ hk => hk) trivial (od_) (Nat.le_trans (Nat.mul_le_mul_right _ (od_ : (l0.length : Int).toNat ≤ 11728124029610)) (by omega)) (Below.refl _ _) (Nat.le_refl _) ?_; intro v266 w4 ho5 hb hg_ hnew_; clear hg_ hnew_; (first | rw [← Ny265.out] at ho5 | (simp only [Int.reduceToNat] at ho5; rw [← Ny265.out] at ho5)); have HO267 := aa_ (Kd.R_lower ho5 bls_); replace HB := hbs_ hb; clear hb ho5))
 go_loopg [4] k (fun kq v4 w' => ∃ (x3_1 : List (S131)) (x4_1 : Int), v4 = .int .i64 x4_1 ∧ Aside0 (laws_toItemS.l0 kq l0 x3_1 x4_1 = some r) ∧ Aside0 (kq ≤ k) ∧ Aside0 (Kd.R k131 131 w' w.heap.size (fun _ => True) v266 x3_1) ∧ Aside0 (Below w.heap.size w w'))
 case atStart => exact ⟨(y265), (0), rf_, H', ⟨Nat.le_refl _⟩, ⟨rr_ HO267⟩, ⟨bl_⟩⟩
 case round =>
  clear H'
  try clear c2b0
  try clear c2b1
  try clear p2
  try clear c3b0
  try clear c3b1
  obtain ⟨x3_1, x4_1, rfl, HA, HK1, HO_3, HB⟩ := hrel
  cases gk with
  | zero => exact absurd HA.out (by simp [laws_toItemS.l0])
  | succ k1 =>
   have H := HA.out
   clear HA
   simp only [laws_toItemS.l0] at H
   by_cases c6 : x4_1 < (l0.length : Int)
   ·rw [if_pos c6] at H
    have c6b0 : decide (x4_1 < (l0.length : Int)) = true := decide_eq_true c6
    clear c6
    obtain ⟨c7b0, H⟩ := ifd_ H
    obtain ⟨⟨t269, t270⟩, A8, H⟩ := bindE_ H
    replace H : (if x4_1 < (x3_1.length : Int) then (laws_toItemS.l0 k1 l0 (x3_1.set (x4_1 : Int).toNat (⟨t269, t270⟩ : S131)) (wrap64 (x4_1 + 1))) else (none)) = some r := H
    obtain ⟨c9b0, H⟩ := ifd_ H
    obtain ⟨y271, hy271⟩ : ∃ y_ : List (S131), y_ = (x3_1.set (x4_1 : Int).toNat (⟨t269, t270⟩ : S131)) := ⟨_, rfl⟩
    replace H : (laws_toItemS.l0 k1 l0 y271 (wrap64 (x4_1 + 1))) = some r := rh_ hy271 H
    have Ny271 := aa_ hy271
    clear hy271
    have H' := aa_ H
    clear H
    have p268 : 0 ≤ (x4_1 : Int) := od_
    have q268 : x4_1 < (l0.length : Int) := od_
    obtain ⟨ad268, e268, hx268_0, hx268_1⟩ := at_T152 (Kd.C_below HR0.out HB.out) x4_1 p268 q268
    cases e268
    replace p268 := eq_true p268
    replace q268 := eq_true q268
    go_wp2_with (first | ((with_reducible refine gC_ 104 rfl ?_); refine goesC_ (some 20) Tryz.func104 #[.agg #[.string ((rd_T152 l0 x4_1).f0), .bool ((rd_T152 l0 x4_1).f1)]] ?_; (with_reducible refine (laws_toItem.calls ((rd_T152 l0 x4_1).f0) ((rd_T152 l0 x4_1).f1) t269 t270 _ A8.out).mono ?_); rintro e w11 ⟨rfl, hb⟩; refine ⟨_, rfl, ?_⟩; replace HO_3 := hob_ HO_3 hb; replace HB := hbs_ hb; clear hb; have p10 : 0 ≤ (x4_1 : Int) := od_; have q10 : (x4_1 : Int) < ((x3_1.length : Int) : Int) := od_; obtain ⟨go10, co10, eo10, gb10, gl10, cl10, HG10⟩ := Kd.R_form HO_3.out (by omega); (first | cases eo10 | (injection eo10 with ea_ en_ ec_; (first | subst ea_ | (injection ea_ with ea_; subst ea_)); subst ec_; clear en_)); have GB10 := aa_ gb10; have GG10 := aa_ HG10; clear gb10 gl10 HG10; obtain ⟨ce10, hcl10, hM10, hcc10, hfr10⟩ := Kd.R_elem HO_3.out z131 (x4_1 : Int) p10 q10; obtain rfl := k131_openM hM10; have hx10_0 : w11.cell? ⟨go10, (x4_1 : Int).toNat * 2, none⟩ = some (.string ((rd_T131 x3_1 x4_1).f0)) := hcc10 0 _ rfl; have hx10_1 : w11.cell? ⟨go10, (x4_1 : Int).toNat * 2 + 1, none⟩ = some (.bool ((rd_T131 x3_1 x4_1).f1)) := hcc10 1 _ rfl; have hf10_0 : w11.frozen? ⟨go10, (x4_1 : Int).toNat * 2, none⟩ = false := hfr10 0; have hf10_1 : w11.frozen? ⟨go10, (x4_1 : Int).toNat * 2 + 1, none⟩ = false := hfr10 1; clear hcl10 hcc10 hfr10 hM10; replace p10 := eq_true p10; replace q10 := eq_true q10; have HX12 := aa_ (show Kd.R k131 131 w11 w.heap.size (fun _ => True) (.slice (some ⟨go10, 0, none⟩) x3_1.length co10) x3_1 from (rr_ HO_3)); obtain ⟨ce12, hcl12, hM12, hcc12, hfr12⟩ := Kd.R_elem HX12.out z131 (x4_1 : Int) (od_) (by have h_ : (x4_1 : Int) < ((x3_1.length : Int) : Int) := od_; first | exact h_ | (have e_ := (Kd.R_reads' HO_3.out).1; omega) | simpa using h_); obtain rfl := k131_openM hM12; have HP12 := Kd.R_seg HX12.out (x4_1 : Int) (od_) (by have h_ : (x4_1 : Int) < ((x3_1.length : Int) : Int) := od_; first | exact h_ | (have e_ := (Kd.R_reads' HO_3.out).1; omega) | simpa using h_) (seg := [.string t269, .bool t270]) (j := 0) hcl12 hcc12 (show 2 ≤ 2 from by decide) (x' := (⟨t269, t270⟩ : S131)) (k131_mkM _ _ _ (⟨t269, t270⟩ : S131) ) (fun _ hk => hk); have hx12_0 := hcc12 0 _ rfl; (try simp only [show (k131).sz = 2 from rfl, Nat.mul_one, Nat.add_zero] at hx12_0); have hf12_0 := hfr12 0; (try simp only [show (k131).sz = 2 from rfl, Nat.mul_one, Nat.add_zero] at hf12_0); have hx12_1 := hcc12 1 _ rfl; (try simp only [show (k131).sz = 2 from rfl, Nat.mul_one, Nat.add_zero] at hx12_1); have hf12_1 := hfr12 1; (try simp only [show (k131).sz = 2 from rfl, Nat.mul_one, Nat.add_zero] at hf12_1); clear hcl12 hcc12 hfr12 hM12) | ((with_reducible refine gate_store (t := 131) (p := 21) rfl ?_); refine store_event (t := 131) (p := 21) (v := ?vo_w13) (w1 := ((w11.setCell ⟨go10, (x4_1 : Int).toNat * 2, none⟩ (.string t269)).setCell ⟨go10, (x4_1 : Int).toNat * 2 + 1, none⟩ (.bool t270))) ?hg ?ho ?hn ?hr ?_; (case ho => rfl); (case hg => rfl); (case hn => rfl); (case hr => first | (go_simp; done) | (go_simp; rfl)); intro w13 hw; have hg : w11.grownBy w13 (some go10) := (by rw [hw]; exact HP12.2); have hp_ : Kd.R k131 131 w13 w.heap.size (fun _ => True) (.slice (some ⟨go10, 0, none⟩) x3_1.length co10) y271 := (by rw [hw, Ny271.out]; exact HP12.1); clear HP12; replace HO_3 := aa_ (hp_); replace HB := aa_ ((by rw [hw]; exact below_set (below_set (HB.out) GB10.out) GB10.out : Below w.heap.size w w13)); clear hg hw hp_))
    go_roundg k1
    case measure => have := HK1.out; omega
    case rel => exact ⟨(y271), (wrap64 (x4_1 + 1)), rf_, H', ⟨by have := HK1.out; omega⟩, ⟨rr_ HO_3⟩, ⟨bl_⟩⟩
   ·rw [if_neg c6] at H
    have c6b0 : decide (x4_1 < (l0.length : Int)) = false := decide_eq_false c6
    clear c6
    obtain rfl := Option.some.inj H
    go_wp2
    go_ret
    exact ⟨_, eq_, by (with_reducible repeat (first | apply Kd.R_alloc | apply Kd.R_drewN | apply Kd.R_drew)); exact HO_3.out, bl_⟩
def laws_toShelf.f (k : Nat) (a0_0 : Int) (l0_1 : List (S152)) : Option (Int × (List (S131))) := (laws_toItemS.f k l0_1).bind fun t275 => (some (a0_0, t275))
set_option maxHeartbeats 8000000 in
set_option maxRecDepth 100000 in
theorem laws_toShelf.calls (k : Nat) (a0_0 : Int) (A0_1 : Option Addr) (c0_1 : Nat) (l0_1 : List (S152)) (r1 : Int) (r2 : List (S131)) (w : World) (hr0_1 : Kd.C k152 w A0_1 l0_1.length l0_1) (hc0_1 : l0_1.length ≤ c0_1) (h : laws_toShelf.f k a0_0 l0_1 = some (r1, r2)) :
  Calls Tryz.prog 95 #[.agg #[.int .i64 a0_0, .slice A0_1 l0_1.length c0_1]] w fun e w' => ∃ v1_ : Value, e = .returned (.agg #[.int .i64 r1, v1_]) ∧ Kd.R k131 131 w' w.heap.size (fun _ => True) v1_ r2 ∧ Below w.heap.size w w' := by
 have hu141 := Tryz.underlying141
 have hu108 := Tryz.underlying108
 have HR0_1 := aa_ hr0_1
 have HC0_1 := aa_ hc0_1
 clear hr0_1 hc0_1
 have HB := aa_ (Below.refl w.heap.size w)
 have H : ((laws_toItemS.f k l0_1).bind fun t275 => (some (a0_0, t275))) = some (r1, r2) := h
 clear h
 obtain ⟨t275, A2, H⟩ := bindE_ H
 simp only [Option.some.injEq, Prod.mk.injEq] at H
 obtain ⟨rfl, rfl⟩ := H
 go_enter Tryz.func95, Tryz.ntmps95
 go_wp2_with (first | ((with_reducible refine gD_ 1 rfl ?_); refine bx_ (N := 1) (cs := #[.int .i64 a0_0, .slice A0_1 l0_1.length c0_1]) (t := 141) ?_; intro gb272 hg w3 hbox hb; have BK272 := aa_ (hbox); have GW272 := gs_ hg; have GE272 := gs_ hg; replace HB := hbs_ hb; clear hb hbox hg) | ((with_reducible refine gD_ 2 rfl ?_); refine bx_ (N := 2) (cs := #[.int .i64 0, .slice none 0 0]) (t := 108) ?_; intro gb273 hg w4 hbox hb; have BK273 := aa_ (hbox); have GW273 := gs_ hg; have GE273 := gs_ hg; replace HB := hbs_ hb; have NB272_273 := nl_ hg BK272; have NB273_272 := nr_ hg BK272; replace BK272 := bkb_ BK272 hb; clear hb hbox hg) | ((with_reducible refine gD_ 3 rfl ?_); refine bx_ (N := 3) (cs := #[.int .i64 0, .slice none 0 0]) (t := 108) ?_; intro gb274 hg w5 hbox hb; have BK274 := aa_ (hbox); have GW274 := gs_ hg; have GE274 := gs_ hg; replace HB := hbs_ hb; have NB272_274 := nl_ hg BK272; have NB274_272 := nr_ hg BK272; replace BK272 := bkb_ BK272 hb; have NB273_274 := nl_ hg BK273; have NB274_273 := nr_ hg BK273; replace BK273 := bkb_ BK273 hb; clear hb hbox hg; have hnb6 := NB272_273.out; have hnc6 := NB273_272.out; have hnb7 := NB272_274.out; have hnc7 := NB274_272.out; obtain ⟨hcz8, hfz8⟩ := bcf_ BK272; have hnb9 := NB274_273.out; have hnc9 := NB273_274.out; obtain ⟨hcz10, hfz10⟩ := bcf_ BK274) | ((with_reducible refine gC_ 101 rfl ?_); refine goesC_ (some 9) Tryz.func101 #[.slice A0_1 l0_1.length c0_1] ?_; (with_reducible refine (laws_toItemS.calls k _ _ l0_1 t275 _ ?side1 ?side2 A2.out).mono ?_); (case side1 => exact Kd.C_below HR0_1.out bl_); (case side2 => exact HC0_1.out); rintro e w11 ⟨v276, rfl, ho0, hb⟩; refine ⟨_, rfl, ?_⟩; have HO277 := aa_ (Kd.R_lower ho0 bls_); replace BK272 := aa_ (blk_below (g := gb272) (o := .cells #[.int .i64 a0_0, .slice A0_1 l0_1.length c0_1] 141 (0, 0)) (bk_ BK272) hb); replace BK273 := aa_ (blk_below (g := gb273) (o := .cells #[.int .i64 0, .slice none 0 0] 108 (0, 0)) (bk_ BK273) hb); replace BK274 := aa_ (blk_below (g := gb274) (o := .cells #[.int .i64 a0_0, .slice none 0 0] 108 (0, 0)) (bk_ BK274) hb); replace HB := hbs_ hb; (try clear hb ho0); obtain ⟨Ao12, co12, eo12⟩ := Kd.R_slice HO277.out; subst eo12; obtain ⟨hcz13, hfz13⟩ := bcf_ BK274; obtain ⟨hcz14, hfz14⟩ := bcf_ BK273))
 refine bodyPost_ret (results_cell_row rfl _ _ gb273 108 #[.int .i64 a0_0, .slice Ao12 t275.length co12] (0, 0) _ rfl (bk_ BK273) Tryz.underlying108 rfl (by kernel_rfl)) rfl ?_
 exact ⟨_, eq_, by (with_reducible repeat (first | apply Kd.R_alloc | apply Kd.R_drewN | apply Kd.R_drew)); exact Kd.R_mono (fr2_ (Kd.R_far (p := ⟨gb274, 1, none⟩) (Kd.R_types (Kd.R_types HO277.out BK274.out (by decide)) BK273.out (by decide)) (fun _ hk => hk.1.2) (.slice Ao12 t275.length co12)) (fun _ hk => hk.2)) (fun _ hk => trivial), bl_⟩
end Go.Proofs.YteofimccoadmeaaGreat.PA
