import Derived.Test.YtcnjbkfnijnpnaaKSPAx7
-- printed by wip/tools
namespace Go.Proofs.Ytcnjbkfnijnpnaa.PA
open Go.RowKit Go.Proofs.YtcnjbkfnijnpnaaW.PrintWords Go.Proofs.YtcnjbkfnijnpnaaW.PrintLast Go.Proofs.YtcnjbkfnijnpnaaW.PrintMore
attribute [local go_sem] max2_int min2_int max_two min_two max_three min_three max_four min_four
set_option linter.unusedVariables false
set_option linter.unusedSimpArgs false
mutual
def spec_Sound.l0 : Nat → Int → List (S107) → Int → List Int → List (S61) → List (S61) → List (S51) → List (S57) → List Int → Option (Bool)
 | 0, _, _, _, _, _, _, _, _, _ => none
 | k + 1, x3, x207000, x207001, x207002, x207003, x207004, x207005, x207006, x207007 => if x3 < (x207005.length : Int) then (if 0 ≤ x3 then ((spec_CredsIn.f k ((rd_T51 x207005 x3).f1)).bind fun t209 => (if x3 < (x207006.length : Int) then ((spec_l16Least.f k t209).bind fun t214 => ((spec_AnswerOk.f k ((rd_T51 x207005 x3).f0) ((rd_T51 x207005 x3).f1) ((rd_T51 x207005 x3).f2) ((rd_T51 x207005 x3).f3) ((rd_T51 x207005 x3).f4) ((rd_T57 x207006 x3).f0.f0) ((rd_T57 x207006 x3).f0.f1) ((rd_T57 x207006 x3).f1) t214).bind fun t215 => (if t215 = true then (spec_Sound.l1 k x3 t209 0 x207000 x207001 x207002 x207003 x207004 x207005 x207006 x207007) else (some false)))) else (none))) else (none)) else (some true)
def spec_Sound.l1 : Nat → Int → List (S61) → Int → List (S107) → Int → List Int → List (S61) → List (S61) → List (S51) → List (S57) → List Int → Option (Bool)
 | 0, _, _, _, _, _, _, _, _, _, _, _ => none
 | k + 1, x3, x5, x6, x207000, x207001, x207002, x207003, x207004, x207005, x207006, x207007 => if x6 < (x5.length : Int) then (if 0 ≤ x6 then ((spec_l14Said.f k x207003 ((rd_T61 x5 x6).f0) ((rd_T61 x5 x6).f1.f0) ((rd_T61 x5 x6).f1.f1) ((rd_T61 x5 x6).f2) ((rd_T61 x5 x6).f3.f0) ((rd_T61 x5 x6).f3.f1) ((rd_T61 x5 x6).f4.f0) ((rd_T61 x5 x6).f4.f1) ((rd_T61 x5 x6).f5) ((rd_T61 x5 x6).f6)).bind fun t217 => (if t217 = true then (spec_Sound.l1 k x3 x5 (wrap64 (x6 + 1)) x207000 x207001 x207002 x207003 x207004 x207005 x207006 x207007) else (some false))) else (none)) else (spec_Sound.l0 k (wrap64 (x3 + 1)) x207000 x207001 x207002 x207003 x207004 x207005 x207006 x207007)
end
def spec_Sound.f (k : Nat) (l0_0 : List (S107)) (a0_1 : Int) (l0_2 : List Int) (l0_3 : List (S61)) (l0_4 : List (S61)) (l0_5 : List (S51)) (l0_6 : List (S57)) (l0_7 : List Int) : Option (Bool) := if (l0_5.length : Int) = (l0_6.length : Int) then (spec_Sound.l0 k 0 l0_0 a0_1 l0_2 l0_3 l0_4 l0_5 l0_6 l0_7) else (some false)
def spec_Sound.T8 : Bool × List (List Nat × List Nat) := (true, [([], []), ([], []), ([1], [1]), ([], []), ([2, 3], [2, 3]), ([4], [4]), ([5], [5]), ([], []), ([7], [7]), ([], []), ([8, 9], [8, 9]), ([10], [10]), ([11], [11]), ([], []), ([13], [13]), ([0, 6, 12, 14, 14], [0, 6, 12, 14]), ([15], [15])])
def spec_Sound.B8 : List Nat := [0, 0, 2, 0, 14, 30, 62, 0, 128, 0, 896, 1920, 3968, 0, 8192, 32767, 65535]
theorem spec_Sound.tab8 : rtab .any (opsOf Try.f5 8) = spec_Sound.T8 := by kernel_rfl
theorem spec_Sound.bits8 : waitsOk spec_Sound.T8.2 spec_Sound.B8 = true := by kernel_rfl
def spec_Sound.T13 : Bool × List (List Nat × List Nat) := (true, [([], []), ([0], [0]), ([], []), ([], []), ([2, 3], [2, 3]), ([4], [4]), ([1, 5], [1, 5]), ([6], [6])])
def spec_Sound.B13 : List Nat := [0, 1, 0, 0, 12, 28, 63, 127]
theorem spec_Sound.tab13 : rtab .any (opsOf Try.f5 13) = spec_Sound.T13 := by kernel_rfl
theorem spec_Sound.bits13 : waitsOk spec_Sound.T13.2 spec_Sound.B13 = true := by kernel_rfl
set_option maxHeartbeats 8000000 in
set_option maxRecDepth 100000 in
theorem spec_Sound.calls (k : Nat) (A0_0 : Option Addr) (c0_0 : Nat) (l0_0 : List (S107)) (a0_1 : Int) (A0_2 : Option Addr) (c0_2 : Nat) (l0_2 : List Int) (A0_3 : Option Addr) (c0_3 : Nat) (l0_3 : List (S61)) (A0_4 : Option Addr) (c0_4 : Nat) (l0_4 : List (S61)) (A0_5 : Option Addr) (c0_5 : Nat) (l0_5 : List (S51)) (A0_6 : Option Addr) (c0_6 : Nat) (l0_6 : List (S57)) (A0_7 : Option Addr) (c0_7 : Nat) (l0_7 : List Int) (r : Bool) (w : World) (hr0_0 : Kd.C k107 w A0_0 l0_0.length l0_0) (hc0_0 : l0_0.length ≤ c0_0) (hr0_2 : Kd.C (Kd.int .i64) w A0_2 l0_2.length l0_2) (hc0_2 : l0_2.length ≤ c0_2) (hr0_3 : Kd.C k61 w A0_3 l0_3.length l0_3) (hc0_3 : l0_3.length ≤ c0_3) (hr0_4 : Kd.C k61 w A0_4 l0_4.length l0_4) (hc0_4 : l0_4.length ≤ c0_4) (hr0_5 : Kd.C k51 w A0_5 l0_5.length l0_5) (hc0_5 : l0_5.length ≤ c0_5) (hr0_6 : Kd.C k57 w A0_6 l0_6.length l0_6) (hc0_6 : l0_6.length ≤ c0_6) (hr0_7 : Kd.C (Kd.int .i64) w A0_7 l0_7.length l0_7) (hc0_7 : l0_7.length ≤ c0_7) (h : spec_Sound.f k l0_0 a0_1 l0_2 l0_3 l0_4 l0_5 l0_6 l0_7 = some r) :
  Calls Try.prog 5 #[.agg #[.slice A0_0 l0_0.length c0_0, .int .i64 a0_1, .slice A0_2 l0_2.length c0_2, .slice A0_3 l0_3.length c0_3, .slice A0_4 l0_4.length c0_4, .slice A0_5 l0_5.length c0_5, .slice A0_6 l0_6.length c0_6, .slice A0_7 l0_7.length c0_7]] w fun e w' => e = .returned (.bool r) ∧ Below w.heap.size w w' := by
 have hu40 := Try.underlying40
 have hu51 := Try.underlying51
 have hu55 := Try.underlying55
 have hu61 := Try.underlying61
 have HR0_0 := aa_ hr0_0
 have HC0_0 := aa_ hc0_0
 clear hr0_0 hc0_0
 have HR0_2 := aa_ hr0_2
 have HC0_2 := aa_ hc0_2
 clear hr0_2 hc0_2
 have HR0_3 := aa_ hr0_3
 have HC0_3 := aa_ hc0_3
 clear hr0_3 hc0_3
 have HR0_4 := aa_ hr0_4
 have HC0_4 := aa_ hc0_4
 clear hr0_4 hc0_4
 have HR0_5 := aa_ hr0_5
 have HC0_5 := aa_ hc0_5
 clear hr0_5 hc0_5
 have HR0_6 := aa_ hr0_6
 have HC0_6 := aa_ hc0_6
 clear hr0_6 hc0_6
 have HR0_7 := aa_ hr0_7
 have HC0_7 := aa_ hc0_7
 clear hr0_7 hc0_7
 have HB := aa_ (Below.refl w.heap.size w)
 have H : (if (l0_5.length : Int) = (l0_6.length : Int) then (spec_Sound.l0 k 0 l0_0 a0_1 l0_2 l0_3 l0_4 l0_5 l0_6 l0_7) else (some false)) = some r := h
 clear h
 have HC2 := aa_ H
 clear H
 go_enter Try.func5, Try.ntmps5
 go_upto_if 13 with (first | ((with_reducible refine gD_ 1 rfl ?_); refine bx_ (N := 1) (cs := #[.slice A0_0 l0_0.length c0_0, .int .i64 a0_1, .slice A0_2 l0_2.length c0_2, .slice A0_3 l0_3.length c0_3, .slice A0_4 l0_4.length c0_4, .slice A0_5 l0_5.length c0_5, .slice A0_6 l0_6.length c0_6, .slice A0_7 l0_7.length c0_7]) (t := 40) ?_; intro gb206 hg w3 hbox hb; have BK206 := aa_ (hbox); have GW206 := gs_ hg; have GE206 := gs_ hg; replace HB := hbs_ hb; clear hb hbox hg; obtain ⟨hcz4, hfz4⟩ := bcf_ BK206))
 (try simp only [Act.put, List.setIfInBounds_toArray, List.set_cons_zero, List.set_cons_succ])
 have H := HC2.out
 clear HC2
 by_cases c5 : (l0_5.length : Int) = (l0_6.length : Int)
 ·rw [if_pos c5] at H
  have c5b0 : ((l0_5.length : Int) == (l0_6.length : Int)) = true := beq_iff_eq.mpr c5
  have c5b1 : ((l0_5.length : Int) != (l0_6.length : Int)) = false := bne_eq_false_iff_eq.mpr c5
  have c5b2 : (l0_5.length == l0_6.length) = true := by first | simpa using c5 | (simp at c5 ⊢; omega)
  clear c5
  (first | rw [c5b1] | rw [c5b0] | (simp only [i64_w, i32_w]; rw [c5b0]) | (have cz_ := c5b0; simp only [Int.ofNat_lt, Int.ofNat_le, gt_iff_lt, ge_iff_le] at cz_; rw [cz_]; clear cz_) | skip)
  have H' := aa_ H
  clear H
  go_wp2
  go_loopg [3] k (fun kq v3 w' => ∃ (x3_1 : Int), v3 = .int .i64 x3_1 ∧ Aside0 (spec_Sound.l0 kq x3_1 l0_0 a0_1 l0_2 l0_3 l0_4 l0_5 l0_6 l0_7 = some r) ∧ Aside0 (kq ≤ k) ∧ Aside0 (w'.heap[gb206]? = some (.cells #[(.slice A0_0 l0_0.length c0_0), .int .i64 a0_1, (.slice A0_2 l0_2.length c0_2), (.slice A0_3 l0_3.length c0_3), (.slice A0_4 l0_4.length c0_4), (.slice A0_5 l0_5.length c0_5), (.slice A0_6 l0_6.length c0_6), (.slice A0_7 l0_7.length c0_7)] 40 (0, 0))) ∧ Aside0 (Below w.heap.size w w'))
  case atStart => exact ⟨(0), rf_, H', ⟨Nat.le_refl _⟩, ⟨bk_ BK206⟩, ⟨bl_⟩⟩
  case round =>
   clear H'
   try clear p2
   try clear c5
   try clear c5b0
   try clear c5b1
   try clear c5b2
   try clear hcz4
   try clear hfz4
   obtain ⟨x3_1, rfl, HA, HK1, BK206, HB⟩ := hrel
   cases gk with
   | zero => exact absurd HA.out (by simp [spec_Sound.l0])
   | succ k1 =>
    have H := HA.out
    clear HA
    simp only [spec_Sound.l0] at H
    by_cases c6 : x3_1 < (l0_5.length : Int)
    ·rw [if_pos c6] at H
     have c6b0 : decide (x3_1 < (l0_5.length : Int)) = true := decide_eq_true c6
     clear c6
     obtain ⟨c7b0, H⟩ := ifd_ H
     obtain ⟨t209, A8, H⟩ := bindE_ H
     obtain ⟨c9b0, H⟩ := ifd_ H
     obtain ⟨t214, A10, H⟩ := bindE_ H
     obtain ⟨t215, A11, H⟩ := bindE_ H
     have HC12 := aa_ H
     clear H
     have hcz13 := blk_cell BK206.out
     have hfz13 := blk_frozen BK206.out
     have p207 : 0 ≤ (x3_1 : Int) := od_
     have q207 : x3_1 < (l0_5.length : Int) := od_
     obtain ⟨ad207, A207_1, c207_1, e207, hx207_0, hx207_1, hx207_2, hx207_3, hx207_4, hl207_1, hi207_1⟩ := at_T51 HR0_5.out x3_1 p207 q207
     cases e207
     replace hx207_0 := cb_ HB hx207_0
     replace hx207_1 := cb_ HB hx207_1
     replace hx207_2 := cb_ HB hx207_2
     replace hx207_3 := cb_ HB hx207_3
     replace hx207_4 := cb_ HB hx207_4
     have HR207_1 := aa_ hi207_1
     have HC207_1 := aa_ hl207_1
     clear hi207_1 hl207_1
     replace p207 := eq_true p207
     replace q207 := eq_true q207
     try go_wp2_with (first | ((with_reducible refine gD_ 4 rfl ?_); refine bx_ (N := 4) (cs := #[.bool false, .slice none 0 0, .int .i64 0, .bool false, .bool false]) (t := 51) ?_; intro gb208 hg w14 hbox hb; have BK208 := aa_ (hbox); have GW208 := gs_ hg; have GE208 := gs_ hg; replace HB := hbs_ hb; have NB206_208 := nl_ hg BK206; have NB208_206 := nr_ hg BK206; replace BK206 := bkb_ BK206 hb; clear hb hbox hg; have hnb15 := NB208_206.out; have hnc15 := NB206_208.out; obtain ⟨hcz16, hfz16⟩ := bcf_ BK208) | ((with_reducible refine gC_ 14 rfl ?_); refine goesC_ (some 28) Try.func14 #[.slice A207_1 ((rd_T51 l0_5 x3_1).f1).length c207_1] ?_; (with_reducible refine (spec_CredsIn.calls k1 _ _ ((rd_T51 l0_5 x3_1).f1) t209 _ ?side1 ?side2 A8.out).mono ?_); (case side1 => exact Kd.C_below HR207_1.out bl_); (case side2 => exact HC207_1.out); rintro e w17 ⟨v210, rfl, ho0, hb⟩; refine ⟨_, rfl, ?_⟩; have HO211 := aa_ (Kd.R_lower ho0 bls_); replace BK206 := aa_ (blk_below (g := gb206) (o := .cells #[.slice A0_0 l0_0.length c0_0, .int .i64 a0_1, .slice A0_2 l0_2.length c0_2, .slice A0_3 l0_3.length c0_3, .slice A0_4 l0_4.length c0_4, .slice (some ad207) l0_5.length c0_5, .slice A0_6 l0_6.length c0_6, .slice A0_7 l0_7.length c0_7] 40 (0, 0)) (bk_ BK206) hb); replace BK208 := aa_ (blk_below (g := gb208) (o := .cells #[.bool ((rd_T51 l0_5 x3_1).f0), .slice A207_1 ((rd_T51 l0_5 x3_1).f1).length c207_1, .int .i64 ((rd_T51 l0_5 x3_1).f2), .bool ((rd_T51 l0_5 x3_1).f3), .bool ((rd_T51 l0_5 x3_1).f4)] 51 (0, 0)) (bk_ BK208) hb); replace HB := hbs_ hb; (try clear hb ho0)))
     replace HO211 := aa_ (Kd.R_drew HO211.out)
     replace BK206 := aa_ (blk_drew BK206.out)
     replace BK208 := aa_ (blk_drew BK208.out)
     replace HB := aa_ (below_drew1 HB.out)
     have p212 : 0 ≤ (x3_1 : Int) := od_
     have q212 : x3_1 < (l0_6.length : Int) := od_
     obtain ⟨ad212, e212, hx212_0, hx212_1, hx212_2⟩ := at_T57 HR0_6.out x3_1 p212 q212
     have hw212_2 := hx212_2
     have hw212_1 := hx212_1
     have hw212_0 := hx212_0
     cases e212
     replace hx212_0 := cb_ HB hx212_0
     replace hx212_1 := cb_ HB hx212_1
     replace hx212_2 := cb_ HB hx212_2
     replace p212 := eq_true p212
     replace q212 := eq_true q212
     have p213 : 0 ≤ (x3_1 : Int) := od_
     have q213 : x3_1 < (l0_6.length : Int) := od_
     obtain ⟨ad213, e213, hx213_0, hx213_1, hx213_2⟩ := at_T57 HR0_6.out x3_1 p213 q213
     have hw213_2 := hx213_2
     have hw213_1 := hx213_1
     have hw213_0 := hx213_0
     obtain rfl : ad212 = ad213 := (by injection e213)
     replace hx213_0 := cb_ HB hx213_0
     replace hx213_1 := cb_ HB hx213_1
     replace hx213_2 := cb_ HB hx213_2
     replace p213 := eq_true p213
     replace q213 := eq_true q213
     obtain ⟨Ao19, co19, eo19⟩ := Kd.R_slice HO211.out
     (first | subst eo19 | (injection eo19 with f1_ f2_ f3_; have f4_ := f1_.symm; have f5_ := f3_.symm; clear f1_ f2_ f3_; subst f4_; subst f5_))
     refine start_ (n := 17) (S := fun w' => w'.cell? ⟨gb208, 0, none⟩ = some (.bool ((rd_T51 l0_5 x3_1).f0)) ∧ w'.cell? ⟨gb208, 1, none⟩ = some (.slice A207_1 ((rd_T51 l0_5 x3_1).f1).length c207_1) ∧ w'.cell? ⟨gb208, 2, none⟩ = some (.int .i64 ((rd_T51 l0_5 x3_1).f2)) ∧ w'.cell? ⟨gb208, 3, none⟩ = some (.bool ((rd_T51 l0_5 x3_1).f3)) ∧ w'.cell? ⟨gb208, 4, none⟩ = some (.bool ((rd_T51 l0_5 x3_1).f4)) ∧ w'.cell? ⟨gb206, 0, none⟩ = some (.slice A0_0 l0_0.length c0_0) ∧ w'.cell? ⟨gb206, 1, none⟩ = some (.int .i64 a0_1) ∧ w'.cell? ⟨gb206, 2, none⟩ = some (.slice A0_2 l0_2.length c0_2) ∧ w'.cell? ⟨gb206, 3, none⟩ = some (.slice A0_3 l0_3.length c0_3) ∧ w'.cell? ⟨gb206, 4, none⟩ = some (.slice A0_4 l0_4.length c0_4) ∧ w'.cell? ⟨gb206, 5, none⟩ = some (.slice (some ad207) l0_5.length c0_5) ∧ w'.cell? ⟨gb206, 6, none⟩ = some (.slice (some ad212) l0_6.length c0_6) ∧ w'.cell? ⟨gb206, 7, none⟩ = some (.slice A0_7 l0_7.length c0_7) ∧ w'.cell? (ad212.add ((x3_1).toNat * 3)) = some (.int .i64 ((rd_T57 l0_6 x3_1).f0.f0)) ∧ w'.cell? ⟨(ad212.add ((x3_1).toNat * 3)).block, (ad212.add ((x3_1).toNat * 3)).off + 1, none⟩ = some (.int .i64 ((rd_T57 l0_6 x3_1).f0.f1)) ∧ w'.cell? ⟨(ad212.add ((x3_1).toNat * 3)).block, (ad212.add ((x3_1).toNat * 3)).off + 2, none⟩ = some (.int .i64 ((rd_T57 l0_6 x3_1).f1)) ∧ w'.cell? (ad212.add ((x3_1).toNat * 3)) = some (.int .i64 ((rd_T57 l0_6 x3_1).f0.f0)) ∧ w'.cell? ⟨(ad212.add ((x3_1).toNat * 3)).block, (ad212.add ((x3_1).toNat * 3)).off + 1, none⟩ = some (.int .i64 ((rd_T57 l0_6 x3_1).f0.f1)) ∧ w'.cell? ⟨(ad212.add ((x3_1).toNat * 3)).block, (ad212.add ((x3_1).toNat * 3)).off + 2, none⟩ = some (.int .i64 ((rd_T57 l0_6 x3_1).f1))) (ds := []) (ba_ 17 0) (by kernel_rfl) rfl rfl ⟨(blk_cell BK208.out 0).trans rfl, (blk_cell BK208.out 1).trans rfl, (blk_cell BK208.out 2).trans rfl, (blk_cell BK208.out 3).trans rfl, (blk_cell BK208.out 4).trans rfl, (blk_cell BK206.out 0).trans rfl, (blk_cell BK206.out 1).trans rfl, (blk_cell BK206.out 2).trans rfl, (blk_cell BK206.out 3).trans rfl, (blk_cell BK206.out 4).trans rfl, (blk_cell BK206.out 5).trans rfl, (blk_cell BK206.out 6).trans rfl, (blk_cell BK206.out 7).trans rfl, (cb_ HB hw212_0 :), (cb_ HB hw212_1 :), (cb_ HB hw212_2 :), (cb_ HB hw213_0 :), (cb_ HB hw213_1 :), (cb_ HB hw213_2 :)⟩ (fun hHeld => ?_); refine with_tabW spec_Sound.tab8 spec_Sound.bits8 (fun HT_ HW_ => ?_)
     generalize w17.drew = w18 at HO211 BK206 BK208 HB hx212_0 hx212_1 hx212_2 hx213_0 hx213_1 hx213_2 hHeld ⊢
     refine pureZ_ (i := 1) (some 30) (ba_ 17 2) (ao_ HT_) ?_
     refine pureZ_ (i := 3) (some 32) (ba_ 17 10) (ao_ HT_) ?_
     refine pureZ_ (i := 7) (some 36) (ba_ 17 138) (ao_ HT_) ?_
     refine pureZ_ (i := 9) (some 38) (ba_ 17 650) (ao_ HT_) ?_
     refine pureZ_ (i := 13) (some 42) (ba_ 17 8842) (ao_ HT_) ?_
     refine takeZ_ (i := 0) (some 29) (ba_ 17 8843) (take_ofW HT_.out HW_.out (by kernel_rfl)) hHeld ?_
     refine takeZ_ (i := 2) (some 31) (ba_ 17 8847) (take_ofW HT_.out HW_.out (by kernel_rfl)) hHeld ?_
     refine pureZ_ (i := 4) (some 33) (ba_ 17 8863) (ao_ HT_) ?_
     refine pureZ_ (i := 5) (some 34) (ba_ 17 8895) (ao_ HT_) ?_
     refine takeZ_ (i := 6) (some 35) (ba_ 17 8959) (take_ofW HT_.out HW_.out (by kernel_rfl)) hHeld ?_
     refine takeZ_ (i := 8) (some 37) (ba_ 17 9215) (take_ofW HT_.out HW_.out (by kernel_rfl)) hHeld ?_
     refine pureZ_ (i := 10) (some 39) (ba_ 17 10239) (ao_ HT_) ?_
     refine pureZ_ (i := 11) (some 40) (ba_ 17 12287) (ao_ HT_) ?_
     refine takeZ_ (i := 12) (some 41) (ba_ 17 16383) (take_ofW HT_.out HW_.out (by kernel_rfl)) hHeld ?_
     refine one_ (i := 14) (N := some 43) (ba_ 17 32767) rfl rfl (one_of HT_.out (by kernel_rfl)) (by decide) (fun K hK => ?_)
     refine goes_ Try.func16 (by kernel_rfl) rfl #[.slice Ao19 t209.length co19] (by rfl) rfl rfl (by (try simp only [List.map_toArray, List.map_cons, List.map_nil]); first | done | rfl | (simp only [List.length_drop, List.length_take]; rfl)) ?_
     with_reducible refine (spec_l16Least.calls k1 _ _ t209 t214 _ ?side1 ?side2 A10.out).mono ?_
     (case side1 => repeat (first | exact (Kd.R_reads' HO211.out).2.2 | (with_reducible refine Kd.C_alloc ?_ _) | (with_reducible refine Kd.C_drewN ?_ _) | (with_reducible refine Kd.C_drew ?_)))
     (case side2 => exact (Kd.R_reads' HO211.out).2.1)
     rintro e w' ⟨rfl, ⟨nd, rfl⟩⟩
     refine ⟨_, rfl, ?_⟩
     refine hK.out _ _ ⟨(blk_cell BK208.out 0).trans rfl, (blk_cell BK208.out 1).trans rfl, (blk_cell BK208.out 2).trans rfl, (blk_cell BK208.out 3).trans rfl, (blk_cell BK208.out 4).trans rfl, (blk_cell BK206.out 0).trans rfl, (blk_cell BK206.out 1).trans rfl, (blk_cell BK206.out 2).trans rfl, (blk_cell BK206.out 3).trans rfl, (blk_cell BK206.out 4).trans rfl, (blk_cell BK206.out 5).trans rfl, (blk_cell BK206.out 6).trans rfl, (blk_cell BK206.out 7).trans rfl, (cb_ HB hw212_0 :), (cb_ HB hw212_1 :), (cb_ HB hw212_2 :), (cb_ HB hw213_0 :), (cb_ HB hw213_1 :), (cb_ HB hw213_2 :)⟩ (fun hHeld => ?_)
     clear hK K
     refine norm_ (a' := ?_) ?_ ?_
     rotate_left
     ·show Act.put _ (some 43) _ = _
      simp only [Act.put, List.setIfInBounds_toArray, List.set_cons_zero, List.set_cons_succ, i64_w, i32_w]
      rfl
     refine one_ (i := 15) (N := some 44) (ba_ 17 65535) rfl rfl (one_of HT_.out (by kernel_rfl)) (by decide) (fun K hK => ?_)
     refine goes_ Try.func15 (by kernel_rfl) rfl #[.agg #[.bool ((rd_T51 l0_5 x3_1).f0), .slice A207_1 ((rd_T51 l0_5 x3_1).f1).length c207_1, .int .i64 ((rd_T51 l0_5 x3_1).f2), .bool ((rd_T51 l0_5 x3_1).f3), .bool ((rd_T51 l0_5 x3_1).f4)], .agg #[.int .i64 ((rd_T57 l0_6 x3_1).f0.f0), .int .i64 ((rd_T57 l0_6 x3_1).f0.f1)], .int .i64 ((rd_T57 l0_6 x3_1).f1), .int .i64 t214] (by rfl) rfl rfl (by (try simp only [List.map_toArray, List.map_cons, List.map_nil]); first | done | rfl | (simp only [List.length_drop, List.length_take]; rfl)) ?_
     with_reducible refine (spec_AnswerOk.calls k1 ((rd_T51 l0_5 x3_1).f0) _ _ ((rd_T51 l0_5 x3_1).f1) ((rd_T51 l0_5 x3_1).f2) ((rd_T51 l0_5 x3_1).f3) ((rd_T51 l0_5 x3_1).f4) ((rd_T57 l0_6 x3_1).f0.f0) ((rd_T57 l0_6 x3_1).f0.f1) ((rd_T57 l0_6 x3_1).f1) t214 t215 _ ?side1 ?side2 A11.out).mono ?_
     (case side1 => repeat (first | exact (Kd.C_below HR207_1.out bl_) | (with_reducible refine Kd.C_alloc ?_ _) | (with_reducible refine Kd.C_drewN ?_ _) | (with_reducible refine Kd.C_drew ?_)))
     (case side2 => exact HC207_1.out)
     rintro e w20 ⟨rfl, hb⟩
     refine ⟨_, rfl, ?_⟩
     replace HO211 := hob_ HO211 hb
     replace BK206 := bkb_ BK206 hb
     replace BK208 := bkb_ BK208 hb
     replace HB := hbs_ hb
     (try clear hb)
     (try clear hb2)
     (try clear hk)
     (try clear hi)
     refine hK.out _ _ ⟨(blk_cell BK208.out 0).trans rfl, (blk_cell BK208.out 1).trans rfl, (blk_cell BK208.out 2).trans rfl, (blk_cell BK208.out 3).trans rfl, (blk_cell BK208.out 4).trans rfl, (blk_cell BK206.out 0).trans rfl, (blk_cell BK206.out 1).trans rfl, (blk_cell BK206.out 2).trans rfl, (blk_cell BK206.out 3).trans rfl, (blk_cell BK206.out 4).trans rfl, (blk_cell BK206.out 5).trans rfl, (blk_cell BK206.out 6).trans rfl, (blk_cell BK206.out 7).trans rfl, (cb_ HB hw212_0 :), (cb_ HB hw212_1 :), (cb_ HB hw212_2 :), (cb_ HB hw213_0 :), (cb_ HB hw213_1 :), (cb_ HB hw213_2 :)⟩ (fun hHeld => ?_)
     clear hK K
     refine norm_ (a' := ?_) ?_ ?_
     rotate_left
     ·show Act.put _ (some 44) _ = _
      simp only [Act.put, List.setIfInBounds_toArray, List.set_cons_zero, List.set_cons_succ, i64_w, i32_w]
      rfl
     refine pureZ_ (i := 16) (some 45) (ba_ 17 131071) (ao_ HT_) ?_
     refine done_ (done_of HT_.out (by kernel_rfl)) ?_
     go_upto_if 45 with (fail)
     have H := HC12.out
     clear HC12
     by_cases c21 : t215 = true
     ·subst c21
      replace H := ite_t_ H
      have H' := aa_ H
      clear H
      go_wp2
      go_loopg [6] k1 (fun kq v6 w' => ∃ (x6_2 : Int), v6 = .int .i64 x6_2 ∧ Aside0 (spec_Sound.l1 kq x3_1 t209 x6_2 l0_0 a0_1 l0_2 l0_3 l0_4 l0_5 l0_6 l0_7 = some r) ∧ Aside0 (kq ≤ k1) ∧ Aside0 (Kd.R k61 61 w' w.heap.size (fun _ => True) (.slice Ao19 t209.length co19) t209) ∧ Aside0 (w'.heap[gb206]? = some (.cells #[(.slice A0_0 l0_0.length c0_0), .int .i64 a0_1, (.slice A0_2 l0_2.length c0_2), (.slice A0_3 l0_3.length c0_3), (.slice A0_4 l0_4.length c0_4), (.slice (some ad207) l0_5.length c0_5), (.slice (some ad212) l0_6.length c0_6), (.slice A0_7 l0_7.length c0_7)] 40 (0, 0))) ∧ Aside0 (w'.heap[gb208]? = some (.cells #[.bool ((rd_T51 l0_5 x3_1).f0), (.slice A207_1 ((rd_T51 l0_5 x3_1).f1).length c207_1), .int .i64 ((rd_T51 l0_5 x3_1).f2), .bool ((rd_T51 l0_5 x3_1).f3), .bool ((rd_T51 l0_5 x3_1).f4)] 51 (0, 0))) ∧ Aside0 (Below w.heap.size w w'))
      case atStart => exact ⟨(0), rf_, H', ⟨Nat.le_refl _⟩, ⟨rr_ HO211⟩, ⟨bk_ BK206⟩, ⟨bk_ BK208⟩, ⟨bl_⟩⟩
      case round =>
       clear H'
       try clear c1
       try clear c2
       try clear p2
       try clear q2
       try clear hx2
       try clear c5
       try clear c5b0
       try clear c5b1
       try clear c5b2
       try clear c6
       try clear c6b0
       try clear c7
       try clear c7b0
       try clear c9
       try clear c9b0
       try clear c14
       try clear c15
       try clear c16
       try clear c20
       try clear p20
       try clear q20
       try clear hx20
       try clear c21
       try clear p21
       try clear q21
       try clear hx21
       try clear hcz13
       try clear hcz16
       try clear hcz4
       try clear hfz13
       try clear hfz16
       try clear hfz4
       try clear hx207_0
       try clear hx207_1
       try clear hx207_2
       try clear hx207_3
       try clear hx207_4
       try clear hx212_0
       try clear hx212_1
       try clear hx212_2
       try clear hx213_0
       try clear hx213_1
       try clear hx213_2
       try clear p2
       try clear p207
       try clear p212
       try clear p213
       try clear q207
       try clear q212
       try clear q213
       obtain ⟨x6_2, rfl, HA, HK2, HO_5, BK206, BK208, HB⟩ := hrel
       cases gk with
       | zero => exact absurd HA.out (by simp [spec_Sound.l1])
       | succ k2 =>
        have H := HA.out
        clear HA
        simp only [spec_Sound.l1] at H
        by_cases c22 : x6_2 < (t209.length : Int)
        ·rw [if_pos c22] at H
         have c22b0 : decide (x6_2 < (t209.length : Int)) = true := decide_eq_true c22
         clear c22
         (first | rw [c22b0] | (simp only [i64_w, i32_w]; rw [c22b0]) | (have cz_ := c22b0; simp only [Int.ofNat_lt, Int.ofNat_le, gt_iff_lt, ge_iff_le] at cz_; rw [cz_]; clear cz_) | skip)
         obtain ⟨c23b0, H⟩ := ifd_ H
         obtain ⟨t217, A24, H⟩ := bindE_ H
         have HC25 := aa_ H
         clear H
         try go_wp2
         replace HO_5 := aa_ (Kd.R_drew HO_5.out)
         replace BK206 := aa_ (blk_drew BK206.out)
         replace BK208 := aa_ (blk_drew BK208.out)
         replace HB := aa_ (below_drew1 HB.out)
         have p216 : 0 ≤ (x6_2 : Int) := od_
         have q216 : x6_2 < (t209.length : Int) := od_
         obtain ⟨ad216, e216, hx216_0, hx216_1, hx216_2, hx216_3, hx216_4, hx216_5, hx216_6, hx216_7, hx216_8, hx216_9⟩ := at_T61 (Kd.R_reads' HO_5.out).2.2 x6_2 p216 q216
         cases e216
         replace p216 := eq_true p216
         replace q216 := eq_true q216
         refine start_ (n := 8) (S := fun w' => w'.cell? ⟨gb206, 0, none⟩ = some (.slice A0_0 l0_0.length c0_0) ∧ w'.cell? ⟨gb206, 1, none⟩ = some (.int .i64 a0_1) ∧ w'.cell? ⟨gb206, 2, none⟩ = some (.slice A0_2 l0_2.length c0_2) ∧ w'.cell? ⟨gb206, 3, none⟩ = some (.slice A0_3 l0_3.length c0_3) ∧ w'.cell? ⟨gb206, 4, none⟩ = some (.slice A0_4 l0_4.length c0_4) ∧ w'.cell? ⟨gb206, 5, none⟩ = some (.slice (some ad207) l0_5.length c0_5) ∧ w'.cell? ⟨gb206, 6, none⟩ = some (.slice (some ad212) l0_6.length c0_6) ∧ w'.cell? ⟨gb206, 7, none⟩ = some (.slice A0_7 l0_7.length c0_7) ∧ w'.cell? (ad216.add ((x6_2).toNat * 10)) = some (.int .i64 ((rd_T61 t209 x6_2).f0)) ∧ w'.cell? ⟨(ad216.add ((x6_2).toNat * 10)).block, (ad216.add ((x6_2).toNat * 10)).off + 1, none⟩ = some (.int .i64 ((rd_T61 t209 x6_2).f1.f0)) ∧ w'.cell? ⟨(ad216.add ((x6_2).toNat * 10)).block, (ad216.add ((x6_2).toNat * 10)).off + 2, none⟩ = some (.int .i64 ((rd_T61 t209 x6_2).f1.f1)) ∧ w'.cell? ⟨(ad216.add ((x6_2).toNat * 10)).block, (ad216.add ((x6_2).toNat * 10)).off + 3, none⟩ = some (.int .i64 ((rd_T61 t209 x6_2).f2)) ∧ w'.cell? ⟨(ad216.add ((x6_2).toNat * 10)).block, (ad216.add ((x6_2).toNat * 10)).off + 4, none⟩ = some (.int .i64 ((rd_T61 t209 x6_2).f3.f0)) ∧ w'.cell? ⟨(ad216.add ((x6_2).toNat * 10)).block, (ad216.add ((x6_2).toNat * 10)).off + 5, none⟩ = some (.int .i64 ((rd_T61 t209 x6_2).f3.f1)) ∧ w'.cell? ⟨(ad216.add ((x6_2).toNat * 10)).block, (ad216.add ((x6_2).toNat * 10)).off + 6, none⟩ = some (.int .i64 ((rd_T61 t209 x6_2).f4.f0)) ∧ w'.cell? ⟨(ad216.add ((x6_2).toNat * 10)).block, (ad216.add ((x6_2).toNat * 10)).off + 7, none⟩ = some (.int .i64 ((rd_T61 t209 x6_2).f4.f1)) ∧ w'.cell? ⟨(ad216.add ((x6_2).toNat * 10)).block, (ad216.add ((x6_2).toNat * 10)).off + 8, none⟩ = some (.int .i64 ((rd_T61 t209 x6_2).f5)) ∧ w'.cell? ⟨(ad216.add ((x6_2).toNat * 10)).block, (ad216.add ((x6_2).toNat * 10)).off + 9, none⟩ = some (.int .i64 ((rd_T61 t209 x6_2).f6))) (ds := []) (ba_ 8 0) (by kernel_rfl) rfl rfl ⟨(blk_cell BK206.out 0).trans rfl, (blk_cell BK206.out 1).trans rfl, (blk_cell BK206.out 2).trans rfl, (blk_cell BK206.out 3).trans rfl, (blk_cell BK206.out 4).trans rfl, (blk_cell BK206.out 5).trans rfl, (blk_cell BK206.out 6).trans rfl, (blk_cell BK206.out 7).trans rfl, hx216_0, hx216_1, hx216_2, hx216_3, hx216_4, hx216_5, hx216_6, hx216_7, hx216_8, hx216_9⟩ (fun hHeld => ?_); refine with_tabW spec_Sound.tab13 spec_Sound.bits13 (fun HT_ HW_ => ?_)
         generalize wr.drew = w26 at HO_5 BK206 BK208 HB hx216_0 hx216_1 hx216_2 hx216_3 hx216_4 hx216_5 hx216_6 hx216_7 hx216_8 hx216_9 hHeld ⊢
         refine pureZ_ (i := 0) (some 52) (ba_ 8 1) (ao_ HT_) ?_
         refine pureZ_ (i := 2) (some 54) (ba_ 8 5) (ao_ HT_) ?_
         refine pureZ_ (i := 3) (some 55) (ba_ 8 13) (ao_ HT_) ?_
         refine pureZ_ (i := 4) (some 56) (ba_ 8 29) (ao_ HT_) ?_
         refine takeZ_ (i := 1) (some 53) (ba_ 8 31) (take_ofW HT_.out HW_.out (by kernel_rfl)) hHeld ?_
         refine takeZ_ (i := 5) (some 57) (ba_ 8 63) (take_ofW HT_.out HW_.out (by kernel_rfl)) hHeld ?_
         refine one_ (i := 6) (N := some 58) (ba_ 8 127) rfl rfl (one_of HT_.out (by kernel_rfl)) (by decide) (fun K hK => ?_)
         refine goes_ Try.func17 (by kernel_rfl) rfl #[.slice A0_3 l0_3.length c0_3, .agg #[.int .i64 ((rd_T61 t209 x6_2).f0), .int .i64 ((rd_T61 t209 x6_2).f1.f0), .int .i64 ((rd_T61 t209 x6_2).f1.f1), .int .i64 ((rd_T61 t209 x6_2).f2), .int .i64 ((rd_T61 t209 x6_2).f3.f0), .int .i64 ((rd_T61 t209 x6_2).f3.f1), .int .i64 ((rd_T61 t209 x6_2).f4.f0), .int .i64 ((rd_T61 t209 x6_2).f4.f1), .int .i64 ((rd_T61 t209 x6_2).f5), .int .i64 ((rd_T61 t209 x6_2).f6)]] (by rfl) rfl rfl (by (try simp only [List.map_toArray, List.map_cons, List.map_nil]); first | done | rfl | (simp only [List.length_drop, List.length_take]; rfl)) ?_
         with_reducible refine (spec_l14Said.calls k2 _ _ l0_3 ((rd_T61 t209 x6_2).f0) ((rd_T61 t209 x6_2).f1.f0) ((rd_T61 t209 x6_2).f1.f1) ((rd_T61 t209 x6_2).f2) ((rd_T61 t209 x6_2).f3.f0) ((rd_T61 t209 x6_2).f3.f1) ((rd_T61 t209 x6_2).f4.f0) ((rd_T61 t209 x6_2).f4.f1) ((rd_T61 t209 x6_2).f5) ((rd_T61 t209 x6_2).f6) t217 _ ?side1 ?side2 A24.out).mono ?_
         (case side1 => repeat (first | exact (Kd.C_below HR0_3.out HB.out) | (with_reducible refine Kd.C_alloc ?_ _) | (with_reducible refine Kd.C_drewN ?_ _) | (with_reducible refine Kd.C_drew ?_)))
         (case side2 => exact HC0_3.out)
         rintro e w27 ⟨rfl, hb⟩
         have HS8_ := (hb.cell (World.block_lt_of_cell? _ _ (hHeld.2.2.2.2.2.2.2.2.1))).trans (hHeld.2.2.2.2.2.2.2.2.1)
         have HS9_ := (hb.cell (World.block_lt_of_cell? _ _ (hHeld.2.2.2.2.2.2.2.2.2.1))).trans (hHeld.2.2.2.2.2.2.2.2.2.1)
         have HS10_ := (hb.cell (World.block_lt_of_cell? _ _ (hHeld.2.2.2.2.2.2.2.2.2.2.1))).trans (hHeld.2.2.2.2.2.2.2.2.2.2.1)
         have HS11_ := (hb.cell (World.block_lt_of_cell? _ _ (hHeld.2.2.2.2.2.2.2.2.2.2.2.1))).trans (hHeld.2.2.2.2.2.2.2.2.2.2.2.1)
         have HS12_ := (hb.cell (World.block_lt_of_cell? _ _ (hHeld.2.2.2.2.2.2.2.2.2.2.2.2.1))).trans (hHeld.2.2.2.2.2.2.2.2.2.2.2.2.1)
         have HS13_ := (hb.cell (World.block_lt_of_cell? _ _ (hHeld.2.2.2.2.2.2.2.2.2.2.2.2.2.1))).trans (hHeld.2.2.2.2.2.2.2.2.2.2.2.2.2.1)
         have HS14_ := (hb.cell (World.block_lt_of_cell? _ _ (hHeld.2.2.2.2.2.2.2.2.2.2.2.2.2.2.1))).trans (hHeld.2.2.2.2.2.2.2.2.2.2.2.2.2.2.1)
         have HS15_ := (hb.cell (World.block_lt_of_cell? _ _ (hHeld.2.2.2.2.2.2.2.2.2.2.2.2.2.2.2.1))).trans (hHeld.2.2.2.2.2.2.2.2.2.2.2.2.2.2.2.1)
         have HS16_ := (hb.cell (World.block_lt_of_cell? _ _ (hHeld.2.2.2.2.2.2.2.2.2.2.2.2.2.2.2.2.1))).trans (hHeld.2.2.2.2.2.2.2.2.2.2.2.2.2.2.2.2.1)
         have HS17_ := (hb.cell (World.block_lt_of_cell? _ _ (hHeld.2.2.2.2.2.2.2.2.2.2.2.2.2.2.2.2.2))).trans (hHeld.2.2.2.2.2.2.2.2.2.2.2.2.2.2.2.2.2)
         refine ⟨_, rfl, ?_⟩
         replace HO_5 := hob_ HO_5 hb
         replace BK206 := bkb_ BK206 hb
         replace BK208 := bkb_ BK208 hb
         replace HB := hbs_ hb
         (try clear hb)
         (try clear hb2)
         (try clear hk)
         (try clear hi)
         refine hK.out _ _ ⟨(blk_cell BK206.out 0).trans rfl, (blk_cell BK206.out 1).trans rfl, (blk_cell BK206.out 2).trans rfl, (blk_cell BK206.out 3).trans rfl, (blk_cell BK206.out 4).trans rfl, (blk_cell BK206.out 5).trans rfl, (blk_cell BK206.out 6).trans rfl, (blk_cell BK206.out 7).trans rfl, HS8_, HS9_, HS10_, HS11_, HS12_, HS13_, HS14_, HS15_, HS16_, HS17_⟩ (fun hHeld => ?_)
         clear hK K
         refine norm_ (a' := ?_) ?_ ?_
         rotate_left
         ·show Act.put _ (some 58) _ = _
          simp only [Act.put, List.setIfInBounds_toArray, List.set_cons_zero, List.set_cons_succ, i64_w, i32_w]
          rfl
         refine pureZ_ (i := 7) (some 59) (ba_ 8 255) (ao_ HT_) ?_
         refine done_ (done_of HT_.out (by kernel_rfl)) ?_
         go_upto_if 59 with (fail)
         have H := HC25.out
         clear HC25
         by_cases c28 : t217 = true
         ·subst c28
          replace H := ite_t_ H
          have H' := aa_ H
          clear H
          go_wp2
          go_roundg k2
          case measure => have := HK1.out; have := HK2.out; omega
          case rel => exact ⟨(wrap64 (x6_2 + 1)), rf_, H', ⟨by have := HK1.out; have := HK2.out; omega⟩, ⟨rr_ HO_5⟩, ⟨bk_ BK206⟩, ⟨bk_ BK208⟩, ⟨bl_⟩⟩
         ·replace c28 := Bool.eq_false_iff.mpr c28
          subst c28
          replace H := ite_f_ H
          obtain rfl := Option.some.inj H
          go_wp2
          go_ret
          exact ⟨eq_, bl_⟩
        ·rw [if_neg c22] at H
         have c22b0 : decide (x6_2 < (t209.length : Int)) = false := decide_eq_false c22
         clear c22
         (first | rw [c22b0] | (simp only [i64_w, i32_w]; rw [c22b0]) | (have cz_ := c22b0; simp only [Int.ofNat_lt, Int.ofNat_le, gt_iff_lt, ge_iff_le] at cz_; rw [cz_]; clear cz_) | skip)
         have H' := aa_ H
         clear H
         go_wp2
         go_roundg k2
         case measure => have := HK1.out; have := HK2.out; omega
         case rel => exact ⟨(wrap64 (x3_1 + 1)), rf_, H', ⟨by have := HK1.out; have := HK2.out; omega⟩, ⟨bk_ BK206⟩, ⟨bl_⟩⟩
     ·replace c21 := Bool.eq_false_iff.mpr c21
      subst c21
      replace H := ite_f_ H
      obtain rfl := Option.some.inj H
      go_wp2
      go_ret
      exact ⟨eq_, bl_⟩
    ·rw [if_neg c6] at H
     have c6b0 : decide (x3_1 < (l0_5.length : Int)) = false := decide_eq_false c6
     clear c6
     obtain rfl := Option.some.inj H
     have hcz29 := blk_cell BK206.out
     have hfz29 := blk_frozen BK206.out
     go_wp2
     go_ret
     exact ⟨eq_, bl_⟩
 ·rw [if_neg c5] at H
  have c5b0 : ((l0_5.length : Int) == (l0_6.length : Int)) = false := beq_eq_false_iff_ne.mpr c5
  have c5b1 : ((l0_5.length : Int) != (l0_6.length : Int)) = true := bne_iff_ne.mpr c5
  have c5b2 : (l0_5.length == l0_6.length) = false := by first | simpa using c5 | (simp at c5 ⊢; omega)
  (first | rw [c5b1] | rw [c5b0] | (simp only [i64_w, i32_w]; rw [c5b0]) | (have cz_ := c5b0; simp only [Int.ofNat_lt, Int.ofNat_le, gt_iff_lt, ge_iff_le] at cz_; rw [cz_]; clear cz_) | skip)
  obtain rfl := Option.some.inj H
  go_wp2
  go_ret
  exact ⟨eq_, bl_⟩
def laws_toIntS.l0 : Nat → List Int → List Int → Int → Option (List Int)
 | 0, _, _, _ => none
 | k + 1, x0, x3, x4 => if x4 < (x0.length : Int) then (if 0 ≤ x4 then (if x4 < (x3.length : Int) then (laws_toIntS.l0 k x0 (x3.set (x4 : Int).toNat (rd x0 x4)) (wrap64 (x4 + 1))) else (none)) else (none)) else (some x3)
def laws_toIntS.f (k : Nat) (l0 : List Int) : Option (List Int) := if 0 ≤ (l0.length : Int) then (if ((l0.length : Int) : Int).toNat ≤ 35184372088832 then (laws_toIntS.l0 k l0 (List.replicate ((l0.length : Int) : Int).toNat 0) 0) else (none)) else (none)
set_option maxHeartbeats 8000000 in
set_option maxRecDepth 100000 in
theorem laws_toIntS.calls (k : Nat) (A0 : Option Addr) (c0 : Nat) (l0 : List Int) (r : List Int) (w : World) (hr0 : Kd.C (Kd.int .i64) w A0 l0.length l0) (hc0 : l0.length ≤ c0) (h : laws_toIntS.f k l0 = some r) :
  Calls Try.prog 19 #[.slice A0 l0.length c0] w fun e w' => ∃ v0_ : Value, e = .returned (v0_) ∧ Kd.R (Kd.int .i64) 3 w' w.heap.size (fun _ => True) v0_ r ∧ Below w.heap.size w w' := by
 have HR0 := aa_ hr0
 have HC0 := aa_ hc0
 clear hr0 hc0
 have HB := aa_ (Below.refl w.heap.size w)
 have H : (if 0 ≤ (l0.length : Int) then (if ((l0.length : Int) : Int).toNat ≤ 35184372088832 then (laws_toIntS.l0 k l0 (List.replicate ((l0.length : Int) : Int).toNat 0) 0) else (none)) else (none)) = some r := h
 clear h
 obtain ⟨c2, H⟩ := ifn_ H
 have c2b0 := eq_true c2
 have c2b1 : decide (0 ≤ (l0.length : Int)) = true := decide_eq_true c2
 clear c2
 obtain ⟨c3, H⟩ := ifn_ H
 have c3b0 := eq_true c3
 have c3b1 : decide (((l0.length : Int) : Int).toNat ≤ 35184372088832) = true := decide_eq_true c3
 clear c3
 obtain ⟨y218, hy218⟩ : ∃ y_ : List Int, y_ = (List.replicate ((l0.length : Int) : Int).toNat 0) := ⟨_, rfl⟩
 replace H : (laws_toIntS.l0 k l0 y218 0) = some r := rh_ hy218 H
 have Ny218 := aa_ hy218
 clear hy218
 have H' := aa_ H
 clear H
 go_enter Try.func19, Try.ntmps19
 go_wp2_with (first | ((with_reducible refine gD_ 7 rfl ?_); refine Kd.R_make (Kd.int .i64) _ 3 rfl (N := 7) rfl 25 _ _ rfl (l0.length : Int) rfl rfl Try.underlying25 (.int .i64 0) 8 info3 rfl (by decide) (by omega) 0 (ok := fun _ => True) (okp := fun _ => True) rfl (fun _ hk => hk) trivial (od_) (Nat.le_trans (Nat.mul_le_mul_right _ (od_ : (l0.length : Int).toNat ≤ 35184372088832)) (by omega)) (Below.refl _ _) (Nat.le_refl _) ?_; intro v219 w4 ho5 hb hg_ hnew_; clear hg_ hnew_; (first | rw [← Ny218.out] at ho5 | (simp only [Int.reduceToNat] at ho5; rw [← Ny218.out] at ho5)); have HO220 := aa_ (Kd.R_lower ho5 bls_); replace HB := hbs_ hb; clear hb ho5))
 go_loopg [4] k (fun kq v4 w' => ∃ (x3_1 : List Int) (x4_1 : Int), v4 = .int .i64 x4_1 ∧ Aside0 (laws_toIntS.l0 kq l0 x3_1 x4_1 = some r) ∧ Aside0 (kq ≤ k) ∧ Aside0 (Kd.R (Kd.int .i64) 3 w' w.heap.size (fun _ => True) v219 x3_1) ∧ Aside0 (Below w.heap.size w w'))
 case atStart => exact ⟨(y218), (0), rf_, H', ⟨Nat.le_refl _⟩, ⟨rr_ HO220⟩, ⟨bl_⟩⟩
 case round =>
  clear H'
  try clear c1
  try clear c2
  try clear c2b0
  try clear c2b1
  try clear p2
  try clear c3
  try clear c3b0
  try clear c3b1
  obtain ⟨x3_1, x4_1, rfl, HA, HK1, HO_3, HB⟩ := hrel
  cases gk with
  | zero => exact absurd HA.out (by simp [laws_toIntS.l0])
  | succ k1 =>
   have H := HA.out
   clear HA
   simp only [laws_toIntS.l0] at H
   by_cases c6 : x4_1 < (l0.length : Int)
   ·rw [if_pos c6] at H
    have c6b0 : decide (x4_1 < (l0.length : Int)) = true := decide_eq_true c6
    clear c6
    obtain ⟨c7b0, H⟩ := ifd_ H
    obtain ⟨c8b0, H⟩ := ifd_ H
    obtain ⟨y222, hy222⟩ : ∃ y_ : List Int, y_ = (x3_1.set (x4_1 : Int).toNat (rd l0 x4_1)) := ⟨_, rfl⟩
    replace H : (laws_toIntS.l0 k1 l0 y222 (wrap64 (x4_1 + 1))) = some r := rh_ hy222 H
    have Ny222 := aa_ hy222
    clear hy222
    have H' := aa_ H
    clear H
    have p221 : 0 ≤ (x4_1 : Int) := od_
    have q221 : x4_1 < (l0.length : Int) := od_
    obtain ⟨ad221, e221, hx221_0⟩ := Kd.at_int (Kd.C_below HR0.out HB.out) x4_1 p221 q221
    cases e221
    replace p221 := eq_true p221
    replace q221 := eq_true q221
    have p9 : 0 ≤ (x4_1 : Int) := od_
    have q9 : (x4_1 : Int) < ((x3_1.length : Int) : Int) := od_
    obtain ⟨go9, co9, eo9, gb9, gl9, cl9, HG9⟩ := Kd.R_form HO_3.out (by omega)
    (first | cases eo9 | (injection eo9 with ea_ en_ ec_; (first | subst ea_ | (injection ea_ with ea_; subst ea_)); subst ec_; clear en_))
    have GB9 := aa_ gb9
    have GG9 := aa_ HG9
    clear gb9 gl9 HG9
    obtain ⟨hx9_0, hf9_0⟩ := Kd.R_celln 0 HO_3.out (x4_1 : Int) p9 q9
    replace p9 := eq_true p9
    replace q9 := eq_true q9
    have HP10 := Kd.R_putg HO_3.out (x4_1 : Int) (rd l0 x4_1)
    go_wp2_with (first | ((with_reducible refine gate_store (t := 3) (p := 20) rfl ?_); refine store_event (t := 3) (p := 20) (v := ?vo_w11) (w1 := (wr.setCell ⟨go9, (x4_1 : Int).toNat, none⟩ (.int .i64 (rd l0 x4_1)))) ?hg ?ho ?hn ?hr ?_; (case ho => rfl); (case hg => rfl); (case hn => rfl); (case hr => first | (go_simp; done) | (go_simp; rfl)); intro w11 hw; have hg : wr.grownBy w11 (some go9) := (by rw [hw]; exact HP10.2); have hp_ : Kd.R (Kd.int .i64) 3 w11 w.heap.size (fun _ => True) (.slice (some ⟨go9, 0, none⟩) x3_1.length co9) y222 := (by rw [hw, Ny222.out]; exact HP10.1); clear HP10; replace HO_3 := aa_ (hp_); replace HB := aa_ ((by rw [hw]; exact below_set (HB.out) GB9.out : Below w.heap.size w w11)); clear hg hw hp_))
    go_roundg k1
    case measure => have := HK1.out; omega
    case rel => exact ⟨(y222), (wrap64 (x4_1 + 1)), rf_, H', ⟨by have := HK1.out; omega⟩, ⟨rr_ HO_3⟩, ⟨bl_⟩⟩
   ·rw [if_neg c6] at H
    have c6b0 : decide (x4_1 < (l0.length : Int)) = false := decide_eq_false c6
    clear c6
    obtain rfl := Option.some.inj H
    go_wp2
    go_ret
    exact ⟨_, eq_, by (with_reducible repeat (first | apply Kd.R_alloc | apply Kd.R_drewN | apply Kd.R_drew)); exact HO_3.out, bl_⟩
def laws_toItem.f (a0_0 : ByteArray) (a0_1 : Bool) : Option (ByteArray × Bool) := some (a0_0, a0_1)
set_option maxHeartbeats 8000000 in
set_option maxRecDepth 100000 in
theorem laws_toItem.calls (a0_0 : ByteArray) (a0_1 : Bool) (r1 : ByteArray) (r2 : Bool) (w : World) (h : laws_toItem.f a0_0 a0_1 = some (r1, r2)) :
  Calls Try.prog 82 #[.agg #[.string a0_0, .bool a0_1]] w fun e w' => e = .returned (.agg #[.string r1, .bool r2]) ∧ Below w.heap.size w w' := by
 have hu141 := Try.underlying141
 have hu142 := Try.underlying142
 have HB := aa_ (Below.refl w.heap.size w)
 have H : (some (a0_0, a0_1)) = some (r1, r2) := h
 clear h
 simp only [Option.some.injEq, Prod.mk.injEq] at H
 obtain ⟨rfl, rfl⟩ := H
 go_enter Try.func82, Try.ntmps82
 go_wp2_with (first | ((with_reducible refine gD_ 1 rfl ?_); refine bx_ (N := 1) (cs := #[.string a0_0, .bool a0_1]) (t := 141) ?_; intro gb223 hg w2 hbox hb; have BK223 := aa_ (hbox); have GW223 := gs_ hg; have GE223 := gs_ hg; replace HB := hbs_ hb; clear hb hbox hg) | ((with_reducible refine gD_ 2 rfl ?_); refine box_event ?hg (N := 2) ?hd (cs := #[.string (⟨#[]⟩ : ByteArray), .bool false]) (t := 142) ?hr ?_; (case hd => rfl); (case hg => rfl); (case hr => first | (go_simp; done) | (go_simp; rfl)); intro gb224 hg w3 hbox hb; have BK224 := aa_ (hbox); have GW224 := gs_ hg; have GE224 := gs_ hg; replace HB := hbs_ hb; have NB223_224 := nl_ hg BK223; have NB224_223 := nr_ hg BK223; replace BK223 := bkb_ BK223 hb; clear hb hbox hg) | ((with_reducible refine gD_ 3 rfl ?_); refine box_event ?hg (N := 3) ?hd (cs := #[.string (⟨#[]⟩ : ByteArray), .bool false]) (t := 142) ?hr ?_; (case hd => rfl); (case hg => rfl); (case hr => first | (go_simp; done) | (go_simp; rfl)); intro gb225 hg w4 hbox hb; have BK225 := aa_ (hbox); have GW225 := gs_ hg; have GE225 := gs_ hg; replace HB := hbs_ hb; have NB223_225 := nl_ hg BK223; have NB225_223 := nr_ hg BK223; replace BK223 := bkb_ BK223 hb; have NB224_225 := nl_ hg BK224; have NB225_224 := nr_ hg BK224; replace BK224 := bkb_ BK224 hb; clear hb hbox hg; have hnb5 := NB223_224.out; have hnc5 := NB224_223.out; have hnb6 := NB223_225.out; have hnc6 := NB225_223.out; obtain ⟨hcz7, hfz7⟩ := bcf_ BK223; have hnb8 := NB225_224.out; have hnc8 := NB224_225.out; obtain ⟨hcz9, hfz9⟩ := bcf_ BK225; obtain ⟨hcz10, hfz10⟩ := bcf_ BK224))
 refine bodyPost_ret (results_cell_row rfl _ _ gb224 142 #[.string a0_0, .bool a0_1] (0, 0) _ rfl (bk_ BK224) Try.underlying142 rfl (by kernel_rfl)) rfl ?_
 exact ⟨eq_, bl_⟩
def laws_toItemS.l0 : Nat → List (S141) → List (S142) → Int → Option ((List (S142)))
 | 0, _, _, _ => none
 | k + 1, x0, x3, x4 => if x4 < (x0.length : Int) then (if 0 ≤ x4 then ((laws_toItem.f ((rd_T141 x0 x4).f0) ((rd_T141 x0 x4).f1)).bind fun bt230 => (if x4 < (x3.length : Int) then (laws_toItemS.l0 k x0 (x3.set (x4 : Int).toNat (⟨bt230.1, bt230.2⟩ : S142)) (wrap64 (x4 + 1))) else (none))) else (none)) else (some x3)
def laws_toItemS.f (k : Nat) (l0 : List (S141)) : Option ((List (S142))) := if 0 ≤ (l0.length : Int) then (if ((l0.length : Int) : Int).toNat ≤ 11728124029610 then (laws_toItemS.l0 k l0 (List.replicate ((l0.length : Int) : Int).toNat z142) 0) else (none)) else (none)
set_option maxHeartbeats 8000000 in
set_option maxRecDepth 100000 in
theorem laws_toItemS.calls (k : Nat) (A0 : Option Addr) (c0 : Nat) (l0 : List (S141)) (r : List (S142)) (w : World) (hr0 : Kd.C k141 w A0 l0.length l0) (hc0 : l0.length ≤ c0) (h : laws_toItemS.f k l0 = some r) :
  Calls Try.prog 79 #[.slice A0 l0.length c0] w fun e w' => ∃ v0_ : Value, e = .returned (v0_) ∧ Kd.R k142 142 w' w.heap.size (fun _ => True) v0_ r ∧ Below w.heap.size w w' := by
 have hu141 := Try.underlying141
 have hu142 := Try.underlying142
 have HR0 := aa_ hr0
 have HC0 := aa_ hc0
 clear hr0 hc0
 have HB := aa_ (Below.refl w.heap.size w)
 have H : (if 0 ≤ (l0.length : Int) then (if ((l0.length : Int) : Int).toNat ≤ 11728124029610 then (laws_toItemS.l0 k l0 (List.replicate ((l0.length : Int) : Int).toNat z142) 0) else (none)) else (none)) = some r := h
 clear h
 obtain ⟨c2, H⟩ := ifn_ H
 have c2b0 := eq_true c2
 have c2b1 : decide (0 ≤ (l0.length : Int)) = true := decide_eq_true c2
 clear c2
 obtain ⟨c3, H⟩ := ifn_ H
 have c3b0 := eq_true c3
 have c3b1 : decide (((l0.length : Int) : Int).toNat ≤ 11728124029610) = true := decide_eq_true c3
 clear c3
 obtain ⟨y226, hy226⟩ : ∃ y_ : List (S142), y_ = (List.replicate ((l0.length : Int) : Int).toNat z142) := ⟨_, rfl⟩
 replace H : (laws_toItemS.l0 k l0 y226 0) = some r := rh_ hy226 H
 have Ny226 := aa_ hy226
 clear hy226
 have H' := aa_ H
 clear H
 go_enter Try.func79, Try.ntmps79
 go_wp2_with (first | ((with_reducible refine gD_ 7 rfl ?_); refine Kd.R_make k142 _ 142 rfl (N := 7) rfl 131 _ _ rfl (l0.length : Int) rfl rfl Try.underlying131 (.agg #[(.string ⟨#[]⟩), (.bool false)]) 24 info142 rfl (by decide) (by omega) z142 (ok := fun _ => True) (okp := fun _ => True) (k142_mkM _ _ _ z142 ) (fun _ hk => hk) trivial (od_) (Nat.le_trans (Nat.mul_le_mul_right _ (od_ : (l0.length : Int).toNat ≤ 11728124029610)) (by omega)) (Below.refl _ _) (Nat.le_refl _) ?_; intro v227 w4 ho5 hb hg_ hnew_; clear hg_ hnew_; (first | rw [← Ny226.out] at ho5 | (simp only [Int.reduceToNat] at ho5; rw [← Ny226.out] at ho5)); have HO228 := aa_ (Kd.R_lower ho5 bls_); replace HB := hbs_ hb; clear hb ho5))
 go_loopg [4] k (fun kq v4 w' => ∃ (x3_1 : List (S142)) (x4_1 : Int), v4 = .int .i64 x4_1 ∧ Aside0 (laws_toItemS.l0 kq l0 x3_1 x4_1 = some r) ∧ Aside0 (kq ≤ k) ∧ Aside0 (Kd.R k142 142 w' w.heap.size (fun _ => True) v227 x3_1) ∧ Aside0 (Below w.heap.size w w'))
 case atStart => exact ⟨(y226), (0), rf_, H', ⟨Nat.le_refl _⟩, ⟨rr_ HO228⟩, ⟨bl_⟩⟩
 case round =>
  clear H'
  try clear c2
  try clear c2b0
  try clear c2b1
  try clear p2
  try clear c3
  try clear c3b0
  try clear c3b1
  obtain ⟨x3_1, x4_1, rfl, HA, HK1, HO_3, HB⟩ := hrel
  cases gk with
  | zero => exact absurd HA.out (by simp [laws_toItemS.l0])
  | succ k1 =>
   have H := HA.out
   clear HA
   simp only [laws_toItemS.l0] at H
   by_cases c6 : x4_1 < (l0.length : Int)
   ·rw [if_pos c6] at H
    have c6b0 : decide (x4_1 < (l0.length : Int)) = true := decide_eq_true c6
    clear c6
    obtain ⟨c7b0, H⟩ := ifd_ H
    obtain ⟨⟨t230, t231⟩, A8, H⟩ := bindE_ H
    replace H : (if x4_1 < (x3_1.length : Int) then (laws_toItemS.l0 k1 l0 (x3_1.set (x4_1 : Int).toNat (⟨t230, t231⟩ : S142)) (wrap64 (x4_1 + 1))) else (none)) = some r := H
    obtain ⟨c9b0, H⟩ := ifd_ H
    obtain ⟨y232, hy232⟩ : ∃ y_ : List (S142), y_ = (x3_1.set (x4_1 : Int).toNat (⟨t230, t231⟩ : S142)) := ⟨_, rfl⟩
    replace H : (laws_toItemS.l0 k1 l0 y232 (wrap64 (x4_1 + 1))) = some r := rh_ hy232 H
    have Ny232 := aa_ hy232
    clear hy232
    have H' := aa_ H
    clear H
    have p229 : 0 ≤ (x4_1 : Int) := od_
    have q229 : x4_1 < (l0.length : Int) := od_
    obtain ⟨ad229, e229, hx229_0, hx229_1⟩ := at_T141 (Kd.C_below HR0.out HB.out) x4_1 p229 q229
    cases e229
    replace p229 := eq_true p229
    replace q229 := eq_true q229
    go_wp2_with (first | ((with_reducible refine gC_ 82 rfl ?_); refine goesC_ (some 20) Try.func82 #[.agg #[.string ((rd_T141 l0 x4_1).f0), .bool ((rd_T141 l0 x4_1).f1)]] ?_; (with_reducible refine (laws_toItem.calls ((rd_T141 l0 x4_1).f0) ((rd_T141 l0 x4_1).f1) t230 t231 _ A8.out).mono ?_); rintro e w11 ⟨rfl, hb⟩; refine ⟨_, rfl, ?_⟩; replace HO_3 := hob_ HO_3 hb; replace HB := hbs_ hb; clear hb; have p10 : 0 ≤ (x4_1 : Int) := od_; have q10 : (x4_1 : Int) < ((x3_1.length : Int) : Int) := od_; obtain ⟨go10, co10, eo10, gb10, gl10, cl10, HG10⟩ := Kd.R_form HO_3.out (by omega); (first | cases eo10 | (injection eo10 with ea_ en_ ec_; (first | subst ea_ | (injection ea_ with ea_; subst ea_)); subst ec_; clear en_)); have GB10 := aa_ gb10; have GG10 := aa_ HG10; clear gb10 gl10 HG10; obtain ⟨ce10, hcl10, hM10, hcc10, hfr10⟩ := Kd.R_elem HO_3.out z142 (x4_1 : Int) p10 q10; obtain rfl := k142_openM hM10; have hx10_0 : w11.cell? ⟨go10, (x4_1 : Int).toNat * 2, none⟩ = some (.string ((rd_T142 x3_1 x4_1).f0)) := hcc10 0 _ rfl; have hx10_1 : w11.cell? ⟨go10, (x4_1 : Int).toNat * 2 + 1, none⟩ = some (.bool ((rd_T142 x3_1 x4_1).f1)) := hcc10 1 _ rfl; have hf10_0 : w11.frozen? ⟨go10, (x4_1 : Int).toNat * 2, none⟩ = false := hfr10 0; have hf10_1 : w11.frozen? ⟨go10, (x4_1 : Int).toNat * 2 + 1, none⟩ = false := hfr10 1; clear hcl10 hcc10 hfr10 hM10; replace p10 := eq_true p10; replace q10 := eq_true q10; have HX12 := aa_ (show Kd.R k142 142 w11 w.heap.size (fun _ => True) (.slice (some ⟨go10, 0, none⟩) x3_1.length co10) x3_1 from (rr_ HO_3)); obtain ⟨ce12, hcl12, hM12, hcc12, hfr12⟩ := Kd.R_elem HX12.out z142 (x4_1 : Int) (od_) (by have h_ : (x4_1 : Int) < ((x3_1.length : Int) : Int) := od_; first | exact h_ | (have e_ := (Kd.R_reads' HO_3.out).1; omega) | simpa using h_); obtain rfl := k142_openM hM12; have HP12 := Kd.R_seg HX12.out (x4_1 : Int) (od_) (by have h_ : (x4_1 : Int) < ((x3_1.length : Int) : Int) := od_; first | exact h_ | (have e_ := (Kd.R_reads' HO_3.out).1; omega) | simpa using h_) (seg := [.string t230, .bool t231]) (j := 0) hcl12 hcc12 (show 2 ≤ 2 from by decide) (x' := (⟨t230, t231⟩ : S142)) (k142_mkM _ _ _ (⟨t230, t231⟩ : S142) ) (fun _ hk => hk); have hx12_0 := hcc12 0 _ rfl; (try simp only [show (k142).sz = 2 from rfl, Nat.mul_one, Nat.add_zero] at hx12_0); have hf12_0 := hfr12 0; (try simp only [show (k142).sz = 2 from rfl, Nat.mul_one, Nat.add_zero] at hf12_0); have hx12_1 := hcc12 1 _ rfl; (try simp only [show (k142).sz = 2 from rfl, Nat.mul_one, Nat.add_zero] at hx12_1); have hf12_1 := hfr12 1; (try simp only [show (k142).sz = 2 from rfl, Nat.mul_one, Nat.add_zero] at hf12_1); clear hcl12 hcc12 hfr12 hM12) | ((with_reducible refine gate_store (t := 142) (p := 21) rfl ?_); refine store_event (t := 142) (p := 21) (v := ?vo_w13) (w1 := ((w11.setCell ⟨go10, (x4_1 : Int).toNat * 2, none⟩ (.string t230)).setCell ⟨go10, (x4_1 : Int).toNat * 2 + 1, none⟩ (.bool t231))) ?hg ?ho ?hn ?hr ?_; (case ho => rfl); (case hg => rfl); (case hn => rfl); (case hr => first | (go_simp; done) | (go_simp; rfl)); intro w13 hw; have hg : w11.grownBy w13 (some go10) := (by rw [hw]; exact HP12.2); have hp_ : Kd.R k142 142 w13 w.heap.size (fun _ => True) (.slice (some ⟨go10, 0, none⟩) x3_1.length co10) y232 := (by rw [hw, Ny232.out]; exact HP12.1); clear HP12; replace HO_3 := aa_ (hp_); replace HB := aa_ ((by rw [hw]; exact below_set (below_set (HB.out) GB10.out) GB10.out : Below w.heap.size w w13)); clear hg hw hp_))
    go_roundg k1
    case measure => have := HK1.out; omega
    case rel => exact ⟨(y232), (wrap64 (x4_1 + 1)), rf_, H', ⟨by have := HK1.out; omega⟩, ⟨rr_ HO_3⟩, ⟨bl_⟩⟩
   ·rw [if_neg c6] at H
    have c6b0 : decide (x4_1 < (l0.length : Int)) = false := decide_eq_false c6
    clear c6
    obtain rfl := Option.some.inj H
    go_wp2
    go_ret
    exact ⟨_, eq_, by (with_reducible repeat (first | apply Kd.R_alloc | apply Kd.R_drewN | apply Kd.R_drew)); exact HO_3.out, bl_⟩
def laws_toShelf.f (k : Nat) (a0_0 : Int) (l0_1 : List (S141)) : Option (Int × (List (S142))) := (laws_toItemS.f k l0_1).bind fun t236 => (some (a0_0, t236))
set_option maxHeartbeats 8000000 in
set_option maxRecDepth 100000 in
theorem laws_toShelf.calls (k : Nat) (a0_0 : Int) (A0_1 : Option Addr) (c0_1 : Nat) (l0_1 : List (S141)) (r1 : Int) (r2 : List (S142)) (w : World) (hr0_1 : Kd.C k141 w A0_1 l0_1.length l0_1) (hc0_1 : l0_1.length ≤ c0_1) (h : laws_toShelf.f k a0_0 l0_1 = some (r1, r2)) :
  Calls Try.prog 76 #[.agg #[.int .i64 a0_0, .slice A0_1 l0_1.length c0_1]] w fun e w' => ∃ v1_ : Value, e = .returned (.agg #[.int .i64 r1, v1_]) ∧ Kd.R k142 142 w' w.heap.size (fun _ => True) v1_ r2 ∧ Below w.heap.size w w' := by
 have hu130 := Try.underlying130
 have hu133 := Try.underlying133
 have HR0_1 := aa_ hr0_1
 have HC0_1 := aa_ hc0_1
 clear hr0_1 hc0_1
 have HB := aa_ (Below.refl w.heap.size w)
 have H : ((laws_toItemS.f k l0_1).bind fun t236 => (some (a0_0, t236))) = some (r1, r2) := h
 clear h
 obtain ⟨t236, A2, H⟩ := bindE_ H
 simp only [Option.some.injEq, Prod.mk.injEq] at H
 obtain ⟨rfl, rfl⟩ := H
 go_enter Try.func76, Try.ntmps76
 go_wp2_with (first | ((with_reducible refine gD_ 1 rfl ?_); refine bx_ (N := 1) (cs := #[.int .i64 a0_0, .slice A0_1 l0_1.length c0_1]) (t := 130) ?_; intro gb233 hg w3 hbox hb; have BK233 := aa_ (hbox); have GW233 := gs_ hg; have GE233 := gs_ hg; replace HB := hbs_ hb; clear hb hbox hg) | ((with_reducible refine gD_ 2 rfl ?_); refine bx_ (N := 2) (cs := #[.int .i64 0, .slice none 0 0]) (t := 133) ?_; intro gb234 hg w4 hbox hb; have BK234 := aa_ (hbox); have GW234 := gs_ hg; have GE234 := gs_ hg; replace HB := hbs_ hb; have NB233_234 := nl_ hg BK233; have NB234_233 := nr_ hg BK233; replace BK233 := bkb_ BK233 hb; clear hb hbox hg) | ((with_reducible refine gD_ 3 rfl ?_); refine bx_ (N := 3) (cs := #[.int .i64 0, .slice none 0 0]) (t := 133) ?_; intro gb235 hg w5 hbox hb; have BK235 := aa_ (hbox); have GW235 := gs_ hg; have GE235 := gs_ hg; replace HB := hbs_ hb; have NB233_235 := nl_ hg BK233; have NB235_233 := nr_ hg BK233; replace BK233 := bkb_ BK233 hb; have NB234_235 := nl_ hg BK234; have NB235_234 := nr_ hg BK234; replace BK234 := bkb_ BK234 hb; clear hb hbox hg; have hnb6 := NB233_234.out; have hnc6 := NB234_233.out; have hnb7 := NB233_235.out; have hnc7 := NB235_233.out; obtain ⟨hcz8, hfz8⟩ := bcf_ BK233; have hnb9 := NB235_234.out; have hnc9 := NB234_235.out; obtain ⟨hcz10, hfz10⟩ := bcf_ BK235) | ((with_reducible refine gC_ 79 rfl ?_); refine goesC_ (some 9) Try.func79 #[.slice A0_1 l0_1.length c0_1] ?_; (with_reducible refine (laws_toItemS.calls k _ _ l0_1 t236 _ ?side1 ?side2 A2.out).mono ?_); (case side1 => exact Kd.C_below HR0_1.out bl_); (case side2 => exact HC0_1.out); rintro e w11 ⟨v237, rfl, ho0, hb⟩; refine ⟨_, rfl, ?_⟩; have HO238 := aa_ (Kd.R_lower ho0 bls_); replace BK233 := aa_ (blk_below (g := gb233) (o := .cells #[.int .i64 a0_0, .slice A0_1 l0_1.length c0_1] 130 (0, 0)) (bk_ BK233) hb); replace BK234 := aa_ (blk_below (g := gb234) (o := .cells #[.int .i64 0, .slice none 0 0] 133 (0, 0)) (bk_ BK234) hb); replace BK235 := aa_ (blk_below (g := gb235) (o := .cells #[.int .i64 a0_0, .slice none 0 0] 133 (0, 0)) (bk_ BK235) hb); replace HB := hbs_ hb; (try clear hb ho0); obtain ⟨Ao12, co12, eo12⟩ := Kd.R_slice HO238.out; subst eo12; obtain ⟨hcz13, hfz13⟩ := bcf_ BK235; obtain ⟨hcz14, hfz14⟩ := bcf_ BK234))
 refine bodyPost_ret (results_cell_row rfl _ _ gb234 133 #[.int .i64 a0_0, .slice Ao12 t236.length co12] (0, 0) _ rfl (bk_ BK234) Try.underlying133 rfl (by kernel_rfl)) rfl ?_
 exact ⟨_, eq_, by (with_reducible repeat (first | apply Kd.R_alloc | apply Kd.R_drewN | apply Kd.R_drew)); exact Kd.R_mono (fr2_ (Kd.R_far (p := ⟨gb235, 1, none⟩) (Kd.R_types (Kd.R_types HO238.out BK235.out (by decide)) BK234.out (by decide)) (fun _ hk => hk.1.2) (.slice Ao12 t236.length co12)) (fun _ hk => hk.2)) (fun _ hk => trivial), bl_⟩
def laws_toShelfS.l0 : Nat → List (S130) → List (S133) → Int → Option ((List (S133)))
 | 0, _, _, _ => none
 | k + 1, x0, x3, x4 => if x4 < (x0.length : Int) then (if 0 ≤ x4 then ((laws_toShelf.f k ((rd_T130 x0 x4).f0) ((rd_T130 x0 x4).f1)).bind fun bt243 => (if x4 < (x3.length : Int) then (laws_toShelfS.l0 k x0 (x3.set (x4 : Int).toNat (⟨bt243.1, bt243.2⟩ : S133)) (wrap64 (x4 + 1))) else (none))) else (none)) else (some x3)
def laws_toShelfS.f (k : Nat) (l0 : List (S130)) : Option ((List (S133))) := if 0 ≤ (l0.length : Int) then (if ((l0.length : Int) : Int).toNat ≤ 8796093022208 then (laws_toShelfS.l0 k l0 (List.replicate ((l0.length : Int) : Int).toNat z133) 0) else (none)) else (none)
set_option maxHeartbeats 8000000 in
set_option maxRecDepth 100000 in
theorem laws_toShelfS.calls (k : Nat) (A0 : Option Addr) (c0 : Nat) (l0 : List (S130)) (r : List (S133)) (w : World) (hr0 : Kd.C k130 w A0 l0.length l0) (hc0 : l0.length ≤ c0) (h : laws_toShelfS.f k l0 = some r) :
  Calls Try.prog 68 #[.slice A0 l0.length c0] w fun e w' => ∃ v0_ : Value, e = .returned (v0_) ∧ Kd.S k133 133 w' w.heap.size (fun _ => True) v0_ r ∧ Below w.heap.size w w' := by
 have hu130 := Try.underlying130
 have hu133 := Try.underlying133
 have HR0 := aa_ hr0
 have HC0 := aa_ hc0
 clear hr0 hc0
 have HB := aa_ (Below.refl w.heap.size w)
 have H : (if 0 ≤ (l0.length : Int) then (if ((l0.length : Int) : Int).toNat ≤ 8796093022208 then (laws_toShelfS.l0 k l0 (List.replicate ((l0.length : Int) : Int).toNat z133) 0) else (none)) else (none)) = some r := h
 clear h
 obtain ⟨c2, H⟩ := ifn_ H
 have c2b0 := eq_true c2
 have c2b1 : decide (0 ≤ (l0.length : Int)) = true := decide_eq_true c2
 clear c2
 obtain ⟨c3, H⟩ := ifn_ H
 have c3b0 := eq_true c3
 have c3b1 : decide (((l0.length : Int) : Int).toNat ≤ 8796093022208) = true := decide_eq_true c3
 clear c3
 obtain ⟨y239, hy239⟩ : ∃ y_ : List (S133), y_ = (List.replicate ((l0.length : Int) : Int).toNat z133) := ⟨_, rfl⟩
 replace H : (laws_toShelfS.l0 k l0 y239 0) = some r := rh_ hy239 H
 have Ny239 := aa_ hy239
 clear hy239
 have H' := aa_ H
 clear H
 go_enter Try.func68, Try.ntmps68
 go_wp2_with (first | ((with_reducible refine gD_ 7 rfl ?_); refine Kd.S_make k133 _ 133 rfl (N := 7) rfl 105 _ _ rfl (l0.length : Int) rfl rfl Try.underlying105 (.agg #[(.int .i64 0), (.slice none 0 0)]) 32 info133 rfl (by decide) (by omega) z133 (ok := fun _ => True) (okp := fun _ => True) (k133_mkM _ _ _ z133 (Kd.R_nil _ _ _ _ _)) (fun _ hk => hk) trivial (od_) (Nat.le_trans (Nat.mul_le_mul_right _ (od_ : (l0.length : Int).toNat ≤ 8796093022208)) (by omega)) (Below.refl _ _) (Nat.le_refl _) ?_; intro v240 w4 ho5 hb hg_ hnew_; clear hg_ hnew_; (first | rw [← Ny239.out] at ho5 | (simp only [Int.reduceToNat] at ho5; rw [← Ny239.out] at ho5)); have HO241 := aa_ (Kd.S_lower ho5 bls_); replace HB := hbs_ hb; clear hb ho5))
 go_loopg [4] k (fun kq v4 w' => ∃ (x3_1 : List (S133)) (x4_1 : Int), v4 = .int .i64 x4_1 ∧ Aside0 (laws_toShelfS.l0 kq l0 x3_1 x4_1 = some r) ∧ Aside0 (kq ≤ k) ∧ Aside0 (Kd.S k133 133 w' w.heap.size (fun _ => True) v240 x3_1) ∧ Aside0 (Below w.heap.size w w'))
 case atStart => exact ⟨(y239), (0), rf_, H', ⟨Nat.le_refl _⟩, ⟨rs_ HO241⟩, ⟨bl_⟩⟩
 case round =>
  clear H'
  try clear c2
  try clear c2b0
  try clear c2b1
  try clear p2
  try clear c3
  try clear c3b0
  try clear c3b1
  obtain ⟨x3_1, x4_1, rfl, HA, HK1, HO_3, HB⟩ := hrel
  cases gk with
  | zero => exact absurd HA.out (by simp [laws_toShelfS.l0])
  | succ k1 =>
   have H := HA.out
   clear HA
   simp only [laws_toShelfS.l0] at H
   by_cases c6 : x4_1 < (l0.length : Int)
   ·rw [if_pos c6] at H
    have c6b0 : decide (x4_1 < (l0.length : Int)) = true := decide_eq_true c6
    clear c6
    obtain ⟨c7b0, H⟩ := ifd_ H
    obtain ⟨⟨t243, t244⟩, A8, H⟩ := bindE_ H
    replace H : (if x4_1 < (x3_1.length : Int) then (laws_toShelfS.l0 k1 l0 (x3_1.set (x4_1 : Int).toNat (⟨t243, t244⟩ : S133)) (wrap64 (x4_1 + 1))) else (none)) = some r := H
    obtain ⟨c9b0, H⟩ := ifd_ H
    obtain ⟨y247, hy247⟩ : ∃ y_ : List (S133), y_ = (x3_1.set (x4_1 : Int).toNat (⟨t243, t244⟩ : S133)) := ⟨_, rfl⟩
    replace H : (laws_toShelfS.l0 k1 l0 y247 (wrap64 (x4_1 + 1))) = some r := rh_ hy247 H
    have Ny247 := aa_ hy247
    clear hy247
    have H' := aa_ H
    clear H
    have p242 : 0 ≤ (x4_1 : Int) := od_
    have q242 : x4_1 < (l0.length : Int) := od_
    obtain ⟨ad242, A242_1, c242_1, e242, hx242_0, hx242_1, hl242_1, hi242_1⟩ := at_T130 HR0.out x4_1 p242 q242
    cases e242
    replace hx242_0 := cb_ HB hx242_0
    replace hx242_1 := cb_ HB hx242_1
    have HR242_1 := aa_ hi242_1
    have HC242_1 := aa_ hl242_1
    clear hi242_1 hl242_1
    replace p242 := eq_true p242
    replace q242 := eq_true q242
    go_wp2_with (first | ((with_reducible refine gC_ 76 rfl ?_); refine goesC_ (some 20) Try.func76 #[.agg #[.int .i64 ((rd_T130 l0 x4_1).f0), .slice A242_1 ((rd_T130 l0 x4_1).f1).length c242_1]] ?_; (with_reducible refine (laws_toShelf.calls k1 ((rd_T130 l0 x4_1).f0) _ _ ((rd_T130 l0 x4_1).f1) t243 t244 _ ?side1 ?side2 A8.out).mono ?_); (case side1 => repeat (first | exact (Kd.C_below HR242_1.out HB.out) | (with_reducible refine Kd.C_alloc ?_ _) | (with_reducible refine Kd.C_drewN ?_ _) | (with_reducible refine Kd.C_drew ?_))); (case side2 => exact HC242_1.out); rintro e w11 ⟨v245, rfl, ho0, hb⟩; refine ⟨_, rfl, ?_⟩; replace HO_3 := aa_ (Kd.S_elder' (rs_ HO_3) (Kd.R_base ho0) hb); have HO246 := aa_ (Kd.R_lower ho0 bls_); replace HB := hbs_ hb; (try clear hb ho0); have p10 : 0 ≤ (x4_1 : Int) := od_; have q10 : (x4_1 : Int) < ((x3_1.length : Int) : Int) := od_; obtain ⟨go10, co10, eo10, gb10, gl10, cl10, HG10⟩ := Kd.S_form HO_3.out (by omega); (first | cases eo10 | (injection eo10 with ea_ en_ ec_; (first | subst ea_ | (injection ea_ with ea_; subst ea_)); subst ec_; clear en_)); have GB10 := aa_ gb10; have GG10 := aa_ HG10; clear gb10 gl10 HG10; obtain ⟨_, ce10, hcl10, hM10, hcc10, hfr10, _, _⟩ := Kd.S_elem HO_3.out z133 (x4_1 : Int) p10 q10; obtain ⟨ve10_1, rfl, ge10_1⟩ := k133_openM hM10; have hx10_0 : w11.cell? ⟨go10, (x4_1 : Int).toNat * 2, none⟩ = some (.int .i64 ((rd_T133 x3_1 x4_1).f0)) := hcc10 0 _ rfl; have hx10_1 : w11.cell? ⟨go10, (x4_1 : Int).toNat * 2 + 1, none⟩ = some (ve10_1) := hcc10 1 _ rfl; have hf10_0 : w11.frozen? ⟨go10, (x4_1 : Int).toNat * 2, none⟩ = false := hfr10 0; have hf10_1 : w11.frozen? ⟨go10, (x4_1 : Int).toNat * 2 + 1, none⟩ = false := hfr10 1; clear hcl10 hcc10 hfr10 hM10; replace p10 := eq_true p10; replace q10 := eq_true q10; have n_ := aa_ (Kd.S_mono (ok' := (fun k_ => some k_ ≠ (v245 : Value).ownBlock)) HO_3.out (fun k_ hk => hk.2)); clear HO_3; have HO_3 := n_; clear n_; have honeo14 := one_R_ Try.prog HO246.out; have HX12 := aa_ (show Kd.S k133 133 w11 w.heap.size (fun k_ => ((fun _ => True)) k_ ∧ ¬ ((fun k_ => some k_ = (v245 : Value).ownBlock)) k_) (.slice (some ⟨go10, 0, none⟩) x3_1.length co10) x3_1 from (by (with_reducible repeat (first | apply Kd.S_alloc | apply Kd.S_drewN | apply Kd.S_drew)); exact Kd.S_mono HO_3.out (fun k_ hk => ⟨trivial, fun e_ => hk e_⟩))); obtain ⟨oki12, ce12, hcl12, hM12, hcc12, hfr12, hoki12, hH12⟩ := Kd.S_elem HX12.out z133 (x4_1 : Int) (od_) (by have h_ : (x4_1 : Int) < ((x3_1.length : Int) : Int) := od_; first | exact h_ | (have e_ := (Kd.S_reads' HO_3.out).1; omega) | simpa using h_); obtain ⟨ve12_1, rfl, ge12_1⟩ := k133_openM hM12; have HP12 := Kd.S_seg hH12 (od_) (by have h_ : (x4_1 : Int) < ((x3_1.length : Int) : Int) := od_; first | exact h_ | (have e_ := (Kd.S_reads' HO_3.out).1; omega) | simpa using h_) (seg := [.int .i64 t243, v245]) (j := 0) (show 2 ≤ 2 from by decide) (x' := (⟨t243, t244⟩ : S133)) (k133_mkM _ _ _ (⟨t243, t244⟩ : S133) (Kd.R_mono (Kd.R_tight rfl (Kd.R_mono (ok' := fun k_ => ((fun _ => True)) k_ ∧ k_ ≠ go10) (Kd.R_apart' (HO246.out) (Kd.S_typed HO_3.out) (by decide)) (fun k_ hk => ⟨trivial, fun e_ => (hk.2) (by rw [e_]; rfl)⟩))) (fun _ h_ => Or.inr (h_)))) (fun _ hk => hk) (fun k_ hk_ => ((Kd.R_mono (ok' := fun k_ => ((fun _ => True)) k_ ∧ k_ ≠ go10) (Kd.R_apart' (HO246.out) (Kd.S_typed HO_3.out) (by decide)) (fun k_ hk => ⟨trivial, fun e_ => (hk.2) (by rw [e_]; rfl)⟩))).1 k_ hk_.symm); have hx12_0 := hcc12 0 _ rfl; (try simp only [show (k133).sz = 2 from rfl, Nat.mul_one, Nat.add_zero] at hx12_0); have hf12_0 := hfr12 0; (try simp only [show (k133).sz = 2 from rfl, Nat.mul_one, Nat.add_zero] at hf12_0); have hx12_1 := hcc12 1 _ rfl; (try simp only [show (k133).sz = 2 from rfl, Nat.mul_one, Nat.add_zero] at hx12_1); have hf12_1 := hfr12 1; (try simp only [show (k133).sz = 2 from rfl, Nat.mul_one, Nat.add_zero] at hf12_1); clear hcl12 hcc12 hfr12 hM12 hoki12 hH12) | ((with_reducible refine gate_store (t := 133) (p := 21) rfl ?_); refine store_event (t := 133) (p := 21) (v := ?vo_w13) (w1 := ((w11.setCell ⟨go10, (x4_1 : Int).toNat * 2, none⟩ (.int .i64 t243)).setCell ⟨go10, (x4_1 : Int).toNat * 2 + 1, none⟩ (v245))) ?hg ?ho ?hn ?hr ?_; (case ho => rfl); (case hg => rfl); (case hn => rfl); (case hr => first | (go_simp; done) | (go_simp; rfl)); intro w13 hw; have hg : w11.grownBy w13 (some go10) := (by rw [hw]; exact HP12.2); have hp_ : Kd.S k133 133 w13 w.heap.size (fun _ => True) (.slice (some ⟨go10, 0, none⟩) x3_1.length co10) y247 := (by rw [hw, Ny247.out]; exact HP12.1); clear HP12; replace HO_3 := aa_ (hp_); replace HB := aa_ ((by rw [hw]; exact below_set (below_set (HB.out) GB10.out) GB10.out : Below w.heap.size w w13)); clear HO246; clear hg hw hp_))
    go_roundg k1
    case measure => have := HK1.out; omega
    case rel => exact ⟨(y247), (wrap64 (x4_1 + 1)), rf_, H', ⟨by have := HK1.out; omega⟩, ⟨rs_ HO_3⟩, ⟨bl_⟩⟩
   ·rw [if_neg c6] at H
    have c6b0 : decide (x4_1 < (l0.length : Int)) = false := decide_eq_false c6
    clear c6
    obtain rfl := Option.some.inj H
    go_wp2
    go_ret
    exact ⟨_, eq_, by (with_reducible repeat (first | apply Kd.S_alloc | apply Kd.S_drewN | apply Kd.S_drew)); exact HO_3.out, bl_⟩
end Go.Proofs.Ytcnjbkfnijnpnaa.PA
