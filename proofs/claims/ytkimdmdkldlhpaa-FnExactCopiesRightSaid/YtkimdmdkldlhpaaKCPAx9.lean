import Derived.Test.YtkimdmdkldlhpaaKCFd
-- printed by wip/tools
namespace Go.Proofs.Ytkimdmdkldlhpaa.PA
open Go.RowKit Go.Proofs.YtkimdmdkldlhpaaW.PrintWords Go.Proofs.YtkimdmdkldlhpaaW.PrintLast Go.Proofs.YtkimdmdkldlhpaaW.PrintMore
attribute [local go_sem] max2_int min2_int max_two min_two max_three min_three max_four min_four
set_option linter.unusedVariables false
set_option linter.unusedSimpArgs false
def impl_Item_93.l0 : Nat → List (S52) → Int → Int → Int → Int → Option ((List (S52)))
 | 0, _, _, _, _, _ => none
 | k + 1, x0, x1, x2, x3, x10 => if x10 < x3 then (if 0 ≤ (wrap64 (x2 + x10)) then (if (wrap64 (x2 + x10)) < (x0.length : Int) then (if 0 ≤ (wrap64 (x1 + x10)) then (if (wrap64 (x1 + x10)) < (x0.length : Int) then (impl_Item_93.l0 k ((x0.set ((wrap64 (x1 + x10)) : Int).toNat (⟨(rd_T52 x0 (wrap64 (x2 + x10))).f0, (rd_T52 x0 (wrap64 (x2 + x10))).f1⟩ : S52)).set ((wrap64 (x2 + x10)) : Int).toNat (⟨(rd_T52 x0 (wrap64 (x1 + x10))).f0, (rd_T52 x0 (wrap64 (x1 + x10))).f1⟩ : S52)) x1 x2 x3 (wrap64 (x10 + 1))) else (none)) else (none)) else (none)) else (none)) else (some x0)
def impl_Item_93.f (k : Nat) (l0 : List (S52)) (a1 : Int) (a2 : Int) (a3 : Int) (a4 : (S52 → S52 → Option Int)) : Option ((List (S52))) := impl_Item_93.l0 k l0 a1 a2 a3 0
def impl_Item_93.T3 : Bool × List (List Nat × List Nat) := (true, [([], []), ([], []), ([], []), ([1, 2], [1, 2]), ([], []), ([], []), ([], []), ([5, 6], [5, 6]), ([], []), ([], []), ([], []), ([9, 10], [9, 10]), ([8, 11], [8, 11]), ([12], [12]), ([], []), ([], []), ([], []), ([15, 16], [15, 16]), ([14, 17], [14, 17]), ([18], [18]), ([0, 3, 0, 1, 2, 3, 8, 9, 10, 11, 12, 13, 19], [0, 3]), ([20, 13, 0, 1, 2, 3, 8, 9, 10, 11, 12, 13, 19], [13, 20]), ([4, 7, 0, 1, 2, 3, 4, 5, 6, 7, 8, 9, 10, 11, 12, 13, 14, 15, 16, 17, 18, 19, 20, 21], [4, 7]), ([22, 19, 21, 0, 1, 2, 3, 4, 5, 6, 7, 8, 9, 10, 11, 12, 13, 14, 15, 16, 17, 18, 19, 20, 21], [19, 22])])
def impl_Item_93.B3 : List Nat := [0, 0, 0, 6, 0, 0, 0, 96, 0, 0, 0, 1536, 3840, 7936, 0, 0, 0, 98304, 245760, 507904, 1048335, 2096911, 4194303, 8388607]
theorem impl_Item_93.tab3 : rtab .any (opsOf Try.f93 3) = impl_Item_93.T3 := by kernel_rfl
theorem impl_Item_93.bits3 : waitsOk impl_Item_93.T3.2 impl_Item_93.B3 = true := by kernel_rfl
set_option maxHeartbeats 8000000 in
set_option maxRecDepth 100000 in
theorem impl_Item_93.calls (k : Nat) (P0_ : Nat → Prop) (u9000_ : Value) (l0 : List (S52)) (a1 : Int) (a2 : Int) (a3 : Int) (a4 : (S52 → S52 → Option Int)) (na4_ : Nat) (ga4_ : Array Value) (r : List (S52)) (w0 w : World) (hB : Below w0.heap.size w0 w) (ho0 : Kd.R k52 52 w w0.heap.size P0_ u9000_ l0) (hq4 : ∀ W_, FnOk252 a4 na4_ ga4_ W_) (h : impl_Item_93.f k l0 a1 a2 a3 a4 = some r) :
  Calls Try.prog 93 #[u9000_, .int .i64 a1, .int .i64 a2, .int .i64 a3, .func (.func na4_) #[] ga4_] w fun e w' => e = .returned (.tuple #[]) ∧ Kd.R k52 52 w' w0.heap.size (fun k_ => (P0_ k_ ∨ w.heap.size ≤ k_)) u9000_ r ∧ Below w0.heap.size w0 w' ∧ Kept w w' (fun k_ => P0_ k_) := by
 have hu52 := Try.underlying52
 have HO0 := aa_ (show Kd.R k52 52 w w0.heap.size (fun k_ => (P0_ k_ ∨ w.heap.size ≤ k_)) u9000_ l0 from Kd.R_mono ho0 (fun k_ hk => (.inl hk)))
 have HK := aa_ (Kept.refl w (fun k_ => P0_ k_))
 have HFN4 := aa_ hq4
 have eg4 := (hq4 w).1
 clear hq4
 have HW0 := aa_ hB.size
 have HB := aa_ hB
 clear hB
 have H : (impl_Item_93.l0 k l0 a1 a2 a3 0) = some r := h
 clear h
 have H' := aa_ H
 clear H
 go_enter Try.func93, Try.ntmps93
 go_wp2
 go_loopg [10] k (fun kq v10 w' => ∃ (x0_1 : List (S52)) (x10_1 : Int), v10 = .int .i64 x10_1 ∧ Aside0 (impl_Item_93.l0 kq x0_1 a1 a2 a3 x10_1 = some r) ∧ Aside0 (kq ≤ k) ∧ Aside0 (Kd.R k52 52 w' w0.heap.size (fun k_ => (P0_ k_ ∨ w.heap.size ≤ k_)) u9000_ x0_1) ∧ Aside0 (Kept w w' (fun k_ => P0_ k_)) ∧ Aside0 (Below w0.heap.size w0 w'))
 case atStart => exact ⟨(l0), (0), rf_, H', ⟨Nat.le_refl _⟩, ⟨rr_ HO0⟩, ⟨by repeat (first | (with_reducible first | exact HK.out | apply Kept.alloc | apply Kept.drewN | apply Kept.drew) | exact HK.out)⟩, ⟨bl_⟩⟩
 case round =>
  clear H'
  try clear p2
  try clear q4
  obtain ⟨x0_1, x10_1, rfl, HA, HK1, HO_0, HK, HB⟩ := hrel
  cases gk with
  | zero => exact absurd HA.out (by simp [impl_Item_93.l0])
  | succ k1 =>
   have H := HA.out
   clear HA
   simp only [impl_Item_93.l0] at H
   by_cases c6 : x10_1 < a3
   ·rw [if_pos c6] at H
    have c6b0 : decide (x10_1 < a3) = true := decide_eq_true c6
    clear c6
    obtain ⟨ji7, hji7⟩ : ∃ j_ : Int, (wrap64 (a2 + x10_1)) = j_ := ⟨_, rfl⟩
    replace H : (if 0 ≤ (ji7) then (if (ji7) < (x0_1.length : Int) then (if 0 ≤ (wrap64 (a1 + x10_1)) then (if (wrap64 (a1 + x10_1)) < (x0_1.length : Int) then (impl_Item_93.l0 k1 ((x0_1.set ((wrap64 (a1 + x10_1)) : Int).toNat (⟨(rd_T52 x0_1 (ji7)).f0, (rd_T52 x0_1 (ji7)).f1⟩ : S52)).set ((ji7) : Int).toNat (⟨(rd_T52 x0_1 (wrap64 (a1 + x10_1))).f0, (rd_T52 x0_1 (wrap64 (a1 + x10_1))).f1⟩ : S52)) a1 a2 a3 (wrap64 (x10_1 + 1))) else (none)) else (none)) else (none)) else (none)) = some r := by first | (rw [hji7] at H; exact H) | (simp only [hji7] at H ⊢; exact H)
    have hji7w : (IntKind.i64.wrap (a2 + x10_1)) = ji7 := (i64_w _).trans hji7
    obtain ⟨c8b0, H⟩ := ifd_ H
    obtain ⟨c9b0, H⟩ := ifd_ H
    obtain ⟨ji10, hji10⟩ : ∃ j_ : Int, (wrap64 (a1 + x10_1)) = j_ := ⟨_, rfl⟩
    replace H : (if 0 ≤ (ji10) then (if (ji10) < (x0_1.length : Int) then (impl_Item_93.l0 k1 ((x0_1.set ((ji10) : Int).toNat (⟨(rd_T52 x0_1 (ji7)).f0, (rd_T52 x0_1 (ji7)).f1⟩ : S52)).set ((ji7) : Int).toNat (⟨(rd_T52 x0_1 (ji10)).f0, (rd_T52 x0_1 (ji10)).f1⟩ : S52)) a1 a2 a3 (wrap64 (x10_1 + 1))) else (none)) else (none)) = some r := by first | (rw [hji10] at H; exact H) | (simp only [hji10] at H ⊢; exact H)
    have hji10w : (IntKind.i64.wrap (a1 + x10_1)) = ji10 := (i64_w _).trans hji10
    obtain ⟨c11b0, H⟩ := ifd_ H
    obtain ⟨c12b0, H⟩ := ifd_ H
    obtain ⟨y378, hy378⟩ : ∃ y_ : List (S52), y_ = (x0_1.set ((ji10) : Int).toNat (⟨(rd_T52 x0_1 (ji7)).f0, (rd_T52 x0_1 (ji7)).f1⟩ : S52)) := ⟨_, rfl⟩
    replace H : (impl_Item_93.l0 k1 (y378.set ((ji7) : Int).toNat (⟨(rd_T52 x0_1 (ji10)).f0, (rd_T52 x0_1 (ji10)).f1⟩ : S52)) a1 a2 a3 (wrap64 (x10_1 + 1))) = some r := rh_ hy378 H
    have Ny378 := aa_ hy378
    clear hy378
    obtain ⟨y379, hy379⟩ : ∃ y_ : List (S52), y_ = (y378.set ((ji7) : Int).toNat (⟨(rd_T52 x0_1 (ji10)).f0, (rd_T52 x0_1 (ji10)).f1⟩ : S52)) := ⟨_, rfl⟩
    replace H : (impl_Item_93.l0 k1 y379 a1 a2 a3 (wrap64 (x10_1 + 1))) = some r := rh_ hy379 H
    have Ny379 := aa_ hy379
    clear hy379
    have H' := aa_ H
    clear H
    try go_wp2
    replace HO_0 := aa_ (Kd.R_drew HO_0.out)
    replace HK := aa_ (Kept.drew HK.out)
    replace HB := aa_ (below_drew1 HB.out)
    obtain ⟨Ao16, co16, eo16⟩ := Kd.R_slice HO_0.out
    (first | subst eo16 | (injection eo16 with f1_ f2_ f3_; have f4_ := f1_.symm; have f5_ := f3_.symm; clear f1_ f2_ f3_; subst f4_; subst f5_))
    have p376 : 0 ≤ ((ji7) : Int) := od_
    have q376 : (ji7) < (x0_1.length : Int) := od_
    obtain ⟨ad376, e376, hx376_0, hx376_1⟩ := at_T52 (Kd.R_reads' HO_0.out).2.2 (ji7) p376 q376
    cases e376
    replace p376 := eq_true p376
    replace q376 := eq_true q376
    have p377 : 0 ≤ ((ji10) : Int) := od_
    have q377 : (ji10) < (x0_1.length : Int) := od_
    obtain ⟨ad377, e377, hx377_0, hx377_1⟩ := at_T52 (Kd.R_reads' HO_0.out).2.2 (ji10) p377 q377
    obtain rfl : ad376 = ad377 := (by injection e377)
    replace p377 := eq_true p377
    replace q377 := eq_true q377
    have p13 : 0 ≤ ((ji10) : Int) := od_
    have q13 : ((ji10) : Int) < ((x0_1.length : Int) : Int) := od_
    obtain ⟨go13, co13, eo13, gb13, gl13, cl13, HG13⟩ := Kd.R_form HO_0.out (by omega)
    (first | cases eo13 | (injection eo13 with ea_ en_ ec_; (first | subst ea_ | (injection ea_ with ea_; subst ea_)); subst ec_; clear en_))
    have GB13 := aa_ gb13
    have GG13 := aa_ HG13
    clear gb13 gl13 HG13
    have HMgo13 := aa_ (show (P0_ go13 ∨ w.heap.size ≤ go13) from (HO_0.out.1 _ rfl))
    (first | simp only [add_plain] at hx376_0 | skip)
    (first | simp only [add_plain] at hx376_1 | skip)
    (first | simp only [add_plain] at hx377_0 | skip)
    (first | simp only [add_plain] at hx377_1 | skip)
    obtain ⟨ce13, hcl13, hM13, hcc13, hfr13⟩ := Kd.R_elem HO_0.out z52 ((ji10) : Int) p13 q13
    obtain rfl := k52_openM hM13
    have hx13_0 : World.cell? _ ⟨go13, ((ji10) : Int).toNat * 2, none⟩ = some (.string ((rd_T52 x0_1 (ji10)).f0)) := hcc13 0 _ rfl
    have hx13_1 : World.cell? _ ⟨go13, ((ji10) : Int).toNat * 2 + 1, none⟩ = some (.bool ((rd_T52 x0_1 (ji10)).f1)) := hcc13 1 _ rfl
    have hf13_0 : World.frozen? _ ⟨go13, ((ji10) : Int).toNat * 2, none⟩ = false := hfr13 0
    have hf13_1 : World.frozen? _ ⟨go13, ((ji10) : Int).toNat * 2 + 1, none⟩ = false := hfr13 1
    clear hcl13 hcc13 hfr13 hM13
    replace p13 := eq_true p13
    replace q13 := eq_true q13
    obtain ⟨ce17, hcl17, hM17, hcc17, hfr17⟩ := Kd.R_elem HO_0.out z52 ((ji10) : Int) (od_) (by have h_ : ((ji10) : Int) < ((x0_1.length : Int) : Int) := od_; first | exact h_ | (have e_ := (Kd.R_reads' HO_0.out).1; omega) | simpa using h_)
    obtain rfl := k52_openM hM17
    have HP17 := (Kd.R_seg HO_0.out ((ji10) : Int) (od_) (by have h_ : ((ji10) : Int) < ((x0_1.length : Int) : Int) := od_; first | exact h_ | (have e_ := (Kd.R_reads' HO_0.out).1; omega) | simpa using h_) (seg := [.string ((rd_T52 x0_1 (ji7)).f0), .bool ((rd_T52 x0_1 (ji7)).f1)]) (j := 0) hcl17 hcc17 (show 2 ≤ 2 from by decide) (x' := (⟨(rd_T52 x0_1 (ji7)).f0, (rd_T52 x0_1 (ji7)).f1⟩ : S52)) (k52_mkM _ _ _ (⟨(rd_T52 x0_1 (ji7)).f0, (rd_T52 x0_1 (ji7)).f1⟩ : S52) ) (fun _ hk => hk)).1
    rw [← Ny378.out] at HP17
    have HQ17 := aa_ HP17
    clear hcl17 hcc17 hfr17 hM17 HP17
    have p14 : 0 ≤ ((ji7) : Int) := od_
    have q14 : ((ji7) : Int) < ((x0_1.length : Int) : Int) := od_
    obtain ⟨ce14, hcl14, hM14, hcc14, hfr14⟩ := Kd.R_elem HQ17.out z52 ((ji7) : Int) p14 q14
    obtain rfl := k52_openM hM14
    have hx14_0 : World.cell? _ ⟨go13, ((ji7) : Int).toNat * 2, none⟩ = some (.string ((rd_T52 y378 (ji7)).f0)) := hcc14 0 _ rfl
    have hx14_1 : World.cell? _ ⟨go13, ((ji7) : Int).toNat * 2 + 1, none⟩ = some (.bool ((rd_T52 y378 (ji7)).f1)) := hcc14 1 _ rfl
    have hf14_0 : World.frozen? _ ⟨go13, ((ji7) : Int).toNat * 2, none⟩ = false := hfr14 0
    have hf14_1 : World.frozen? _ ⟨go13, ((ji7) : Int).toNat * 2 + 1, none⟩ = false := hfr14 1
    clear hcl14 hcc14 hfr14 hM14
    have hz14_0 := cell_odd_ hx14_0
    have hz14_1 := cell_evn_ hx14_1
    have hy14_0 := frz2_ hf14_0
    have hy14_1 := frz2_ hf14_1
    replace p14 := eq_true p14
    replace q14 := eq_true q14
    obtain ⟨ce18, hcl18, hM18, hcc18, hfr18⟩ := Kd.R_elem HQ17.out z52 ((ji7) : Int) (od_) (by have h_ : ((ji7) : Int) < ((x0_1.length : Int) : Int) := od_; first | exact h_ | (have e_ := (Kd.R_reads' HO_0.out).1; omega) | simpa using h_)
    obtain rfl := k52_openM hM18
    have HP18 := (Kd.R_seg HQ17.out ((ji7) : Int) (od_) (by have h_ : ((ji7) : Int) < ((x0_1.length : Int) : Int) := od_; first | exact h_ | (have e_ := (Kd.R_reads' HO_0.out).1; omega) | simpa using h_) (seg := [.string ((rd_T52 x0_1 (ji10)).f0), .bool ((rd_T52 x0_1 (ji10)).f1)]) (j := 0) hcl18 hcc18 (show 2 ≤ 2 from by decide) (x' := (⟨(rd_T52 x0_1 (ji10)).f0, (rd_T52 x0_1 (ji10)).f1⟩ : S52)) (k52_mkM _ _ _ (⟨(rd_T52 x0_1 (ji10)).f0, (rd_T52 x0_1 (ji10)).f1⟩ : S52) ) (fun _ hk => hk)).1
    rw [← Ny379.out] at HP18
    have HQ18 := aa_ HP18
    clear hcl18 hcc18 hfr18 hM18 HP18
    refine start_ (n := 24) (S := fun w' => w'.cell? ⟨go13, (((ji7)).toNat * 2), none⟩ = some (.string ((rd_T52 x0_1 (ji7)).f0)) ∧ w'.cell? ⟨go13, (((ji7)).toNat * 2) + 1, none⟩ = some (.bool ((rd_T52 x0_1 (ji7)).f1)) ∧ w'.cell? ⟨go13, (((ji10)).toNat * 2), none⟩ = some (.string ((rd_T52 x0_1 (ji10)).f0)) ∧ w'.cell? ⟨go13, (((ji10)).toNat * 2) + 1, none⟩ = some (.bool ((rd_T52 x0_1 (ji10)).f1))) (ds := [21, 23]) (ba_ 24 0) (by kernel_rfl) rfl rfl ⟨hx376_0, hx376_1, hx377_0, hx377_1⟩ (fun hHeld => ?_); refine with_tabW impl_Item_93.tab3 impl_Item_93.bits3 (fun HT_ HW_ => ?_)
    generalize wr.drew = w15 at HO_0 HK HB GG13 HQ17 HQ18 hf13_0 hf13_1 hf14_0 hf14_1 hx13_0 hx13_1 hx14_0 hz14_0 hz14_1 hy14_0 hy14_1 hx14_1 hx376_0 hx376_1 hx377_0 hx377_1 hHeld ⊢
    refine pureZ_ (i := 0) (some 16) (ba_ 24 1) (ao_ HT_) ?_
    refine pureZ_ (i := 1) (some 17) (ba_ 24 3) (ao_ HT_) ?_
    refine pureZ_ (i := 2) (some 18) (ba_ 24 7) (ao_ HT_) ?_
    refine pureZ_ (i := 3) (some 19) (ba_ 24 15) (ao_ HT_) ?_
    refine pureZ_ (i := 4) (some 20) (ba_ 24 31) (ao_ HT_) ?_
    refine pureZ_ (i := 5) (some 21) (ba_ 24 63) (ao_ HT_) ?_
    refine pureZ_ (i := 6) (some 22) (ba_ 24 127) (ao_ HT_) ?_
    refine pureZ_ (i := 7) (some 23) (ba_ 24 255) (ao_ HT_) ?_
    refine pureZ_ (i := 8) (some 24) (ba_ 24 511) (ao_ HT_) ?_
    refine pureZ_ (i := 9) (some 25) (ba_ 24 1023) (ao_ HT_) ?_
    refine pureZ_ (i := 10) (some 26) (ba_ 24 2047) (ao_ HT_) ?_
    refine pureZ_ (i := 11) (some 27) (ba_ 24 4095) (ao_ HT_) ?_
    refine pureZ_ (i := 12) (some 28) (ba_ 24 8191) (ao_ HT_) ?_
    refine pureZ_ (i := 14) (some 30) (ba_ 24 24575) (ao_ HT_) ?_
    refine pureZ_ (i := 15) (some 31) (ba_ 24 57343) (ao_ HT_) ?_
    refine pureZ_ (i := 16) (some 32) (ba_ 24 122879) (ao_ HT_) ?_
    refine pureZ_ (i := 17) (some 33) (ba_ 24 253951) (ao_ HT_) ?_
    refine pureZ_ (i := 18) (some 34) (ba_ 24 516095) (ao_ HT_) ?_
    refine takeZ_ (i := 13) (some 29) (ba_ 24 524287) (take_ofW HT_.out HW_.out (by kernel_rfl)) hHeld ?_
    refine takeZ_ (i := 19) (some 35) (ba_ 24 1048575) (take_ofW HT_.out HW_.out (by kernel_rfl)) hHeld ?_
    refine pureZ_ (i := 20) (some 36) (ba_ 24 2097151) (ao_ HT_) ?_
    refine last_ (i := 21) (N := none) (ba_ 24 4194303) rfl rfl (one_of HT_.out (by kernel_rfl)) (by decide) (fun K hK => ?_)
    refine skip_ (w1 := ?_) (by rfl) rfl ?_ ?_
    rotate_left
    ·go_simp
     rfl
    refine hK.out _ _ ?_
    clear hK K
    refine pureZ_ (i := 22) (some 37) (ba_ 24 8388607) (ao_ HT_) ?_
    refine last_ (i := 23) (N := none) (ba_ 24 16777215) rfl rfl (one_of HT_.out (by kernel_rfl)) (by decide) (fun K hK => ?_)
    refine skip_ (w1 := ?_) (by rfl) rfl ?_ ?_
    rotate_left
    ·go_simp
     rfl
    refine hK.out _ _ ?_
    clear hK K
    refine done_ (done_of HT_.out (by kernel_rfl)) ?_
    try go_wp2
    go_roundg k1
    case measure => have := HK1.out; omega
    case rel => exact ⟨(y379), (wrap64 (x10_1 + 1)), rf_, H', ⟨by have := HK1.out; omega⟩, ⟨rr_ HQ18⟩, ⟨by repeat (first | (with_reducible first | exact HK.out | apply Kept.alloc | apply Kept.drewN | apply Kept.drew | refine Kept.setCell ?_ HMgo13.out _ | refine Kept.setCell ?_ HMgo13.out _ | refine Kept.setCell ?_ HMgo13.out _ | refine Kept.setCell ?_ HMgo13.out _) | exact HK.out)⟩, ⟨by repeat (first | (with_reducible first | exact HB.out | apply below_alloc | apply pw_below_drewN | apply below_drew1 | refine below_set ?_ GB13.out | refine below_set ?_ GB13.out | refine below_set ?_ GB13.out | refine below_set ?_ GB13.out) | exact HB.out)⟩⟩
   ·rw [if_neg c6] at H
    have c6b0 : decide (x10_1 < a3) = false := decide_eq_false c6
    clear c6
    obtain rfl := Option.some.inj H
    go_wp2
    first | go_end0 | ((try simp only [Exit.inBlock, Exit.then]); refine bodyPost_ret (results_none rfl _ _ _) rfl ?_)
    exact ⟨eq_, by (with_reducible repeat (first | apply Kd.R_alloc | apply Kd.R_drewN | apply Kd.R_drew)); exact HO_0.out, bl_, by repeat (first | (with_reducible first | exact HK.out | apply Kept.alloc | apply Kept.drewN | apply Kept.drew) | exact HK.out)⟩
def impl_Item_91.l0 : Nat → List (S52) → Int → (S52 → S52 → Option Int) → Int → Int → Option ((List (S52)))
 | 0, _, _, _, _, _ => none
 | k + 1, x0, x2, x4, x10, x11 => if x10 = x11 then ((impl_Item_93.f k x0 (wrap64 (x2 - x10)) x2 x10 x4).bind fun t380 => (some t380)) else (if x10 > x11 then ((impl_Item_93.f k x0 (wrap64 (x2 - x10)) x2 x11 x4).bind fun t381 => (impl_Item_91.l0 k t381 x2 x4 (wrap64 (x10 - x11)) x11)) else ((impl_Item_93.f k x0 (wrap64 (x2 - x10)) (wrap64 ((wrap64 (x2 + x11)) - x10)) x10 x4).bind fun t382 => (impl_Item_91.l0 k t382 x2 x4 x10 (wrap64 (x11 - x10)))))
def impl_Item_91.f (k : Nat) (l0 : List (S52)) (a1 : Int) (a2 : Int) (a3 : Int) (a4 : (S52 → S52 → Option Int)) : Option ((List (S52))) := impl_Item_91.l0 k l0 a2 a4 (wrap64 (a2 - a1)) (wrap64 (a3 - a2))
set_option maxHeartbeats 8000000 in
set_option maxRecDepth 100000 in
theorem impl_Item_91.calls (k : Nat) (P0_ : Nat → Prop) (u9000_ : Value) (l0 : List (S52)) (a1 : Int) (a2 : Int) (a3 : Int) (a4 : (S52 → S52 → Option Int)) (na4_ : Nat) (ga4_ : Array Value) (r : List (S52)) (w0 w : World) (hB : Below w0.heap.size w0 w) (ho0 : Kd.R k52 52 w w0.heap.size P0_ u9000_ l0) (hq4 : ∀ W_, FnOk252 a4 na4_ ga4_ W_) (h : impl_Item_91.f k l0 a1 a2 a3 a4 = some r) :
  Calls Try.prog 91 #[u9000_, .int .i64 a1, .int .i64 a2, .int .i64 a3, .func (.func na4_) #[] ga4_] w fun e w' => e = .returned (.tuple #[]) ∧ Kd.R k52 52 w' w0.heap.size (fun k_ => (P0_ k_ ∨ w.heap.size ≤ k_)) u9000_ r ∧ Below w0.heap.size w0 w' ∧ Kept w w' (fun k_ => P0_ k_) := by
 have HO0 := aa_ (show Kd.R k52 52 w w0.heap.size (fun k_ => (P0_ k_ ∨ w.heap.size ≤ k_)) u9000_ l0 from Kd.R_mono ho0 (fun k_ hk => (.inl hk)))
 have HK := aa_ (Kept.refl w (fun k_ => P0_ k_))
 have HFN4 := aa_ hq4
 have eg4 := (hq4 w).1
 clear hq4
 have HW0 := aa_ hB.size
 have HB := aa_ hB
 clear hB
 have H : (impl_Item_91.l0 k l0 a2 a4 (wrap64 (a2 - a1)) (wrap64 (a3 - a2))) = some r := h
 clear h
 have H' := aa_ H
 clear H
 go_enter Try.func91, Try.ntmps91
 go_wp2
 go_loopg [10, 11] k (fun kq v10 v11 w' => ∃ (x0_1 : List (S52)) (x10_1 : Int) (x11_1 : Int), v10 = .int .i64 x10_1 ∧ v11 = .int .i64 x11_1 ∧ Aside0 (impl_Item_91.l0 kq x0_1 a2 a4 x10_1 x11_1 = some r) ∧ Aside0 (kq ≤ k) ∧ Aside0 (Kd.R k52 52 w' w0.heap.size (fun k_ => (P0_ k_ ∨ w.heap.size ≤ k_)) u9000_ x0_1) ∧ Aside0 (Kept w w' (fun k_ => P0_ k_)) ∧ Aside0 (Below w0.heap.size w0 w'))
 case atStart => exact ⟨(l0), (wrap64 (a2 - a1)), (wrap64 (a3 - a2)), rf_, rf_, H', ⟨Nat.le_refl _⟩, ⟨rr_ HO0⟩, ⟨by repeat (first | (with_reducible first | exact HK.out | apply Kept.alloc | apply Kept.drewN | apply Kept.drew) | exact HK.out)⟩, ⟨bl_⟩⟩
 case round =>
  clear H'
  try clear p2
  try clear q4
  obtain ⟨x0_1, x10_1, x11_1, rfl, rfl, HA, HK1, HO_0, HK, HB⟩ := hrel
  cases gk with
  | zero => exact absurd HA.out (by simp [impl_Item_91.l0])
  | succ k1 =>
   have H := HA.out
   clear HA
   simp only [impl_Item_91.l0] at H
   by_cases c6 : x10_1 = x11_1
   ·rw [if_pos c6] at H
    have c6b0 : (x10_1 == x11_1) = true := beq_iff_eq.mpr c6
    have c6b1 : (x10_1 != x11_1) = false := bne_eq_false_iff_eq.mpr c6
    clear c6
    obtain ⟨t380, A7, H⟩ := bindE_ H
    obtain rfl := Option.some.inj H
    obtain ⟨Ao8, co8, eo8⟩ := Kd.R_slice HO_0.out
    subst eo8
    go_wp2_with (first | ((with_reducible refine gC_ 93 rfl ?_); refine goesC_ (some 57) Try.func93 #[.slice Ao8 x0_1.length co8, .int .i64 (wrap64 (a2 - x10_1)), .int .i64 a2, .int .i64 x10_1, .func (.func na4_) #[] ga4_] ?_; (with_reducible refine (impl_Item_93.calls k1 (fun k_ => some k_ = (.slice Ao8 x0_1.length co8 : Value).ownBlock) (.slice Ao8 x0_1.length co8) x0_1 (wrap64 (a2 - x10_1)) a2 x10_1 a4 na4_ ga4_ t380 w0 _ ?side1 ?side2 ?side3 A7.out).mono ?_); (case side1 => repeat (first | (with_reducible first | exact HB.out | apply below_alloc | apply pw_below_drewN | apply below_drew1) | exact HB.out)); (case side2 => exact Kd.R_tight rfl HO_0.out); (case side3 => exact HFN4.out); rintro e w9 ⟨rfl, hy0, hb, hkp⟩; refine ⟨_, rfl, ?_⟩; replace HK := aa_ (Kept.then_ (S := (fun k_ => P0_ k_)) (by repeat (first | (with_reducible first | exact HK.out | apply Kept.alloc | apply Kept.drewN | apply Kept.drew) | exact HK.out)) hkp (fun k_ hs_ => (fun e_ => (HO_0.out.1 k_ e_.symm)) hs_)); replace HO_0 := aa_ (Kd.R_reok rfl hy0 (fun k_ e_ => HO_0.out.1 k_ e_)); replace HB := aa_ (hb); (try clear hb hkp hy0)))
    first | go_end0 | ((try simp only [Exit.inBlock, Exit.then]); refine bodyPost_ret (results_none rfl _ _ _) rfl ?_)
    exact ⟨eq_, by (with_reducible repeat (first | apply Kd.R_alloc | apply Kd.R_drewN | apply Kd.R_drew)); exact HO_0.out, bl_, by repeat (first | (with_reducible first | exact HK.out | apply Kept.alloc | apply Kept.drewN | apply Kept.drew) | exact HK.out)⟩
   ·rw [if_neg c6] at H
    have c6b0 : (x10_1 == x11_1) = false := beq_eq_false_iff_ne.mpr c6
    have c6b1 : (x10_1 != x11_1) = true := bne_iff_ne.mpr c6
    by_cases c10 : x10_1 > x11_1
    ·rw [if_pos c10] at H
     have c10b0 : decide (x11_1 < x10_1) = true := decide_eq_true c10
     clear c10
     obtain ⟨t381, A11, H⟩ := bindE_ H
     have H' := aa_ H
     clear H
     obtain ⟨Ao12, co12, eo12⟩ := Kd.R_slice HO_0.out
     subst eo12
     go_wp2_with (first | ((with_reducible refine gC_ 93 rfl ?_); refine goesC_ (some 31) Try.func93 #[.slice Ao12 x0_1.length co12, .int .i64 (wrap64 (a2 - x10_1)), .int .i64 a2, .int .i64 x11_1, .func (.func na4_) #[] ga4_] ?_; (with_reducible refine (impl_Item_93.calls k1 (fun k_ => some k_ = (.slice Ao12 x0_1.length co12 : Value).ownBlock) (.slice Ao12 x0_1.length co12) x0_1 (wrap64 (a2 - x10_1)) a2 x11_1 a4 na4_ ga4_ t381 w0 _ ?side1 ?side2 ?side3 A11.out).mono ?_); (case side1 => repeat (first | (with_reducible first | exact HB.out | apply below_alloc | apply pw_below_drewN | apply below_drew1) | exact HB.out)); (case side2 => exact Kd.R_tight rfl HO_0.out); (case side3 => exact HFN4.out); rintro e w13 ⟨rfl, hy0, hb, hkp⟩; refine ⟨_, rfl, ?_⟩; replace HK := aa_ (Kept.then_ (S := (fun k_ => P0_ k_)) (by repeat (first | (with_reducible first | exact HK.out | apply Kept.alloc | apply Kept.drewN | apply Kept.drew) | exact HK.out)) hkp (fun k_ hs_ => (fun e_ => (HO_0.out.1 k_ e_.symm)) hs_)); replace HO_0 := aa_ (Kd.R_reok rfl hy0 (fun k_ e_ => HO_0.out.1 k_ e_)); replace HB := aa_ (hb); (try clear hb hkp hy0)))
     go_roundg k1
     case measure => have := HK1.out; omega
     case rel => exact ⟨(t381), (wrap64 (x10_1 - x11_1)), (x11_1), rf_, rf_, H', ⟨by have := HK1.out; omega⟩, ⟨rr_ HO_0⟩, ⟨by repeat (first | (with_reducible first | exact HK.out | apply Kept.alloc | apply Kept.drewN | apply Kept.drew) | exact HK.out)⟩, ⟨bl_⟩⟩
    ·rw [if_neg c10] at H
     have c10b0 : decide (x11_1 < x10_1) = false := decide_eq_false c10
     clear c10
     obtain ⟨t382, A14, H⟩ := bindE_ H
     have H' := aa_ H
     clear H
     obtain ⟨Ao15, co15, eo15⟩ := Kd.R_slice HO_0.out
     subst eo15
     go_wp2_with (first | ((with_reducible refine gC_ 93 rfl ?_); refine goesC_ (some 46) Try.func93 #[.slice Ao15 x0_1.length co15, .int .i64 (wrap64 (a2 - x10_1)), .int .i64 (wrap64 ((wrap64 (a2 + x11_1)) - x10_1)), .int .i64 x10_1, .func (.func na4_) #[] ga4_] ?_; (with_reducible refine (impl_Item_93.calls k1 (fun k_ => some k_ = (.slice Ao15 x0_1.length co15 : Value).ownBlock) (.slice Ao15 x0_1.length co15) x0_1 (wrap64 (a2 - x10_1)) (wrap64 ((wrap64 (a2 + x11_1)) - x10_1)) x10_1 a4 na4_ ga4_ t382 w0 _ ?side1 ?side2 ?side3 A14.out).mono ?_); (case side1 => repeat (first | (with_reducible first | exact HB.out | apply below_alloc | apply pw_below_drewN | apply below_drew1) | exact HB.out)); (case side2 => exact Kd.R_tight rfl HO_0.out); (case side3 => exact HFN4.out); rintro e w16 ⟨rfl, hy0, hb, hkp⟩; refine ⟨_, rfl, ?_⟩; replace HK := aa_ (Kept.then_ (S := (fun k_ => P0_ k_)) (by repeat (first | (with_reducible first | exact HK.out | apply Kept.alloc | apply Kept.drewN | apply Kept.drew) | exact HK.out)) hkp (fun k_ hs_ => (fun e_ => (HO_0.out.1 k_ e_.symm)) hs_)); replace HO_0 := aa_ (Kd.R_reok rfl hy0 (fun k_ e_ => HO_0.out.1 k_ e_)); replace HB := aa_ (hb); (try clear hb hkp hy0)))
     go_roundg k1
     case measure => have := HK1.out; omega
     case rel => exact ⟨(t382), (x10_1), (wrap64 (x11_1 - x10_1)), rf_, rf_, H', ⟨by have := HK1.out; omega⟩, ⟨rr_ HO_0⟩, ⟨by repeat (first | (with_reducible first | exact HK.out | apply Kept.alloc | apply Kept.drewN | apply Kept.drew) | exact HK.out)⟩, ⟨bl_⟩⟩
end Go.Proofs.Ytkimdmdkldlhpaa.PA
