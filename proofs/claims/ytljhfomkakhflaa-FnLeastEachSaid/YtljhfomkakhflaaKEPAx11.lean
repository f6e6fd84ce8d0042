import Derived.Test.YtljhfomkakhflaaKEPAx0
-- printed by wip/tools
namespace Go.Proofs.Ytljhfomkakhflaa.PA
open Go.RowKit Go.Proofs.YtljhfomkakhflaaW.PrintWords Go.Proofs.YtljhfomkakhflaaW.PrintLast Go.Proofs.YtljhfomkakhflaaW.PrintMore
attribute [local go_sem] max2_int min2_int max_two min_two max_three min_three max_four min_four
set_option linter.unusedVariables false
set_option linter.unusedSimpArgs false
mutual
def slices_insertionSortCmpFunc_int.l0 : Nat → List Int → Int → Int → (Int → Int → Option Int) → Int → Option (List Int)
 | 0, _, _, _, _, _ => none
 | k + 1, x0, x1, x2, x3, x8 => if x8 < x2 then (slices_insertionSortCmpFunc_int.l1 k x0 x1 x2 x3 x8 x8) else (some x0)
def slices_insertionSortCmpFunc_int.l1 : Nat → List Int → Int → Int → (Int → Int → Option Int) → Int → Int → Option (List Int)
 | 0, _, _, _, _, _, _ => none
 | k + 1, x0, x1, x2, x3, x8, x9 => if x9 > x1 then (if 0 ≤ x9 then (if x9 < (x0.length : Int) then (if 0 ≤ (wrap64 (x9 - 1)) then (if (wrap64 (x9 - 1)) < (x0.length : Int) then ((x3 (rd x0 x9) (rd x0 (wrap64 (x9 - 1)))).bind fun t409 => (if t409 < 0 then (slices_insertionSortCmpFunc_int.l1 k ((x0.set (x9 : Int).toNat (rd x0 (wrap64 (x9 - 1)))).set ((wrap64 (x9 - 1)) : Int).toNat (rd x0 x9)) x1 x2 x3 x8 (wrap64 (x9 - 1))) else (slices_insertionSortCmpFunc_int.l0 k x0 x1 x2 x3 (wrap64 (x8 + 1))))) else (none)) else (none)) else (none)) else (none)) else (slices_insertionSortCmpFunc_int.l0 k x0 x1 x2 x3 (wrap64 (x8 + 1)))
end
def slices_insertionSortCmpFunc_int.f (k : Nat) (l0 : List Int) (a1 : Int) (a2 : Int) (a3 : (Int → Int → Option Int)) : Option (List Int) := slices_insertionSortCmpFunc_int.l0 k l0 a1 a2 a3 (wrap64 (a1 + 1))
def slices_insertionSortCmpFunc_int.T4 : Bool × List (List Nat × List Nat) := (true, [([], []), ([], []), ([0, 1], [0, 1]), ([2], [2]), ([3], [3]), ([3], [3]), ([3], [3]), ([5, 6, 3], [3, 5, 6]), ([7, 3], [3, 7]), ([3], [3]), ([3], [3]), ([10, 3], [3, 10]), ([9, 11, 3], [3, 9, 11]), ([12, 3], [3, 12]), ([4, 8, 13, 3, 3], [3, 4, 8, 13]), ([14, 3], [3, 14]), ([3, 15], [3, 15])])
def slices_insertionSortCmpFunc_int.B4 : List Nat := [0, 0, 3, 7, 15, 15, 15, 111, 239, 15, 15, 1039, 3599, 7695, 16383, 32767, 65535]
theorem slices_insertionSortCmpFunc_int.tab4 : rtab .any (opsOf Try.f59 4) = slices_insertionSortCmpFunc_int.T4 := by kernel_rfl
theorem slices_insertionSortCmpFunc_int.bits4 : waitsOk slices_insertionSortCmpFunc_int.T4.2 slices_insertionSortCmpFunc_int.B4 = true := by kernel_rfl
def slices_insertionSortCmpFunc_int.T6 : Bool × List (List Nat × List Nat) := (true, [([], []), ([], []), ([], []), ([], []), ([3], [3]), ([], []), ([], []), ([6], [6]), ([5, 7], [5, 7]), ([8], [8]), ([], []), ([], []), ([10, 11], [10, 11]), ([12], [12]), ([0, 1, 0, 1, 5, 6, 7, 8, 9, 13], [0, 1]), ([14, 9, 0, 1, 5, 6, 7, 8, 9, 13], [9, 14]), ([2, 4, 0, 1, 2, 3, 4, 5, 6, 7, 8, 9, 10, 11, 12, 13, 14, 15], [2, 4]), ([16, 13, 15, 0, 1, 2, 3, 4, 5, 6, 7, 8, 9, 10, 11, 12, 13, 14, 15], [13, 16])])
def slices_insertionSortCmpFunc_int.B6 : List Nat := [0, 0, 0, 0, 8, 0, 0, 64, 224, 480, 0, 0, 3072, 7168, 16355, 32739, 65535, 131071]
theorem slices_insertionSortCmpFunc_int.tab6 : rtab .any (opsOf Try.f59 6) = slices_insertionSortCmpFunc_int.T6 := by kernel_rfl
theorem slices_insertionSortCmpFunc_int.bits6 : waitsOk slices_insertionSortCmpFunc_int.T6.2 slices_insertionSortCmpFunc_int.B6 = true := by kernel_rfl
set_option maxHeartbeats 8000000 in
set_option maxRecDepth 100000 in
theorem slices_insertionSortCmpFunc_int.calls (k : Nat) (P0_ : Nat → Prop) (u9000_ : Value) (l0 : List Int) (a1 : Int) (a2 : Int) (a3 : (Int → Int → Option Int)) (ga3_ : Nat) (r : List Int) (w0 w : World) (hB : Below w0.heap.size w0 w) (ho0 : Kd.R (Kd.int .i64) 3 w w0.heap.size P0_ u9000_ l0) (hq3 : ∀ W_, Kept w W_ (fun k_ => P0_ k_) → FnOk a3 ga3_ W_) (h : slices_insertionSortCmpFunc_int.f k l0 a1 a2 a3 = some r) :
  Calls Try.prog 59 #[u9000_, .int .i64 a1, .int .i64 a2, .func (.func 25) #[] #[.pointer (some ⟨ga3_, 0, none⟩)]] w fun e w' => e = .returned (.tuple #[]) ∧ Kd.R (Kd.int .i64) 3 w' w0.heap.size (fun k_ => (P0_ k_ ∨ w.heap.size ≤ k_)) u9000_ r ∧ Below w0.heap.size w0 w' ∧ Kept w w' (fun k_ => P0_ k_) := by
 have HO0 := aa_ (show Kd.R (Kd.int .i64) 3 w w0.heap.size (fun k_ => (P0_ k_ ∨ w.heap.size ≤ k_)) u9000_ l0 from Kd.R_mono ho0 (fun k_ hk => (.inl hk)))
 have HK := aa_ (Kept.refl w (fun k_ => P0_ k_))
 have HFN3 := aa_ hq3
 clear hq3
 have eg : ∀ args w, (callFunc 25 args).run Try.prog w = .ok (.enter 25 args) w := fun args w => enters_ Try.func25 (by kernel_rfl) rfl args w
 have HW0 := aa_ hB.size
 have HB := aa_ hB
 clear hB
 have H : (slices_insertionSortCmpFunc_int.l0 k l0 a1 a2 a3 (wrap64 (a1 + 1))) = some r := h
 clear h
 have H' := aa_ H
 clear H
 go_enter Try.func59, Try.ntmps59
 go_wp2
 go_loopg [8] k (fun kq v8 w' => ∃ (x0_1 : List Int) (x8_1 : Int), v8 = .int .i64 x8_1 ∧ Aside0 (slices_insertionSortCmpFunc_int.l0 kq x0_1 a1 a2 a3 x8_1 = some r) ∧ Aside0 (kq ≤ k) ∧ Aside0 (Kd.R (Kd.int .i64) 3 w' w0.heap.size (fun k_ => (P0_ k_ ∨ w.heap.size ≤ k_)) u9000_ x0_1) ∧ Aside0 (Kept w w' (fun k_ => P0_ k_)) ∧ Aside0 (Below w0.heap.size w0 w'))
 case atStart => exact ⟨(l0), (wrap64 (a1 + 1)), rf_, H', ⟨Nat.le_refl _⟩, ⟨rr_ HO0⟩, ⟨by repeat (first | (with_reducible first | exact HK.out | apply Kept.alloc | apply Kept.drewN | apply Kept.drew) | exact HK.out)⟩, ⟨bl_⟩⟩
 case round =>
  clear H'
  try clear p2
  try clear q3
  obtain ⟨x0_1, x8_1, rfl, HA, HK1, HO_0, HK, HB⟩ := hrel
  cases gk with
  | zero => exact absurd HA.out (by simp [slices_insertionSortCmpFunc_int.l0])
  | succ k1 =>
   have H := HA.out
   clear HA
   simp only [slices_insertionSortCmpFunc_int.l0] at H
   by_cases c5 : x8_1 < a2
   ·rw [if_pos c5] at H
    have c5b0 : decide (x8_1 < a2) = true := decide_eq_true c5
    clear c5
    have H' := aa_ H
    clear H
    go_wp2
    go_loopg [9] k1 (fun kq v9 w' => ∃ (x0_2 : List Int) (x9_2 : Int), v9 = .int .i64 x9_2 ∧ Aside0 (slices_insertionSortCmpFunc_int.l1 kq x0_2 a1 a2 a3 x8_1 x9_2 = some r) ∧ Aside0 (kq ≤ k1) ∧ Aside0 (Kd.R (Kd.int .i64) 3 w' w0.heap.size (fun k_ => (P0_ k_ ∨ w.heap.size ≤ k_)) u9000_ x0_2) ∧ Aside0 (Kept w w' (fun k_ => P0_ k_)) ∧ Aside0 (Below w0.heap.size w0 w'))
    case atStart => exact ⟨(x0_1), (x8_1), rf_, H', ⟨Nat.le_refl _⟩, ⟨rr_ HO_0⟩, ⟨by repeat (first | (with_reducible first | exact HK.out | apply Kept.alloc | apply Kept.drewN | apply Kept.drew) | exact HK.out)⟩, ⟨bl_⟩⟩
    case round =>
     clear H'
     try clear p2
     try clear q3
     try clear c5b0
     try clear p2
     try clear q3
     obtain ⟨x0_2, x9_2, rfl, HA, HK2, HO_0, HK, HB⟩ := hrel
     cases gk with
     | zero => exact absurd HA.out (by simp [slices_insertionSortCmpFunc_int.l1])
     | succ k2 =>
      have H := HA.out
      clear HA
      simp only [slices_insertionSortCmpFunc_int.l1] at H
      by_cases c6 : x9_2 > a1
      ·rw [if_pos c6] at H
       have c6b0 : decide (a1 < x9_2) = true := decide_eq_true c6
       clear c6
       obtain ⟨c7b0, H⟩ := ifd_ H
       obtain ⟨c8b0, H⟩ := ifd_ H
       obtain ⟨ji9, hji9⟩ : ∃ j_ : Int, (wrap64 (x9_2 - 1)) = j_ := ⟨_, rfl⟩
       replace H : (if 0 ≤ (ji9) then (if (ji9) < (x0_2.length : Int) then ((a3 (rd x0_2 x9_2) (rd x0_2 (ji9))).bind fun t409 => (if t409 < 0 then (slices_insertionSortCmpFunc_int.l1 k2 ((x0_2.set (x9_2 : Int).toNat (rd x0_2 (ji9))).set ((ji9) : Int).toNat (rd x0_2 x9_2)) a1 a2 a3 x8_1 ji9) else (slices_insertionSortCmpFunc_int.l0 k2 x0_2 a1 a2 a3 (wrap64 (x8_1 + 1))))) else (none)) else (none)) = some r := by first | (rw [hji9] at H; exact H) | (simp only [hji9] at H ⊢; exact H)
       have hji9w : (IntKind.i64.wrap (x9_2 - 1)) = ji9 := (i64_w _).trans hji9
       obtain ⟨c10b0, H⟩ := ifd_ H
       obtain ⟨c11b0, H⟩ := ifd_ H
       obtain ⟨t409, A12, H⟩ := bindE_ H
       have HC13 := aa_ H
       clear H
       try go_wp2
       replace HO_0 := aa_ (Kd.R_drew HO_0.out)
       replace HK := aa_ (Kept.drew HK.out)
       replace HB := aa_ (below_drew1 HB.out)
       obtain ⟨Ao15, co15, eo15⟩ := Kd.R_slice HO_0.out
       (first | subst eo15 | (injection eo15 with f1_ f2_ f3_; have f4_ := f1_.symm; have f5_ := f3_.symm; clear f1_ f2_ f3_; subst f4_; subst f5_))
       have p407 : 0 ≤ (x9_2 : Int) := od_
       have q407 : x9_2 < (x0_2.length : Int) := od_
       obtain ⟨ad407, e407, hx407_0⟩ := Kd.at_int (Kd.R_reads' HO_0.out).2.2 x9_2 p407 q407
       cases e407
       replace p407 := eq_true p407
       replace q407 := eq_true q407
       have p408 : 0 ≤ ((ji9) : Int) := od_
       have q408 : (ji9) < (x0_2.length : Int) := od_
       obtain ⟨ad408, e408, hx408_0⟩ := Kd.at_int (Kd.R_reads' HO_0.out).2.2 (ji9) p408 q408
       obtain rfl : ad407 = ad408 := (by injection e408)
       replace p408 := eq_true p408
       replace q408 := eq_true q408
       refine start_ (n := 17) (S := fun w' => w'.cell? (ad407.add (x9_2).toNat) = some (.int .i64 (rd x0_2 x9_2)) ∧ w'.cell? (ad407.add ((ji9)).toNat) = some (.int .i64 (rd x0_2 (ji9)))) (ds := []) (ba_ 17 0) (by kernel_rfl) rfl rfl ⟨hx407_0, hx408_0⟩ (fun hHeld => ?_); refine with_tabW slices_insertionSortCmpFunc_int.tab4 slices_insertionSortCmpFunc_int.bits4 (fun HT_ HW_ => ?_)
       generalize wr.drew = w14 at HO_0 HK HB hx407_0 hx408_0 hHeld ⊢
       refine pz_ 0 18 (ba_ 17 1) (ao_ HT_) ?_
       refine pz_ 1 19 (ba_ 17 3) (ao_ HT_) ?_
       refine pz_ 2 20 (ba_ 17 7) (ao_ HT_) ?_
       refine pz_ 3 21 (ba_ 17 15) (ao_ HT_) ?_
       refine pz_ 4 22 (ba_ 17 31) (ao_ HT_) ?_
       refine pz_ 5 23 (ba_ 17 63) (ao_ HT_) ?_
       refine pz_ 6 24 (ba_ 17 127) (ao_ HT_) ?_
       refine pz_ 7 25 (ba_ 17 255) (ao_ HT_) ?_
       refine pz_ 9 27 (ba_ 17 767) (ao_ HT_) ?_
       refine pz_ 10 28 (ba_ 17 1791) (ao_ HT_) ?_
       refine pz_ 11 29 (ba_ 17 3839) (ao_ HT_) ?_
       refine pz_ 12 30 (ba_ 17 7935) (ao_ HT_) ?_
       refine tz_ 8 26 (ba_ 17 8191) (take_ofW HT_.out HW_.out (by kernel_rfl)) hHeld ?_
       refine tz_ 13 31 (ba_ 17 16383) (take_ofW HT_.out HW_.out (by kernel_rfl)) hHeld ?_
       refine one_ (i := 14) (N := some 32) (ba_ 17 32767) rfl rfl (one_of HT_.out (by kernel_rfl)) (by decide) (fun K hK => ?_)
       refine goesv_ Try.func25 (by kernel_rfl) rfl #[.int .i64 (rd x0_2 x9_2), .int .i64 (rd x0_2 (ji9))] (.pointer (some ⟨ga3_, 0, none⟩)) (by rfl) rfl rfl (by rfl) (by (try simp only [List.map_toArray, List.map_cons, List.map_nil]); first | done | (simp only [hji9]; rfl) | rfl) ?_
       refine (HFN3.out _ (by repeat (first | (with_reducible first | exact HK.out | apply Kept.alloc | apply Kept.drewN | apply Kept.drew) | exact HK.out)) _ _ _ A12.out).mono ?_
       rintro e w' ⟨rfl, ⟨nd, rfl⟩⟩
       refine ⟨_, rfl, ?_⟩
       refine hK.out _ _ ⟨hHeld.1, hHeld.2⟩ (fun hHeld => ?_)
       clear hK K
       refine norm_ (a' := ?_) ?_ ?_
       rotate_left
       ·show Act.put _ (some 32) _ = _
        simp only [Act.put, sb_, sz_, ss_, i64_w, i32_w]
        rfl
       refine pz_ 15 33 (ba_ 17 65535) (ao_ HT_) ?_
       refine pz_ 16 34 (ba_ 17 131071) (ao_ HT_) ?_
       refine done_ (done_of HT_.out (by kernel_rfl)) ?_
       go_upto_if 34 with (fail)
       (try (rw [drewN_self w14]; generalize hq_ : World.drewN w14 _ = w14; have n0_ : Aside0 (Kd.R (Kd.int .i64) 3 w14 w0.heap.size (fun k_ => (P0_ k_ ∨ w.heap.size ≤ k_)) (.slice (some ad407) x0_2.length co15) x0_2) := ⟨by rw [← hq_]; exact (rr_ HO_0)⟩; have n1_ : Aside0 (Kept w w14 (fun k_ => P0_ k_)) := ⟨by rw [← hq_]; exact (by repeat (first | (with_reducible first | exact HK.out | apply Kept.alloc | apply Kept.drewN | apply Kept.drew) | exact HK.out))⟩; have n2_ : Aside0 (Below w0.heap.size w0 w14) := ⟨by rw [← hq_]; exact bl_⟩; clear HO_0 HK HB hq_; have HO_0 := n0_; have HK := n1_; have HB := n2_; clear n0_ n1_ n2_))
       have H := HC13.out
       clear HC13
       by_cases c16 : t409 < 0
       ·rw [if_pos c16] at H
        have c16b0 : decide (t409 < 0) = true := decide_eq_true c16
        clear c16
        (first | rw [c16b0] | (simp only [i64_w, i32_w]; rw [c16b0]) | skip)
        obtain ⟨y412, hy412⟩ : ∃ y_ : List Int, y_ = (x0_2.set (x9_2 : Int).toNat (rd x0_2 (ji9))) := ⟨_, rfl⟩
        replace H : (slices_insertionSortCmpFunc_int.l1 k2 (y412.set ((ji9) : Int).toNat (rd x0_2 x9_2)) a1 a2 a3 x8_1 ji9) = some r := rh_ hy412 H
        have Ny412 := aa_ hy412
        clear hy412
        obtain ⟨y413, hy413⟩ : ∃ y_ : List Int, y_ = (y412.set ((ji9) : Int).toNat (rd x0_2 x9_2)) := ⟨_, rfl⟩
        replace H : (slices_insertionSortCmpFunc_int.l1 k2 y413 a1 a2 a3 x8_1 ji9) = some r := rh_ hy413 H
        have Ny413 := aa_ hy413
        clear hy413
        have H' := aa_ H
        clear H
        try go_wp2
        replace HO_0 := aa_ (Kd.R_drew HO_0.out)
        replace HK := aa_ (Kept.drew HK.out)
        replace HB := aa_ (below_drew1 HB.out)
        have p410 : 0 ≤ ((ji9) : Int) := od_
        have q410 : (ji9) < (x0_2.length : Int) := od_
        obtain ⟨ad410, e410, hx410_0⟩ := Kd.at_int (Kd.R_reads' HO_0.out).2.2 (ji9) p410 q410
        obtain rfl : ad407 = ad410 := (by injection e410)
        replace p410 := eq_true p410
        replace q410 := eq_true q410
        have p411 : 0 ≤ (x9_2 : Int) := od_
        have q411 : x9_2 < (x0_2.length : Int) := od_
        obtain ⟨ad411, e411, hx411_0⟩ := Kd.at_int (Kd.R_reads' HO_0.out).2.2 x9_2 p411 q411
        obtain rfl : ad407 = ad411 := (by injection e411)
        replace p411 := eq_true p411
        replace q411 := eq_true q411
        have p17 : 0 ≤ (x9_2 : Int) := od_
        have q17 : (x9_2 : Int) < ((x0_2.length : Int) : Int) := od_
        obtain ⟨go17, co17, eo17, gb17, gl17, cl17, HG17⟩ := Kd.R_form HO_0.out (by omega)
        (first | cases eo17 | (injection eo17 with ea_ en_ ec_; (first | subst ea_ | (injection ea_ with ea_; subst ea_)); subst ec_; clear en_))
        have GB17 := aa_ gb17
        have GG17 := aa_ HG17
        clear gb17 gl17 HG17
        have HMgo17 := aa_ (show (P0_ go17 ∨ w.heap.size ≤ go17) from (HO_0.out.1 _ rfl))
        (first | simp only [add_plain] at hx407_0 | skip)
        (first | simp only [add_plain] at hx408_0 | skip)
        (first | simp only [add_plain] at hx410_0 | skip)
        (first | simp only [add_plain] at hx411_0 | skip)
        obtain ⟨hx17_0, hf17_0⟩ := Kd.R_celln 0 HO_0.out (x9_2 : Int) p17 q17
        replace p17 := eq_true p17
        replace q17 := eq_true q17
        have HP20 := Kd.R_putn HO_0.out (x9_2 : Int) (rd x0_2 (ji9))
        rw [← Ny412.out] at HP20
        have HQ20 := aa_ HP20
        clear HP20
        have p18 : 0 ≤ ((ji9) : Int) := od_
        have q18 : ((ji9) : Int) < ((x0_2.length : Int) : Int) := od_
        obtain ⟨hx18_0, hf18_0⟩ := Kd.R_celln 0 HQ20.out ((ji9) : Int) p18 q18
        replace p18 := eq_true p18
        replace q18 := eq_true q18
        have HP21 := Kd.R_putn HQ20.out ((ji9) : Int) (rd x0_2 x9_2)
        rw [← Ny413.out] at HP21
        have HQ21 := aa_ HP21
        clear HP21
        refine start_ (n := 18) (S := fun w' => w'.cell? ⟨go17, ((ji9)).toNat, none⟩ = some (.int .i64 (rd x0_2 (ji9))) ∧ w'.cell? ⟨go17, (x9_2).toNat, none⟩ = some (.int .i64 (rd x0_2 x9_2))) (ds := [15, 17]) (ba_ 18 0) (by kernel_rfl) rfl rfl ⟨hx410_0, hx411_0⟩ (fun hHeld => ?_); refine with_tabW slices_insertionSortCmpFunc_int.tab6 slices_insertionSortCmpFunc_int.bits6 (fun HT_ HW_ => ?_)
        generalize w14.drew = w19 at HO_0 HK HB GG17 HQ20 HQ21 hf17_0 hf18_0 hx17_0 hx18_0 hx407_0 hx408_0 hx410_0 hx411_0 hHeld ⊢
        refine pz_ 0 37 (ba_ 18 1) (ao_ HT_) ?_
        refine pz_ 1 38 (ba_ 18 3) (ao_ HT_) ?_
        refine pz_ 2 39 (ba_ 18 7) (ao_ HT_) ?_
        refine pz_ 3 40 (ba_ 18 15) (ao_ HT_) ?_
        refine pz_ 4 41 (ba_ 18 31) (ao_ HT_) ?_
        refine pz_ 5 42 (ba_ 18 63) (ao_ HT_) ?_
        refine pz_ 6 43 (ba_ 18 127) (ao_ HT_) ?_
        refine pz_ 7 44 (ba_ 18 255) (ao_ HT_) ?_
        refine pz_ 8 45 (ba_ 18 511) (ao_ HT_) ?_
        refine pz_ 10 47 (ba_ 18 1535) (ao_ HT_) ?_
        refine pz_ 11 48 (ba_ 18 3583) (ao_ HT_) ?_
        refine pz_ 12 49 (ba_ 18 7679) (ao_ HT_) ?_
        refine tz_ 9 46 (ba_ 18 8191) (take_ofW HT_.out HW_.out (by kernel_rfl)) hHeld ?_
        refine tz_ 13 50 (ba_ 18 16383) (take_ofW HT_.out HW_.out (by kernel_rfl)) hHeld ?_
        refine pz_ 14 51 (ba_ 18 32767) (ao_ HT_) ?_
        refine last_ (i := 15) (N := none) (ba_ 18 65535) rfl rfl (one_of HT_.out (by kernel_rfl)) (by decide) (fun K hK => ?_)
        refine skip_ (w1 := ?_) (by rfl) rfl ?_ ?_
        rotate_left
        ·go_simp
         rfl
        refine hK.out _ _ ?_
        clear hK K
        refine pz_ 16 52 (ba_ 18 131071) (ao_ HT_) ?_
        refine last_ (i := 17) (N := none) (ba_ 18 262143) rfl rfl (one_of HT_.out (by kernel_rfl)) (by decide) (fun K hK => ?_)
        refine skip_ (w1 := ?_) (by rfl) rfl ?_ ?_
        rotate_left
        ·go_simp
         rfl
        refine hK.out _ _ ?_
        clear hK K
        refine done_ (done_of HT_.out (by kernel_rfl)) ?_
        try go_wp2
        go_roundg k2
        case measure => have := HK1.out; have := HK2.out; omega
        case rel => exact ⟨(y413), (ji9), (by first | rfl | (simp; done) | (simp only [← hji9] <;> (first | rfl | simp)) | (simp [*]; done)), H', ⟨by have := HK1.out; have := HK2.out; omega⟩, ⟨rr_ HQ21⟩, ⟨by repeat (first | (with_reducible first | exact HK.out | apply Kept.alloc | apply Kept.drewN | apply Kept.drew | refine Kept.setCell ?_ HMgo17.out _ | refine Kept.setCell ?_ HMgo17.out _) | exact HK.out)⟩, ⟨by repeat (first | (with_reducible first | exact HB.out | apply below_alloc | apply pw_below_drewN | apply below_drew1 | refine below_set ?_ GB17.out | refine below_set ?_ GB17.out) | exact HB.out)⟩⟩
       ·rw [if_neg c16] at H
        have c16b0 : decide (t409 < 0) = false := decide_eq_false c16
        clear c16
        (first | rw [c16b0] | (simp only [i64_w, i32_w]; rw [c16b0]) | skip)
        have H' := aa_ H
        clear H
        go_wp2
        go_roundg k2
        case measure => have := HK1.out; have := HK2.out; omega
        case rel => exact ⟨(x0_2), (wrap64 (x8_1 + 1)), rf_, H', ⟨by have := HK1.out; have := HK2.out; omega⟩, ⟨rr_ HO_0⟩, ⟨by repeat (first | (with_reducible first | exact HK.out | apply Kept.alloc | apply Kept.drewN | apply Kept.drew) | exact HK.out)⟩, ⟨bl_⟩⟩
      ·rw [if_neg c6] at H
       have c6b0 : decide (a1 < x9_2) = false := decide_eq_false c6
       clear c6
       have H' := aa_ H
       clear H
       try go_wp2
       replace HO_0 := aa_ (Kd.R_drew HO_0.out)
       replace HK := aa_ (Kept.drew HK.out)
       replace HB := aa_ (below_drew1 HB.out)
       refine start_ (n := 17) (S := fun w' => True) (ds := []) (ba_ 17 0) (by kernel_rfl) rfl rfl trivial (fun hHeld => ?_); refine with_tabW slices_insertionSortCmpFunc_int.tab4 slices_insertionSortCmpFunc_int.bits4 (fun HT_ HW_ => ?_)
       generalize wr.drew = w22 at HO_0 HK HB hHeld ⊢
       refine pz_ 0 18 (ba_ 17 1) (ao_ HT_) ?_
       refine pz_ 1 19 (ba_ 17 3) (ao_ HT_) ?_
       refine pz_ 2 20 (ba_ 17 7) (ao_ HT_) ?_
       refine pz_ 3 21 (ba_ 17 15) (ao_ HT_) ?_
       refine pv_ 4 22 (a' := ?_) (ba_ 17 31) (ao_ HT_) ?_ ?_
       rotate_left
       ·simp only [Act.put, sb_, sz_, ss_, i64_w, i32_w]
        rfl
       refine pv_ 5 23 (a' := ?_) (ba_ 17 63) (ao_ HT_) ?_ ?_
       rotate_left
       ·simp only [Act.put, sb_, sz_, ss_, i64_w, i32_w]
        rfl
       refine pv_ 6 24 (a' := ?_) (ba_ 17 127) (ao_ HT_) ?_ ?_
       rotate_left
       ·simp only [Act.put, sb_, sz_, ss_, i64_w, i32_w]
        rfl
       refine pv_ 7 25 (a' := ?_) (ba_ 17 255) (ao_ HT_) ?_ ?_
       rotate_left
       ·simp only [Act.put, sb_, sz_, ss_, i64_w, i32_w]
        rfl
       refine pv_ 8 26 (a' := ?_) (ba_ 17 511) (ao_ HT_) ?_ ?_
       rotate_left
       ·simp only [Act.put, sb_, sz_, ss_, i64_w, i32_w]
        rfl
       refine pv_ 9 27 (a' := ?_) (ba_ 17 1023) (ao_ HT_) ?_ ?_
       rotate_left
       ·simp only [Act.put, sb_, sz_, ss_, i64_w, i32_w]
        rfl
       refine pv_ 10 28 (a' := ?_) (ba_ 17 2047) (ao_ HT_) ?_ ?_
       rotate_left
       ·simp only [Act.put, sb_, sz_, ss_, i64_w, i32_w]
        rfl
       refine pv_ 11 29 (a' := ?_) (ba_ 17 4095) (ao_ HT_) ?_ ?_
       rotate_left
       ·simp only [Act.put, sb_, sz_, ss_, i64_w, i32_w]
        rfl
       refine pv_ 12 30 (a' := ?_) (ba_ 17 8191) (ao_ HT_) ?_ ?_
       rotate_left
       ·simp only [Act.put, sb_, sz_, ss_, i64_w, i32_w]
        rfl
       refine pv_ 13 31 (a' := ?_) (ba_ 17 16383) (ao_ HT_) ?_ ?_
       rotate_left
       ·simp only [Act.put, sb_, sz_, ss_, i64_w, i32_w]
        rfl
       refine pv_ 14 32 (a' := ?_) (ba_ 17 32767) (ao_ HT_) ?_ ?_
       rotate_left
       ·simp only [Act.put, sb_, sz_, ss_, i64_w, i32_w]
        rfl
       refine pv_ 15 33 (a' := ?_) (ba_ 17 65535) (ao_ HT_) ?_ ?_
       rotate_left
       ·simp only [Act.put, sb_, sz_, ss_, i64_w, i32_w]
        rfl
       refine pz_ 16 34 (ba_ 17 131071) (ao_ HT_) ?_
       refine done_ (done_of HT_.out (by kernel_rfl)) ?_
       try go_wp2
       go_roundg k2
       case measure => have := HK1.out; have := HK2.out; omega
       case rel => exact ⟨(x0_2), (wrap64 (x8_1 + 1)), rf_, H', ⟨by have := HK1.out; have := HK2.out; omega⟩, ⟨rr_ HO_0⟩, ⟨by repeat (first | (with_reducible first | exact HK.out | apply Kept.alloc | apply Kept.drewN | apply Kept.drew) | exact HK.out)⟩, ⟨bl_⟩⟩
   ·rw [if_neg c5] at H
    have c5b0 : decide (x8_1 < a2) = false := decide_eq_false c5
    clear c5
    obtain rfl := Option.some.inj H
    go_wp2
    first | go_end0 | ((try simp only [Exit.inBlock, Exit.then]); refine bodyPost_ret (results_none rfl _ _ _) rfl ?_)
    exact ⟨eq_, by (with_reducible repeat (first | apply Kd.R_alloc | apply Kd.R_drewN | apply Kd.R_drew)); exact HO_0.out, bl_, by repeat (first | (with_reducible first | exact HK.out | apply Kept.alloc | apply Kept.drewN | apply Kept.drew) | exact HK.out)⟩
def slices_swapRangeCmpFunc_int.l0 : Nat → List Int → Int → Int → Int → Int → Option (List Int)
 | 0, _, _, _, _, _ => none
 | k + 1, x0, x1, x2, x3, x10 => if x10 < x3 then (if 0 ≤ (wrap64 (x2 + x10)) then (if (wrap64 (x2 + x10)) < (x0.length : Int) then (if 0 ≤ (wrap64 (x1 + x10)) then (if (wrap64 (x1 + x10)) < (x0.length : Int) then (slices_swapRangeCmpFunc_int.l0 k ((x0.set ((wrap64 (x1 + x10)) : Int).toNat (rd x0 (wrap64 (x2 + x10)))).set ((wrap64 (x2 + x10)) : Int).toNat (rd x0 (wrap64 (x1 + x10)))) x1 x2 x3 (wrap64 (x10 + 1))) else (none)) else (none)) else (none)) else (none)) else (some x0)
def slices_swapRangeCmpFunc_int.f (k : Nat) (l0 : List Int) (a1 : Int) (a2 : Int) (a3 : Int) (a4 : (Int → Int → Option Int)) : Option (List Int) := slices_swapRangeCmpFunc_int.l0 k l0 a1 a2 a3 0
def slices_swapRangeCmpFunc_int.T3 : Bool × List (List Nat × List Nat) := (true, [([], []), ([], []), ([], []), ([1, 2], [1, 2]), ([], []), ([], []), ([], []), ([5, 6], [5, 6]), ([], []), ([], []), ([], []), ([9, 10], [9, 10]), ([8, 11], [8, 11]), ([12], [12]), ([], []), ([], []), ([], []), ([15, 16], [15, 16]), ([14, 17], [14, 17]), ([18], [18]), ([0, 3, 0, 1, 2, 3, 8, 9, 10, 11, 12, 13, 19], [0, 3]), ([20, 13, 0, 1, 2, 3, 8, 9, 10, 11, 12, 13, 19], [13, 20]), ([4, 7, 0, 1, 2, 3, 4, 5, 6, 7, 8, 9, 10, 11, 12, 13, 14, 15, 16, 17, 18, 19, 20, 21], [4, 7]), ([22, 19, 21, 0, 1, 2, 3, 4, 5, 6, 7, 8, 9, 10, 11, 12, 13, 14, 15, 16, 17, 18, 19, 20, 21], [19, 22])])
def slices_swapRangeCmpFunc_int.B3 : List Nat := [0, 0, 0, 6, 0, 0, 0, 96, 0, 0, 0, 1536, 3840, 7936, 0, 0, 0, 98304, 245760, 507904, 1048335, 2096911, 4194303, 8388607]
theorem slices_swapRangeCmpFunc_int.tab3 : rtab .any (opsOf Try.f67 3) = slices_swapRangeCmpFunc_int.T3 := by kernel_rfl
theorem slices_swapRangeCmpFunc_int.bits3 : waitsOk slices_swapRangeCmpFunc_int.T3.2 slices_swapRangeCmpFunc_int.B3 = true := by kernel_rfl
set_option maxHeartbeats 8000000 in
set_option maxRecDepth 100000 in
theorem slices_swapRangeCmpFunc_int.calls (k : Nat) (P0_ : Nat → Prop) (u9000_ : Value) (l0 : List Int) (a1 : Int) (a2 : Int) (a3 : Int) (a4 : (Int → Int → Option Int)) (ga4_ : Nat) (r : List Int) (w0 w : World) (hB : Below w0.heap.size w0 w) (ho0 : Kd.R (Kd.int .i64) 3 w w0.heap.size P0_ u9000_ l0) (hq4 : ∀ W_, Kept w W_ (fun k_ => P0_ k_) → FnOk a4 ga4_ W_) (h : slices_swapRangeCmpFunc_int.f k l0 a1 a2 a3 a4 = some r) :
  Calls Try.prog 67 #[u9000_, .int .i64 a1, .int .i64 a2, .int .i64 a3, .func (.func 25) #[] #[.pointer (some ⟨ga4_, 0, none⟩)]] w fun e w' => e = .returned (.tuple #[]) ∧ Kd.R (Kd.int .i64) 3 w' w0.heap.size (fun k_ => (P0_ k_ ∨ w.heap.size ≤ k_)) u9000_ r ∧ Below w0.heap.size w0 w' ∧ Kept w w' (fun k_ => P0_ k_) := by
 have HO0 := aa_ (show Kd.R (Kd.int .i64) 3 w w0.heap.size (fun k_ => (P0_ k_ ∨ w.heap.size ≤ k_)) u9000_ l0 from Kd.R_mono ho0 (fun k_ hk => (.inl hk)))
 have HK := aa_ (Kept.refl w (fun k_ => P0_ k_))
 have HFN4 := aa_ hq4
 clear hq4
 have HW0 := aa_ hB.size
 have HB := aa_ hB
 clear hB
 have H : (slices_swapRangeCmpFunc_int.l0 k l0 a1 a2 a3 0) = some r := h
 clear h
 have H' := aa_ H
 clear H
 go_enter Try.func67, Try.ntmps67
 go_wp2
 go_loopg [10] k (fun kq v10 w' => ∃ (x0_1 : List Int) (x10_1 : Int), v10 = .int .i64 x10_1 ∧ Aside0 (slices_swapRangeCmpFunc_int.l0 kq x0_1 a1 a2 a3 x10_1 = some r) ∧ Aside0 (kq ≤ k) ∧ Aside0 (Kd.R (Kd.int .i64) 3 w' w0.heap.size (fun k_ => (P0_ k_ ∨ w.heap.size ≤ k_)) u9000_ x0_1) ∧ Aside0 (Kept w w' (fun k_ => P0_ k_)) ∧ Aside0 (Below w0.heap.size w0 w'))
 case atStart => exact ⟨(l0), (0), rf_, H', ⟨Nat.le_refl _⟩, ⟨rr_ HO0⟩, ⟨by repeat (first | (with_reducible first | exact HK.out | apply Kept.alloc | apply Kept.drewN | apply Kept.drew) | exact HK.out)⟩, ⟨bl_⟩⟩
 case round =>
  clear H'
  try clear p2
  try clear q4
  obtain ⟨x0_1, x10_1, rfl, HA, HK1, HO_0, HK, HB⟩ := hrel
  cases gk with
  | zero => exact absurd HA.out (by simp [slices_swapRangeCmpFunc_int.l0])
  | succ k1 =>
   have H := HA.out
   clear HA
   simp only [slices_swapRangeCmpFunc_int.l0] at H
   by_cases c6 : x10_1 < a3
   ·rw [if_pos c6] at H
    have c6b0 : decide (x10_1 < a3) = true := decide_eq_true c6
    clear c6
    obtain ⟨ji7, hji7⟩ : ∃ j_ : Int, (wrap64 (a2 + x10_1)) = j_ := ⟨_, rfl⟩
    replace H : (if 0 ≤ (ji7) then (if (ji7) < (x0_1.length : Int) then (if 0 ≤ (wrap64 (a1 + x10_1)) then (if (wrap64 (a1 + x10_1)) < (x0_1.length : Int) then (slices_swapRangeCmpFunc_int.l0 k1 ((x0_1.set ((wrap64 (a1 + x10_1)) : Int).toNat (rd x0_1 (ji7))).set ((ji7) : Int).toNat (rd x0_1 (wrap64 (a1 + x10_1)))) a1 a2 a3 (wrap64 (x10_1 + 1))) else (none)) else (none)) else (none)) else (none)) = some r := by first | (rw [hji7] at H; exact H) | (simp only [hji7] at H ⊢; exact H)
    have hji7w : (IntKind.i64.wrap (a2 + x10_1)) = ji7 := (i64_w _).trans hji7
    obtain ⟨c8b0, H⟩ := ifd_ H
    obtain ⟨c9b0, H⟩ := ifd_ H
    obtain ⟨ji10, hji10⟩ : ∃ j_ : Int, (wrap64 (a1 + x10_1)) = j_ := ⟨_, rfl⟩
    replace H : (if 0 ≤ (ji10) then (if (ji10) < (x0_1.length : Int) then (slices_swapRangeCmpFunc_int.l0 k1 ((x0_1.set ((ji10) : Int).toNat (rd x0_1 (ji7))).set ((ji7) : Int).toNat (rd x0_1 (ji10))) a1 a2 a3 (wrap64 (x10_1 + 1))) else (none)) else (none)) = some r := by first | (rw [hji10] at H; exact H) | (simp only [hji10] at H ⊢; exact H)
    have hji10w : (IntKind.i64.wrap (a1 + x10_1)) = ji10 := (i64_w _).trans hji10
    obtain ⟨c11b0, H⟩ := ifd_ H
    obtain ⟨c12b0, H⟩ := ifd_ H
    obtain ⟨y416, hy416⟩ : ∃ y_ : List Int, y_ = (x0_1.set ((ji10) : Int).toNat (rd x0_1 (ji7))) := ⟨_, rfl⟩
    replace H : (slices_swapRangeCmpFunc_int.l0 k1 (y416.set ((ji7) : Int).toNat (rd x0_1 (ji10))) a1 a2 a3 (wrap64 (x10_1 + 1))) = some r := rh_ hy416 H
    have Ny416 := aa_ hy416
    clear hy416
    obtain ⟨y417, hy417⟩ : ∃ y_ : List Int, y_ = (y416.set ((ji7) : Int).toNat (rd x0_1 (ji10))) := ⟨_, rfl⟩
    replace H : (slices_swapRangeCmpFunc_int.l0 k1 y417 a1 a2 a3 (wrap64 (x10_1 + 1))) = some r := rh_ hy417 H
    have Ny417 := aa_ hy417
    clear hy417
    have H' := aa_ H
    clear H
    try go_wp2
    replace HO_0 := aa_ (Kd.R_drew HO_0.out)
    replace HK := aa_ (Kept.drew HK.out)
    replace HB := aa_ (below_drew1 HB.out)
    obtain ⟨Ao16, co16, eo16⟩ := Kd.R_slice HO_0.out
    (first | subst eo16 | (injection eo16 with f1_ f2_ f3_; have f4_ := f1_.symm; have f5_ := f3_.symm; clear f1_ f2_ f3_; subst f4_; subst f5_))
    have p414 : 0 ≤ ((ji7) : Int) := od_
    have q414 : (ji7) < (x0_1.length : Int) := od_
    obtain ⟨ad414, e414, hx414_0⟩ := Kd.at_int (Kd.R_reads' HO_0.out).2.2 (ji7) p414 q414
    cases e414
    replace p414 := eq_true p414
    replace q414 := eq_true q414
    have p415 : 0 ≤ ((ji10) : Int) := od_
    have q415 : (ji10) < (x0_1.length : Int) := od_
    obtain ⟨ad415, e415, hx415_0⟩ := Kd.at_int (Kd.R_reads' HO_0.out).2.2 (ji10) p415 q415
    obtain rfl : ad414 = ad415 := (by injection e415)
    replace p415 := eq_true p415
    replace q415 := eq_true q415
    have p13 : 0 ≤ ((ji10) : Int) := od_
    have q13 : ((ji10) : Int) < ((x0_1.length : Int) : Int) := od_
    obtain ⟨go13, co13, eo13, gb13, gl13, cl13, HG13⟩ := Kd.R_form HO_0.out (by omega)
    (first | cases eo13 | (injection eo13 with ea_ en_ ec_; (first | subst ea_ | (injection ea_ with ea_; subst ea_)); subst ec_; clear en_))
    have GB13 := aa_ gb13
    have GG13 := aa_ HG13
    clear gb13 gl13 HG13
    have HMgo13 := aa_ (show (P0_ go13 ∨ w.heap.size ≤ go13) from (HO_0.out.1 _ rfl))
    (first | simp only [add_plain] at hx414_0 | skip)
    (first | simp only [add_plain] at hx415_0 | skip)
    obtain ⟨hx13_0, hf13_0⟩ := Kd.R_celln 0 HO_0.out ((ji10) : Int) p13 q13
    replace p13 := eq_true p13
    replace q13 := eq_true q13
    have HP17 := Kd.R_putn HO_0.out ((ji10) : Int) (rd x0_1 (ji7))
    rw [← Ny416.out] at HP17
    have HQ17 := aa_ HP17
    clear HP17
    have p14 : 0 ≤ ((ji7) : Int) := od_
    have q14 : ((ji7) : Int) < ((x0_1.length : Int) : Int) := od_
    obtain ⟨hx14_0, hf14_0⟩ := Kd.R_celln 0 HQ17.out ((ji7) : Int) p14 q14
    replace p14 := eq_true p14
    replace q14 := eq_true q14
    have HP18 := Kd.R_putn HQ17.out ((ji7) : Int) (rd x0_1 (ji10))
    rw [← Ny417.out] at HP18
    have HQ18 := aa_ HP18
    clear HP18
    refine start_ (n := 24) (S := fun w' => w'.cell? ⟨go13, ((ji7)).toNat, none⟩ = some (.int .i64 (rd x0_1 (ji7))) ∧ w'.cell? ⟨go13, ((ji10)).toNat, none⟩ = some (.int .i64 (rd x0_1 (ji10)))) (ds := [21, 23]) (ba_ 24 0) (by kernel_rfl) rfl rfl ⟨hx414_0, hx415_0⟩ (fun hHeld => ?_); refine with_tabW slices_swapRangeCmpFunc_int.tab3 slices_swapRangeCmpFunc_int.bits3 (fun HT_ HW_ => ?_)
    generalize wr.drew = w15 at HO_0 HK HB GG13 HQ17 HQ18 hf13_0 hf14_0 hx13_0 hx14_0 hx414_0 hx415_0 hHeld ⊢
    refine pz_ 0 16 (ba_ 24 1) (ao_ HT_) ?_
    refine pz_ 1 17 (ba_ 24 3) (ao_ HT_) ?_
    refine pz_ 2 18 (ba_ 24 7) (ao_ HT_) ?_
    refine pz_ 3 19 (ba_ 24 15) (ao_ HT_) ?_
    refine pz_ 4 20 (ba_ 24 31) (ao_ HT_) ?_
    refine pz_ 5 21 (ba_ 24 63) (ao_ HT_) ?_
    refine pz_ 6 22 (ba_ 24 127) (ao_ HT_) ?_
    refine pz_ 7 23 (ba_ 24 255) (ao_ HT_) ?_
    refine pz_ 8 24 (ba_ 24 511) (ao_ HT_) ?_
    refine pz_ 9 25 (ba_ 24 1023) (ao_ HT_) ?_
    refine pz_ 10 26 (ba_ 24 2047) (ao_ HT_) ?_
    refine pz_ 11 27 (ba_ 24 4095) (ao_ HT_) ?_
    refine pz_ 12 28 (ba_ 24 8191) (ao_ HT_) ?_
    refine pz_ 14 30 (ba_ 24 24575) (ao_ HT_) ?_
    refine pz_ 15 31 (ba_ 24 57343) (ao_ HT_) ?_
    refine pz_ 16 32 (ba_ 24 122879) (ao_ HT_) ?_
    refine pz_ 17 33 (ba_ 24 253951) (ao_ HT_) ?_
    refine pz_ 18 34 (ba_ 24 516095) (ao_ HT_) ?_
    refine tz_ 13 29 (ba_ 24 524287) (take_ofW HT_.out HW_.out (by kernel_rfl)) hHeld ?_
    refine tz_ 19 35 (ba_ 24 1048575) (take_ofW HT_.out HW_.out (by kernel_rfl)) hHeld ?_
    refine pz_ 20 36 (ba_ 24 2097151) (ao_ HT_) ?_
    refine last_ (i := 21) (N := none) (ba_ 24 4194303) rfl rfl (one_of HT_.out (by kernel_rfl)) (by decide) (fun K hK => ?_)
    refine skip_ (w1 := ?_) (by rfl) rfl ?_ ?_
    rotate_left
    ·go_simp
     rfl
    refine hK.out _ _ ?_
    clear hK K
    refine pz_ 22 37 (ba_ 24 8388607) (ao_ HT_) ?_
    refine last_ (i := 23) (N := none) (ba_ 24 16777215) rfl rfl (one_of HT_.out (by kernel_rfl)) (by decide) (fun K hK => ?_)
    refine skip_ (w1 := ?_) (by rfl) rfl ?_ ?_
    rotate_left
    ·go_simp
     rfl
    refine hK.out _ _ ?_
    clear hK K
    refine done_ (done_of HT_.out (by kernel_rfl)) ?_
    try go_wp2
    go_roundg k1
    case measure => have := HK1.out; omega
    case rel => exact ⟨(y417), (wrap64 (x10_1 + 1)), rf_, H', ⟨by have := HK1.out; omega⟩, ⟨rr_ HQ18⟩, ⟨by repeat (first | (with_reducible first | exact HK.out | apply Kept.alloc | apply Kept.drewN | apply Kept.drew | refine Kept.setCell ?_ HMgo13.out _ | refine Kept.setCell ?_ HMgo13.out _) | exact HK.out)⟩, ⟨by repeat (first | (with_reducible first | exact HB.out | apply below_alloc | apply pw_below_drewN | apply below_drew1 | refine below_set ?_ GB13.out | refine below_set ?_ GB13.out) | exact HB.out)⟩⟩
   ·rw [if_neg c6] at H
    have c6b0 : decide (x10_1 < a3) = false := decide_eq_false c6
    clear c6
    obtain rfl := Option.some.inj H
    go_wp2
    first | go_end0 | ((try simp only [Exit.inBlock, Exit.then]); refine bodyPost_ret (results_none rfl _ _ _) rfl ?_)
    exact ⟨eq_, by (with_reducible repeat (first | apply Kd.R_alloc | apply Kd.R_drewN | apply Kd.R_drew)); exact HO_0.out, bl_, by repeat (first | (with_reducible first | exact HK.out | apply Kept.alloc | apply Kept.drewN | apply Kept.drew) | exact HK.out)⟩
def slices_rotateCmpFunc_int.l0 : Nat → List Int → Int → (Int → Int → Option Int) → Int → Int → Option (List Int)
 | 0, _, _, _, _, _ => none
 | k + 1, x0, x2, x4, x10, x11 => if x10 = x11 then ((slices_swapRangeCmpFunc_int.f k x0 (wrap64 (x2 - x10)) x2 x10 x4).bind fun t418 => (some t418)) else (if x10 > x11 then ((slices_swapRangeCmpFunc_int.f k x0 (wrap64 (x2 - x10)) x2 x11 x4).bind fun t419 => (slices_rotateCmpFunc_int.l0 k t419 x2 x4 (wrap64 (x10 - x11)) x11)) else ((slices_swapRangeCmpFunc_int.f k x0 (wrap64 (x2 - x10)) (wrap64 ((wrap64 (x2 + x11)) - x10)) x10 x4).bind fun t420 => (slices_rotateCmpFunc_int.l0 k t420 x2 x4 x10 (wrap64 (x11 - x10)))))
def slices_rotateCmpFunc_int.f (k : Nat) (l0 : List Int) (a1 : Int) (a2 : Int) (a3 : Int) (a4 : (Int → Int → Option Int)) : Option (List Int) := slices_rotateCmpFunc_int.l0 k l0 a2 a4 (wrap64 (a2 - a1)) (wrap64 (a3 - a2))
set_option maxHeartbeats 8000000 in
set_option maxRecDepth 100000 in
theorem slices_rotateCmpFunc_int.calls (k : Nat) (P0_ : Nat → Prop) (u9000_ : Value) (l0 : List Int) (a1 : Int) (a2 : Int) (a3 : Int) (a4 : (Int → Int → Option Int)) (ga4_ : Nat) (r : List Int) (w0 w : World) (hB : Below w0.heap.size w0 w) (ho0 : Kd.R (Kd.int .i64) 3 w w0.heap.size P0_ u9000_ l0) (hq4 : ∀ W_, Kept w W_ (fun k_ => P0_ k_) → FnOk a4 ga4_ W_) (h : slices_rotateCmpFunc_int.f k l0 a1 a2 a3 a4 = some r) :
  Calls Try.prog 66 #[u9000_, .int .i64 a1, .int .i64 a2, .int .i64 a3, .func (.func 25) #[] #[.pointer (some ⟨ga4_, 0, none⟩)]] w fun e w' => e = .returned (.tuple #[]) ∧ Kd.R (Kd.int .i64) 3 w' w0.heap.size (fun k_ => (P0_ k_ ∨ w.heap.size ≤ k_)) u9000_ r ∧ Below w0.heap.size w0 w' ∧ Kept w w' (fun k_ => P0_ k_) := by
 have HO0 := aa_ (show Kd.R (Kd.int .i64) 3 w w0.heap.size (fun k_ => (P0_ k_ ∨ w.heap.size ≤ k_)) u9000_ l0 from Kd.R_mono ho0 (fun k_ hk => (.inl hk)))
 have HK := aa_ (Kept.refl w (fun k_ => P0_ k_))
 have HFN4 := aa_ hq4
 clear hq4
 have HW0 := aa_ hB.size
 have HB := aa_ hB
 clear hB
 have H : (slices_rotateCmpFunc_int.l0 k l0 a2 a4 (wrap64 (a2 - a1)) (wrap64 (a3 - a2))) = some r := h
 clear h
 have H' := aa_ H
 clear H
 go_enter Try.func66, Try.ntmps66
 go_wp2
 go_loopg [10, 11] k (fun kq v10 v11 w' => ∃ (x0_1 : List Int) (x10_1 : Int) (x11_1 : Int), v10 = .int .i64 x10_1 ∧ v11 = .int .i64 x11_1 ∧ Aside0 (slices_rotateCmpFunc_int.l0 kq x0_1 a2 a4 x10_1 x11_1 = some r) ∧ Aside0 (kq ≤ k) ∧ Aside0 (Kd.R (Kd.int .i64) 3 w' w0.heap.size (fun k_ => (P0_ k_ ∨ w.heap.size ≤ k_)) u9000_ x0_1) ∧ Aside0 (Kept w w' (fun k_ => P0_ k_)) ∧ Aside0 (Below w0.heap.size w0 w'))
 case atStart => exact ⟨(l0), (wrap64 (a2 - a1)), (wrap64 (a3 - a2)), rf_, rf_, H', ⟨Nat.le_refl _⟩, ⟨rr_ HO0⟩, ⟨by repeat (first | (with_reducible first | exact HK.out | apply Kept.alloc | apply Kept.drewN | apply Kept.drew) | exact HK.out)⟩, ⟨bl_⟩⟩
 case round =>
  clear H'
  try clear p2
  try clear q4
  obtain ⟨x0_1, x10_1, x11_1, rfl, rfl, HA, HK1, HO_0, HK, HB⟩ := hrel
  cases gk with
  | zero => exact absurd HA.out (by simp [slices_rotateCmpFunc_int.l0])
  | succ k1 =>
   have H := HA.out
   clear HA
   simp only [slices_rotateCmpFunc_int.l0] at H
   by_cases c6 : x10_1 = x11_1
   ·rw [if_pos c6] at H
    have c6b0 : (x10_1 == x11_1) = true := beq_iff_eq.mpr c6
    have c6b1 : (x10_1 != x11_1) = false := bne_eq_false_iff_eq.mpr c6
    clear c6
    obtain ⟨t418, A7, H⟩ := bindE_ H
    obtain rfl := Option.some.inj H
    obtain ⟨Ao8, co8, eo8⟩ := Kd.R_slice HO_0.out
    subst eo8
    go_wp2_with (first | ((with_reducible refine gC_ 67 rfl ?_); refine goesC_ (some 57) Try.func67 #[.slice Ao8 x0_1.length co8, .int .i64 (wrap64 (a2 - x10_1)), .int .i64 a2, .int .i64 x10_1, .func (.func 25) #[] #[.pointer (some ⟨ga4_, 0, none⟩)]] ?_; (with_reducible refine (slices_swapRangeCmpFunc_int.calls k1 (fun k_ => some k_ = (.slice Ao8 x0_1.length co8 : Value).ownBlock) (.slice Ao8 x0_1.length co8) x0_1 (wrap64 (a2 - x10_1)) a2 x10_1 a4 ga4_ t418 w0 _ ?side1 ?side2 ?side3 A7.out).mono ?_); (case side1 => repeat (first | (with_reducible first | exact HB.out | apply below_alloc | apply pw_below_drewN | apply below_drew1) | exact HB.out)); (case side2 => exact Kd.R_tight rfl HO_0.out); (case side3 => exact fun W_ hW_ => HFN4.out W_ (Kept.then_ (by repeat (first | (with_reducible first | exact HK.out | apply Kept.alloc | apply Kept.drewN | apply Kept.drew) | exact HK.out)) hW_ (fun k_ hs_ => (fun e_ => (HO_0.out.1 k_ e_.symm)) hs_))); rintro e w9 ⟨rfl, hy0, hb, hkp⟩; refine ⟨_, rfl, ?_⟩; replace HK := aa_ (Kept.then_ (S := (fun k_ => P0_ k_)) (by repeat (first | (with_reducible first | exact HK.out | apply Kept.alloc | apply Kept.drewN | apply Kept.drew) | exact HK.out)) hkp (fun k_ hs_ => (fun e_ => (HO_0.out.1 k_ e_.symm)) hs_)); replace HO_0 := aa_ (Kd.R_reok rfl hy0 (fun k_ e_ => HO_0.out.1 k_ e_)); replace HB := aa_ (hb); (try clear hb hkp hy0)))
    first | go_end0 | ((try simp only [Exit.inBlock, Exit.then]); refine bodyPost_ret (results_none rfl _ _ _) rfl ?_)
    exact ⟨eq_, by (with_reducible repeat (first | apply Kd.R_alloc | apply Kd.R_drewN | apply Kd.R_drew)); exact HO_0.out, bl_, by repeat (first | (with_reducible first | exact HK.out | apply Kept.alloc | apply Kept.drewN | apply Kept.drew) | exact HK.out)⟩
   ·rw [if_neg c6] at H
    have c6b0 : (x10_1 == x11_1) = false := beq_eq_false_iff_ne.mpr c6
    have c6b1 : (x10_1 != x11_1) = true := bne_iff_ne.mpr c6
    by_cases c10 : x10_1 > x11_1
    ·rw [if_pos c10] at H
     have c10b0 : decide (x11_1 < x10_1) = true := decide_eq_true c10
     clear c10
     obtain ⟨t419, A11, H⟩ := bindE_ H
     have H' := aa_ H
     clear H
     obtain ⟨Ao12, co12, eo12⟩ := Kd.R_slice HO_0.out
     subst eo12
     go_wp2_with (first | ((with_reducible refine gC_ 67 rfl ?_); refine goesC_ (some 31) Try.func67 #[.slice Ao12 x0_1.length co12, .int .i64 (wrap64 (a2 - x10_1)), .int .i64 a2, .int .i64 x11_1, .func (.func 25) #[] #[.pointer (some ⟨ga4_, 0, none⟩)]] ?_; (with_reducible refine (slices_swapRangeCmpFunc_int.calls k1 (fun k_ => some k_ = (.slice Ao12 x0_1.length co12 : Value).ownBlock) (.slice Ao12 x0_1.length co12) x0_1 (wrap64 (a2 - x10_1)) a2 x11_1 a4 ga4_ t419 w0 _ ?side1 ?side2 ?side3 A11.out).mono ?_); (case side1 => repeat (first | (with_reducible first | exact HB.out | apply below_alloc | apply pw_below_drewN | apply below_drew1) | exact HB.out)); (case side2 => exact Kd.R_tight rfl HO_0.out); (case side3 => exact fun W_ hW_ => HFN4.out W_ (Kept.then_ (by repeat (first | (with_reducible first | exact HK.out | apply Kept.alloc | apply Kept.drewN | apply Kept.drew) | exact HK.out)) hW_ (fun k_ hs_ => (fun e_ => (HO_0.out.1 k_ e_.symm)) hs_))); rintro e w13 ⟨rfl, hy0, hb, hkp⟩; refine ⟨_, rfl, ?_⟩; replace HK := aa_ (Kept.then_ (S := (fun k_ => P0_ k_)) (by repeat (first | (with_reducible first | exact HK.out | apply Kept.alloc | apply Kept.drewN | apply Kept.drew) | exact HK.out)) hkp (fun k_ hs_ => (fun e_ => (HO_0.out.1 k_ e_.symm)) hs_)); replace HO_0 := aa_ (Kd.R_reok rfl hy0 (fun k_ e_ => HO_0.out.1 k_ e_)); replace HB := aa_ (hb); (try clear hb hkp hy0)))
     go_roundg k1
     case measure => have := HK1.out; omega
     case rel => exact ⟨(t419), (wrap64 (x10_1 - x11_1)), (x11_1), rf_, rf_, H', ⟨by have := HK1.out; omega⟩, ⟨rr_ HO_0⟩, ⟨by repeat (first | (with_reducible first | exact HK.out | apply Kept.alloc | apply Kept.drewN | apply Kept.drew) | exact HK.out)⟩, ⟨bl_⟩⟩
    ·rw [if_neg c10] at H
     have c10b0 : decide (x11_1 < x10_1) = false := decide_eq_false c10
     clear c10
     obtain ⟨t420, A14, H⟩ := bindE_ H
     have H' := aa_ H
     clear H
     obtain ⟨Ao15, co15, eo15⟩ := Kd.R_slice HO_0.out
     subst eo15
     go_wp2_with (first | ((with_reducible refine gC_ 67 rfl ?_); refine goesC_ (some 46) Try.func67 #[.slice Ao15 x0_1.length co15, .int .i64 (wrap64 (a2 - x10_1)), .int .i64 (wrap64 ((wrap64 (a2 + x11_1)) - x10_1)), .int .i64 x10_1, .func (.func 25) #[] #[.pointer (some ⟨ga4_, 0, none⟩)]] ?_; (with_reducible refine (slices_swapRangeCmpFunc_int.calls k1 (fun k_ => some k_ = (.slice Ao15 x0_1.length co15 : Value).ownBlock) (.slice Ao15 x0_1.length co15) x0_1 (wrap64 (a2 - x10_1)) (wrap64 ((wrap64 (a2 + x11_1)) - x10_1)) x10_1 a4 ga4_ t420 w0 _ ?side1 ?side2 ?side3 A14.out).mono ?_); (case side1 => repeat (first | (with_reducible first | exact HB.out | apply below_alloc | apply pw_below_drewN | apply below_drew1) | exact HB.out)); (case side2 => exact Kd.R_tight rfl HO_0.out); (case side3 => exact fun W_ hW_ => HFN4.out W_ (Kept.then_ (by repeat (first | (with_reducible first | exact HK.out | apply Kept.alloc | apply Kept.drewN | apply Kept.drew) | exact HK.out)) hW_ (fun k_ hs_ => (fun e_ => (HO_0.out.1 k_ e_.symm)) hs_))); rintro e w16 ⟨rfl, hy0, hb, hkp⟩; refine ⟨_, rfl, ?_⟩; replace HK := aa_ (Kept.then_ (S := (fun k_ => P0_ k_)) (by repeat (first | (with_reducible first | exact HK.out | apply Kept.alloc | apply Kept.drewN | apply Kept.drew) | exact HK.out)) hkp (fun k_ hs_ => (fun e_ => (HO_0.out.1 k_ e_.symm)) hs_)); replace HO_0 := aa_ (Kd.R_reok rfl hy0 (fun k_ e_ => HO_0.out.1 k_ e_)); replace HB := aa_ (hb); (try clear hb hkp hy0)))
     go_roundg k1
     case measure => have := HK1.out; omega
     case rel => exact ⟨(t420), (x10_1), (wrap64 (x11_1 - x10_1)), rf_, rf_, H', ⟨by have := HK1.out; omega⟩, ⟨rr_ HO_0⟩, ⟨by repeat (first | (with_reducible first | exact HK.out | apply Kept.alloc | apply Kept.drewN | apply Kept.drew) | exact HK.out)⟩, ⟨bl_⟩⟩
end Go.Proofs.Ytljhfomkakhflaa.PA
