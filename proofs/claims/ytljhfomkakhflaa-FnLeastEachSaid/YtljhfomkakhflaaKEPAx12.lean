import Derived.Test.YtljhfomkakhflaaKEPAx11
-- printed by wip/tools
namespace Go.Proofs.Ytljhfomkakhflaa.PA
open Go.RowKit Go.Proofs.YtljhfomkakhflaaW.PrintWords Go.Proofs.YtljhfomkakhflaaW.PrintLast Go.Proofs.YtljhfomkakhflaaW.PrintMore
attribute [local go_sem] max2_int min2_int max_two min_two max_three min_three max_four min_four
set_option linter.unusedVariables false
set_option linter.unusedSimpArgs false
mutual
def slices_symMergeCmpFunc_int.l0 : Nat → List Int → Int → (Int → Int → Option Int) → Int → Int → Option (List Int)
 | 0, _, _, _, _, _ => none
 | k + 1, x0, x1, x4, x10, x11 => if x10 < x11 then (if 0 ≤ (wrap64 ((IntKind.u64.wrap (wrap64 (x10 + x11))) / 2)) then (if (wrap64 ((IntKind.u64.wrap (wrap64 (x10 + x11))) / 2)) < (x0.length : Int) then (if 0 ≤ x1 then (if x1 < (x0.length : Int) then ((x4 (rd x0 (wrap64 ((IntKind.u64.wrap (wrap64 (x10 + x11))) / 2))) (rd x0 x1)).bind fun t423 => (if t423 < 0 then (slices_symMergeCmpFunc_int.l0 k x0 x1 x4 (wrap64 ((wrap64 ((IntKind.u64.wrap (wrap64 (x10 + x11))) / 2)) + 1)) x11) else (slices_symMergeCmpFunc_int.l0 k x0 x1 x4 x10 (wrap64 ((IntKind.u64.wrap (wrap64 (x10 + x11))) / 2))))) else (none)) else (none)) else (none)) else (none)) else (slices_symMergeCmpFunc_int.l1 k x0 x10 x1)
def slices_symMergeCmpFunc_int.l1 : Nat → List Int → Int → Int → Option (List Int)
 | 0, _, _, _ => none
 | k + 1, x0, x10, x13 => if x13 < (wrap64 (x10 - 1)) then (if 0 ≤ (wrap64 (x13 + 1)) then (if (wrap64 (x13 + 1)) < (x0.length : Int) then (if 0 ≤ x13 then (if x13 < (x0.length : Int) then (slices_symMergeCmpFunc_int.l1 k ((x0.set (x13 : Int).toNat (rd x0 (wrap64 (x13 + 1)))).set ((wrap64 (x13 + 1)) : Int).toNat (rd x0 x13)) x10 (wrap64 (x13 + 1))) else (none)) else (none)) else (none)) else (none)) else (some x0)
def slices_symMergeCmpFunc_int.l2 : Nat → List Int → Int → (Int → Int → Option Int) → Int → Int → Option (List Int)
 | 0, _, _, _, _, _ => none
 | k + 1, x0, x2, x4, x14, x15 => if x14 < x15 then (if 0 ≤ x2 then (if x2 < (x0.length : Int) then (if 0 ≤ (wrap64 ((IntKind.u64.wrap (wrap64 (x14 + x15))) / 2)) then (if (wrap64 ((IntKind.u64.wrap (wrap64 (x14 + x15))) / 2)) < (x0.length : Int) then ((x4 (rd x0 x2) (rd x0 (wrap64 ((IntKind.u64.wrap (wrap64 (x14 + x15))) / 2)))).bind fun t430 => (if t430 < 0 then (slices_symMergeCmpFunc_int.l2 k x0 x2 x4 x14 (wrap64 ((IntKind.u64.wrap (wrap64 (x14 + x15))) / 2))) else (slices_symMergeCmpFunc_int.l2 k x0 x2 x4 (wrap64 ((wrap64 ((IntKind.u64.wrap (wrap64 (x14 + x15))) / 2)) + 1)) x15))) else (none)) else (none)) else (none)) else (none)) else (slices_symMergeCmpFunc_int.l3 k x0 x14 x2)
def slices_symMergeCmpFunc_int.l3 : Nat → List Int → Int → Int → Option (List Int)
 | 0, _, _, _ => none
 | k + 1, x0, x14, x17 => if x17 > x14 then (if 0 ≤ (wrap64 (x17 - 1)) then (if (wrap64 (x17 - 1)) < (x0.length : Int) then (if 0 ≤ x17 then (if x17 < (x0.length : Int) then (slices_symMergeCmpFunc_int.l3 k ((x0.set (x17 : Int).toNat (rd x0 (wrap64 (x17 - 1)))).set ((wrap64 (x17 - 1)) : Int).toNat (rd x0 x17)) x14 (wrap64 (x17 - 1))) else (none)) else (none)) else (none)) else (none)) else (some x0)
def slices_symMergeCmpFunc_int.j4 : Nat → List Int → Int → Int → Int → (Int → Int → Option Int) → Int → Int → Int → Int → Option (List Int)
 | 0, _, _, _, _, _, _, _, _, _ => none
 | k + 1, x0, x1, x2, x3, x4, x18, x19, x20, x21 => slices_symMergeCmpFunc_int.l4 k x0 x1 x2 x3 x4 x18 x19 x20 x21 (wrap64 (x19 - 1))
def slices_symMergeCmpFunc_int.l4 : Nat → List Int → Int → Int → Int → (Int → Int → Option Int) → Int → Int → Int → Int → Int → Option (List Int)
 | 0, _, _, _, _, _, _, _, _, _, _ => none
 | k + 1, x0, x1, x2, x3, x4, x18, x19, x20, x21, x22 => if x20 < x21 then (if 0 ≤ (wrap64 (x22 - (wrap64 ((IntKind.u64.wrap (wrap64 (x20 + x21))) / 2)))) then (if (wrap64 (x22 - (wrap64 ((IntKind.u64.wrap (wrap64 (x20 + x21))) / 2)))) < (x0.length : Int) then (if 0 ≤ (wrap64 ((IntKind.u64.wrap (wrap64 (x20 + x21))) / 2)) then (if (wrap64 ((IntKind.u64.wrap (wrap64 (x20 + x21))) / 2)) < (x0.length : Int) then ((x4 (rd x0 (wrap64 (x22 - (wrap64 ((IntKind.u64.wrap (wrap64 (x20 + x21))) / 2))))) (rd x0 (wrap64 ((IntKind.u64.wrap (wrap64 (x20 + x21))) / 2)))).bind fun t437 => (if t437 < 0 then (slices_symMergeCmpFunc_int.l4 k x0 x1 x2 x3 x4 x18 x19 x20 (wrap64 ((IntKind.u64.wrap (wrap64 (x20 + x21))) / 2)) x22) else (slices_symMergeCmpFunc_int.l4 k x0 x1 x2 x3 x4 x18 x19 (wrap64 ((wrap64 ((IntKind.u64.wrap (wrap64 (x20 + x21))) / 2)) + 1)) x21 x22))) else (none)) else (none)) else (none)) else (none)) else (if x20 < x2 then (slices_symMergeCmpFunc_int.j6 k x0 x1 x2 x3 x4 x18 x20 (wrap64 (x19 - x20)) (decide (x2 < (wrap64 (x19 - x20))))) else (slices_symMergeCmpFunc_int.j6 k x0 x1 x2 x3 x4 x18 x20 (wrap64 (x19 - x20)) false))
def slices_symMergeCmpFunc_int.j6 : Nat → List Int → Int → Int → Int → (Int → Int → Option Int) → Int → Int → Int → Bool → Option (List Int)
 | 0, _, _, _, _, _, _, _, _, _ => none
 | k + 1, x0, x1, x2, x3, x4, x18, x20, x24, x185 => if x185 = true then ((slices_rotateCmpFunc_int.f k x0 x20 x2 x24 x4).bind fun t438 => (slices_symMergeCmpFunc_int.j7 k t438 x1 x3 x4 x18 x20 x24)) else (slices_symMergeCmpFunc_int.j7 k x0 x1 x3 x4 x18 x20 x24)
def slices_symMergeCmpFunc_int.j7 : Nat → List Int → Int → Int → (Int → Int → Option Int) → Int → Int → Int → Option (List Int)
 | 0, _, _, _, _, _, _, _ => none
 | k + 1, x0, x1, x3, x4, x18, x20, x24 => if x1 < x20 then (slices_symMergeCmpFunc_int.j8 k x0 x1 x3 x4 x18 x20 x24 (decide (x20 < x18))) else (slices_symMergeCmpFunc_int.j8 k x0 x1 x3 x4 x18 x20 x24 false)
def slices_symMergeCmpFunc_int.j8 : Nat → List Int → Int → Int → (Int → Int → Option Int) → Int → Int → Int → Bool → Option (List Int)
 | 0, _, _, _, _, _, _, _, _ => none
 | k + 1, x0, x1, x3, x4, x18, x20, x24, x199 => if x199 = true then ((slices_symMergeCmpFunc_int.f k x0 x1 x20 x18 x4).bind fun t439 => (if x18 < x24 then (if x24 < x3 then ((slices_symMergeCmpFunc_int.f k t439 x18 x24 x3 x4).bind fun t440 => (some t440)) else (some t439)) else (some t439))) else (if x18 < x24 then (if x24 < x3 then ((slices_symMergeCmpFunc_int.f k x0 x18 x24 x3 x4).bind fun t441 => (some t441)) else (some x0)) else (some x0))
def slices_symMergeCmpFunc_int.f : Nat → List Int → Int → Int → Int → (Int → Int → Option Int) → Option (List Int)
 | 0, _, _, _, _, _ => none
 | k + 1, l0, a1, a2, a3, a4 => if (wrap64 (a2 - a1)) = 1 then (slices_symMergeCmpFunc_int.l0 k l0 a1 a4 a2 a3) else (if (wrap64 (a3 - a2)) = 1 then (slices_symMergeCmpFunc_int.l2 k l0 a2 a4 a1 a2) else (if a2 > (wrap64 ((IntKind.u64.wrap (wrap64 (a1 + a3))) / 2)) then (slices_symMergeCmpFunc_int.j4 k l0 a1 a2 a3 a4 (wrap64 ((IntKind.u64.wrap (wrap64 (a1 + a3))) / 2)) (wrap64 ((wrap64 ((IntKind.u64.wrap (wrap64 (a1 + a3))) / 2)) + a2)) (wrap64 ((wrap64 ((wrap64 ((IntKind.u64.wrap (wrap64 (a1 + a3))) / 2)) + a2)) - a3)) (wrap64 ((IntKind.u64.wrap (wrap64 (a1 + a3))) / 2))) else (slices_symMergeCmpFunc_int.j4 k l0 a1 a2 a3 a4 (wrap64 ((IntKind.u64.wrap (wrap64 (a1 + a3))) / 2)) (wrap64 ((wrap64 ((IntKind.u64.wrap (wrap64 (a1 + a3))) / 2)) + a2)) a1 a2)))
end
def slices_symMergeCmpFunc_int.T5 : Bool × List (List Nat × List Nat) := (true, [([], []), ([], []), ([], []), ([1, 2], [1, 2]), ([3], [3]), ([], []), ([], []), ([5, 6], [5, 6]), ([7], [7]), ([0, 4, 8], [0, 4, 8]), ([9], [9])])
def slices_symMergeCmpFunc_int.B5 : List Nat := [0, 0, 0, 6, 14, 0, 0, 96, 224, 511, 1023]
theorem slices_symMergeCmpFunc_int.tab5 : rtab .any (opsOf Try.f60 5) = slices_symMergeCmpFunc_int.T5 := by kernel_rfl
theorem slices_symMergeCmpFunc_int.bits5 : waitsOk slices_symMergeCmpFunc_int.T5.2 slices_symMergeCmpFunc_int.B5 = true := by kernel_rfl
def slices_symMergeCmpFunc_int.T11 : Bool × List (List Nat × List Nat) := (true, [([], []), ([], []), ([], []), ([], []), ([3], [3]), ([], []), ([], []), ([6], [6]), ([5, 7], [5, 7]), ([8], [8]), ([], []), ([], []), ([10, 11], [10, 11]), ([12], [12]), ([0, 1, 0, 1, 5, 6, 7, 8, 9, 13], [0, 1]), ([14, 9, 0, 1, 5, 6, 7, 8, 9, 13], [9, 14]), ([2, 4, 0, 1, 2, 3, 4, 5, 6, 7, 8, 9, 10, 11, 12, 13, 14, 15], [2, 4]), ([16, 13, 15, 0, 1, 2, 3, 4, 5, 6, 7, 8, 9, 10, 11, 12, 13, 14, 15], [13, 16])])
def slices_symMergeCmpFunc_int.B11 : List Nat := [0, 0, 0, 0, 8, 0, 0, 64, 224, 480, 0, 0, 3072, 7168, 16355, 32739, 65535, 131071]
theorem slices_symMergeCmpFunc_int.tab11 : rtab .any (opsOf Try.f60 11) = slices_symMergeCmpFunc_int.T11 := by kernel_rfl
theorem slices_symMergeCmpFunc_int.bits11 : waitsOk slices_symMergeCmpFunc_int.T11.2 slices_symMergeCmpFunc_int.B11 = true := by kernel_rfl
def slices_symMergeCmpFunc_int.T17 : Bool × List (List Nat × List Nat) := (true, [([], []), ([], []), ([], []), ([1, 2], [1, 2]), ([3], [3]), ([], []), ([], []), ([5, 6], [5, 6]), ([7], [7]), ([0, 4, 8], [0, 4, 8]), ([9], [9]), ([10], [10])])
def slices_symMergeCmpFunc_int.B17 : List Nat := [0, 0, 0, 6, 14, 0, 0, 96, 224, 511, 1023, 2047]
theorem slices_symMergeCmpFunc_int.tab17 : rtab .any (opsOf Try.f60 17) = slices_symMergeCmpFunc_int.T17 := by kernel_rfl
theorem slices_symMergeCmpFunc_int.bits17 : waitsOk slices_symMergeCmpFunc_int.T17.2 slices_symMergeCmpFunc_int.B17 = true := by kernel_rfl
def slices_symMergeCmpFunc_int.T23 : Bool × List (List Nat × List Nat) := (true, [([], []), ([], []), ([], []), ([], []), ([3], [3]), ([], []), ([], []), ([6], [6]), ([5, 7], [5, 7]), ([8], [8]), ([], []), ([], []), ([10, 11], [10, 11]), ([12], [12]), ([0, 1, 0, 1, 5, 6, 7, 8, 9, 13], [0, 1]), ([14, 9, 0, 1, 5, 6, 7, 8, 9, 13], [9, 14]), ([2, 4, 0, 1, 2, 3, 4, 5, 6, 7, 8, 9, 10, 11, 12, 13, 14, 15], [2, 4]), ([16, 13, 15, 0, 1, 2, 3, 4, 5, 6, 7, 8, 9, 10, 11, 12, 13, 14, 15], [13, 16])])
def slices_symMergeCmpFunc_int.B23 : List Nat := [0, 0, 0, 0, 8, 0, 0, 64, 224, 480, 0, 0, 3072, 7168, 16355, 32739, 65535, 131071]
theorem slices_symMergeCmpFunc_int.tab23 : rtab .any (opsOf Try.f60 23) = slices_symMergeCmpFunc_int.T23 := by kernel_rfl
theorem slices_symMergeCmpFunc_int.bits23 : waitsOk slices_symMergeCmpFunc_int.T23.2 slices_symMergeCmpFunc_int.B23 = true := by kernel_rfl
def slices_symMergeCmpFunc_int.T35 : Bool × List (List Nat × List Nat) := (true, [([], []), ([], []), ([], []), ([], []), ([2, 3], [2, 3]), ([1, 4], [1, 4]), ([5], [5]), ([], []), ([], []), ([7, 8], [7, 8]), ([9], [9]), ([0, 6, 10], [0, 6, 10]), ([11], [11]), ([12], [12])])
def slices_symMergeCmpFunc_int.B35 : List Nat := [0, 0, 0, 0, 12, 30, 62, 0, 0, 384, 896, 2047, 4095, 8191]
theorem slices_symMergeCmpFunc_int.tab35 : rtab .any (opsOf Try.f60 35) = slices_symMergeCmpFunc_int.T35 := by kernel_rfl
theorem slices_symMergeCmpFunc_int.bits35 : waitsOk slices_symMergeCmpFunc_int.T35.2 slices_symMergeCmpFunc_int.B35 = true := by kernel_rfl
set_option maxHeartbeats 8000000 in
set_option maxRecDepth 100000 in
theorem slices_symMergeCmpFunc_int.calls (k : Nat) : ∀ (P0_ : Nat → Prop) (u9000_ : Value) (l0 : List Int) (a1 : Int) (a2 : Int) (a3 : Int) (a4 : (Int → Int → Option Int)) (ga4_ : Nat) (r : List Int) (w0 w : World) (hB : Below w0.heap.size w0 w) (ho0 : Kd.R (Kd.int .i64) 3 w w0.heap.size P0_ u9000_ l0) (hq4 : ∀ W_, Kept w W_ (fun k_ => P0_ k_) → FnOk a4 ga4_ W_) (h : slices_symMergeCmpFunc_int.f k l0 a1 a2 a3 a4 = some r),
  Calls Try.prog 60 #[u9000_, .int .i64 a1, .int .i64 a2, .int .i64 a3, .func (.func 25) #[] #[.pointer (some ⟨ga4_, 0, none⟩)]] w fun e w' => e = .returned (.tuple #[]) ∧ Kd.R (Kd.int .i64) 3 w' w0.heap.size (fun k_ => (P0_ k_ ∨ w.heap.size ≤ k_)) u9000_ r ∧ Below w0.heap.size w0 w' ∧ Kept w w' (fun k_ => P0_ k_) := by
 induction k using Nat.strongRecOn with
 | _ k ih =>
 intro P0_ u9000_ l0 a1 a2 a3 a4 ga4_ r w0 w hB ho0 hq4 h
 cases k with
 | zero => exact absurd h (by simp [slices_symMergeCmpFunc_int.f])
 | succ k =>
 simp only [slices_symMergeCmpFunc_int.f] at h
 have HO0 := aa_ (show Kd.R (Kd.int .i64) 3 w w0.heap.size (fun k_ => (P0_ k_ ∨ w.heap.size ≤ k_)) u9000_ l0 from Kd.R_mono ho0 (fun k_ hk => (.inl hk)))
 have HK := aa_ (Kept.refl w (fun k_ => P0_ k_))
 have HFN4 := aa_ hq4
 clear hq4
 have eg : ∀ args w, (callFunc 25 args).run Try.prog w = .ok (.enter 25 args) w := fun args w => enters_ Try.func25 (by kernel_rfl) rfl args w
 have HW0 := aa_ hB.size
 have HB := aa_ hB
 clear hB
 have H : (if (wrap64 (a2 - a1)) = 1 then (slices_symMergeCmpFunc_int.l0 k l0 a1 a4 a2 a3) else (if (wrap64 (a3 - a2)) = 1 then (slices_symMergeCmpFunc_int.l2 k l0 a2 a4 a1 a2) else (if a2 > (wrap64 ((IntKind.u64.wrap (wrap64 (a1 + a3))) / 2)) then (slices_symMergeCmpFunc_int.j4 k l0 a1 a2 a3 a4 (wrap64 ((IntKind.u64.wrap (wrap64 (a1 + a3))) / 2)) (wrap64 ((wrap64 ((IntKind.u64.wrap (wrap64 (a1 + a3))) / 2)) + a2)) (wrap64 ((wrap64 ((wrap64 ((IntKind.u64.wrap (wrap64 (a1 + a3))) / 2)) + a2)) - a3)) (wrap64 ((IntKind.u64.wrap (wrap64 (a1 + a3))) / 2))) else (slices_symMergeCmpFunc_int.j4 k l0 a1 a2 a3 a4 (wrap64 ((IntKind.u64.wrap (wrap64 (a1 + a3))) / 2)) (wrap64 ((wrap64 ((IntKind.u64.wrap (wrap64 (a1 + a3))) / 2)) + a2)) a1 a2)))) = some r := h
 clear h
 by_cases c6 : (wrap64 (a2 - a1)) = 1
 ·rw [if_pos c6] at H
  have c6b0 : ((wrap64 (a2 - a1)) == 1) = true := beq_iff_eq.mpr c6
  have c6b1 : ((wrap64 (a2 - a1)) != 1) = false := bne_eq_false_iff_eq.mpr c6
  clear c6
  have H' := aa_ H
  clear H
  go_enter Try.func60, Try.ntmps60
  go_wp2
  go_loopg [10, 11] k (fun kq v10 v11 w' => ∃ (x10_1 : Int) (x11_1 : Int), v10 = .int .i64 x10_1 ∧ v11 = .int .i64 x11_1 ∧ Aside0 (slices_symMergeCmpFunc_int.l0 kq l0 a1 a4 x10_1 x11_1 = some r) ∧ Aside0 (kq ≤ k) ∧ Aside0 (Kd.R (Kd.int .i64) 3 w' w0.heap.size (fun k_ => (P0_ k_ ∨ w.heap.size ≤ k_)) u9000_ l0) ∧ Aside0 (Kept w w' (fun k_ => P0_ k_)) ∧ Aside0 (Below w0.heap.size w0 w'))
  case atStart => exact ⟨(a2), (a3), rf_, rf_, H', ⟨Nat.le_refl _⟩, ⟨rr_ HO0⟩, ⟨by repeat (first | (with_reducible first | exact HK.out | apply Kept.alloc | apply Kept.drewN | apply Kept.drew) | exact HK.out)⟩, ⟨bl_⟩⟩
  case round =>
   clear H'
   try clear p2
   try clear q4
   try clear c6b0
   try clear c6b1
   try clear p6
   obtain ⟨x10_1, x11_1, rfl, rfl, HA, HK1, HO_0, HK, HB⟩ := hrel
   cases gk with
   | zero => exact absurd HA.out (by simp [slices_symMergeCmpFunc_int.l0])
   | succ k1 =>
    have H := HA.out
    clear HA
    simp only [slices_symMergeCmpFunc_int.l0] at H
    by_cases c7 : x10_1 < x11_1
    ·rw [if_pos c7] at H
     have c7b0 : decide (x10_1 < x11_1) = true := decide_eq_true c7
     clear c7
     obtain ⟨ji8, hji8⟩ : ∃ j_ : Int, (wrap64 ((IntKind.u64.wrap (wrap64 (x10_1 + x11_1))) / 2)) = j_ := ⟨_, rfl⟩
     replace H : (if 0 ≤ (ji8) then (if (ji8) < (l0.length : Int) then (if 0 ≤ a1 then (if a1 < (l0.length : Int) then ((a4 (rd l0 (ji8)) (rd l0 a1)).bind fun t423 => (if t423 < 0 then (slices_symMergeCmpFunc_int.l0 k1 l0 a1 a4 (wrap64 ((ji8) + 1)) x11_1) else (slices_symMergeCmpFunc_int.l0 k1 l0 a1 a4 x10_1 ji8))) else (none)) else (none)) else (none)) else (none)) = some r := by first | (rw [hji8] at H; exact H) | (simp only [hji8] at H ⊢; exact H)
     have hji8w : (IntKind.i64.wrap ((IntKind.u64.wrap (wrap64 (x10_1 + x11_1))) / 2)) = ji8 := (i64_w _).trans hji8
     obtain ⟨c9b0, H⟩ := ifd_ H
     obtain ⟨c10b0, H⟩ := ifd_ H
     obtain ⟨c11b0, H⟩ := ifd_ H
     obtain ⟨c12b0, H⟩ := ifd_ H
     obtain ⟨t423, A13, H⟩ := bindE_ H
     have HC14 := aa_ H
     clear H
     try go_wp2
     replace HO_0 := aa_ (Kd.R_drew HO_0.out)
     replace HK := aa_ (Kept.drew HK.out)
     replace HB := aa_ (below_drew1 HB.out)
     obtain ⟨Ao16, co16, eo16⟩ := Kd.R_slice HO_0.out
     (first | subst eo16 | (injection eo16 with f1_ f2_ f3_; have f4_ := f1_.symm; have f5_ := f3_.symm; clear f1_ f2_ f3_; subst f4_; subst f5_))
     have p421 : 0 ≤ ((ji8) : Int) := od_
     have q421 : (ji8) < (l0.length : Int) := od_
     obtain ⟨ad421, e421, hx421_0⟩ := Kd.at_int (Kd.R_reads' HO_0.out).2.2 (ji8) p421 q421
     cases e421
     replace p421 := eq_true p421
     replace q421 := eq_true q421
     have p422 : 0 ≤ (a1 : Int) := od_
     have q422 : a1 < (l0.length : Int) := od_
     obtain ⟨ad422, e422, hx422_0⟩ := Kd.at_int (Kd.R_reads' HO_0.out).2.2 a1 p422 q422
     obtain rfl : ad421 = ad422 := (by injection e422)
     replace p422 := eq_true p422
     replace q422 := eq_true q422
     refine start_ (n := 11) (S := fun w' => w'.cell? (ad421.add ((ji8)).toNat) = some (.int .i64 (rd l0 (ji8))) ∧ w'.cell? (ad421.add (a1).toNat) = some (.int .i64 (rd l0 a1))) (ds := []) (ba_ 11 0) (by kernel_rfl) rfl rfl ⟨hx421_0, hx422_0⟩ (fun hHeld => ?_); refine with_tabW slices_symMergeCmpFunc_int.tab5 slices_symMergeCmpFunc_int.bits5 (fun HT_ HW_ => ?_)
     generalize wr.drew = w15 at HO_0 HK HB hx421_0 hx422_0 hHeld ⊢
     refine pz_ 0 40 (ba_ 11 1) (ao_ HT_) ?_
     refine pz_ 1 41 (ba_ 11 3) (ao_ HT_) ?_
     refine pz_ 2 42 (ba_ 11 7) (ao_ HT_) ?_
     refine pz_ 3 43 (ba_ 11 15) (ao_ HT_) ?_
     refine pz_ 5 45 (ba_ 11 47) (ao_ HT_) ?_
     refine pz_ 6 46 (ba_ 11 111) (ao_ HT_) ?_
     refine pz_ 7 47 (ba_ 11 239) (ao_ HT_) ?_
     refine tz_ 4 44 (ba_ 11 255) (take_ofW HT_.out HW_.out (by kernel_rfl)) hHeld ?_
     refine tz_ 8 48 (ba_ 11 511) (take_ofW HT_.out HW_.out (by kernel_rfl)) hHeld ?_
     refine one_ (i := 9) (N := some 49) (ba_ 11 1023) rfl rfl (one_of HT_.out (by kernel_rfl)) (by decide) (fun K hK => ?_)
     refine goesv_ Try.func25 (by kernel_rfl) rfl #[.int .i64 (rd l0 (ji8)), .int .i64 (rd l0 a1)] (.pointer (some ⟨ga4_, 0, none⟩)) (by rfl) rfl rfl (by rfl) (by (try simp only [List.map_toArray, List.map_cons, List.map_nil]); first | done | (simp only [hji8]; rfl) | rfl) ?_
     refine (HFN4.out _ (by repeat (first | (with_reducible first | exact HK.out | apply Kept.alloc | apply Kept.drewN | apply Kept.drew) | exact HK.out)) _ _ _ A13.out).mono ?_
     rintro e w' ⟨rfl, ⟨nd, rfl⟩⟩
     refine ⟨_, rfl, ?_⟩
     refine hK.out _ _ ⟨hHeld.1, hHeld.2⟩ (fun hHeld => ?_)
     clear hK K
     refine norm_ (a' := ?_) ?_ ?_
     rotate_left
     ·show Act.put _ (some 49) _ = _
      simp only [Act.put, sb_, sz_, ss_, i64_w, i32_w]
      rfl
     refine pz_ 10 50 (ba_ 11 2047) (ao_ HT_) ?_
     refine done_ (done_of HT_.out (by kernel_rfl)) ?_
     go_upto_if 50 with (fail)
     (try (rw [drewN_self w15]; generalize hq_ : World.drewN w15 _ = w15; have n0_ : Aside0 (Kd.R (Kd.int .i64) 3 w15 w0.heap.size (fun k_ => (P0_ k_ ∨ w.heap.size ≤ k_)) (.slice (some ad421) l0.length co16) l0) := ⟨by rw [← hq_]; exact (rr_ HO_0)⟩; have n1_ : Aside0 (Kept w w15 (fun k_ => P0_ k_)) := ⟨by rw [← hq_]; exact (by repeat (first | (with_reducible first | exact HK.out | apply Kept.alloc | apply Kept.drewN | apply Kept.drew) | exact HK.out))⟩; have n2_ : Aside0 (Below w0.heap.size w0 w15) := ⟨by rw [← hq_]; exact bl_⟩; clear HO_0 HK HB hq_; have HO_0 := n0_; have HK := n1_; have HB := n2_; clear n0_ n1_ n2_))
     have H := HC14.out
     clear HC14
     by_cases c17 : t423 < 0
     ·rw [if_pos c17] at H
      have c17b0 : decide (t423 < 0) = true := decide_eq_true c17
      clear c17
      (first | rw [c17b0] | (simp only [i64_w, i32_w]; rw [c17b0]) | skip)
      as_aux_lemma =>
       have H' := aa_ H
       clear H
       go_wp2
       go_roundg k1
       case measure => have := HK1.out; omega
       case rel => exact ⟨(wrap64 ((ji8) + 1)), (x11_1), (by first | rfl | (simp; done) | (simp only [← hji8] <;> (first | rfl | simp)) | (simp [*]; done)), rf_, H', ⟨by have := HK1.out; omega⟩, ⟨rr_ HO_0⟩, ⟨by repeat (first | (with_reducible first | exact HK.out | apply Kept.alloc | apply Kept.drewN | apply Kept.drew) | exact HK.out)⟩, ⟨bl_⟩⟩
     ·rw [if_neg c17] at H
      have c17b0 : decide (t423 < 0) = false := decide_eq_false c17
      clear c17
      (first | rw [c17b0] | (simp only [i64_w, i32_w]; rw [c17b0]) | skip)
      as_aux_lemma =>
       have H' := aa_ H
       clear H
       go_wp2
       go_roundg k1
       case measure => have := HK1.out; omega
       case rel => exact ⟨(x10_1), (ji8), rf_, (by first | rfl | (simp; done) | (simp only [← hji8] <;> (first | rfl | simp)) | (simp [*]; done)), H', ⟨by have := HK1.out; omega⟩, ⟨rr_ HO_0⟩, ⟨by repeat (first | (with_reducible first | exact HK.out | apply Kept.alloc | apply Kept.drewN | apply Kept.drew) | exact HK.out)⟩, ⟨bl_⟩⟩
    ·rw [if_neg c7] at H
     have c7b0 : decide (x10_1 < x11_1) = false := decide_eq_false c7
     clear c7
     have H' := aa_ H
     clear H
     go_wp2
     go_loopg [13] k1 (fun kq v13 w' => ∃ (x0_2 : List Int) (x13_2 : Int), v13 = .int .i64 x13_2 ∧ Aside0 (slices_symMergeCmpFunc_int.l1 kq x0_2 x10_1 x13_2 = some r) ∧ Aside0 (kq ≤ k1) ∧ Aside0 (Kd.R (Kd.int .i64) 3 w' w0.heap.size (fun k_ => (P0_ k_ ∨ w.heap.size ≤ k_)) u9000_ x0_2) ∧ Aside0 (Kept w w' (fun k_ => P0_ k_)) ∧ Aside0 (Below w0.heap.size w0 w'))
     case atStart => exact ⟨(l0), (a1), rf_, H', ⟨Nat.le_refl _⟩, ⟨rr_ HO_0⟩, ⟨by repeat (first | (with_reducible first | exact HK.out | apply Kept.alloc | apply Kept.drewN | apply Kept.drew) | exact HK.out)⟩, ⟨bl_⟩⟩
     case round =>
      clear H'
      try clear p2
      try clear p4
      try clear q4
      try clear hx4
      try clear c6b0
      try clear c6b1
      try clear p6
      try clear c7b0
      try clear c9b0
      try clear c10b0
      try clear c11b0
      try clear c12b0
      try clear c17b0
      try clear hx421_0
      try clear hx422_0
      try clear p2
      try clear p421
      try clear p422
      try clear p6
      try clear q4
      try clear q421
      try clear q422
      obtain ⟨x0_2, x13_2, rfl, HA, HK2, HO_0, HK, HB⟩ := hrel
      cases gk with
      | zero => exact absurd HA.out (by simp [slices_symMergeCmpFunc_int.l1])
      | succ k2 =>
       have H := HA.out
       clear HA
       simp only [slices_symMergeCmpFunc_int.l1] at H
       by_cases c18 : x13_2 < (wrap64 (x10_1 - 1))
       ·rw [if_pos c18] at H
        have c18b0 : decide (x13_2 < (wrap64 (x10_1 - 1))) = true := decide_eq_true c18
        clear c18
        obtain ⟨ji19, hji19⟩ : ∃ j_ : Int, (wrap64 (x13_2 + 1)) = j_ := ⟨_, rfl⟩
        replace H : (if 0 ≤ (ji19) then (if (ji19) < (x0_2.length : Int) then (if 0 ≤ x13_2 then (if x13_2 < (x0_2.length : Int) then (slices_symMergeCmpFunc_int.l1 k2 ((x0_2.set (x13_2 : Int).toNat (rd x0_2 (ji19))).set ((ji19) : Int).toNat (rd x0_2 x13_2)) x10_1 ji19) else (none)) else (none)) else (none)) else (none)) = some r := by first | (rw [hji19] at H; exact H) | (simp only [hji19] at H ⊢; exact H)
        have hji19w : (IntKind.i64.wrap (x13_2 + 1)) = ji19 := (i64_w _).trans hji19
        obtain ⟨c20b0, H⟩ := ifd_ H
        obtain ⟨c21b0, H⟩ := ifd_ H
        obtain ⟨c22b0, H⟩ := ifd_ H
        obtain ⟨c23b0, H⟩ := ifd_ H
        obtain ⟨y426, hy426⟩ : ∃ y_ : List Int, y_ = (x0_2.set (x13_2 : Int).toNat (rd x0_2 (ji19))) := ⟨_, rfl⟩
        replace H : (slices_symMergeCmpFunc_int.l1 k2 (y426.set ((ji19) : Int).toNat (rd x0_2 x13_2)) x10_1 ji19) = some r := rh_ hy426 H
        have Ny426 := aa_ hy426
        clear hy426
        obtain ⟨y427, hy427⟩ : ∃ y_ : List Int, y_ = (y426.set ((ji19) : Int).toNat (rd x0_2 x13_2)) := ⟨_, rfl⟩
        replace H : (slices_symMergeCmpFunc_int.l1 k2 y427 x10_1 ji19) = some r := rh_ hy427 H
        have Ny427 := aa_ hy427
        clear hy427
        as_aux_lemma =>
         have H' := aa_ H
         clear H
         try go_wp2
         replace HO_0 := aa_ (Kd.R_drew HO_0.out)
         replace HK := aa_ (Kept.drew HK.out)
         replace HB := aa_ (below_drew1 HB.out)
         obtain ⟨Ao27, co27, eo27⟩ := Kd.R_slice HO_0.out
         (first | subst eo27 | (injection eo27 with f1_ f2_ f3_; have f4_ := f1_.symm; have f5_ := f3_.symm; clear f1_ f2_ f3_; subst f4_; subst f5_))
         have p424 : 0 ≤ ((ji19) : Int) := od_
         have q424 : (ji19) < (x0_2.length : Int) := od_
         obtain ⟨ad424, e424, hx424_0⟩ := Kd.at_int (Kd.R_reads' HO_0.out).2.2 (ji19) p424 q424
         cases e424
         replace p424 := eq_true p424
         replace q424 := eq_true q424
         have p425 : 0 ≤ (x13_2 : Int) := od_
         have q425 : x13_2 < (x0_2.length : Int) := od_
         obtain ⟨ad425, e425, hx425_0⟩ := Kd.at_int (Kd.R_reads' HO_0.out).2.2 x13_2 p425 q425
         obtain rfl : ad424 = ad425 := (by injection e425)
         replace p425 := eq_true p425
         replace q425 := eq_true q425
         have p24 : 0 ≤ (x13_2 : Int) := od_
         have q24 : (x13_2 : Int) < ((x0_2.length : Int) : Int) := od_
         obtain ⟨go24, co24, eo24, gb24, gl24, cl24, HG24⟩ := Kd.R_form HO_0.out (by omega)
         (first | cases eo24 | (injection eo24 with ea_ en_ ec_; (first | subst ea_ | (injection ea_ with ea_; subst ea_)); subst ec_; clear en_))
         have GB24 := aa_ gb24
         have GG24 := aa_ HG24
         clear gb24 gl24 HG24
         have HMgo24 := aa_ (show (P0_ go24 ∨ w.heap.size ≤ go24) from (HO_0.out.1 _ rfl))
         (first | simp only [add_plain] at hx424_0 | skip)
         (first | simp only [add_plain] at hx425_0 | skip)
         obtain ⟨hx24_0, hf24_0⟩ := Kd.R_celln 0 HO_0.out (x13_2 : Int) p24 q24
         replace p24 := eq_true p24
         replace q24 := eq_true q24
         have HP28 := Kd.R_putn HO_0.out (x13_2 : Int) (rd x0_2 (ji19))
         rw [← Ny426.out] at HP28
         have HQ28 := aa_ HP28
         clear HP28
         have p25 : 0 ≤ ((ji19) : Int) := od_
         have q25 : ((ji19) : Int) < ((x0_2.length : Int) : Int) := od_
         obtain ⟨hx25_0, hf25_0⟩ := Kd.R_celln 0 HQ28.out ((ji19) : Int) p25 q25
         replace p25 := eq_true p25
         replace q25 := eq_true q25
         have HP29 := Kd.R_putn HQ28.out ((ji19) : Int) (rd x0_2 x13_2)
         rw [← Ny427.out] at HP29
         have HQ29 := aa_ HP29
         clear HP29
         refine start_ (n := 18) (S := fun w' => w'.cell? ⟨go24, ((ji19)).toNat, none⟩ = some (.int .i64 (rd x0_2 (ji19))) ∧ w'.cell? ⟨go24, (x13_2).toNat, none⟩ = some (.int .i64 (rd x0_2 x13_2))) (ds := [15, 17]) (ba_ 18 0) (by kernel_rfl) rfl rfl ⟨hx424_0, hx425_0⟩ (fun hHeld => ?_); refine with_tabW slices_symMergeCmpFunc_int.tab11 slices_symMergeCmpFunc_int.bits11 (fun HT_ HW_ => ?_)
         generalize wr.drew = w26 at HO_0 HK HB GG24 HQ28 HQ29 hf24_0 hf25_0 hx24_0 hx25_0 hx424_0 hx425_0 hHeld ⊢
         refine pz_ 0 61 (ba_ 18 1) (ao_ HT_) ?_
         refine pz_ 1 62 (ba_ 18 3) (ao_ HT_) ?_
         refine pz_ 2 63 (ba_ 18 7) (ao_ HT_) ?_
         refine pz_ 3 64 (ba_ 18 15) (ao_ HT_) ?_
         refine pz_ 4 65 (ba_ 18 31) (ao_ HT_) ?_
         refine pz_ 5 66 (ba_ 18 63) (ao_ HT_) ?_
         refine pz_ 6 67 (ba_ 18 127) (ao_ HT_) ?_
         refine pz_ 7 68 (ba_ 18 255) (ao_ HT_) ?_
         refine pz_ 8 69 (ba_ 18 511) (ao_ HT_) ?_
         refine pz_ 10 71 (ba_ 18 1535) (ao_ HT_) ?_
         refine pz_ 11 72 (ba_ 18 3583) (ao_ HT_) ?_
         refine pz_ 12 73 (ba_ 18 7679) (ao_ HT_) ?_
         refine tz_ 9 70 (ba_ 18 8191) (take_ofW HT_.out HW_.out (by kernel_rfl)) hHeld ?_
         refine tz_ 13 74 (ba_ 18 16383) (take_ofW HT_.out HW_.out (by kernel_rfl)) hHeld ?_
         refine pz_ 14 75 (ba_ 18 32767) (ao_ HT_) ?_
         refine last_ (i := 15) (N := none) (ba_ 18 65535) rfl rfl (one_of HT_.out (by kernel_rfl)) (by decide) (fun K hK => ?_)
         refine skip_ (w1 := ?_) (by rfl) rfl ?_ ?_
         rotate_left
         ·go_simp
          rfl
         refine hK.out _ _ ?_
         clear hK K
         refine pz_ 16 76 (ba_ 18 131071) (ao_ HT_) ?_
         refine last_ (i := 17) (N := none) (ba_ 18 262143) rfl rfl (one_of HT_.out (by kernel_rfl)) (by decide) (fun K hK => ?_)
         refine skip_ (w1 := ?_) (by rfl) rfl ?_ ?_
         rotate_left
         ·go_simp
          rfl
         refine hK.out _ _ ?_
         clear hK K
         refine done_ (done_of HT_.out (by kernel_rfl)) ?_
         try go_wp2
         go_roundg k2
         case measure => have := HK1.out; have := HK2.out; omega
         case rel => exact ⟨(y427), (ji19), (by first | rfl | (simp; done) | (simp only [← hji19] <;> (first | rfl | simp)) | (simp [*]; done)), H', ⟨by have := HK1.out; have := HK2.out; omega⟩, ⟨rr_ HQ29⟩, ⟨by repeat (first | (with_reducible first | exact HK.out | apply Kept.alloc | apply Kept.drewN | apply Kept.drew | refine Kept.setCell ?_ HMgo24.out _ | refine Kept.setCell ?_ HMgo24.out _) | exact HK.out)⟩, ⟨by repeat (first | (with_reducible first | exact HB.out | apply below_alloc | apply pw_below_drewN | apply below_drew1 | refine below_set ?_ GB24.out | refine below_set ?_ GB24.out) | exact HB.out)⟩⟩
       ·rw [if_neg c18] at H
        have c18b0 : decide (x13_2 < (wrap64 (x10_1 - 1))) = false := decide_eq_false c18
        clear c18
        as_aux_lemma =>
         obtain rfl := Option.some.inj H
         go_wp2
         first | go_end0 | ((try simp only [Exit.inBlock, Exit.then]); refine bodyPost_ret (results_none rfl _ _ _) rfl ?_)
         exact ⟨eq_, by (with_reducible repeat (first | apply Kd.R_alloc | apply Kd.R_drewN | apply Kd.R_drew)); exact HO_0.out, bl_, by repeat (first | (with_reducible first | exact HK.out | apply Kept.alloc | apply Kept.drewN | apply Kept.drew) | exact HK.out)⟩
 ·rw [if_neg c6] at H
  have c6b0 : ((wrap64 (a2 - a1)) == 1) = false := beq_eq_false_iff_ne.mpr c6
  have c6b1 : ((wrap64 (a2 - a1)) != 1) = true := bne_iff_ne.mpr c6
  by_cases c30 : (wrap64 (a3 - a2)) = 1
  ·rw [if_pos c30] at H
   have c30b0 : ((wrap64 (a3 - a2)) == 1) = true := beq_iff_eq.mpr c30
   have c30b1 : ((wrap64 (a3 - a2)) != 1) = false := bne_eq_false_iff_eq.mpr c30
   clear c30
   have H' := aa_ H
   clear H
   go_enter Try.func60, Try.ntmps60
   go_wp2
   go_loopg [14, 15] k (fun kq v14 v15 w' => ∃ (x14_1 : Int) (x15_1 : Int), v14 = .int .i64 x14_1 ∧ v15 = .int .i64 x15_1 ∧ Aside0 (slices_symMergeCmpFunc_int.l2 kq l0 a2 a4 x14_1 x15_1 = some r) ∧ Aside0 (kq ≤ k) ∧ Aside0 (Kd.R (Kd.int .i64) 3 w' w0.heap.size (fun k_ => (P0_ k_ ∨ w.heap.size ≤ k_)) u9000_ l0) ∧ Aside0 (Kept w w' (fun k_ => P0_ k_)) ∧ Aside0 (Below w0.heap.size w0 w'))
   case atStart => exact ⟨(a1), (a2), rf_, rf_, H', ⟨Nat.le_refl _⟩, ⟨rr_ HO0⟩, ⟨by repeat (first | (with_reducible first | exact HK.out | apply Kept.alloc | apply Kept.drewN | apply Kept.drew) | exact HK.out)⟩, ⟨bl_⟩⟩
   case round =>
    clear H'
    try clear p2
    try clear q2
    try clear hx2
    try clear p4
    try clear q4
    try clear hx4
    try clear c6b0
    try clear c6b1
    try clear p6
    try clear c7b0
    try clear c9b0
    try clear c10b0
    try clear c11b0
    try clear c12b0
    try clear c17b0
    try clear c18b0
    try clear c20b0
    try clear c21b0
    try clear c22b0
    try clear c23b0
    try clear p24
    try clear q24
    try clear hx24
    try clear hf24
    try clear p25
    try clear q25
    try clear hx25
    try clear hf25
    try clear c30b0
    try clear c30b1
    try clear hx24_0
    try clear hx25_0
    try clear hx421_0
    try clear hx422_0
    try clear hx424_0
    try clear hx425_0
    try clear p2
    try clear p24
    try clear p25
    try clear p4
    try clear p421
    try clear p422
    try clear p424
    try clear p425
    try clear p6
    try clear q24
    try clear q25
    try clear q4
    try clear q421
    try clear q422
    try clear q424
    try clear q425
    obtain ⟨x14_1, x15_1, rfl, rfl, HA, HK1, HO_0, HK, HB⟩ := hrel
    cases gk with
    | zero => exact absurd HA.out (by simp [slices_symMergeCmpFunc_int.l2])
    | succ k1 =>
     have H := HA.out
     clear HA
     simp only [slices_symMergeCmpFunc_int.l2] at H
     by_cases c31 : x14_1 < x15_1
     ·rw [if_pos c31] at H
      have c31b0 : decide (x14_1 < x15_1) = true := decide_eq_true c31
      clear c31
      obtain ⟨c32b0, H⟩ := ifd_ H
      obtain ⟨c33b0, H⟩ := ifd_ H
      obtain ⟨ji34, hji34⟩ : ∃ j_ : Int, (wrap64 ((IntKind.u64.wrap (wrap64 (x14_1 + x15_1))) / 2)) = j_ := ⟨_, rfl⟩
      replace H : (if 0 ≤ (ji34) then (if (ji34) < (l0.length : Int) then ((a4 (rd l0 a2) (rd l0 (ji34))).bind fun t430 => (if t430 < 0 then (slices_symMergeCmpFunc_int.l2 k1 l0 a2 a4 x14_1 ji34) else (slices_symMergeCmpFunc_int.l2 k1 l0 a2 a4 (wrap64 ((ji34) + 1)) x15_1))) else (none)) else (none)) = some r := by first | (rw [hji34] at H; exact H) | (simp only [hji34] at H ⊢; exact H)
      have hji34w : (IntKind.i64.wrap ((IntKind.u64.wrap (wrap64 (x14_1 + x15_1))) / 2)) = ji34 := (i64_w _).trans hji34
      obtain ⟨c35b0, H⟩ := ifd_ H
      obtain ⟨c36b0, H⟩ := ifd_ H
      obtain ⟨t430, A37, H⟩ := bindE_ H
      have HC38 := aa_ H
      clear H
      try go_wp2
      replace HO_0 := aa_ (Kd.R_drew HO_0.out)
      replace HK := aa_ (Kept.drew HK.out)
      replace HB := aa_ (below_drew1 HB.out)
      obtain ⟨Ao40, co40, eo40⟩ := Kd.R_slice HO_0.out
      (first | subst eo40 | (injection eo40 with f1_ f2_ f3_; have f4_ := f1_.symm; have f5_ := f3_.symm; clear f1_ f2_ f3_; subst f4_; subst f5_))
      have p428 : 0 ≤ (a2 : Int) := od_
      have q428 : a2 < (l0.length : Int) := od_
      obtain ⟨ad428, e428, hx428_0⟩ := Kd.at_int (Kd.R_reads' HO_0.out).2.2 a2 p428 q428
      cases e428
      replace p428 := eq_true p428
      replace q428 := eq_true q428
      have p429 : 0 ≤ ((ji34) : Int) := od_
      have q429 : (ji34) < (l0.length : Int) := od_
      obtain ⟨ad429, e429, hx429_0⟩ := Kd.at_int (Kd.R_reads' HO_0.out).2.2 (ji34) p429 q429
      obtain rfl : ad428 = ad429 := (by injection e429)
      replace p429 := eq_true p429
      replace q429 := eq_true q429
      refine start_ (n := 12) (S := fun w' => w'.cell? (ad428.add (a2).toNat) = some (.int .i64 (rd l0 a2)) ∧ w'.cell? (ad428.add ((ji34)).toNat) = some (.int .i64 (rd l0 (ji34)))) (ds := []) (ba_ 12 0) (by kernel_rfl) rfl rfl ⟨hx428_0, hx429_0⟩ (fun hHeld => ?_); refine with_tabW slices_symMergeCmpFunc_int.tab17 slices_symMergeCmpFunc_int.bits17 (fun HT_ HW_ => ?_)
      generalize wr.drew = w39 at HO_0 HK HB hx428_0 hx429_0 hHeld ⊢
      refine pz_ 0 92 (ba_ 12 1) (ao_ HT_) ?_
      refine pz_ 1 93 (ba_ 12 3) (ao_ HT_) ?_
      refine pz_ 2 94 (ba_ 12 7) (ao_ HT_) ?_
      refine pz_ 3 95 (ba_ 12 15) (ao_ HT_) ?_
      refine pz_ 5 97 (ba_ 12 47) (ao_ HT_) ?_
      refine pz_ 6 98 (ba_ 12 111) (ao_ HT_) ?_
      refine pz_ 7 99 (ba_ 12 239) (ao_ HT_) ?_
      refine tz_ 4 96 (ba_ 12 255) (take_ofW HT_.out HW_.out (by kernel_rfl)) hHeld ?_
      refine tz_ 8 100 (ba_ 12 511) (take_ofW HT_.out HW_.out (by kernel_rfl)) hHeld ?_
      refine one_ (i := 9) (N := some 101) (ba_ 12 1023) rfl rfl (one_of HT_.out (by kernel_rfl)) (by decide) (fun K hK => ?_)
      refine goesv_ Try.func25 (by kernel_rfl) rfl #[.int .i64 (rd l0 a2), .int .i64 (rd l0 (ji34))] (.pointer (some ⟨ga4_, 0, none⟩)) (by rfl) rfl rfl (by rfl) (by (try simp only [List.map_toArray, List.map_cons, List.map_nil]); first | done | (simp only [hji34]; rfl) | rfl) ?_
      refine (HFN4.out _ (by repeat (first | (with_reducible first | exact HK.out | apply Kept.alloc | apply Kept.drewN | apply Kept.drew) | exact HK.out)) _ _ _ A37.out).mono ?_
      rintro e w' ⟨rfl, ⟨nd, rfl⟩⟩
      refine ⟨_, rfl, ?_⟩
      refine hK.out _ _ ⟨hHeld.1, hHeld.2⟩ (fun hHeld => ?_)
      clear hK K
      refine norm_ (a' := ?_) ?_ ?_
      rotate_left
      ·show Act.put _ (some 101) _ = _
       simp only [Act.put, sb_, sz_, ss_, i64_w, i32_w]
       rfl
      refine pz_ 10 102 (ba_ 12 2047) (ao_ HT_) ?_
      refine pz_ 11 103 (ba_ 12 4095) (ao_ HT_) ?_
      refine done_ (done_of HT_.out (by kernel_rfl)) ?_
      go_upto_if 103 with (fail)
      (try (rw [drewN_self w39]; generalize hq_ : World.drewN w39 _ = w39; have n0_ : Aside0 (Kd.R (Kd.int .i64) 3 w39 w0.heap.size (fun k_ => (P0_ k_ ∨ w.heap.size ≤ k_)) (.slice (some ad428) l0.length co40) l0) := ⟨by rw [← hq_]; exact (rr_ HO_0)⟩; have n1_ : Aside0 (Kept w w39 (fun k_ => P0_ k_)) := ⟨by rw [← hq_]; exact (by repeat (first | (with_reducible first | exact HK.out | apply Kept.alloc | apply Kept.drewN | apply Kept.drew) | exact HK.out))⟩; have n2_ : Aside0 (Below w0.heap.size w0 w39) := ⟨by rw [← hq_]; exact bl_⟩; clear HO_0 HK HB hq_; have HO_0 := n0_; have HK := n1_; have HB := n2_; clear n0_ n1_ n2_))
      have H := HC38.out
      clear HC38
      by_cases c41 : t430 < 0
      ·rw [if_pos c41] at H
       have c41b0 : decide (t430 < 0) = true := decide_eq_true c41
       clear c41
       (first | rw [c41b0] | (simp only [i64_w, i32_w]; rw [c41b0]) | skip)
       as_aux_lemma =>
        have H' := aa_ H
        clear H
        go_wp2
        go_roundg k1
        case measure => have := HK1.out; omega
        case rel => exact ⟨(x14_1), (ji34), rf_, (by first | rfl | (simp; done) | (simp only [← hji34] <;> (first | rfl | simp)) | (simp [*]; done)), H', ⟨by have := HK1.out; omega⟩, ⟨rr_ HO_0⟩, ⟨by repeat (first | (with_reducible first | exact HK.out | apply Kept.alloc | apply Kept.drewN | apply Kept.drew) | exact HK.out)⟩, ⟨bl_⟩⟩
      ·rw [if_neg c41] at H
       have c41b0 : decide (t430 < 0) = false := decide_eq_false c41
       clear c41
       (first | rw [c41b0] | (simp only [i64_w, i32_w]; rw [c41b0]) | skip)
       as_aux_lemma =>
        have H' := aa_ H
        clear H
        go_wp2
        go_roundg k1
        case measure => have := HK1.out; omega
        case rel => exact ⟨(wrap64 ((ji34) + 1)), (x15_1), (by first | rfl | (simp; done) | (simp only [← hji34] <;> (first | rfl | simp)) | (simp [*]; done)), rf_, H', ⟨by have := HK1.out; omega⟩, ⟨rr_ HO_0⟩, ⟨by repeat (first | (with_reducible first | exact HK.out | apply Kept.alloc | apply Kept.drewN | apply Kept.drew) | exact HK.out)⟩, ⟨bl_⟩⟩
     ·rw [if_neg c31] at H
      have c31b0 : decide (x14_1 < x15_1) = false := decide_eq_false c31
      clear c31
      have H' := aa_ H
      clear H
      go_wp2
      go_loopg [17] k1 (fun kq v17 w' => ∃ (x0_2 : List Int) (x17_2 : Int), v17 = .int .i64 x17_2 ∧ Aside0 (slices_symMergeCmpFunc_int.l3 kq x0_2 x14_1 x17_2 = some r) ∧ Aside0 (kq ≤ k1) ∧ Aside0 (Kd.R (Kd.int .i64) 3 w' w0.heap.size (fun k_ => (P0_ k_ ∨ w.heap.size ≤ k_)) u9000_ x0_2) ∧ Aside0 (Kept w w' (fun k_ => P0_ k_)) ∧ Aside0 (Below w0.heap.size w0 w'))
      case atStart => exact ⟨(l0), (a2), rf_, H', ⟨Nat.le_refl _⟩, ⟨rr_ HO_0⟩, ⟨by repeat (first | (with_reducible first | exact HK.out | apply Kept.alloc | apply Kept.drewN | apply Kept.drew) | exact HK.out)⟩, ⟨bl_⟩⟩
      case round =>
       clear H'
       try clear p2
       try clear q2
       try clear hx2
       try clear p4
       try clear q4
       try clear hx4
       try clear c6b0
       try clear c6b1
       try clear p6
       try clear c7b0
       try clear c9b0
       try clear c10b0
       try clear c11b0
       try clear c12b0
       try clear c17b0
       try clear c18b0
       try clear c20b0
       try clear c21b0
       try clear c22b0
       try clear c23b0
       try clear p24
       try clear q24
       try clear hx24
       try clear hf24
       try clear p25
       try clear q25
       try clear hx25
       try clear hf25
       try clear c30b0
       try clear c30b1
       try clear c31b0
       try clear c32b0
       try clear c33b0
       try clear c35b0
       try clear c36b0
       try clear c41b0
       try clear hx24_0
       try clear hx25_0
       try clear hx421_0
       try clear hx422_0
       try clear hx424_0
       try clear hx425_0
       try clear hx428_0
       try clear hx429_0
       try clear p2
       try clear p24
       try clear p25
       try clear p4
       try clear p421
       try clear p422
       try clear p424
       try clear p425
       try clear p428
       try clear p429
       try clear p6
       try clear q2
       try clear q24
       try clear q25
       try clear q4
       try clear q421
       try clear q422
       try clear q424
       try clear q425
       try clear q428
       try clear q429
       obtain ⟨x0_2, x17_2, rfl, HA, HK2, HO_0, HK, HB⟩ := hrel
       cases gk with
       | zero => exact absurd HA.out (by simp [slices_symMergeCmpFunc_int.l3])
       | succ k2 =>
        have H := HA.out
        clear HA
        simp only [slices_symMergeCmpFunc_int.l3] at H
        by_cases c42 : x17_2 > x14_1
        ·rw [if_pos c42] at H
         have c42b0 : decide (x14_1 < x17_2) = true := decide_eq_true c42
         clear c42
         obtain ⟨ji43, hji43⟩ : ∃ j_ : Int, (wrap64 (x17_2 - 1)) = j_ := ⟨_, rfl⟩
         replace H : (if 0 ≤ (ji43) then (if (ji43) < (x0_2.length : Int) then (if 0 ≤ x17_2 then (if x17_2 < (x0_2.length : Int) then (slices_symMergeCmpFunc_int.l3 k2 ((x0_2.set (x17_2 : Int).toNat (rd x0_2 (ji43))).set ((ji43) : Int).toNat (rd x0_2 x17_2)) x14_1 ji43) else (none)) else (none)) else (none)) else (none)) = some r := by first | (rw [hji43] at H; exact H) | (simp only [hji43] at H ⊢; exact H)
         have hji43w : (IntKind.i64.wrap (x17_2 - 1)) = ji43 := (i64_w _).trans hji43
         obtain ⟨c44b0, H⟩ := ifd_ H
         obtain ⟨c45b0, H⟩ := ifd_ H
         obtain ⟨c46b0, H⟩ := ifd_ H
         obtain ⟨c47b0, H⟩ := ifd_ H
         obtain ⟨y433, hy433⟩ : ∃ y_ : List Int, y_ = (x0_2.set (x17_2 : Int).toNat (rd x0_2 (ji43))) := ⟨_, rfl⟩
         replace H : (slices_symMergeCmpFunc_int.l3 k2 (y433.set ((ji43) : Int).toNat (rd x0_2 x17_2)) x14_1 ji43) = some r := rh_ hy433 H
         have Ny433 := aa_ hy433
         clear hy433
         obtain ⟨y434, hy434⟩ : ∃ y_ : List Int, y_ = (y433.set ((ji43) : Int).toNat (rd x0_2 x17_2)) := ⟨_, rfl⟩
         replace H : (slices_symMergeCmpFunc_int.l3 k2 y434 x14_1 ji43) = some r := rh_ hy434 H
         have Ny434 := aa_ hy434
         clear hy434
         as_aux_lemma =>
          have H' := aa_ H
          clear H
          try go_wp2
          replace HO_0 := aa_ (Kd.R_drew HO_0.out)
          replace HK := aa_ (Kept.drew HK.out)
          replace HB := aa_ (below_drew1 HB.out)
          obtain ⟨Ao51, co51, eo51⟩ := Kd.R_slice HO_0.out
          (first | subst eo51 | (injection eo51 with f1_ f2_ f3_; have f4_ := f1_.symm; have f5_ := f3_.symm; clear f1_ f2_ f3_; subst f4_; subst f5_))
          have p431 : 0 ≤ ((ji43) : Int) := od_
          have q431 : (ji43) < (x0_2.length : Int) := od_
          obtain ⟨ad431, e431, hx431_0⟩ := Kd.at_int (Kd.R_reads' HO_0.out).2.2 (ji43) p431 q431
          cases e431
          replace p431 := eq_true p431
          replace q431 := eq_true q431
          have p432 : 0 ≤ (x17_2 : Int) := od_
          have q432 : x17_2 < (x0_2.length : Int) := od_
          obtain ⟨ad432, e432, hx432_0⟩ := Kd.at_int (Kd.R_reads' HO_0.out).2.2 x17_2 p432 q432
          obtain rfl : ad431 = ad432 := (by injection e432)
          replace p432 := eq_true p432
          replace q432 := eq_true q432
          have p48 : 0 ≤ (x17_2 : Int) := od_
          have q48 : (x17_2 : Int) < ((x0_2.length : Int) : Int) := od_
          obtain ⟨go48, co48, eo48, gb48, gl48, cl48, HG48⟩ := Kd.R_form HO_0.out (by omega)
          (first | cases eo48 | (injection eo48 with ea_ en_ ec_; (first | subst ea_ | (injection ea_ with ea_; subst ea_)); subst ec_; clear en_))
          have GB48 := aa_ gb48
          have GG48 := aa_ HG48
          clear gb48 gl48 HG48
          have HMgo48 := aa_ (show (P0_ go48 ∨ w.heap.size ≤ go48) from (HO_0.out.1 _ rfl))
          (first | simp only [add_plain] at hx431_0 | skip)
          (first | simp only [add_plain] at hx432_0 | skip)
          obtain ⟨hx48_0, hf48_0⟩ := Kd.R_celln 0 HO_0.out (x17_2 : Int) p48 q48
          replace p48 := eq_true p48
          replace q48 := eq_true q48
          have HP52 := Kd.R_putn HO_0.out (x17_2 : Int) (rd x0_2 (ji43))
          rw [← Ny433.out] at HP52
          have HQ52 := aa_ HP52
          clear HP52
          have p49 : 0 ≤ ((ji43) : Int) := od_
          have q49 : ((ji43) : Int) < ((x0_2.length : Int) : Int) := od_
          obtain ⟨hx49_0, hf49_0⟩ := Kd.R_celln 0 HQ52.out ((ji43) : Int) p49 q49
          replace p49 := eq_true p49
          replace q49 := eq_true q49
          have HP53 := Kd.R_putn HQ52.out ((ji43) : Int) (rd x0_2 x17_2)
          rw [← Ny434.out] at HP53
          have HQ53 := aa_ HP53
          clear HP53
          refine start_ (n := 18) (S := fun w' => w'.cell? ⟨go48, ((ji43)).toNat, none⟩ = some (.int .i64 (rd x0_2 (ji43))) ∧ w'.cell? ⟨go48, (x17_2).toNat, none⟩ = some (.int .i64 (rd x0_2 x17_2))) (ds := [15, 17]) (ba_ 18 0) (by kernel_rfl) rfl rfl ⟨hx431_0, hx432_0⟩ (fun hHeld => ?_); refine with_tabW slices_symMergeCmpFunc_int.tab23 slices_symMergeCmpFunc_int.bits23 (fun HT_ HW_ => ?_)
          generalize wr.drew = w50 at HO_0 HK HB GG48 HQ52 HQ53 hf48_0 hf49_0 hx431_0 hx432_0 hx48_0 hx49_0 hHeld ⊢
          refine pz_ 0 113 (ba_ 18 1) (ao_ HT_) ?_
          refine pz_ 1 114 (ba_ 18 3) (ao_ HT_) ?_
          refine pz_ 2 115 (ba_ 18 7) (ao_ HT_) ?_
          refine pz_ 3 116 (ba_ 18 15) (ao_ HT_) ?_
          refine pz_ 4 117 (ba_ 18 31) (ao_ HT_) ?_
          refine pz_ 5 118 (ba_ 18 63) (ao_ HT_) ?_
          refine pz_ 6 119 (ba_ 18 127) (ao_ HT_) ?_
          refine pz_ 7 120 (ba_ 18 255) (ao_ HT_) ?_
          refine pz_ 8 121 (ba_ 18 511) (ao_ HT_) ?_
          refine pz_ 10 123 (ba_ 18 1535) (ao_ HT_) ?_
          refine pz_ 11 124 (ba_ 18 3583) (ao_ HT_) ?_
          refine pz_ 12 125 (ba_ 18 7679) (ao_ HT_) ?_
          refine tz_ 9 122 (ba_ 18 8191) (take_ofW HT_.out HW_.out (by kernel_rfl)) hHeld ?_
          refine tz_ 13 126 (ba_ 18 16383) (take_ofW HT_.out HW_.out (by kernel_rfl)) hHeld ?_
          refine pz_ 14 127 (ba_ 18 32767) (ao_ HT_) ?_
          refine last_ (i := 15) (N := none) (ba_ 18 65535) rfl rfl (one_of HT_.out (by kernel_rfl)) (by decide) (fun K hK => ?_)
          refine skip_ (w1 := ?_) (by rfl) rfl ?_ ?_
          rotate_left
          ·go_simp
           rfl
          refine hK.out _ _ ?_
          clear hK K
          refine pz_ 16 128 (ba_ 18 131071) (ao_ HT_) ?_
          refine last_ (i := 17) (N := none) (ba_ 18 262143) rfl rfl (one_of HT_.out (by kernel_rfl)) (by decide) (fun K hK => ?_)
          refine skip_ (w1 := ?_) (by rfl) rfl ?_ ?_
          rotate_left
          ·go_simp
           rfl
          refine hK.out _ _ ?_
          clear hK K
          refine done_ (done_of HT_.out (by kernel_rfl)) ?_
          try go_wp2
          go_roundg k2
          case measure => have := HK1.out; have := HK2.out; omega
          case rel => exact ⟨(y434), (ji43), (by first | rfl | (simp; done) | (simp only [← hji43] <;> (first | rfl | simp)) | (simp [*]; done)), H', ⟨by have := HK1.out; have := HK2.out; omega⟩, ⟨rr_ HQ53⟩, ⟨by repeat (first | (with_reducible first | exact HK.out | apply Kept.alloc | apply Kept.drewN | apply Kept.drew | refine Kept.setCell ?_ HMgo48.out _ | refine Kept.setCell ?_ HMgo48.out _) | exact HK.out)⟩, ⟨by repeat (first | (with_reducible first | exact HB.out | apply below_alloc | apply pw_below_drewN | apply below_drew1 | refine below_set ?_ GB48.out | refine below_set ?_ GB48.out) | exact HB.out)⟩⟩
        ·rw [if_neg c42] at H
         have c42b0 : decide (x14_1 < x17_2) = false := decide_eq_false c42
         clear c42
         as_aux_lemma =>
          obtain rfl := Option.some.inj H
          go_wp2
          first | go_end0 | ((try simp only [Exit.inBlock, Exit.then]); refine bodyPost_ret (results_none rfl _ _ _) rfl ?_)
          exact ⟨eq_, by (with_reducible repeat (first | apply Kd.R_alloc | apply Kd.R_drewN | apply Kd.R_drew)); exact HO_0.out, bl_, by repeat (first | (with_reducible first | exact HK.out | apply Kept.alloc | apply Kept.drewN | apply Kept.drew) | exact HK.out)⟩
  ·rw [if_neg c30] at H
   have c30b0 : ((wrap64 (a3 - a2)) == 1) = false := beq_eq_false_iff_ne.mpr c30
   have c30b1 : ((wrap64 (a3 - a2)) != 1) = true := bne_iff_ne.mpr c30
   have HC54 := aa_ H
   clear H
   go_enter Try.func60, Try.ntmps60
   go_upto_if 140 with (fail)
   go_cut [20, 21] (fun v20 v21 wc => ∃ (kq : Nat) (x20_53 : Int) (x21_53 : Int), v20 = .int .i64 x20_53 ∧ v21 = .int .i64 x21_53 ∧ Aside0 (slices_symMergeCmpFunc_int.j4 kq l0 a1 a2 a3 a4 (wrap64 ((IntKind.u64.wrap (wrap64 (a1 + a3))) / 2)) (wrap64 ((wrap64 ((IntKind.u64.wrap (wrap64 (a1 + a3))) / 2)) + a2)) x20_53 x21_53 = some r) ∧ Aside0 (kq ≤ k) ∧ Aside0 (Kd.R (Kd.int .i64) 3 wc w0.heap.size (fun k_ => (P0_ k_ ∨ w.heap.size ≤ k_)) u9000_ l0) ∧ Aside0 (Kept w wc (fun k_ => P0_ k_)) ∧ Aside0 (Below w0.heap.size w0 wc))
   case first =>
    have H := HC54.out
    clear HC54
    by_cases c55 : a2 > (wrap64 ((IntKind.u64.wrap (wrap64 (a1 + a3))) / 2))
    ·rw [if_pos c55] at H
     have c55b0 : decide ((wrap64 ((IntKind.u64.wrap (wrap64 (a1 + a3))) / 2)) < a2) = true := decide_eq_true c55
     clear c55
     (first | rw [c55b0] | (simp only [i64_w, i32_w]; rw [c55b0]) | skip)
     as_aux_lemma =>
      have H' := aa_ H
      clear H
      go_wp2
      go_meet
      case rel => exact ⟨_, (wrap64 ((wrap64 ((wrap64 ((IntKind.u64.wrap (wrap64 (a1 + a3))) / 2)) + a2)) - a3)), (wrap64 ((IntKind.u64.wrap (wrap64 (a1 + a3))) / 2)), rf_, rf_, H', ⟨by first | omega | exact Nat.le_refl _⟩, ⟨rr_ HO0⟩, ⟨by repeat (first | (with_reducible first | exact HK.out | apply Kept.alloc | apply Kept.drewN | apply Kept.drew) | exact HK.out)⟩, ⟨bl_⟩⟩
    ·rw [if_neg c55] at H
     have c55b0 : decide ((wrap64 ((IntKind.u64.wrap (wrap64 (a1 + a3))) / 2)) < a2) = false := decide_eq_false c55
     clear c55
     (first | rw [c55b0] | (simp only [i64_w, i32_w]; rw [c55b0]) | skip)
     as_aux_lemma =>
      have H' := aa_ H
      clear H
      go_wp2
      go_meet
      case rel => exact ⟨_, (a1), (a2), rf_, rf_, H', ⟨by first | omega | exact Nat.le_refl _⟩, ⟨rr_ HO0⟩, ⟨by repeat (first | (with_reducible first | exact HK.out | apply Kept.alloc | apply Kept.drewN | apply Kept.drew) | exact HK.out)⟩, ⟨bl_⟩⟩
   case rest =>
    clear HC54
    try clear p2
    try clear q2
    try clear hx2
    try clear p4
    try clear q4
    try clear hx4
    try clear c6b0
    try clear c6b1
    try clear p6
    try clear c7b0
    try clear c9b0
    try clear c10b0
    try clear c11b0
    try clear c12b0
    try clear c17b0
    try clear c18b0
    try clear c20b0
    try clear c21b0
    try clear c22b0
    try clear c23b0
    try clear p24
    try clear q24
    try clear hx24
    try clear hf24
    try clear p25
    try clear q25
    try clear hx25
    try clear hf25
    try clear c30b0
    try clear c30b1
    try clear c31b0
    try clear c32b0
    try clear c33b0
    try clear c35b0
    try clear c36b0
    try clear c41b0
    try clear c42b0
    try clear p42
    try clear q42
    try clear hx42
    try clear p43
    try clear q43
    try clear hx43
    try clear c44b0
    try clear c45b0
    try clear c46b0
    try clear c47b0
    try clear p48
    try clear q48
    try clear hx48
    try clear hf48
    try clear p49
    try clear q49
    try clear hx49
    try clear hf49
    try clear c55b0
    try clear hx24_0
    try clear hx25_0
    try clear hx421_0
    try clear hx422_0
    try clear hx424_0
    try clear hx425_0
    try clear hx428_0
    try clear hx429_0
    try clear hx431_0
    try clear hx432_0
    try clear hx48_0
    try clear hx49_0
    try clear p2
    try clear p24
    try clear p25
    try clear p4
    try clear p421
    try clear p422
    try clear p424
    try clear p425
    try clear p428
    try clear p429
    try clear p431
    try clear p432
    try clear p48
    try clear p49
    try clear p6
    try clear q2
    try clear q24
    try clear q25
    try clear q4
    try clear q421
    try clear q422
    try clear q424
    try clear q425
    try clear q428
    try clear q429
    try clear q431
    try clear q432
    try clear q48
    try clear q49
    obtain ⟨kq, x20_53, x21_53, rfl, rfl, HA, HJ53, HO_0, HK, HB⟩ := hcut
    cases kq with
    | zero => exact absurd HA.out (by simp [slices_symMergeCmpFunc_int.j4])
    | succ kj53 =>
     have H := HA.out
     clear HA
     simp only [slices_symMergeCmpFunc_int.j4] at H
     have H' := aa_ H
     clear H
     go_wp2
     go_loopg [20, 21] kj53 (fun kq v20 v21 w' => ∃ (x20_2 : Int) (x21_2 : Int), v20 = .int .i64 x20_2 ∧ v21 = .int .i64 x21_2 ∧ Aside0 (slices_symMergeCmpFunc_int.l4 kq l0 a1 a2 a3 a4 (wrap64 ((IntKind.u64.wrap (wrap64 (a1 + a3))) / 2)) (wrap64 ((wrap64 ((IntKind.u64.wrap (wrap64 (a1 + a3))) / 2)) + a2)) x20_2 x21_2 (wrap64 ((wrap64 ((wrap64 ((IntKind.u64.wrap (wrap64 (a1 + a3))) / 2)) + a2)) - 1)) = some r) ∧ Aside0 (kq ≤ kj53) ∧ Aside0 (Kd.R (Kd.int .i64) 3 w' w0.heap.size (fun k_ => (P0_ k_ ∨ w.heap.size ≤ k_)) u9000_ l0) ∧ Aside0 (Kept w w' (fun k_ => P0_ k_)) ∧ Aside0 (Below w0.heap.size w0 w'))
     case atStart => exact ⟨(x20_53), (x21_53), rf_, rf_, H', ⟨Nat.le_refl _⟩, ⟨rr_ HO_0⟩, ⟨by repeat (first | (with_reducible first | exact HK.out | apply Kept.alloc | apply Kept.drewN | apply Kept.drew) | exact HK.out)⟩, ⟨bl_⟩⟩
     case round =>
      clear H'
      try clear p2
      try clear q2
      try clear hx2
      try clear p4
      try clear q4
      try clear hx4
      try clear c6b0
      try clear c6b1
      try clear p6
      try clear c7b0
      try clear c9b0
      try clear c10b0
      try clear c11b0
      try clear c12b0
      try clear c17b0
      try clear c18b0
      try clear c20b0
      try clear c21b0
      try clear c22b0
      try clear c23b0
      try clear p24
      try clear q24
      try clear hx24
      try clear hf24
      try clear p25
      try clear q25
      try clear hx25
      try clear hf25
      try clear c30b0
      try clear c30b1
      try clear c31b0
      try clear c32b0
      try clear c33b0
      try clear c35b0
      try clear c36b0
      try clear c41b0
      try clear c42b0
      try clear p42
      try clear q42
      try clear hx42
      try clear p43
      try clear q43
      try clear hx43
      try clear c44b0
      try clear c45b0
      try clear c46b0
      try clear c47b0
      try clear p48
      try clear q48
      try clear hx48
      try clear hf48
      try clear p49
      try clear q49
      try clear hx49
      try clear hf49
      try clear c55b0
      try clear hx24_0
      try clear hx25_0
      try clear hx421_0
      try clear hx422_0
      try clear hx424_0
      try clear hx425_0
      try clear hx428_0
      try clear hx429_0
      try clear hx431_0
      try clear hx432_0
      try clear hx48_0
      try clear hx49_0
      try clear p2
      try clear p24
      try clear p25
      try clear p4
      try clear p42
      try clear p421
      try clear p422
      try clear p424
      try clear p425
      try clear p428
      try clear p429
      try clear p43
      try clear p431
      try clear p432
      try clear p48
      try clear p49
      try clear p6
      try clear q2
      try clear q24
      try clear q25
      try clear q4
      try clear q42
      try clear q421
      try clear q422
      try clear q424
      try clear q425
      try clear q428
      try clear q429
      try clear q43
      try clear q431
      try clear q432
      try clear q48
      try clear q49
      obtain ⟨x20_2, x21_2, rfl, rfl, HA, HK2, HO_0, HK, HB⟩ := hrel
      cases gk with
      | zero => exact absurd HA.out (by simp [slices_symMergeCmpFunc_int.l4])
      | succ k2 =>
       have H := HA.out
       clear HA
       simp only [slices_symMergeCmpFunc_int.l4] at H
       by_cases c56 : x20_2 < x21_2
       ·rw [if_pos c56] at H
        have c56b0 : decide (x20_2 < x21_2) = true := decide_eq_true c56
        clear c56
        obtain ⟨ji57, hji57⟩ : ∃ j_ : Int, (wrap64 ((wrap64 ((wrap64 ((wrap64 ((IntKind.u64.wrap (wrap64 (a1 + a3))) / 2)) + a2)) - 1)) - (wrap64 ((IntKind.u64.wrap (wrap64 (x20_2 + x21_2))) / 2)))) = j_ := ⟨_, rfl⟩
        replace H : (if 0 ≤ (ji57) then (if (ji57) < (l0.length : Int) then (if 0 ≤ (wrap64 ((IntKind.u64.wrap (wrap64 (x20_2 + x21_2))) / 2)) then (if (wrap64 ((IntKind.u64.wrap (wrap64 (x20_2 + x21_2))) / 2)) < (l0.length : Int) then ((a4 (rd l0 (ji57)) (rd l0 (wrap64 ((IntKind.u64.wrap (wrap64 (x20_2 + x21_2))) / 2)))).bind fun t437 => (if t437 < 0 then (slices_symMergeCmpFunc_int.l4 k2 l0 a1 a2 a3 a4 (wrap64 ((IntKind.u64.wrap (wrap64 (a1 + a3))) / 2)) (wrap64 ((wrap64 ((IntKind.u64.wrap (wrap64 (a1 + a3))) / 2)) + a2)) x20_2 (wrap64 ((IntKind.u64.wrap (wrap64 (x20_2 + x21_2))) / 2)) (wrap64 ((wrap64 ((wrap64 ((IntKind.u64.wrap (wrap64 (a1 + a3))) / 2)) + a2)) - 1))) else (slices_symMergeCmpFunc_int.l4 k2 l0 a1 a2 a3 a4 (wrap64 ((IntKind.u64.wrap (wrap64 (a1 + a3))) / 2)) (wrap64 ((wrap64 ((IntKind.u64.wrap (wrap64 (a1 + a3))) / 2)) + a2)) (wrap64 ((wrap64 ((IntKind.u64.wrap (wrap64 (x20_2 + x21_2))) / 2)) + 1)) x21_2 (wrap64 ((wrap64 ((wrap64 ((IntKind.u64.wrap (wrap64 (a1 + a3))) / 2)) + a2)) - 1))))) else (none)) else (none)) else (none)) else (none)) = some r := by first | (rw [hji57] at H; exact H) | (simp only [hji57] at H ⊢; exact H)
        have hji57w : (IntKind.i64.wrap ((wrap64 ((wrap64 ((wrap64 ((IntKind.u64.wrap (wrap64 (a1 + a3))) / 2)) + a2)) - 1)) - (wrap64 ((IntKind.u64.wrap (wrap64 (x20_2 + x21_2))) / 2)))) = ji57 := (i64_w _).trans hji57
        obtain ⟨c58b0, H⟩ := ifd_ H
        obtain ⟨c59b0, H⟩ := ifd_ H
        obtain ⟨ji60, hji60⟩ : ∃ j_ : Int, (wrap64 ((IntKind.u64.wrap (wrap64 (x20_2 + x21_2))) / 2)) = j_ := ⟨_, rfl⟩
        replace H : (if 0 ≤ (ji60) then (if (ji60) < (l0.length : Int) then ((a4 (rd l0 (ji57)) (rd l0 (ji60))).bind fun t437 => (if t437 < 0 then (slices_symMergeCmpFunc_int.l4 k2 l0 a1 a2 a3 a4 (wrap64 ((IntKind.u64.wrap (wrap64 (a1 + a3))) / 2)) (wrap64 ((wrap64 ((IntKind.u64.wrap (wrap64 (a1 + a3))) / 2)) + a2)) x20_2 ji60 (wrap64 ((wrap64 ((wrap64 ((IntKind.u64.wrap (wrap64 (a1 + a3))) / 2)) + a2)) - 1))) else (slices_symMergeCmpFunc_int.l4 k2 l0 a1 a2 a3 a4 (wrap64 ((IntKind.u64.wrap (wrap64 (a1 + a3))) / 2)) (wrap64 ((wrap64 ((IntKind.u64.wrap (wrap64 (a1 + a3))) / 2)) + a2)) (wrap64 ((ji60) + 1)) x21_2 (wrap64 ((wrap64 ((wrap64 ((IntKind.u64.wrap (wrap64 (a1 + a3))) / 2)) + a2)) - 1))))) else (none)) else (none)) = some r := by first | (rw [hji60] at H; exact H) | (simp only [hji60] at H ⊢; exact H)
        have hji60w : (IntKind.i64.wrap ((IntKind.u64.wrap (wrap64 (x20_2 + x21_2))) / 2)) = ji60 := (i64_w _).trans hji60
        (try rw [hji60] at hji57)
        (try rw [hji60] at hji57w)
        obtain ⟨c61b0, H⟩ := ifd_ H
        obtain ⟨c62b0, H⟩ := ifd_ H
        obtain ⟨t437, A63, H⟩ := bindE_ H
        have HC64 := aa_ H
        clear H
        try go_wp2
        replace HO_0 := aa_ (Kd.R_drew HO_0.out)
        replace HK := aa_ (Kept.drew HK.out)
        replace HB := aa_ (below_drew1 HB.out)
        obtain ⟨Ao66, co66, eo66⟩ := Kd.R_slice HO_0.out
        (first | subst eo66 | (injection eo66 with f1_ f2_ f3_; have f4_ := f1_.symm; have f5_ := f3_.symm; clear f1_ f2_ f3_; subst f4_; subst f5_))
        have p435 : 0 ≤ ((ji57) : Int) := od_
        have q435 : (ji57) < (l0.length : Int) := od_
        obtain ⟨ad435, e435, hx435_0⟩ := Kd.at_int (Kd.R_reads' HO_0.out).2.2 (ji57) p435 q435
        cases e435
        replace p435 := eq_true p435
        replace q435 := eq_true q435
        have p436 : 0 ≤ ((ji60) : Int) := od_
        have q436 : (ji60) < (l0.length : Int) := od_
        obtain ⟨ad436, e436, hx436_0⟩ := Kd.at_int (Kd.R_reads' HO_0.out).2.2 (ji60) p436 q436
        obtain rfl : ad435 = ad436 := (by injection e436)
        replace p436 := eq_true p436
        replace q436 := eq_true q436
        refine start_ (n := 14) (S := fun w' => w'.cell? (ad435.add ((ji57)).toNat) = some (.int .i64 (rd l0 (ji57))) ∧ w'.cell? (ad435.add ((ji60)).toNat) = some (.int .i64 (rd l0 (ji60)))) (ds := []) (ba_ 14 0) (by kernel_rfl) rfl rfl ⟨hx435_0, hx436_0⟩ (fun hHeld => ?_); refine with_tabW slices_symMergeCmpFunc_int.tab35 slices_symMergeCmpFunc_int.bits35 (fun HT_ HW_ => ?_)
        generalize wr.drew = w65 at HO_0 HK HB hx435_0 hx436_0 hHeld ⊢
        refine pz_ 0 158 (ba_ 14 1) (ao_ HT_) ?_
        refine pz_ 1 159 (ba_ 14 3) (ao_ HT_) ?_
        refine pz_ 2 160 (ba_ 14 7) (ao_ HT_) ?_
        refine pz_ 3 161 (ba_ 14 15) (ao_ HT_) ?_
        refine pz_ 4 162 (ba_ 14 31) (ao_ HT_) ?_
        refine pz_ 5 163 (ba_ 14 63) (ao_ HT_) ?_
        refine pz_ 7 165 (ba_ 14 191) (ao_ HT_) ?_
        refine pz_ 8 166 (ba_ 14 447) (ao_ HT_) ?_
        refine pz_ 9 167 (ba_ 14 959) (ao_ HT_) ?_
        refine tz_ 6 164 (ba_ 14 1023) (take_ofW HT_.out HW_.out (by kernel_rfl)) hHeld ?_
        refine tz_ 10 168 (ba_ 14 2047) (take_ofW HT_.out HW_.out (by kernel_rfl)) hHeld ?_
        refine one_ (i := 11) (N := some 169) (ba_ 14 4095) rfl rfl (one_of HT_.out (by kernel_rfl)) (by decide) (fun K hK => ?_)
        refine goesv_ Try.func25 (by kernel_rfl) rfl #[.int .i64 (rd l0 (ji57)), .int .i64 (rd l0 (ji60))] (.pointer (some ⟨ga4_, 0, none⟩)) (by rfl) rfl rfl (by rfl) (by (try simp only [List.map_toArray, List.map_cons, List.map_nil]); first | done | (simp only [hji57, hji60]; rfl) | rfl) ?_
        refine (HFN4.out _ (by repeat (first | (with_reducible first | exact HK.out | apply Kept.alloc | apply Kept.drewN | apply Kept.drew) | exact HK.out)) _ _ _ A63.out).mono ?_
        rintro e w' ⟨rfl, ⟨nd, rfl⟩⟩
        refine ⟨_, rfl, ?_⟩
        refine hK.out _ _ ⟨hHeld.1, hHeld.2⟩ (fun hHeld => ?_)
        clear hK K
        refine norm_ (a' := ?_) ?_ ?_
        rotate_left
        ·show Act.put _ (some 169) _ = _
         simp only [Act.put, sb_, sz_, ss_, i64_w, i32_w]
         rfl
        refine pz_ 12 170 (ba_ 14 8191) (ao_ HT_) ?_
        refine pz_ 13 171 (ba_ 14 16383) (ao_ HT_) ?_
        refine done_ (done_of HT_.out (by kernel_rfl)) ?_
        go_upto_if 171 with (fail)
        (try (rw [drewN_self w65]; generalize hq_ : World.drewN w65 _ = w65; have n0_ : Aside0 (Kd.R (Kd.int .i64) 3 w65 w0.heap.size (fun k_ => (P0_ k_ ∨ w.heap.size ≤ k_)) (.slice (some ad435) l0.length co66) l0) := ⟨by rw [← hq_]; exact (rr_ HO_0)⟩; have n1_ : Aside0 (Kept w w65 (fun k_ => P0_ k_)) := ⟨by rw [← hq_]; exact (by repeat (first | (with_reducible first | exact HK.out | apply Kept.alloc | apply Kept.drewN | apply Kept.drew) | exact HK.out))⟩; have n2_ : Aside0 (Below w0.heap.size w0 w65) := ⟨by rw [← hq_]; exact bl_⟩; clear HO_0 HK HB hq_; have HO_0 := n0_; have HK := n1_; have HB := n2_; clear n0_ n1_ n2_))
        have H := HC64.out
        clear HC64
        by_cases c67 : t437 < 0
        ·rw [if_pos c67] at H
         have c67b0 : decide (t437 < 0) = true := decide_eq_true c67
         clear c67
         (first | rw [c67b0] | (simp only [i64_w, i32_w]; rw [c67b0]) | skip)
         as_aux_lemma =>
          have H' := aa_ H
          clear H
          go_wp2
          go_roundg k2
          case measure => have := HJ53.out; have := HK2.out; omega
          case rel => exact ⟨(x20_2), (ji60), rf_, (by first | rfl | (simp; done) | (simp only [← hji60] <;> (first | rfl | simp)) | (simp [*]; done)), H', ⟨by have := HJ53.out; have := HK2.out; omega⟩, ⟨rr_ HO_0⟩, ⟨by repeat (first | (with_reducible first | exact HK.out | apply Kept.alloc | apply Kept.drewN | apply Kept.drew) | exact HK.out)⟩, ⟨bl_⟩⟩
        ·rw [if_neg c67] at H
         have c67b0 : decide (t437 < 0) = false := decide_eq_false c67
         clear c67
         (first | rw [c67b0] | (simp only [i64_w, i32_w]; rw [c67b0]) | skip)
         as_aux_lemma =>
          have H' := aa_ H
          clear H
          go_wp2
          go_roundg k2
          case measure => have := HJ53.out; have := HK2.out; omega
          case rel => exact ⟨(wrap64 ((ji60) + 1)), (x21_2), (by first | rfl | (simp; done) | (simp only [← hji60] <;> (first | rfl | simp)) | (simp [*]; done)), rf_, H', ⟨by have := HJ53.out; have := HK2.out; omega⟩, ⟨rr_ HO_0⟩, ⟨by repeat (first | (with_reducible first | exact HK.out | apply Kept.alloc | apply Kept.drewN | apply Kept.drew) | exact HK.out)⟩, ⟨bl_⟩⟩
       ·rw [if_neg c56] at H
        have c56b0 : decide (x20_2 < x21_2) = false := decide_eq_false c56
        clear c56
        have HC68 := aa_ H
        clear H
        go_upto_region 39 with (fail)
        go_cut [185] (fun v185 wc => ∃ (kq : Nat) (x185_67 : Bool), v185 = .bool x185_67 ∧ Aside0 (slices_symMergeCmpFunc_int.j6 kq l0 a1 a2 a3 a4 (wrap64 ((IntKind.u64.wrap (wrap64 (a1 + a3))) / 2)) x20_2 (wrap64 ((wrap64 ((wrap64 ((IntKind.u64.wrap (wrap64 (a1 + a3))) / 2)) + a2)) - x20_2)) x185_67 = some r) ∧ Aside0 (kq ≤ k2) ∧ Aside0 (Kd.R (Kd.int .i64) 3 wc w0.heap.size (fun k_ => (P0_ k_ ∨ w.heap.size ≤ k_)) u9000_ l0) ∧ Aside0 (Kept w wc (fun k_ => P0_ k_)) ∧ Aside0 (Below w0.heap.size w0 wc))
        case first =>
         have H := HC68.out
         clear HC68
         by_cases c69 : x20_2 < a2
         ·rw [if_pos c69] at H
          have c69b0 : decide (x20_2 < a2) = true := decide_eq_true c69
          clear c69
          (first | rw [c69b0] | (simp only [i64_w, i32_w]; rw [c69b0]) | skip)
          as_aux_lemma =>
           have H' := aa_ H
           clear H
           go_wp2
           go_meet
           case rel => exact ⟨_, (decide (a2 < (wrap64 ((wrap64 ((wrap64 ((IntKind.u64.wrap (wrap64 (a1 + a3))) / 2)) + a2)) - x20_2)))), rf_, H', ⟨by have := HJ53.out; have := HK2.out; first | omega | exact Nat.le_refl _⟩, ⟨rr_ HO_0⟩, ⟨by repeat (first | (with_reducible first | exact HK.out | apply Kept.alloc | apply Kept.drewN | apply Kept.drew) | exact HK.out)⟩, ⟨bl_⟩⟩
         ·rw [if_neg c69] at H
          have c69b0 : decide (x20_2 < a2) = false := decide_eq_false c69
          clear c69
          (first | rw [c69b0] | (simp only [i64_w, i32_w]; rw [c69b0]) | skip)
          as_aux_lemma =>
           have H' := aa_ H
           clear H
           go_wp2
           go_meet
           case rel => exact ⟨_, (false), rf_, H', ⟨by have := HJ53.out; have := HK2.out; first | omega | exact Nat.le_refl _⟩, ⟨rr_ HO_0⟩, ⟨by repeat (first | (with_reducible first | exact HK.out | apply Kept.alloc | apply Kept.drewN | apply Kept.drew) | exact HK.out)⟩, ⟨bl_⟩⟩
        case rest =>
         clear HC68
         try clear p2
         try clear q2
         try clear hx2
         try clear p4
         try clear q4
         try clear hx4
         try clear c6b0
         try clear c6b1
         try clear p6
         try clear c7b0
         try clear c9b0
         try clear c10b0
         try clear c11b0
         try clear c12b0
         try clear c17b0
         try clear c18b0
         try clear c20b0
         try clear c21b0
         try clear c22b0
         try clear c23b0
         try clear p24
         try clear q24
         try clear hx24
         try clear hf24
         try clear p25
         try clear q25
         try clear hx25
         try clear hf25
         try clear c30b0
         try clear c30b1
         try clear c31b0
         try clear c32b0
         try clear c33b0
         try clear c35b0
         try clear c36b0
         try clear c41b0
         try clear c42b0
         try clear p42
         try clear q42
         try clear hx42
         try clear p43
         try clear q43
         try clear hx43
         try clear c44b0
         try clear c45b0
         try clear c46b0
         try clear c47b0
         try clear p48
         try clear q48
         try clear hx48
         try clear hf48
         try clear p49
         try clear q49
         try clear hx49
         try clear hf49
         try clear c55b0
         try clear c56b0
         try clear c58b0
         try clear c59b0
         try clear c61b0
         try clear c62b0
         try clear p64
         try clear c67b0
         try clear c69b0
         try clear hx24_0
         try clear hx25_0
         try clear hx421_0
         try clear hx422_0
         try clear hx424_0
         try clear hx425_0
         try clear hx428_0
         try clear hx429_0
         try clear hx431_0
         try clear hx432_0
         try clear hx435_0
         try clear hx436_0
         try clear hx48_0
         try clear hx49_0
         try clear p2
         try clear p24
         try clear p25
         try clear p4
         try clear p42
         try clear p421
         try clear p422
         try clear p424
         try clear p425
         try clear p428
         try clear p429
         try clear p43
         try clear p431
         try clear p432
         try clear p435
         try clear p436
         try clear p48
         try clear p49
         try clear p6
         try clear q2
         try clear q24
         try clear q25
         try clear q4
         try clear q42
         try clear q421
         try clear q422
         try clear q424
         try clear q425
         try clear q428
         try clear q429
         try clear q43
         try clear q431
         try clear q432
         try clear q435
         try clear q436
         try clear q48
         try clear q49
         obtain ⟨kq, x185_67, rfl, HA, HJ67, HO_0, HK, HB⟩ := hcut
         cases kq with
         | zero => exact absurd HA.out (by simp [slices_symMergeCmpFunc_int.j6])
         | succ kj67 =>
          have H := HA.out
          clear HA
          simp only [slices_symMergeCmpFunc_int.j6] at H
          have HC70 := aa_ H
          clear H
          go_upto_if 185 with (fail)
          go_cut [] (fun wc => ∃ (kq : Nat) (x0_69 : List Int), Aside0 (slices_symMergeCmpFunc_int.j7 kq x0_69 a1 a3 a4 (wrap64 ((IntKind.u64.wrap (wrap64 (a1 + a3))) / 2)) x20_2 (wrap64 ((wrap64 ((wrap64 ((IntKind.u64.wrap (wrap64 (a1 + a3))) / 2)) + a2)) - x20_2)) = some r) ∧ Aside0 (kq ≤ kj67) ∧ Aside0 (Kd.R (Kd.int .i64) 3 wc w0.heap.size (fun k_ => (P0_ k_ ∨ w.heap.size ≤ k_)) u9000_ x0_69) ∧ Aside0 (Kept w wc (fun k_ => P0_ k_)) ∧ Aside0 (Below w0.heap.size w0 wc))
          case first =>
           have H := HC70.out
           clear HC70
           by_cases c71 : x185_67 = true
           ·subst c71
            replace H := ite_t_ H
            obtain ⟨t438, A72, H⟩ := bindE_ H
            as_aux_lemma =>
             have H' := aa_ H
             clear H
             obtain ⟨Ao73, co73, eo73⟩ := Kd.R_slice HO_0.out
             subst eo73
             go_wp2_with (first | ((with_reducible refine gC_ 66 rfl ?_); refine goesC_ (some 191) Try.func66 #[.slice Ao73 l0.length co73, .int .i64 x20_2, .int .i64 a2, .int .i64 (wrap64 ((wrap64 ((wrap64 ((IntKind.u64.wrap (wrap64 (a1 + a3))) / 2)) + a2)) - x20_2)), .func (.func 25) #[] #[.pointer (some ⟨ga4_, 0, none⟩)]] ?_; (with_reducible refine (slices_rotateCmpFunc_int.calls kj67 (fun k_ => some k_ = (.slice Ao73 l0.length co73 : Value).ownBlock) (.slice Ao73 l0.length co73) l0 x20_2 a2 (wrap64 ((wrap64 ((wrap64 ((IntKind.u64.wrap (wrap64 (a1 + a3))) / 2)) + a2)) - x20_2)) a4 ga4_ t438 w0 _ ?side1 ?side2 ?side3 A72.out).mono ?_); (case side1 => repeat (first | (with_reducible first | exact HB.out | apply below_alloc | apply pw_below_drewN | apply below_drew1) | exact HB.out)); (case side2 => exact Kd.R_tight rfl HO_0.out); (case side3 => exact fun W_ hW_ => HFN4.out W_ (Kept.then_ (by repeat (first | (with_reducible first | exact HK.out | apply Kept.alloc | apply Kept.drewN | apply Kept.drew) | exact HK.out)) hW_ (fun k_ hs_ => (fun e_ => (HO_0.out.1 k_ e_.symm)) hs_))); rintro e w74 ⟨rfl, hy0, hb, hkp⟩; refine ⟨_, rfl, ?_⟩; replace HK := aa_ (Kept.then_ (S := (fun k_ => P0_ k_)) (by repeat (first | (with_reducible first | exact HK.out | apply Kept.alloc | apply Kept.drewN | apply Kept.drew) | exact HK.out)) hkp (fun k_ hs_ => (fun e_ => (HO_0.out.1 k_ e_.symm)) hs_)); replace HO_0 := aa_ (Kd.R_reok rfl hy0 (fun k_ e_ => HO_0.out.1 k_ e_)); replace HB := aa_ (hb); (try clear hb hkp hy0)))
             go_meet
             case rel => exact ⟨_, (t438), H', ⟨by have := HJ53.out; have := HK2.out; have := HJ67.out; first | omega | exact Nat.le_refl _⟩, ⟨rr_ HO_0⟩, ⟨by repeat (first | (with_reducible first | exact HK.out | apply Kept.alloc | apply Kept.drewN | apply Kept.drew) | exact HK.out)⟩, ⟨bl_⟩⟩
           ·replace c71 := Bool.eq_false_iff.mpr c71
            subst c71
            replace H := ite_f_ H
            as_aux_lemma =>
             have H' := aa_ H
             clear H
             go_wp2
             go_meet
             case rel => exact ⟨_, (l0), H', ⟨by have := HJ53.out; have := HK2.out; have := HJ67.out; first | omega | exact Nat.le_refl _⟩, ⟨rr_ HO_0⟩, ⟨by repeat (first | (with_reducible first | exact HK.out | apply Kept.alloc | apply Kept.drewN | apply Kept.drew) | exact HK.out)⟩, ⟨bl_⟩⟩
          case rest =>
           clear HC70
           try clear p2
           try clear q2
           try clear hx2
           try clear p4
           try clear q4
           try clear hx4
           try clear c6b0
           try clear c6b1
           try clear p6
           try clear c7b0
           try clear c9b0
           try clear c10b0
           try clear c11b0
           try clear c12b0
           try clear c17b0
           try clear c18b0
           try clear c20b0
           try clear c21b0
           try clear c22b0
           try clear c23b0
           try clear p24
           try clear q24
           try clear hx24
           try clear hf24
           try clear p25
           try clear q25
           try clear hx25
           try clear hf25
           try clear c30b0
           try clear c30b1
           try clear c31b0
           try clear c32b0
           try clear c33b0
           try clear c35b0
           try clear c36b0
           try clear c41b0
           try clear c42b0
           try clear p42
           try clear q42
           try clear hx42
           try clear p43
           try clear q43
           try clear hx43
           try clear c44b0
           try clear c45b0
           try clear c46b0
           try clear c47b0
           try clear p48
           try clear q48
           try clear hx48
           try clear hf48
           try clear p49
           try clear q49
           try clear hx49
           try clear hf49
           try clear c55b0
           try clear c56b0
           try clear c58b0
           try clear c59b0
           try clear c61b0
           try clear c62b0
           try clear p64
           try clear c67b0
           try clear c69b0
           try clear hx24_0
           try clear hx25_0
           try clear hx421_0
           try clear hx422_0
           try clear hx424_0
           try clear hx425_0
           try clear hx428_0
           try clear hx429_0
           try clear hx431_0
           try clear hx432_0
           try clear hx435_0
           try clear hx436_0
           try clear hx48_0
           try clear hx49_0
           try clear p2
           try clear p24
           try clear p25
           try clear p4
           try clear p42
           try clear p421
           try clear p422
           try clear p424
           try clear p425
           try clear p428
           try clear p429
           try clear p43
           try clear p431
           try clear p432
           try clear p435
           try clear p436
           try clear p48
           try clear p49
           try clear p6
           try clear p64
           try clear q2
           try clear q24
           try clear q25
           try clear q4
           try clear q42
           try clear q421
           try clear q422
           try clear q424
           try clear q425
           try clear q428
           try clear q429
           try clear q43
           try clear q431
           try clear q432
           try clear q435
           try clear q436
           try clear q48
           try clear q49
           obtain ⟨kq, x0_69, HA, HJ69, HO_0, HK, HB⟩ := hcut
           cases kq with
           | zero => exact absurd HA.out (by simp [slices_symMergeCmpFunc_int.j7])
           | succ kj69 =>
            have H := HA.out
            clear HA
            simp only [slices_symMergeCmpFunc_int.j7] at H
            have HC75 := aa_ H
            clear H
            go_upto_region 41 with (fail)
            go_cut [199] (fun v199 wc => ∃ (kq : Nat) (x199_74 : Bool), v199 = .bool x199_74 ∧ Aside0 (slices_symMergeCmpFunc_int.j8 kq x0_69 a1 a3 a4 (wrap64 ((IntKind.u64.wrap (wrap64 (a1 + a3))) / 2)) x20_2 (wrap64 ((wrap64 ((wrap64 ((IntKind.u64.wrap (wrap64 (a1 + a3))) / 2)) + a2)) - x20_2)) x199_74 = some r) ∧ Aside0 (kq ≤ kj69) ∧ Aside0 (Kd.R (Kd.int .i64) 3 wc w0.heap.size (fun k_ => (P0_ k_ ∨ w.heap.size ≤ k_)) u9000_ x0_69) ∧ Aside0 (Kept w wc (fun k_ => P0_ k_)) ∧ Aside0 (Below w0.heap.size w0 wc))
            case first =>
             have H := HC75.out
             clear HC75
             by_cases c76 : a1 < x20_2
             ·rw [if_pos c76] at H
              have c76b0 : decide (a1 < x20_2) = true := decide_eq_true c76
              clear c76
              (first | rw [c76b0] | (simp only [i64_w, i32_w]; rw [c76b0]) | skip)
              as_aux_lemma =>
               have H' := aa_ H
               clear H
               go_wp2
               go_meet
               case rel => exact ⟨_, (decide (x20_2 < (wrap64 ((IntKind.u64.wrap (wrap64 (a1 + a3))) / 2)))), rf_, H', ⟨by have := HJ53.out; have := HK2.out; have := HJ67.out; have := HJ69.out; first | omega | exact Nat.le_refl _⟩, ⟨rr_ HO_0⟩, ⟨by repeat (first | (with_reducible first | exact HK.out | apply Kept.alloc | apply Kept.drewN | apply Kept.drew) | exact HK.out)⟩, ⟨bl_⟩⟩
             ·rw [if_neg c76] at H
              have c76b0 : decide (a1 < x20_2) = false := decide_eq_false c76
              clear c76
              (first | rw [c76b0] | (simp only [i64_w, i32_w]; rw [c76b0]) | skip)
              as_aux_lemma =>
               have H' := aa_ H
               clear H
               go_wp2
               go_meet
               case rel => exact ⟨_, (false), rf_, H', ⟨by have := HJ53.out; have := HK2.out; have := HJ67.out; have := HJ69.out; first | omega | exact Nat.le_refl _⟩, ⟨rr_ HO_0⟩, ⟨by repeat (first | (with_reducible first | exact HK.out | apply Kept.alloc | apply Kept.drewN | apply Kept.drew) | exact HK.out)⟩, ⟨bl_⟩⟩
            case rest =>
             clear HC75
             try clear p2
             try clear q2
             try clear hx2
             try clear p4
             try clear q4
             try clear hx4
             try clear c6b0
             try clear c6b1
             try clear p6
             try clear c7b0
             try clear c9b0
             try clear c10b0
             try clear c11b0
             try clear c12b0
             try clear c17b0
             try clear c18b0
             try clear c20b0
             try clear c21b0
             try clear c22b0
             try clear c23b0
             try clear p24
             try clear q24
             try clear hx24
             try clear hf24
             try clear p25
             try clear q25
             try clear hx25
             try clear hf25
             try clear c30b0
             try clear c30b1
             try clear c31b0
             try clear c32b0
             try clear c33b0
             try clear c35b0
             try clear c36b0
             try clear c41b0
             try clear c42b0
             try clear p42
             try clear q42
             try clear hx42
             try clear p43
             try clear q43
             try clear hx43
             try clear c44b0
             try clear c45b0
             try clear c46b0
             try clear c47b0
             try clear p48
             try clear q48
             try clear hx48
             try clear hf48
             try clear p49
             try clear q49
             try clear hx49
             try clear hf49
             try clear c55b0
             try clear c56b0
             try clear c58b0
             try clear c59b0
             try clear c61b0
             try clear c62b0
             try clear p64
             try clear c67b0
             try clear c69b0
             try clear c76b0
             try clear hx24_0
             try clear hx25_0
             try clear hx421_0
             try clear hx422_0
             try clear hx424_0
             try clear hx425_0
             try clear hx428_0
             try clear hx429_0
             try clear hx431_0
             try clear hx432_0
             try clear hx435_0
             try clear hx436_0
             try clear hx48_0
             try clear hx49_0
             try clear p2
             try clear p24
             try clear p25
             try clear p4
             try clear p42
             try clear p421
             try clear p422
             try clear p424
             try clear p425
             try clear p428
             try clear p429
             try clear p43
             try clear p431
             try clear p432
             try clear p435
             try clear p436
             try clear p48
             try clear p49
             try clear p6
             try clear p64
             try clear q2
             try clear q24
             try clear q25
             try clear q4
             try clear q42
             try clear q421
             try clear q422
             try clear q424
             try clear q425
             try clear q428
             try clear q429
             try clear q43
             try clear q431
             try clear q432
             try clear q435
             try clear q436
             try clear q48
             try clear q49
             obtain ⟨kq, x199_74, rfl, HA, HJ74, HO_0, HK, HB⟩ := hcut
             cases kq with
             | zero => exact absurd HA.out (by simp [slices_symMergeCmpFunc_int.j8])
             | succ kj74 =>
              have H := HA.out
              clear HA
              simp only [slices_symMergeCmpFunc_int.j8] at H
              by_cases c77 : x199_74 = true
              ·subst c77
               replace H := ite_t_ H
               obtain ⟨t439, A78, H⟩ := bindE_ H
               by_cases c79 : (wrap64 ((IntKind.u64.wrap (wrap64 (a1 + a3))) / 2)) < (wrap64 ((wrap64 ((wrap64 ((IntKind.u64.wrap (wrap64 (a1 + a3))) / 2)) + a2)) - x20_2))
               ·rw [if_pos c79] at H
                have c79b0 : decide ((wrap64 ((IntKind.u64.wrap (wrap64 (a1 + a3))) / 2)) < (wrap64 ((wrap64 ((wrap64 ((IntKind.u64.wrap (wrap64 (a1 + a3))) / 2)) + a2)) - x20_2))) = true := decide_eq_true c79
                clear c79
                have HC80 := aa_ H
                clear H
                obtain ⟨Ao81, co81, eo81⟩ := Kd.R_slice HO_0.out
                subst eo81
                go_upto_if 213 with (first | ((with_reducible refine gC_ 60 rfl ?_); refine goesC_ (some 205) Try.func60 #[.slice Ao81 x0_69.length co81, .int .i64 a1, .int .i64 x20_2, .int .i64 (wrap64 ((IntKind.u64.wrap (wrap64 (a1 + a3))) / 2)), .func (.func 25) #[] #[.pointer (some ⟨ga4_, 0, none⟩)]] ?_; (with_reducible refine (ih kj74 (by have := HJ53.out; have := HK2.out; have := HJ67.out; have := HJ69.out; have := HJ74.out; omega) (fun k_ => some k_ = (.slice Ao81 x0_69.length co81 : Value).ownBlock) (.slice Ao81 x0_69.length co81) x0_69 a1 x20_2 (wrap64 ((IntKind.u64.wrap (wrap64 (a1 + a3))) / 2)) a4 ga4_ t439 w0 _ ?side1 ?side2 ?side3 A78.out).mono ?_); (case side1 => repeat (first | (with_reducible first | exact HB.out | apply below_alloc | apply pw_below_drewN | apply below_drew1) | exact HB.out)); (case side2 => exact Kd.R_tight rfl HO_0.out); (case side3 => exact fun W_ hW_ => HFN4.out W_ (Kept.then_ (by repeat (first | (with_reducible first | exact HK.out | apply Kept.alloc | apply Kept.drewN | apply Kept.drew) | exact HK.out)) hW_ (fun k_ hs_ => (fun e_ => (HO_0.out.1 k_ e_.symm)) hs_))); rintro e w82 ⟨rfl, hy0, hb, hkp⟩; refine ⟨_, rfl, ?_⟩; replace HK := aa_ (Kept.then_ (S := (fun k_ => P0_ k_)) (by repeat (first | (with_reducible first | exact HK.out | apply Kept.alloc | apply Kept.drewN | apply Kept.drew) | exact HK.out)) hkp (fun k_ hs_ => (fun e_ => (HO_0.out.1 k_ e_.symm)) hs_)); replace HO_0 := aa_ (Kd.R_reok rfl hy0 (fun k_ e_ => HO_0.out.1 k_ e_)); replace HB := aa_ (hb); (try clear hb hkp hy0)))
                (try simp only [Act.put, sb_, sz_, ss_])
                have H := HC80.out
                clear HC80
                by_cases c83 : (wrap64 ((wrap64 ((wrap64 ((IntKind.u64.wrap (wrap64 (a1 + a3))) / 2)) + a2)) - x20_2)) < a3
                ·rw [if_pos c83] at H
                 have c83b0 : decide ((wrap64 ((wrap64 ((wrap64 ((IntKind.u64.wrap (wrap64 (a1 + a3))) / 2)) + a2)) - x20_2)) < a3) = true := decide_eq_true c83
                 clear c83
                 (first | rw [c83b0] | (simp only [i64_w, i32_w]; rw [c83b0]) | skip)
                 obtain ⟨t440, A84, H⟩ := bindE_ H
                 as_aux_lemma =>
                  obtain rfl := Option.some.inj H
                  go_wp2_with (first | ((with_reducible refine gC_ 60 rfl ?_); refine goesC_ (some 219) Try.func60 #[.slice Ao81 x0_69.length co81, .int .i64 (wrap64 ((IntKind.u64.wrap (wrap64 (a1 + a3))) / 2)), .int .i64 (wrap64 ((wrap64 ((wrap64 ((IntKind.u64.wrap (wrap64 (a1 + a3))) / 2)) + a2)) - x20_2)), .int .i64 a3, .func (.func 25) #[] #[.pointer (some ⟨ga4_, 0, none⟩)]] ?_; (with_reducible refine (ih kj74 (by have := HJ53.out; have := HK2.out; have := HJ67.out; have := HJ69.out; have := HJ74.out; omega) (fun k_ => some k_ = (.slice Ao81 x0_69.length co81 : Value).ownBlock) (.slice Ao81 x0_69.length co81) t439 (wrap64 ((IntKind.u64.wrap (wrap64 (a1 + a3))) / 2)) (wrap64 ((wrap64 ((wrap64 ((IntKind.u64.wrap (wrap64 (a1 + a3))) / 2)) + a2)) - x20_2)) a3 a4 ga4_ t440 w0 _ ?side1 ?side2 ?side3 A84.out).mono ?_); (case side1 => repeat (first | (with_reducible first | exact HB.out | apply below_alloc | apply pw_below_drewN | apply below_drew1) | exact HB.out)); (case side2 => exact Kd.R_tight rfl HO_0.out); (case side3 => exact fun W_ hW_ => HFN4.out W_ (Kept.then_ (by repeat (first | (with_reducible first | exact HK.out | apply Kept.alloc | apply Kept.drewN | apply Kept.drew) | exact HK.out)) hW_ (fun k_ hs_ => (fun e_ => (HO_0.out.1 k_ e_.symm)) hs_))); rintro e w85 ⟨rfl, hy0, hb, hkp⟩; refine ⟨_, rfl, ?_⟩; replace HK := aa_ (Kept.then_ (S := (fun k_ => P0_ k_)) (by repeat (first | (with_reducible first | exact HK.out | apply Kept.alloc | apply Kept.drewN | apply Kept.drew) | exact HK.out)) hkp (fun k_ hs_ => (fun e_ => (HO_0.out.1 k_ e_.symm)) hs_)); replace HO_0 := aa_ (Kd.R_reok rfl hy0 (fun k_ e_ => HO_0.out.1 k_ e_)); replace HB := aa_ (hb); (try clear hb hkp hy0)))
                  first | go_end0 | ((try simp only [Exit.inBlock, Exit.then]); refine bodyPost_ret (results_none rfl _ _ _) rfl ?_)
                  exact ⟨eq_, by (with_reducible repeat (first | apply Kd.R_alloc | apply Kd.R_drewN | apply Kd.R_drew)); exact HO_0.out, bl_, by repeat (first | (with_reducible first | exact HK.out | apply Kept.alloc | apply Kept.drewN | apply Kept.drew) | exact HK.out)⟩
                ·rw [if_neg c83] at H
                 have c83b0 : decide ((wrap64 ((wrap64 ((wrap64 ((IntKind.u64.wrap (wrap64 (a1 + a3))) / 2)) + a2)) - x20_2)) < a3) = false := decide_eq_false c83
                 clear c83
                 (first | rw [c83b0] | (simp only [i64_w, i32_w]; rw [c83b0]) | skip)
                 as_aux_lemma =>
                  obtain rfl := Option.some.inj H
                  go_wp2
                  first | go_end0 | ((try simp only [Exit.inBlock, Exit.then]); refine bodyPost_ret (results_none rfl _ _ _) rfl ?_)
                  exact ⟨eq_, by (with_reducible repeat (first | apply Kd.R_alloc | apply Kd.R_drewN | apply Kd.R_drew)); exact HO_0.out, bl_, by repeat (first | (with_reducible first | exact HK.out | apply Kept.alloc | apply Kept.drewN | apply Kept.drew) | exact HK.out)⟩
               ·rw [if_neg c79] at H
                have c79b0 : decide ((wrap64 ((IntKind.u64.wrap (wrap64 (a1 + a3))) / 2)) < (wrap64 ((wrap64 ((wrap64 ((IntKind.u64.wrap (wrap64 (a1 + a3))) / 2)) + a2)) - x20_2))) = false := decide_eq_false c79
                clear c79
                as_aux_lemma =>
                 obtain rfl := Option.some.inj H
                 obtain ⟨Ao86, co86, eo86⟩ := Kd.R_slice HO_0.out
                 subst eo86
                 go_wp2_with (first | ((with_reducible refine gC_ 60 rfl ?_); refine goesC_ (some 205) Try.func60 #[.slice Ao86 x0_69.length co86, .int .i64 a1, .int .i64 x20_2, .int .i64 (wrap64 ((IntKind.u64.wrap (wrap64 (a1 + a3))) / 2)), .func (.func 25) #[] #[.pointer (some ⟨ga4_, 0, none⟩)]] ?_; (with_reducible refine (ih kj74 (by have := HJ53.out; have := HK2.out; have := HJ67.out; have := HJ69.out; have := HJ74.out; omega) (fun k_ => some k_ = (.slice Ao86 x0_69.length co86 : Value).ownBlock) (.slice Ao86 x0_69.length co86) x0_69 a1 x20_2 (wrap64 ((IntKind.u64.wrap (wrap64 (a1 + a3))) / 2)) a4 ga4_ t439 w0 _ ?side1 ?side2 ?side3 A78.out).mono ?_); (case side1 => repeat (first | (with_reducible first | exact HB.out | apply below_alloc | apply pw_below_drewN | apply below_drew1) | exact HB.out)); (case side2 => exact Kd.R_tight rfl HO_0.out); (case side3 => exact fun W_ hW_ => HFN4.out W_ (Kept.then_ (by repeat (first | (with_reducible first | exact HK.out | apply Kept.alloc | apply Kept.drewN | apply Kept.drew) | exact HK.out)) hW_ (fun k_ hs_ => (fun e_ => (HO_0.out.1 k_ e_.symm)) hs_))); rintro e w87 ⟨rfl, hy0, hb, hkp⟩; refine ⟨_, rfl, ?_⟩; replace HK := aa_ (Kept.then_ (S := (fun k_ => P0_ k_)) (by repeat (first | (with_reducible first | exact HK.out | apply Kept.alloc | apply Kept.drewN | apply Kept.drew) | exact HK.out)) hkp (fun k_ hs_ => (fun e_ => (HO_0.out.1 k_ e_.symm)) hs_)); replace HO_0 := aa_ (Kd.R_reok rfl hy0 (fun k_ e_ => HO_0.out.1 k_ e_)); replace HB := aa_ (hb); (try clear hb hkp hy0)))
                 first | go_end0 | ((try simp only [Exit.inBlock, Exit.then]); refine bodyPost_ret (results_none rfl _ _ _) rfl ?_)
                 exact ⟨eq_, by (with_reducible repeat (first | apply Kd.R_alloc | apply Kd.R_drewN | apply Kd.R_drew)); exact HO_0.out, bl_, by repeat (first | (with_reducible first | exact HK.out | apply Kept.alloc | apply Kept.drewN | apply Kept.drew) | exact HK.out)⟩
              ·replace c77 := Bool.eq_false_iff.mpr c77
               subst c77
               replace H := ite_f_ H
               by_cases c88 : (wrap64 ((IntKind.u64.wrap (wrap64 (a1 + a3))) / 2)) < (wrap64 ((wrap64 ((wrap64 ((IntKind.u64.wrap (wrap64 (a1 + a3))) / 2)) + a2)) - x20_2))
               ·rw [if_pos c88] at H
                have c88b0 : decide ((wrap64 ((IntKind.u64.wrap (wrap64 (a1 + a3))) / 2)) < (wrap64 ((wrap64 ((wrap64 ((IntKind.u64.wrap (wrap64 (a1 + a3))) / 2)) + a2)) - x20_2))) = true := decide_eq_true c88
                clear c88
                by_cases c89 : (wrap64 ((wrap64 ((wrap64 ((IntKind.u64.wrap (wrap64 (a1 + a3))) / 2)) + a2)) - x20_2)) < a3
                ·rw [if_pos c89] at H
                 have c89b0 : decide ((wrap64 ((wrap64 ((wrap64 ((IntKind.u64.wrap (wrap64 (a1 + a3))) / 2)) + a2)) - x20_2)) < a3) = true := decide_eq_true c89
                 clear c89
                 obtain ⟨t441, A90, H⟩ := bindE_ H
                 as_aux_lemma =>
                  obtain rfl := Option.some.inj H
                  obtain ⟨Ao91, co91, eo91⟩ := Kd.R_slice HO_0.out
                  subst eo91
                  go_wp2_with (first | ((with_reducible refine gC_ 60 rfl ?_); refine goesC_ (some 219) Try.func60 #[.slice Ao91 x0_69.length co91, .int .i64 (wrap64 ((IntKind.u64.wrap (wrap64 (a1 + a3))) / 2)), .int .i64 (wrap64 ((wrap64 ((wrap64 ((IntKind.u64.wrap (wrap64 (a1 + a3))) / 2)) + a2)) - x20_2)), .int .i64 a3, .func (.func 25) #[] #[.pointer (some ⟨ga4_, 0, none⟩)]] ?_; (with_reducible refine (ih kj74 (by have := HJ53.out; have := HK2.out; have := HJ67.out; have := HJ69.out; have := HJ74.out; omega) (fun k_ => some k_ = (.slice Ao91 x0_69.length co91 : Value).ownBlock) (.slice Ao91 x0_69.length co91) x0_69 (wrap64 ((IntKind.u64.wrap (wrap64 (a1 + a3))) / 2)) (wrap64 ((wrap64 ((wrap64 ((IntKind.u64.wrap (wrap64 (a1 + a3))) / 2)) + a2)) - x20_2)) a3 a4 ga4_ t441 w0 _ ?side1 ?side2 ?side3 A90.out).mono ?_); (case side1 => repeat (first | (with_reducible first | exact HB.out | apply below_alloc | apply pw_below_drewN | apply below_drew1) | exact HB.out)); (case side2 => exact Kd.R_tight rfl HO_0.out); (case side3 => exact fun W_ hW_ => HFN4.out W_ (Kept.then_ (by repeat (first | (with_reducible first | exact HK.out | apply Kept.alloc | apply Kept.drewN | apply Kept.drew) | exact HK.out)) hW_ (fun k_ hs_ => (fun e_ => (HO_0.out.1 k_ e_.symm)) hs_))); rintro e w92 ⟨rfl, hy0, hb, hkp⟩; refine ⟨_, rfl, ?_⟩; replace HK := aa_ (Kept.then_ (S := (fun k_ => P0_ k_)) (by repeat (first | (with_reducible first | exact HK.out | apply Kept.alloc | apply Kept.drewN | apply Kept.drew) | exact HK.out)) hkp (fun k_ hs_ => (fun e_ => (HO_0.out.1 k_ e_.symm)) hs_)); replace HO_0 := aa_ (Kd.R_reok rfl hy0 (fun k_ e_ => HO_0.out.1 k_ e_)); replace HB := aa_ (hb); (try clear hb hkp hy0)))
                  first | go_end0 | ((try simp only [Exit.inBlock, Exit.then]); refine bodyPost_ret (results_none rfl _ _ _) rfl ?_)
                  exact ⟨eq_, by (with_reducible repeat (first | apply Kd.R_alloc | apply Kd.R_drewN | apply Kd.R_drew)); exact HO_0.out, bl_, by repeat (first | (with_reducible first | exact HK.out | apply Kept.alloc | apply Kept.drewN | apply Kept.drew) | exact HK.out)⟩
                ·rw [if_neg c89] at H
                 have c89b0 : decide ((wrap64 ((wrap64 ((wrap64 ((IntKind.u64.wrap (wrap64 (a1 + a3))) / 2)) + a2)) - x20_2)) < a3) = false := decide_eq_false c89
                 clear c89
                 as_aux_lemma =>
                  obtain rfl := Option.some.inj H
                  go_wp2
                  first | go_end0 | ((try simp only [Exit.inBlock, Exit.then]); refine bodyPost_ret (results_none rfl _ _ _) rfl ?_)
                  exact ⟨eq_, by (with_reducible repeat (first | apply Kd.R_alloc | apply Kd.R_drewN | apply Kd.R_drew)); exact HO_0.out, bl_, by repeat (first | (with_reducible first | exact HK.out | apply Kept.alloc | apply Kept.drewN | apply Kept.drew) | exact HK.out)⟩
               ·rw [if_neg c88] at H
                have c88b0 : decide ((wrap64 ((IntKind.u64.wrap (wrap64 (a1 + a3))) / 2)) < (wrap64 ((wrap64 ((wrap64 ((IntKind.u64.wrap (wrap64 (a1 + a3))) / 2)) + a2)) - x20_2))) = false := decide_eq_false c88
                clear c88
                as_aux_lemma =>
                 obtain rfl := Option.some.inj H
                 go_wp2
                 first | go_end0 | ((try simp only [Exit.inBlock, Exit.then]); refine bodyPost_ret (results_none rfl _ _ _) rfl ?_)
                 exact ⟨eq_, by (with_reducible repeat (first | apply Kd.R_alloc | apply Kd.R_drewN | apply Kd.R_drew)); exact HO_0.out, bl_, by repeat (first | (with_reducible first | exact HK.out | apply Kept.alloc | apply Kept.drewN | apply Kept.drew) | exact HK.out)⟩
end Go.Proofs.Ytljhfomkakhflaa.PA
