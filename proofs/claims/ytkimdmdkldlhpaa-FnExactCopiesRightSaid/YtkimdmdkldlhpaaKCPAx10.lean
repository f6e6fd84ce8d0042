import Derived.Test.YtkimdmdkldlhpaaKCPAx9
-- printed by wip/tools
namespace Go.Proofs.Ytkimdmdkldlhpaa.PA
open Go.RowKit Go.Proofs.YtkimdmdkldlhpaaW.PrintWords Go.Proofs.YtkimdmdkldlhpaaW.PrintLast Go.Proofs.YtkimdmdkldlhpaaW.PrintMore
attribute [local go_sem] max2_int min2_int max_two min_two max_three min_three max_four min_four
set_option linter.unusedVariables false
set_option linter.unusedSimpArgs false
mutual
def impl_Item_85.l0 : Nat → List (S52) → Int → (S52 → S52 → Option Int) → Int → Int → Option ((List (S52)))
 | 0, _, _, _, _, _ => none
 | k + 1, x0, x1, x4, x10, x11 => if x10 < x11 then (if 0 ≤ (wrap64 ((IntKind.u64.wrap (wrap64 (x10 + x11))) / 2)) then (if (wrap64 ((IntKind.u64.wrap (wrap64 (x10 + x11))) / 2)) < (x0.length : Int) then (if 0 ≤ x1 then (if x1 < (x0.length : Int) then ((x4 (⟨(rd_T52 x0 (wrap64 ((IntKind.u64.wrap (wrap64 (x10 + x11))) / 2))).f0, (rd_T52 x0 (wrap64 ((IntKind.u64.wrap (wrap64 (x10 + x11))) / 2))).f1⟩ : S52) (⟨(rd_T52 x0 x1).f0, (rd_T52 x0 x1).f1⟩ : S52)).bind fun t385 => (if t385 < 0 then (impl_Item_85.l0 k x0 x1 x4 (wrap64 ((wrap64 ((IntKind.u64.wrap (wrap64 (x10 + x11))) / 2)) + 1)) x11) else (impl_Item_85.l0 k x0 x1 x4 x10 (wrap64 ((IntKind.u64.wrap (wrap64 (x10 + x11))) / 2))))) else (none)) else (none)) else (none)) else (none)) else (impl_Item_85.l1 k x0 x10 x1)
def impl_Item_85.l1 : Nat → List (S52) → Int → Int → Option ((List (S52)))
 | 0, _, _, _ => none
 | k + 1, x0, x10, x13 => if x13 < (wrap64 (x10 - 1)) then (if 0 ≤ (wrap64 (x13 + 1)) then (if (wrap64 (x13 + 1)) < (x0.length : Int) then (if 0 ≤ x13 then (if x13 < (x0.length : Int) then (impl_Item_85.l1 k ((x0.set (x13 : Int).toNat (⟨(rd_T52 x0 (wrap64 (x13 + 1))).f0, (rd_T52 x0 (wrap64 (x13 + 1))).f1⟩ : S52)).set ((wrap64 (x13 + 1)) : Int).toNat (⟨(rd_T52 x0 x13).f0, (rd_T52 x0 x13).f1⟩ : S52)) x10 (wrap64 (x13 + 1))) else (none)) else (none)) else (none)) else (none)) else (some x0)
def impl_Item_85.l2 : Nat → List (S52) → Int → (S52 → S52 → Option Int) → Int → Int → Option ((List (S52)))
 | 0, _, _, _, _, _ => none
 | k + 1, x0, x2, x4, x14, x15 => if x14 < x15 then (if 0 ≤ x2 then (if x2 < (x0.length : Int) then (if 0 ≤ (wrap64 ((IntKind.u64.wrap (wrap64 (x14 + x15))) / 2)) then (if (wrap64 ((IntKind.u64.wrap (wrap64 (x14 + x15))) / 2)) < (x0.length : Int) then ((x4 (⟨(rd_T52 x0 x2).f0, (rd_T52 x0 x2).f1⟩ : S52) (⟨(rd_T52 x0 (wrap64 ((IntKind.u64.wrap (wrap64 (x14 + x15))) / 2))).f0, (rd_T52 x0 (wrap64 ((IntKind.u64.wrap (wrap64 (x14 + x15))) / 2))).f1⟩ : S52)).bind fun t392 => (if t392 < 0 then (impl_Item_85.l2 k x0 x2 x4 x14 (wrap64 ((IntKind.u64.wrap (wrap64 (x14 + x15))) / 2))) else (impl_Item_85.l2 k x0 x2 x4 (wrap64 ((wrap64 ((IntKind.u64.wrap (wrap64 (x14 + x15))) / 2)) + 1)) x15))) else (none)) else (none)) else (none)) else (none)) else (impl_Item_85.l3 k x0 x14 x2)
def impl_Item_85.l3 : Nat → List (S52) → Int → Int → Option ((List (S52)))
 | 0, _, _, _ => none
 | k + 1, x0, x14, x17 => if x17 > x14 then (if 0 ≤ (wrap64 (x17 - 1)) then (if (wrap64 (x17 - 1)) < (x0.length : Int) then (if 0 ≤ x17 then (if x17 < (x0.length : Int) then (impl_Item_85.l3 k ((x0.set (x17 : Int).toNat (⟨(rd_T52 x0 (wrap64 (x17 - 1))).f0, (rd_T52 x0 (wrap64 (x17 - 1))).f1⟩ : S52)).set ((wrap64 (x17 - 1)) : Int).toNat (⟨(rd_T52 x0 x17).f0, (rd_T52 x0 x17).f1⟩ : S52)) x14 (wrap64 (x17 - 1))) else (none)) else (none)) else (none)) else (none)) else (some x0)
def impl_Item_85.j4 : Nat → List (S52) → Int → Int → Int → (S52 → S52 → Option Int) → Int → Int → Int → Int → Option ((List (S52)))
 | 0, _, _, _, _, _, _, _, _, _ => none
 | k + 1, x0, x1, x2, x3, x4, x18, x19, x20, x21 => impl_Item_85.l4 k x0 x1 x2 x3 x4 x18 x19 x20 x21 (wrap64 (x19 - 1))
def impl_Item_85.l4 : Nat → List (S52) → Int → Int → Int → (S52 → S52 → Option Int) → Int → Int → Int → Int → Int → Option ((List (S52)))
 | 0, _, _, _, _, _, _, _, _, _, _ => none
 | k + 1, x0, x1, x2, x3, x4, x18, x19, x20, x21, x22 => if x20 < x21 then (if 0 ≤ (wrap64 (x22 - (wrap64 ((IntKind.u64.wrap (wrap64 (x20 + x21))) / 2)))) then (if (wrap64 (x22 - (wrap64 ((IntKind.u64.wrap (wrap64 (x20 + x21))) / 2)))) < (x0.length : Int) then (if 0 ≤ (wrap64 ((IntKind.u64.wrap (wrap64 (x20 + x21))) / 2)) then (if (wrap64 ((IntKind.u64.wrap (wrap64 (x20 + x21))) / 2)) < (x0.length : Int) then ((x4 (⟨(rd_T52 x0 (wrap64 (x22 - (wrap64 ((IntKind.u64.wrap (wrap64 (x20 + x21))) / 2))))).f0, (rd_T52 x0 (wrap64 (x22 - (wrap64 ((IntKind.u64.wrap (wrap64 (x20 + x21))) / 2))))).f1⟩ : S52) (⟨(rd_T52 x0 (wrap64 ((IntKind.u64.wrap (wrap64 (x20 + x21))) / 2))).f0, (rd_T52 x0 (wrap64 ((IntKind.u64.wrap (wrap64 (x20 + x21))) / 2))).f1⟩ : S52)).bind fun t399 => (if t399 < 0 then (impl_Item_85.l4 k x0 x1 x2 x3 x4 x18 x19 x20 (wrap64 ((IntKind.u64.wrap (wrap64 (x20 + x21))) / 2)) x22) else (impl_Item_85.l4 k x0 x1 x2 x3 x4 x18 x19 (wrap64 ((wrap64 ((IntKind.u64.wrap (wrap64 (x20 + x21))) / 2)) + 1)) x21 x22))) else (none)) else (none)) else (none)) else (none)) else (if x20 < x2 then (impl_Item_85.j6 k x0 x1 x2 x3 x4 x18 x20 (wrap64 (x19 - x20)) (decide (x2 < (wrap64 (x19 - x20))))) else (impl_Item_85.j6 k x0 x1 x2 x3 x4 x18 x20 (wrap64 (x19 - x20)) false))
def impl_Item_85.j6 : Nat → List (S52) → Int → Int → Int → (S52 → S52 → Option Int) → Int → Int → Int → Bool → Option ((List (S52)))
 | 0, _, _, _, _, _, _, _, _, _ => none
 | k + 1, x0, x1, x2, x3, x4, x18, x20, x24, x185 => if x185 = true then ((impl_Item_91.f k x0 x20 x2 x24 x4).bind fun t400 => (impl_Item_85.j7 k t400 x1 x3 x4 x18 x20 x24)) else (impl_Item_85.j7 k x0 x1 x3 x4 x18 x20 x24)
def impl_Item_85.j7 : Nat → List (S52) → Int → Int → (S52 → S52 → Option Int) → Int → Int → Int → Option ((List (S52)))
 | 0, _, _, _, _, _, _, _ => none
 | k + 1, x0, x1, x3, x4, x18, x20, x24 => if x1 < x20 then (impl_Item_85.j8 k x0 x1 x3 x4 x18 x20 x24 (decide (x20 < x18))) else (impl_Item_85.j8 k x0 x1 x3 x4 x18 x20 x24 false)
def impl_Item_85.j8 : Nat → List (S52) → Int → Int → (S52 → S52 → Option Int) → Int → Int → Int → Bool → Option ((List (S52)))
 | 0, _, _, _, _, _, _, _, _ => none
 | k + 1, x0, x1, x3, x4, x18, x20, x24, x199 => if x199 = true then ((impl_Item_85.f k x0 x1 x20 x18 x4).bind fun t401 => (if x18 < x24 then (if x24 < x3 then ((impl_Item_85.f k t401 x18 x24 x3 x4).bind fun t402 => (some t402)) else (some t401)) else (some t401))) else (if x18 < x24 then (if x24 < x3 then ((impl_Item_85.f k x0 x18 x24 x3 x4).bind fun t403 => (some t403)) else (some x0)) else (some x0))
def impl_Item_85.f : Nat → List (S52) → Int → Int → Int → (S52 → S52 → Option Int) → Option ((List (S52)))
 | 0, _, _, _, _, _ => none
 | k + 1, l0, a1, a2, a3, a4 => if (wrap64 (a2 - a1)) = 1 then (impl_Item_85.l0 k l0 a1 a4 a2 a3) else (if (wrap64 (a3 - a2)) = 1 then (impl_Item_85.l2 k l0 a2 a4 a1 a2) else (if a2 > (wrap64 ((IntKind.u64.wrap (wrap64 (a1 + a3))) / 2)) then (impl_Item_85.j4 k l0 a1 a2 a3 a4 (wrap64 ((IntKind.u64.wrap (wrap64 (a1 + a3))) / 2)) (wrap64 ((wrap64 ((IntKind.u64.wrap (wrap64 (a1 + a3))) / 2)) + a2)) (wrap64 ((wrap64 ((wrap64 ((IntKind.u64.wrap (wrap64 (a1 + a3))) / 2)) + a2)) - a3)) (wrap64 ((IntKind.u64.wrap (wrap64 (a1 + a3))) / 2))) else (impl_Item_85.j4 k l0 a1 a2 a3 a4 (wrap64 ((IntKind.u64.wrap (wrap64 (a1 + a3))) / 2)) (wrap64 ((wrap64 ((IntKind.u64.wrap (wrap64 (a1 + a3))) / 2)) + a2)) a1 a2)))
end
def impl_Item_85.T5 : Bool × List (List Nat × List Nat) := (true, [([], []), ([], []), ([], []), ([1, 2], [1, 2]), ([3], [3]), ([], []), ([], []), ([5, 6], [5, 6]), ([7], [7]), ([0, 4, 8], [0, 4, 8]), ([9], [9])])
def impl_Item_85.B5 : List Nat := [0, 0, 0, 6, 14, 0, 0, 96, 224, 511, 1023]
theorem impl_Item_85.tab5 : rtab .any (opsOf Try.f85 5) = impl_Item_85.T5 := by kernel_rfl
theorem impl_Item_85.bits5 : waitsOk impl_Item_85.T5.2 impl_Item_85.B5 = true := by kernel_rfl
def impl_Item_85.T11 : Bool × List (List Nat × List Nat) := (true, [([], []), ([], []), ([], []), ([], []), ([3], [3]), ([], []), ([], []), ([6], [6]), ([5, 7], [5, 7]), ([8], [8]), ([], []), ([], []), ([10, 11], [10, 11]), ([12], [12]), ([0, 1, 0, 1, 5, 6, 7, 8, 9, 13], [0, 1]), ([14, 9, 0, 1, 5, 6, 7, 8, 9, 13], [9, 14]), ([2, 4, 0, 1, 2, 3, 4, 5, 6, 7, 8, 9, 10, 11, 12, 13, 14, 15], [2, 4]), ([16, 13, 15, 0, 1, 2, 3, 4, 5, 6, 7, 8, 9, 10, 11, 12, 13, 14, 15], [13, 16])])
def impl_Item_85.B11 : List Nat := [0, 0, 0, 0, 8, 0, 0, 64, 224, 480, 0, 0, 3072, 7168, 16355, 32739, 65535, 131071]
theorem impl_Item_85.tab11 : rtab .any (opsOf Try.f85 11) = impl_Item_85.T11 := by kernel_rfl
theorem impl_Item_85.bits11 : waitsOk impl_Item_85.T11.2 impl_Item_85.B11 = true := by kernel_rfl
def impl_Item_85.T17 : Bool × List (List Nat × List Nat) := (true, [([], []), ([], []), ([], []), ([1, 2], [1, 2]), ([3], [3]), ([], []), ([], []), ([5, 6], [5, 6]), ([7], [7]), ([0, 4, 8], [0, 4, 8]), ([9], [9]), ([10], [10])])
def impl_Item_85.B17 : List Nat := [0, 0, 0, 6, 14, 0, 0, 96, 224, 511, 1023, 2047]
theorem impl_Item_85.tab17 : rtab .any (opsOf Try.f85 17) = impl_Item_85.T17 := by kernel_rfl
theorem impl_Item_85.bits17 : waitsOk impl_Item_85.T17.2 impl_Item_85.B17 = true := by kernel_rfl
def impl_Item_85.T23 : Bool × List (List Nat × List Nat) := (true, [([], []), ([], []), ([], []), ([], []), ([3], [3]), ([], []), ([], []), ([6], [6]), ([5, 7], [5, 7]), ([8], [8]), ([], []), ([], []), ([10, 11], [10, 11]), ([12], [12]), ([0, 1, 0, 1, 5, 6, 7, 8, 9, 13], [0, 1]), ([14, 9, 0, 1, 5, 6, 7, 8, 9, 13], [9, 14]), ([2, 4, 0, 1, 2, 3, 4, 5, 6, 7, 8, 9, 10, 11, 12, 13, 14, 15], [2, 4]), ([16, 13, 15, 0, 1, 2, 3, 4, 5, 6, 7, 8, 9, 10, 11, 12, 13, 14, 15], [13, 16])])
def impl_Item_85.B23 : List Nat := [0, 0, 0, 0, 8, 0, 0, 64, 224, 480, 0, 0, 3072, 7168, 16355, 32739, 65535, 131071]
theorem impl_Item_85.tab23 : rtab .any (opsOf Try.f85 23) = impl_Item_85.T23 := by kernel_rfl
theorem impl_Item_85.bits23 : waitsOk impl_Item_85.T23.2 impl_Item_85.B23 = true := by kernel_rfl
def impl_Item_85.T35 : Bool × List (List Nat × List Nat) := (true, [([], []), ([], []), ([], []), ([], []), ([2, 3], [2, 3]), ([1, 4], [1, 4]), ([5], [5]), ([], []), ([], []), ([7, 8], [7, 8]), ([9], [9]), ([0, 6, 10], [0, 6, 10]), ([11], [11]), ([12], [12])])
def impl_Item_85.B35 : List Nat := [0, 0, 0, 0, 12, 30, 62, 0, 0, 384, 896, 2047, 4095, 8191]
theorem impl_Item_85.tab35 : rtab .any (opsOf Try.f85 35) = impl_Item_85.T35 := by kernel_rfl
theorem impl_Item_85.bits35 : waitsOk impl_Item_85.T35.2 impl_Item_85.B35 = true := by kernel_rfl
set_option maxHeartbeats 8000000 in
set_option maxRecDepth 100000 in
theorem impl_Item_85.calls (k : Nat) : ∀ (P0_ : Nat → Prop) (u9000_ : Value) (l0 : List (S52)) (a1 : Int) (a2 : Int) (a3 : Int) (a4 : (S52 → S52 → Option Int)) (na4_ : Nat) (ga4_ : Array Value) (r : List (S52)) (w0 w : World) (hB : Below w0.heap.size w0 w) (ho0 : Kd.R k52 52 w w0.heap.size P0_ u9000_ l0) (hq4 : ∀ W_, FnOk252 a4 na4_ ga4_ W_) (h : impl_Item_85.f k l0 a1 a2 a3 a4 = some r),
  Calls Try.prog 85 #[u9000_, .int .i64 a1, .int .i64 a2, .int .i64 a3, .func (.func na4_) #[] ga4_] w fun e w' => e = .returned (.tuple #[]) ∧ Kd.R k52 52 w' w0.heap.size (fun k_ => (P0_ k_ ∨ w.heap.size ≤ k_)) u9000_ r ∧ Below w0.heap.size w0 w' ∧ Kept w w' (fun k_ => P0_ k_) := by
 induction k using Nat.strongRecOn with
 | _ k ih =>
 intro P0_ u9000_ l0 a1 a2 a3 a4 na4_ ga4_ r w0 w hB ho0 hq4 h
 cases k with
 | zero => exact absurd h (by simp [impl_Item_85.f])
 | succ k =>
 simp only [impl_Item_85.f] at h
 have hu52 := Try.underlying52
 have HO0 := aa_ (show Kd.R k52 52 w w0.heap.size (fun k_ => (P0_ k_ ∨ w.heap.size ≤ k_)) u9000_ l0 from Kd.R_mono ho0 (fun k_ hk => (.inl hk)))
 have HK := aa_ (Kept.refl w (fun k_ => P0_ k_))
 have HFN4 := aa_ hq4
 have eg4 := (hq4 w).1
 clear hq4
 have HW0 := aa_ hB.size
 have HB := aa_ hB
 clear hB
 have H : (if (wrap64 (a2 - a1)) = 1 then (impl_Item_85.l0 k l0 a1 a4 a2 a3) else (if (wrap64 (a3 - a2)) = 1 then (impl_Item_85.l2 k l0 a2 a4 a1 a2) else (if a2 > (wrap64 ((IntKind.u64.wrap (wrap64 (a1 + a3))) / 2)) then (impl_Item_85.j4 k l0 a1 a2 a3 a4 (wrap64 ((IntKind.u64.wrap (wrap64 (a1 + a3))) / 2)) (wrap64 ((wrap64 ((IntKind.u64.wrap (wrap64 (a1 + a3))) / 2)) + a2)) (wrap64 ((wrap64 ((wrap64 ((IntKind.u64.wrap (wrap64 (a1 + a3))) / 2)) + a2)) - a3)) (wrap64 ((IntKind.u64.wrap (wrap64 (a1 + a3))) / 2))) else (impl_Item_85.j4 k l0 a1 a2 a3 a4 (wrap64 ((IntKind.u64.wrap (wrap64 (a1 + a3))) / 2)) (wrap64 ((wrap64 ((IntKind.u64.wrap (wrap64 (a1 + a3))) / 2)) + a2)) a1 a2)))) = some r := h
 clear h
 by_cases c6 : (wrap64 (a2 - a1)) = 1
 ·rw [if_pos c6] at H
  have c6b0 : ((wrap64 (a2 - a1)) == 1) = true := beq_iff_eq.mpr c6
  have c6b1 : ((wrap64 (a2 - a1)) != 1) = false := bne_eq_false_iff_eq.mpr c6
  clear c6
  have H' := aa_ H
  clear H
  go_enter Try.func85, Try.ntmps85
  go_wp2
  go_loopg [10, 11] k (fun kq v10 v11 w' => ∃ (x10_1 : Int) (x11_1 : Int), v10 = .int .i64 x10_1 ∧ v11 = .int .i64 x11_1 ∧ Aside0 (impl_Item_85.l0 kq l0 a1 a4 x10_1 x11_1 = some r) ∧ Aside0 (kq ≤ k) ∧ Aside0 (Kd.R k52 52 w' w0.heap.size (fun k_ => (P0_ k_ ∨ w.heap.size ≤ k_)) u9000_ l0) ∧ Aside0 (Kept w w' (fun k_ => P0_ k_)) ∧ Aside0 (Below w0.heap.size w0 w'))
  case atStart => exact ⟨(a2), (a3), rf_, rf_, H', ⟨Nat.le_refl _⟩, ⟨rr_ HO0⟩, ⟨by repeat (first | (with_reducible first | exact HK.out | apply Kept.alloc | apply Kept.drewN | apply Kept.drew) | exact HK.out)⟩, ⟨bl_⟩⟩
  case round =>
   clear H'
   try clear p2
   try clear q4
   try clear c6
   try clear c6b0
   try clear c6b1
   try clear p6
   obtain ⟨x10_1, x11_1, rfl, rfl, HA, HK1, HO_0, HK, HB⟩ := hrel
   cases gk with
   | zero => exact absurd HA.out (by simp [impl_Item_85.l0])
   | succ k1 =>
    have H := HA.out
    clear HA
    simp only [impl_Item_85.l0] at H
    by_cases c7 : x10_1 < x11_1
    ·rw [if_pos c7] at H
     have c7b0 : decide (x10_1 < x11_1) = true := decide_eq_true c7
     clear c7
     obtain ⟨ji8, hji8⟩ : ∃ j_ : Int, (wrap64 ((IntKind.u64.wrap (wrap64 (x10_1 + x11_1))) / 2)) = j_ := ⟨_, rfl⟩
     replace H : (if 0 ≤ (ji8) then (if (ji8) < (l0.length : Int) then (if 0 ≤ a1 then (if a1 < (l0.length : Int) then ((a4 (⟨(rd_T52 l0 (ji8)).f0, (rd_T52 l0 (ji8)).f1⟩ : S52) (⟨(rd_T52 l0 a1).f0, (rd_T52 l0 a1).f1⟩ : S52)).bind fun t385 => (if t385 < 0 then (impl_Item_85.l0 k1 l0 a1 a4 (wrap64 ((ji8) + 1)) x11_1) else (impl_Item_85.l0 k1 l0 a1 a4 x10_1 ji8))) else (none)) else (none)) else (none)) else (none)) = some r := by first | (rw [hji8] at H; exact H) | (simp only [hji8] at H ⊢; exact H)
     have hji8w : (IntKind.i64.wrap ((IntKind.u64.wrap (wrap64 (x10_1 + x11_1))) / 2)) = ji8 := (i64_w _).trans hji8
     obtain ⟨c9b0, H⟩ := ifd_ H
     obtain ⟨c10b0, H⟩ := ifd_ H
     obtain ⟨c11b0, H⟩ := ifd_ H
     obtain ⟨c12b0, H⟩ := ifd_ H
     obtain ⟨t385, A13, H⟩ := bindE_ H
     have HC14 := aa_ H
     clear H
     try go_wp2
     replace HO_0 := aa_ (Kd.R_drew HO_0.out)
     replace HK := aa_ (Kept.drew HK.out)
     replace HB := aa_ (below_drew1 HB.out)
     obtain ⟨Ao16, co16, eo16⟩ := Kd.R_slice HO_0.out
     (first | subst eo16 | (injection eo16 with f1_ f2_ f3_; have f4_ := f1_.symm; have f5_ := f3_.symm; clear f1_ f2_ f3_; subst f4_; subst f5_))
     have p383 : 0 ≤ ((ji8) : Int) := od_
     have q383 : (ji8) < (l0.length : Int) := od_
     obtain ⟨ad383, e383, hx383_0, hx383_1⟩ := at_T52 (Kd.R_reads' HO_0.out).2.2 (ji8) p383 q383
     cases e383
     replace p383 := eq_true p383
     replace q383 := eq_true q383
     have p384 : 0 ≤ (a1 : Int) := od_
     have q384 : a1 < (l0.length : Int) := od_
     obtain ⟨ad384, e384, hx384_0, hx384_1⟩ := at_T52 (Kd.R_reads' HO_0.out).2.2 a1 p384 q384
     obtain rfl : ad383 = ad384 := (by injection e384)
     replace p384 := eq_true p384
     replace q384 := eq_true q384
     refine start_ (n := 11) (S := fun w' => w'.cell? (ad383.add (((ji8)).toNat * 2)) = some (.string ((rd_T52 l0 (ji8)).f0)) ∧ w'.cell? ⟨(ad383.add (((ji8)).toNat * 2)).block, (ad383.add (((ji8)).toNat * 2)).off + 1, none⟩ = some (.bool ((rd_T52 l0 (ji8)).f1)) ∧ w'.cell? (ad383.add ((a1).toNat * 2)) = some (.string ((rd_T52 l0 a1).f0)) ∧ w'.cell? ⟨(ad383.add ((a1).toNat * 2)).block, (ad383.add ((a1).toNat * 2)).off + 1, none⟩ = some (.bool ((rd_T52 l0 a1).f1))) (ds := []) (ba_ 11 0) (by kernel_rfl) rfl rfl ⟨hx383_0, hx383_1, hx384_0, hx384_1⟩ (fun hHeld => ?_); refine with_tabW impl_Item_85.tab5 impl_Item_85.bits5 (fun HT_ HW_ => ?_)
     generalize wr.drew = w15 at HO_0 HK HB hx383_0 hx383_1 hx384_0 hx384_1 hHeld ⊢
     refine pureZ_ (i := 0) (some 40) (ba_ 11 1) (ao_ HT_) ?_
     refine pureZ_ (i := 1) (some 41) (ba_ 11 3) (ao_ HT_) ?_
     refine pureZ_ (i := 2) (some 42) (ba_ 11 7) (ao_ HT_) ?_
     refine pureZ_ (i := 3) (some 43) (ba_ 11 15) (ao_ HT_) ?_
     refine pureZ_ (i := 5) (some 45) (ba_ 11 47) (ao_ HT_) ?_
     refine pureZ_ (i := 6) (some 46) (ba_ 11 111) (ao_ HT_) ?_
     refine pureZ_ (i := 7) (some 47) (ba_ 11 239) (ao_ HT_) ?_
     refine takeZ_ (i := 4) (some 44) (ba_ 11 255) (take_ofW HT_.out HW_.out (by kernel_rfl)) hHeld ?_
     refine takeZ_ (i := 8) (some 48) (ba_ 11 511) (take_ofW HT_.out HW_.out (by kernel_rfl)) hHeld ?_
     refine one_ (i := 9) (N := some 49) (ba_ 11 1023) rfl rfl (one_of HT_.out (by kernel_rfl)) (by decide) (fun K hK => ?_)
     refine goesw_ eg4 #[.agg #[.string ((rd_T52 l0 (ji8)).f0), .bool ((rd_T52 l0 (ji8)).f1)], .agg #[.string ((rd_T52 l0 a1).f0), .bool ((rd_T52 l0 a1).f1)]] (by rfl) rfl rfl (by rfl) (by (try simp only [List.map_toArray, List.map_cons, List.map_nil]); first | done | (simp only [hji8]; rfl) | rfl) ?_
     refine ((HFN4.out _).2 _ _ _ A13.out).mono ?_
     rintro e w17 ⟨rfl, hb⟩
     have HS0_ := (hb.cell (World.block_lt_of_cell? _ _ (hHeld.1))).trans (hHeld.1)
     have HS1_ := (hb.cell (World.block_lt_of_cell? _ _ (hHeld.2.1))).trans (hHeld.2.1)
     have HS2_ := (hb.cell (World.block_lt_of_cell? _ _ (hHeld.2.2.1))).trans (hHeld.2.2.1)
     have HS3_ := (hb.cell (World.block_lt_of_cell? _ _ (hHeld.2.2.2))).trans (hHeld.2.2.2)
     refine ⟨_, rfl, ?_⟩
     replace HO_0 := hob_ HO_0 hb
     replace HK := aa_ (Kept.below (S := (fun k_ => P0_ k_)) (by repeat (first | (with_reducible first | exact HK.out | apply Kept.alloc | apply Kept.drewN | apply Kept.drew) | exact HK.out)) hb)
     replace HB := hbs_ hb
     (try clear hb)
     (try clear hb2)
     (try clear hk)
     (try clear hi)
     refine hK.out _ _ ⟨HS0_, HS1_, HS2_, HS3_⟩ (fun hHeld => ?_)
     clear hK K
     refine norm_ (a' := ?_) ?_ ?_
     rotate_left
     ·show Act.put _ (some 49) _ = _
      simp only [Act.put, List.setIfInBounds_toArray, List.set_cons_zero, List.set_cons_succ, i64_w, i32_w]
      rfl
     refine pureZ_ (i := 10) (some 50) (ba_ 11 2047) (ao_ HT_) ?_
     refine done_ (done_of HT_.out (by kernel_rfl)) ?_
     go_upto_if 50 with (fail)
     have H := HC14.out
     clear HC14
     by_cases c18 : t385 < 0
     ·rw [if_pos c18] at H
      have c18b0 : decide (t385 < 0) = true := decide_eq_true c18
      clear c18
      (first | rw [c18b0] | (simp only [i64_w, i32_w]; rw [c18b0]) | skip)
      as_aux_lemma =>
       have H' := aa_ H
       clear H
       go_wp2
       go_roundg k1
       case measure => have := HK1.out; omega
       case rel => exact ⟨(wrap64 ((ji8) + 1)), (x11_1), (by first | rfl | (simp; done) | (simp only [← hji8] <;> (first | rfl | simp)) | (simp [*]; done)), rf_, H', ⟨by have := HK1.out; omega⟩, ⟨rr_ HO_0⟩, ⟨by repeat (first | (with_reducible first | exact HK.out | apply Kept.alloc | apply Kept.drewN | apply Kept.drew) | exact HK.out)⟩, ⟨bl_⟩⟩
     ·rw [if_neg c18] at H
      have c18b0 : decide (t385 < 0) = false := decide_eq_false c18
      clear c18
      (first | rw [c18b0] | (simp only [i64_w, i32_w]; rw [c18b0]) | skip)
      as_aux_lemma =>
       have H' := aa_ H
       clear H
       go_wp2
       go_roundg k1
       case measure => have := HK1.out; omega
       case rel => exact ⟨(x10_1), (ji8), rf_, (by first | rfl | (simp; done) | (simp only [← hji8] <;> (first | rfl | simp)) | (simp [*]; done)), H', ⟨by have := HK1.out; omega⟩, ⟨rr_ HO_0⟩, ⟨by repeat (first | (with_reducible first | exact HK.out | apply Kept.alloc | apply Kept.drewN | apply Kept.drew) | exact HK.out)⟩, ⟨bl_⟩⟩
    ·rw [if_neg c7] at H
     have c7b0 : decide (x10_1 < x11_1) = false := decide_eq_false c7
     clear c7
     have H' := aa_ H
     clear H
     go_wp2
     go_loopg [13] k1 (fun kq v13 w' => ∃ (x0_2 : List (S52)) (x13_2 : Int), v13 = .int .i64 x13_2 ∧ Aside0 (impl_Item_85.l1 kq x0_2 x10_1 x13_2 = some r) ∧ Aside0 (kq ≤ k1) ∧ Aside0 (Kd.R k52 52 w' w0.heap.size (fun k_ => (P0_ k_ ∨ w.heap.size ≤ k_)) u9000_ x0_2) ∧ Aside0 (Kept w w' (fun k_ => P0_ k_)) ∧ Aside0 (Below w0.heap.size w0 w'))
     case atStart => exact ⟨(l0), (a1), rf_, H', ⟨Nat.le_refl _⟩, ⟨rr_ HO_0⟩, ⟨by repeat (first | (with_reducible first | exact HK.out | apply Kept.alloc | apply Kept.drewN | apply Kept.drew) | exact HK.out)⟩, ⟨bl_⟩⟩
     case round =>
      clear H'
      try clear c1
      try clear p2
      try clear p3
      try clear q3
      try clear hx3
      try clear q4
      try clear c6
      try clear c6b0
      try clear c6b1
      try clear p6
      try clear c7
      try clear c7b0
      try clear c8
      try clear c9
      try clear c9b0
      try clear c10
      try clear c10b0
      try clear c11
      try clear c11b0
      try clear c12
      try clear c12b0
      try clear c18
      try clear c18b0
      try clear hx383_0
      try clear hx383_1
      try clear hx384_0
      try clear hx384_1
      try clear p2
      try clear p383
      try clear p384
      try clear p6
      try clear q383
      try clear q384
      try clear q4
      obtain ⟨x0_2, x13_2, rfl, HA, HK2, HO_0, HK, HB⟩ := hrel
      cases gk with
      | zero => exact absurd HA.out (by simp [impl_Item_85.l1])
      | succ k2 =>
       have H := HA.out
       clear HA
       simp only [impl_Item_85.l1] at H
       by_cases c19 : x13_2 < (wrap64 (x10_1 - 1))
       ·rw [if_pos c19] at H
        have c19b0 : decide (x13_2 < (wrap64 (x10_1 - 1))) = true := decide_eq_true c19
        clear c19
        obtain ⟨ji20, hji20⟩ : ∃ j_ : Int, (wrap64 (x13_2 + 1)) = j_ := ⟨_, rfl⟩
        replace H : (if 0 ≤ (ji20) then (if (ji20) < (x0_2.length : Int) then (if 0 ≤ x13_2 then (if x13_2 < (x0_2.length : Int) then (impl_Item_85.l1 k2 ((x0_2.set (x13_2 : Int).toNat (⟨(rd_T52 x0_2 (ji20)).f0, (rd_T52 x0_2 (ji20)).f1⟩ : S52)).set ((ji20) : Int).toNat (⟨(rd_T52 x0_2 x13_2).f0, (rd_T52 x0_2 x13_2).f1⟩ : S52)) x10_1 ji20) else (none)) else (none)) else (none)) else (none)) = some r := by first | (rw [hji20] at H; exact H) | (simp only [hji20] at H ⊢; exact H)
        have hji20w : (IntKind.i64.wrap (x13_2 + 1)) = ji20 := (i64_w _).trans hji20
        obtain ⟨c21b0, H⟩ := ifd_ H
        obtain ⟨c22b0, H⟩ := ifd_ H
        obtain ⟨c23b0, H⟩ := ifd_ H
        obtain ⟨c24b0, H⟩ := ifd_ H
        obtain ⟨y388, hy388⟩ : ∃ y_ : List (S52), y_ = (x0_2.set (x13_2 : Int).toNat (⟨(rd_T52 x0_2 (ji20)).f0, (rd_T52 x0_2 (ji20)).f1⟩ : S52)) := ⟨_, rfl⟩
        replace H : (impl_Item_85.l1 k2 (y388.set ((ji20) : Int).toNat (⟨(rd_T52 x0_2 x13_2).f0, (rd_T52 x0_2 x13_2).f1⟩ : S52)) x10_1 ji20) = some r := rh_ hy388 H
        have Ny388 := aa_ hy388
        clear hy388
        obtain ⟨y389, hy389⟩ : ∃ y_ : List (S52), y_ = (y388.set ((ji20) : Int).toNat (⟨(rd_T52 x0_2 x13_2).f0, (rd_T52 x0_2 x13_2).f1⟩ : S52)) := ⟨_, rfl⟩
        replace H : (impl_Item_85.l1 k2 y389 x10_1 ji20) = some r := rh_ hy389 H
        have Ny389 := aa_ hy389
        clear hy389
        as_aux_lemma =>
         have H' := aa_ H
         clear H
         try go_wp2
         replace HO_0 := aa_ (Kd.R_drew HO_0.out)
         replace HK := aa_ (Kept.drew HK.out)
         replace HB := aa_ (below_drew1 HB.out)
         obtain ⟨Ao28, co28, eo28⟩ := Kd.R_slice HO_0.out
         (first | subst eo28 | (injection eo28 with f1_ f2_ f3_; have f4_ := f1_.symm; have f5_ := f3_.symm; clear f1_ f2_ f3_; subst f4_; subst f5_))
         have p386 : 0 ≤ ((ji20) : Int) := od_
         have q386 : (ji20) < (x0_2.length : Int) := od_
         obtain ⟨ad386, e386, hx386_0, hx386_1⟩ := at_T52 (Kd.R_reads' HO_0.out).2.2 (ji20) p386 q386
         cases e386
         replace p386 := eq_true p386
         replace q386 := eq_true q386
         have p387 : 0 ≤ (x13_2 : Int) := od_
         have q387 : x13_2 < (x0_2.length : Int) := od_
         obtain ⟨ad387, e387, hx387_0, hx387_1⟩ := at_T52 (Kd.R_reads' HO_0.out).2.2 x13_2 p387 q387
         obtain rfl : ad386 = ad387 := (by injection e387)
         replace p387 := eq_true p387
         replace q387 := eq_true q387
         have p25 : 0 ≤ (x13_2 : Int) := od_
         have q25 : (x13_2 : Int) < ((x0_2.length : Int) : Int) := od_
         obtain ⟨go25, co25, eo25, gb25, gl25, cl25, HG25⟩ := Kd.R_form HO_0.out (by omega)
         (first | cases eo25 | (injection eo25 with ea_ en_ ec_; (first | subst ea_ | (injection ea_ with ea_; subst ea_)); subst ec_; clear en_))
         have GB25 := aa_ gb25
         have GG25 := aa_ HG25
         clear gb25 gl25 HG25
         have HMgo25 := aa_ (show (P0_ go25 ∨ w.heap.size ≤ go25) from (HO_0.out.1 _ rfl))
         (first | simp only [add_plain] at hx386_0 | skip)
         (first | simp only [add_plain] at hx386_1 | skip)
         (first | simp only [add_plain] at hx387_0 | skip)
         (first | simp only [add_plain] at hx387_1 | skip)
         obtain ⟨ce25, hcl25, hM25, hcc25, hfr25⟩ := Kd.R_elem HO_0.out z52 (x13_2 : Int) p25 q25
         obtain rfl := k52_openM hM25
         have hx25_0 : World.cell? _ ⟨go25, (x13_2 : Int).toNat * 2, none⟩ = some (.string ((rd_T52 x0_2 x13_2).f0)) := hcc25 0 _ rfl
         have hx25_1 : World.cell? _ ⟨go25, (x13_2 : Int).toNat * 2 + 1, none⟩ = some (.bool ((rd_T52 x0_2 x13_2).f1)) := hcc25 1 _ rfl
         have hf25_0 : World.frozen? _ ⟨go25, (x13_2 : Int).toNat * 2, none⟩ = false := hfr25 0
         have hf25_1 : World.frozen? _ ⟨go25, (x13_2 : Int).toNat * 2 + 1, none⟩ = false := hfr25 1
         clear hcl25 hcc25 hfr25 hM25
         replace p25 := eq_true p25
         replace q25 := eq_true q25
         obtain ⟨ce29, hcl29, hM29, hcc29, hfr29⟩ := Kd.R_elem HO_0.out z52 (x13_2 : Int) (od_) (by have h_ : (x13_2 : Int) < ((x0_2.length : Int) : Int) := od_; first | exact h_ | (have e_ := (Kd.R_reads' HO_0.out).1; omega) | simpa using h_)
         obtain rfl := k52_openM hM29
         have HP29 := (Kd.R_seg HO_0.out (x13_2 : Int) (od_) (by have h_ : (x13_2 : Int) < ((x0_2.length : Int) : Int) := od_; first | exact h_ | (have e_ := (Kd.R_reads' HO_0.out).1; omega) | simpa using h_) (seg := [.string ((rd_T52 x0_2 (ji20)).f0), .bool ((rd_T52 x0_2 (ji20)).f1)]) (j := 0) hcl29 hcc29 (show 2 ≤ 2 from by decide) (x' := (⟨(rd_T52 x0_2 (ji20)).f0, (rd_T52 x0_2 (ji20)).f1⟩ : S52)) (k52_mkM _ _ _ (⟨(rd_T52 x0_2 (ji20)).f0, (rd_T52 x0_2 (ji20)).f1⟩ : S52) ) (fun _ hk => hk)).1
         rw [← Ny388.out] at HP29
         have HQ29 := aa_ HP29
         clear hcl29 hcc29 hfr29 hM29 HP29
         have p26 : 0 ≤ ((ji20) : Int) := od_
         have q26 : ((ji20) : Int) < ((x0_2.length : Int) : Int) := od_
         obtain ⟨ce26, hcl26, hM26, hcc26, hfr26⟩ := Kd.R_elem HQ29.out z52 ((ji20) : Int) p26 q26
         obtain rfl := k52_openM hM26
         have hx26_0 : World.cell? _ ⟨go25, ((ji20) : Int).toNat * 2, none⟩ = some (.string ((rd_T52 y388 (ji20)).f0)) := hcc26 0 _ rfl
         have hx26_1 : World.cell? _ ⟨go25, ((ji20) : Int).toNat * 2 + 1, none⟩ = some (.bool ((rd_T52 y388 (ji20)).f1)) := hcc26 1 _ rfl
         have hf26_0 : World.frozen? _ ⟨go25, ((ji20) : Int).toNat * 2, none⟩ = false := hfr26 0
         have hf26_1 : World.frozen? _ ⟨go25, ((ji20) : Int).toNat * 2 + 1, none⟩ = false := hfr26 1
         clear hcl26 hcc26 hfr26 hM26
         have hz26_0 := cell_odd_ hx26_0
         have hz26_1 := cell_evn_ hx26_1
         have hy26_0 := frz2_ hf26_0
         have hy26_1 := frz2_ hf26_1
         replace p26 := eq_true p26
         replace q26 := eq_true q26
         obtain ⟨ce30, hcl30, hM30, hcc30, hfr30⟩ := Kd.R_elem HQ29.out z52 ((ji20) : Int) (od_) (by have h_ : ((ji20) : Int) < ((x0_2.length : Int) : Int) := od_; first | exact h_ | (have e_ := (Kd.R_reads' HO_0.out).1; omega) | simpa using h_)
         obtain rfl := k52_openM hM30
         have HP30 := (Kd.R_seg HQ29.out ((ji20) : Int) (od_) (by have h_ : ((ji20) : Int) < ((x0_2.length : Int) : Int) := od_; first | exact h_ | (have e_ := (Kd.R_reads' HO_0.out).1; omega) | simpa using h_) (seg := [.string ((rd_T52 x0_2 x13_2).f0), .bool ((rd_T52 x0_2 x13_2).f1)]) (j := 0) hcl30 hcc30 (show 2 ≤ 2 from by decide) (x' := (⟨(rd_T52 x0_2 x13_2).f0, (rd_T52 x0_2 x13_2).f1⟩ : S52)) (k52_mkM _ _ _ (⟨(rd_T52 x0_2 x13_2).f0, (rd_T52 x0_2 x13_2).f1⟩ : S52) ) (fun _ hk => hk)).1
         rw [← Ny389.out] at HP30
         have HQ30 := aa_ HP30
         clear hcl30 hcc30 hfr30 hM30 HP30
         refine start_ (n := 18) (S := fun w' => w'.cell? ⟨go25, (((ji20)).toNat * 2), none⟩ = some (.string ((rd_T52 x0_2 (ji20)).f0)) ∧ w'.cell? ⟨go25, (((ji20)).toNat * 2) + 1, none⟩ = some (.bool ((rd_T52 x0_2 (ji20)).f1)) ∧ w'.cell? ⟨go25, ((x13_2).toNat * 2), none⟩ = some (.string ((rd_T52 x0_2 x13_2).f0)) ∧ w'.cell? ⟨go25, ((x13_2).toNat * 2) + 1, none⟩ = some (.bool ((rd_T52 x0_2 x13_2).f1))) (ds := [15, 17]) (ba_ 18 0) (by kernel_rfl) rfl rfl ⟨hx386_0, hx386_1, hx387_0, hx387_1⟩ (fun hHeld => ?_); refine with_tabW impl_Item_85.tab11 impl_Item_85.bits11 (fun HT_ HW_ => ?_)
         generalize wr.drew = w27 at HO_0 HK HB GG25 HQ29 HQ30 hf25_0 hf25_1 hf26_0 hf26_1 hx25_0 hx25_1 hx26_0 hz26_0 hz26_1 hy26_0 hy26_1 hx26_1 hx386_0 hx386_1 hx387_0 hx387_1 hHeld ⊢
         refine pureZ_ (i := 0) (some 61) (ba_ 18 1) (ao_ HT_) ?_
         refine pureZ_ (i := 1) (some 62) (ba_ 18 3) (ao_ HT_) ?_
         refine pureZ_ (i := 2) (some 63) (ba_ 18 7) (ao_ HT_) ?_
         refine pureZ_ (i := 3) (some 64) (ba_ 18 15) (ao_ HT_) ?_
         refine pureZ_ (i := 4) (some 65) (ba_ 18 31) (ao_ HT_) ?_
         refine pureZ_ (i := 5) (some 66) (ba_ 18 63) (ao_ HT_) ?_
         refine pureZ_ (i := 6) (some 67) (ba_ 18 127) (ao_ HT_) ?_
         refine pureZ_ (i := 7) (some 68) (ba_ 18 255) (ao_ HT_) ?_
         refine pureZ_ (i := 8) (some 69) (ba_ 18 511) (ao_ HT_) ?_
         refine pureZ_ (i := 10) (some 71) (ba_ 18 1535) (ao_ HT_) ?_
         refine pureZ_ (i := 11) (some 72) (ba_ 18 3583) (ao_ HT_) ?_
         refine pureZ_ (i := 12) (some 73) (ba_ 18 7679) (ao_ HT_) ?_
         refine takeZ_ (i := 9) (some 70) (ba_ 18 8191) (take_ofW HT_.out HW_.out (by kernel_rfl)) hHeld ?_
         refine takeZ_ (i := 13) (some 74) (ba_ 18 16383) (take_ofW HT_.out HW_.out (by kernel_rfl)) hHeld ?_
         refine pureZ_ (i := 14) (some 75) (ba_ 18 32767) (ao_ HT_) ?_
         refine last_ (i := 15) (N := none) (ba_ 18 65535) rfl rfl (one_of HT_.out (by kernel_rfl)) (by decide) (fun K hK => ?_)
         refine skip_ (w1 := ?_) (by rfl) rfl ?_ ?_
         rotate_left
         ·go_simp
          rfl
         refine hK.out _ _ ?_
         clear hK K
         refine pureZ_ (i := 16) (some 76) (ba_ 18 131071) (ao_ HT_) ?_
         refine last_ (i := 17) (N := none) (ba_ 18 262143) rfl rfl (one_of HT_.out (by kernel_rfl)) (by decide) (fun K hK => ?_)
         refine skip_ (w1 := ?_) (by rfl) rfl ?_ ?_
         rotate_left
         ·go_simp
          rfl
         refine hK.out _ _ ?_
         clear hK K
         refine done_ (done_of HT_.out (by kernel_rfl)) ?_
         try go_wp2
         go_roundg k2
         case measure => have := HK1.out; have := HK2.out; omega
         case rel => exact ⟨(y389), (ji20), (by first | rfl | (simp; done) | (simp only [← hji20] <;> (first | rfl | simp)) | (simp [*]; done)), H', ⟨by have := HK1.out; have := HK2.out; omega⟩, ⟨rr_ HQ30⟩, ⟨by repeat (first | (with_reducible first | exact HK.out | apply Kept.alloc | apply Kept.drewN | apply Kept.drew | refine Kept.setCell ?_ HMgo25.out _ | refine Kept.setCell ?_ HMgo25.out _ | refine Kept.setCell ?_ HMgo25.out _ | refine Kept.setCell ?_ HMgo25.out _) | exact HK.out)⟩, ⟨by repeat (first | (with_reducible first | exact HB.out | apply below_alloc | apply pw_below_drewN | apply below_drew1 | refine below_set ?_ GB25.out | refine below_set ?_ GB25.out | refine below_set ?_ GB25.out | refine below_set ?_ GB25.out) | exact HB.out)⟩⟩
       ·rw [if_neg c19] at H
        have c19b0 : decide (x13_2 < (wrap64 (x10_1 - 1))) = false := decide_eq_false c19
        clear c19
        as_aux_lemma =>
         obtain rfl := Option.some.inj H
         go_wp2
         first | go_end0 | ((try simp only [Exit.inBlock, Exit.then]); refine bodyPost_ret (results_none rfl _ _ _) rfl ?_)
         exact ⟨eq_, by (with_reducible repeat (first | apply Kd.R_alloc | apply Kd.R_drewN | apply Kd.R_drew)); exact HO_0.out, bl_, by repeat (first | (with_reducible first | exact HK.out | apply Kept.alloc | apply Kept.drewN | apply Kept.drew) | exact HK.out)⟩
 ·rw [if_neg c6] at H
  have c6b0 : ((wrap64 (a2 - a1)) == 1) = false := beq_eq_false_iff_ne.mpr c6
  have c6b1 : ((wrap64 (a2 - a1)) != 1) = true := bne_iff_ne.mpr c6
  by_cases c31 : (wrap64 (a3 - a2)) = 1
  ·rw [if_pos c31] at H
   have c31b0 : ((wrap64 (a3 - a2)) == 1) = true := beq_iff_eq.mpr c31
   have c31b1 : ((wrap64 (a3 - a2)) != 1) = false := bne_eq_false_iff_eq.mpr c31
   clear c31
   have H' := aa_ H
   clear H
   go_enter Try.func85, Try.ntmps85
   go_wp2
   go_loopg [14, 15] k (fun kq v14 v15 w' => ∃ (x14_1 : Int) (x15_1 : Int), v14 = .int .i64 x14_1 ∧ v15 = .int .i64 x15_1 ∧ Aside0 (impl_Item_85.l2 kq l0 a2 a4 x14_1 x15_1 = some r) ∧ Aside0 (kq ≤ k) ∧ Aside0 (Kd.R k52 52 w' w0.heap.size (fun k_ => (P0_ k_ ∨ w.heap.size ≤ k_)) u9000_ l0) ∧ Aside0 (Kept w w' (fun k_ => P0_ k_)) ∧ Aside0 (Below w0.heap.size w0 w'))
   case atStart => exact ⟨(a1), (a2), rf_, rf_, H', ⟨Nat.le_refl _⟩, ⟨rr_ HO0⟩, ⟨by repeat (first | (with_reducible first | exact HK.out | apply Kept.alloc | apply Kept.drewN | apply Kept.drew) | exact HK.out)⟩, ⟨bl_⟩⟩
   case round =>
    clear H'
    try clear c1
    try clear c2
    try clear p2
    try clear q2
    try clear hx2
    try clear c3
    try clear p3
    try clear q3
    try clear hx3
    try clear q4
    try clear c6
    try clear c6b0
    try clear c6b1
    try clear p6
    try clear c7
    try clear c7b0
    try clear c8
    try clear c9
    try clear c9b0
    try clear c10
    try clear c10b0
    try clear c11
    try clear c11b0
    try clear c12
    try clear c12b0
    try clear c18
    try clear c18b0
    try clear c19
    try clear c19b0
    try clear c21
    try clear c21b0
    try clear c22
    try clear c22b0
    try clear c23
    try clear c23b0
    try clear c24
    try clear c24b0
    try clear c25
    try clear p25
    try clear q25
    try clear hx25
    try clear hf25
    try clear c26
    try clear p26
    try clear q26
    try clear hx26
    try clear hf26
    try clear c29
    try clear c30
    try clear c31
    try clear c31b0
    try clear c31b1
    try clear hx25_0
    try clear hx25_1
    try clear hx26_0
    try clear hx26_1
    try clear hx383_0
    try clear hx383_1
    try clear hx384_0
    try clear hx384_1
    try clear hx386_0
    try clear hx386_1
    try clear hx387_0
    try clear hx387_1
    try clear p2
    try clear p25
    try clear p26
    try clear p3
    try clear p383
    try clear p384
    try clear p386
    try clear p387
    try clear p6
    try clear q25
    try clear q26
    try clear q3
    try clear q383
    try clear q384
    try clear q386
    try clear q387
    try clear q4
    obtain ⟨x14_1, x15_1, rfl, rfl, HA, HK1, HO_0, HK, HB⟩ := hrel
    cases gk with
    | zero => exact absurd HA.out (by simp [impl_Item_85.l2])
    | succ k1 =>
     have H := HA.out
     clear HA
     simp only [impl_Item_85.l2] at H
     by_cases c32 : x14_1 < x15_1
     ·rw [if_pos c32] at H
      have c32b0 : decide (x14_1 < x15_1) = true := decide_eq_true c32
      clear c32
      obtain ⟨c33b0, H⟩ := ifd_ H
      obtain ⟨c34b0, H⟩ := ifd_ H
      obtain ⟨ji35, hji35⟩ : ∃ j_ : Int, (wrap64 ((IntKind.u64.wrap (wrap64 (x14_1 + x15_1))) / 2)) = j_ := ⟨_, rfl⟩
      replace H : (if 0 ≤ (ji35) then (if (ji35) < (l0.length : Int) then ((a4 (⟨(rd_T52 l0 a2).f0, (rd_T52 l0 a2).f1⟩ : S52) (⟨(rd_T52 l0 (ji35)).f0, (rd_T52 l0 (ji35)).f1⟩ : S52)).bind fun t392 => (if t392 < 0 then (impl_Item_85.l2 k1 l0 a2 a4 x14_1 ji35) else (impl_Item_85.l2 k1 l0 a2 a4 (wrap64 ((ji35) + 1)) x15_1))) else (none)) else (none)) = some r := by first | (rw [hji35] at H; exact H) | (simp only [hji35] at H ⊢; exact H)
      have hji35w : (IntKind.i64.wrap ((IntKind.u64.wrap (wrap64 (x14_1 + x15_1))) / 2)) = ji35 := (i64_w _).trans hji35
      obtain ⟨c36b0, H⟩ := ifd_ H
      obtain ⟨c37b0, H⟩ := ifd_ H
      obtain ⟨t392, A38, H⟩ := bindE_ H
      have HC39 := aa_ H
      clear H
      try go_wp2
      replace HO_0 := aa_ (Kd.R_drew HO_0.out)
      replace HK := aa_ (Kept.drew HK.out)
      replace HB := aa_ (below_drew1 HB.out)
      obtain ⟨Ao41, co41, eo41⟩ := Kd.R_slice HO_0.out
      (first | subst eo41 | (injection eo41 with f1_ f2_ f3_; have f4_ := f1_.symm; have f5_ := f3_.symm; clear f1_ f2_ f3_; subst f4_; subst f5_))
      have p390 : 0 ≤ (a2 : Int) := od_
      have q390 : a2 < (l0.length : Int) := od_
      obtain ⟨ad390, e390, hx390_0, hx390_1⟩ := at_T52 (Kd.R_reads' HO_0.out).2.2 a2 p390 q390
      cases e390
      replace p390 := eq_true p390
      replace q390 := eq_true q390
      have p391 : 0 ≤ ((ji35) : Int) := od_
      have q391 : (ji35) < (l0.length : Int) := od_
      obtain ⟨ad391, e391, hx391_0, hx391_1⟩ := at_T52 (Kd.R_reads' HO_0.out).2.2 (ji35) p391 q391
      obtain rfl : ad390 = ad391 := (by injection e391)
      replace p391 := eq_true p391
      replace q391 := eq_true q391
      refine start_ (n := 12) (S := fun w' => w'.cell? (ad390.add ((a2).toNat * 2)) = some (.string ((rd_T52 l0 a2).f0)) ∧ w'.cell? ⟨(ad390.add ((a2).toNat * 2)).block, (ad390.add ((a2).toNat * 2)).off + 1, none⟩ = some (.bool ((rd_T52 l0 a2).f1)) ∧ w'.cell? (ad390.add (((ji35)).toNat * 2)) = some (.string ((rd_T52 l0 (ji35)).f0)) ∧ w'.cell? ⟨(ad390.add (((ji35)).toNat * 2)).block, (ad390.add (((ji35)).toNat * 2)).off + 1, none⟩ = some (.bool ((rd_T52 l0 (ji35)).f1))) (ds := []) (ba_ 12 0) (by kernel_rfl) rfl rfl ⟨hx390_0, hx390_1, hx391_0, hx391_1⟩ (fun hHeld => ?_); refine with_tabW impl_Item_85.tab17 impl_Item_85.bits17 (fun HT_ HW_ => ?_)
      generalize wr.drew = w40 at HO_0 HK HB hx390_0 hx390_1 hx391_0 hx391_1 hHeld ⊢
      refine pureZ_ (i := 0) (some 92) (ba_ 12 1) (ao_ HT_) ?_
      refine pureZ_ (i := 1) (some 93) (ba_ 12 3) (ao_ HT_) ?_
      refine pureZ_ (i := 2) (some 94) (ba_ 12 7) (ao_ HT_) ?_
      refine pureZ_ (i := 3) (some 95) (ba_ 12 15) (ao_ HT_) ?_
      refine pureZ_ (i := 5) (some 97) (ba_ 12 47) (ao_ HT_) ?_
      refine pureZ_ (i := 6) (some 98) (ba_ 12 111) (ao_ HT_) ?_
      refine pureZ_ (i := 7) (some 99) (ba_ 12 239) (ao_ HT_) ?_
      refine takeZ_ (i := 4) (some 96) (ba_ 12 255) (take_ofW HT_.out HW_.out (by kernel_rfl)) hHeld ?_
      refine takeZ_ (i := 8) (some 100) (ba_ 12 511) (take_ofW HT_.out HW_.out (by kernel_rfl)) hHeld ?_
      refine one_ (i := 9) (N := some 101) (ba_ 12 1023) rfl rfl (one_of HT_.out (by kernel_rfl)) (by decide) (fun K hK => ?_)
      refine goesw_ eg4 #[.agg #[.string ((rd_T52 l0 a2).f0), .bool ((rd_T52 l0 a2).f1)], .agg #[.string ((rd_T52 l0 (ji35)).f0), .bool ((rd_T52 l0 (ji35)).f1)]] (by rfl) rfl rfl (by rfl) (by (try simp only [List.map_toArray, List.map_cons, List.map_nil]); first | done | (simp only [hji35]; rfl) | rfl) ?_
      refine ((HFN4.out _).2 _ _ _ A38.out).mono ?_
      rintro e w42 ⟨rfl, hb⟩
      have HS0_ := (hb.cell (World.block_lt_of_cell? _ _ (hHeld.1))).trans (hHeld.1)
      have HS1_ := (hb.cell (World.block_lt_of_cell? _ _ (hHeld.2.1))).trans (hHeld.2.1)
      have HS2_ := (hb.cell (World.block_lt_of_cell? _ _ (hHeld.2.2.1))).trans (hHeld.2.2.1)
      have HS3_ := (hb.cell (World.block_lt_of_cell? _ _ (hHeld.2.2.2))).trans (hHeld.2.2.2)
      refine ⟨_, rfl, ?_⟩
      replace HO_0 := hob_ HO_0 hb
      replace HK := aa_ (Kept.below (S := (fun k_ => P0_ k_)) (by repeat (first | (with_reducible first | exact HK.out | apply Kept.alloc | apply Kept.drewN | apply Kept.drew) | exact HK.out)) hb)
      replace HB := hbs_ hb
      (try clear hb)
      (try clear hb2)
      (try clear hk)
      (try clear hi)
      refine hK.out _ _ ⟨HS0_, HS1_, HS2_, HS3_⟩ (fun hHeld => ?_)
      clear hK K
      refine norm_ (a' := ?_) ?_ ?_
      rotate_left
      ·show Act.put _ (some 101) _ = _
       simp only [Act.put, List.setIfInBounds_toArray, List.set_cons_zero, List.set_cons_succ, i64_w, i32_w]
       rfl
      refine pureZ_ (i := 10) (some 102) (ba_ 12 2047) (ao_ HT_) ?_
      refine pureZ_ (i := 11) (some 103) (ba_ 12 4095) (ao_ HT_) ?_
      refine done_ (done_of HT_.out (by kernel_rfl)) ?_
      go_upto_if 103 with (fail)
      have H := HC39.out
      clear HC39
      by_cases c43 : t392 < 0
      ·rw [if_pos c43] at H
       have c43b0 : decide (t392 < 0) = true := decide_eq_true c43
       clear c43
       (first | rw [c43b0] | (simp only [i64_w, i32_w]; rw [c43b0]) | skip)
       as_aux_lemma =>
        have H' := aa_ H
        clear H
        go_wp2
        go_roundg k1
        case measure => have := HK1.out; omega
        case rel => exact ⟨(x14_1), (ji35), rf_, (by first | rfl | (simp; done) | (simp only [← hji35] <;> (first | rfl | simp)) | (simp [*]; done)), H', ⟨by have := HK1.out; omega⟩, ⟨rr_ HO_0⟩, ⟨by repeat (first | (with_reducible first | exact HK.out | apply Kept.alloc | apply Kept.drewN | apply Kept.drew) | exact HK.out)⟩, ⟨bl_⟩⟩
      ·rw [if_neg c43] at H
       have c43b0 : decide (t392 < 0) = false := decide_eq_false c43
       clear c43
       (first | rw [c43b0] | (simp only [i64_w, i32_w]; rw [c43b0]) | skip)
       as_aux_lemma =>
        have H' := aa_ H
        clear H
        go_wp2
        go_roundg k1
        case measure => have := HK1.out; omega
        case rel => exact ⟨(wrap64 ((ji35) + 1)), (x15_1), (by first | rfl | (simp; done) | (simp only [← hji35] <;> (first | rfl | simp)) | (simp [*]; done)), rf_, H', ⟨by have := HK1.out; omega⟩, ⟨rr_ HO_0⟩, ⟨by repeat (first | (with_reducible first | exact HK.out | apply Kept.alloc | apply Kept.drewN | apply Kept.drew) | exact HK.out)⟩, ⟨bl_⟩⟩
     ·rw [if_neg c32] at H
      have c32b0 : decide (x14_1 < x15_1) = false := decide_eq_false c32
      clear c32
      have H' := aa_ H
      clear H
      go_wp2
      go_loopg [17] k1 (fun kq v17 w' => ∃ (x0_2 : List (S52)) (x17_2 : Int), v17 = .int .i64 x17_2 ∧ Aside0 (impl_Item_85.l3 kq x0_2 x14_1 x17_2 = some r) ∧ Aside0 (kq ≤ k1) ∧ Aside0 (Kd.R k52 52 w' w0.heap.size (fun k_ => (P0_ k_ ∨ w.heap.size ≤ k_)) u9000_ x0_2) ∧ Aside0 (Kept w w' (fun k_ => P0_ k_)) ∧ Aside0 (Below w0.heap.size w0 w'))
      case atStart => exact ⟨(l0), (a2), rf_, H', ⟨Nat.le_refl _⟩, ⟨rr_ HO_0⟩, ⟨by repeat (first | (with_reducible first | exact HK.out | apply Kept.alloc | apply Kept.drewN | apply Kept.drew) | exact HK.out)⟩, ⟨bl_⟩⟩
      case round =>
       clear H'
       try clear c1
       try clear c2
       try clear p2
       try clear q2
       try clear hx2
       try clear c3
       try clear p3
       try clear q3
       try clear hx3
       try clear c4
       try clear q4
       try clear c6
       try clear c6b0
       try clear c6b1
       try clear p6
       try clear c7
       try clear c7b0
       try clear c8
       try clear c9
       try clear c9b0
       try clear c10
       try clear c10b0
       try clear c11
       try clear c11b0
       try clear c12
       try clear c12b0
       try clear c18
       try clear c18b0
       try clear c19
       try clear c19b0
       try clear c21
       try clear c21b0
       try clear c22
       try clear c22b0
       try clear c23
       try clear c23b0
       try clear c24
       try clear c24b0
       try clear c25
       try clear p25
       try clear q25
       try clear hx25
       try clear hf25
       try clear c26
       try clear p26
       try clear q26
       try clear hx26
       try clear hf26
       try clear c29
       try clear c30
       try clear c31
       try clear c31b0
       try clear c31b1
       try clear c32
       try clear c32b0
       try clear c33
       try clear c33b0
       try clear c34
       try clear c34b0
       try clear c36
       try clear c36b0
       try clear c37
       try clear c37b0
       try clear p38
       try clear q38
       try clear hx38
       try clear p39
       try clear q39
       try clear hx39
       try clear c43
       try clear c43b0
       try clear hx25_0
       try clear hx25_1
       try clear hx26_0
       try clear hx26_1
       try clear hx383_0
       try clear hx383_1
       try clear hx384_0
       try clear hx384_1
       try clear hx386_0
       try clear hx386_1
       try clear hx387_0
       try clear hx387_1
       try clear hx390_0
       try clear hx390_1
       try clear hx391_0
       try clear hx391_1
       try clear p2
       try clear p25
       try clear p26
       try clear p3
       try clear p383
       try clear p384
       try clear p386
       try clear p387
       try clear p390
       try clear p391
       try clear p6
       try clear q2
       try clear q25
       try clear q26
       try clear q3
       try clear q383
       try clear q384
       try clear q386
       try clear q387
       try clear q390
       try clear q391
       try clear q4
       obtain ⟨x0_2, x17_2, rfl, HA, HK2, HO_0, HK, HB⟩ := hrel
       cases gk with
       | zero => exact absurd HA.out (by simp [impl_Item_85.l3])
       | succ k2 =>
        have H := HA.out
        clear HA
        simp only [impl_Item_85.l3] at H
        by_cases c44 : x17_2 > x14_1
        ·rw [if_pos c44] at H
         have c44b0 : decide (x14_1 < x17_2) = true := decide_eq_true c44
         clear c44
         obtain ⟨ji45, hji45⟩ : ∃ j_ : Int, (wrap64 (x17_2 - 1)) = j_ := ⟨_, rfl⟩
         replace H : (if 0 ≤ (ji45) then (if (ji45) < (x0_2.length : Int) then (if 0 ≤ x17_2 then (if x17_2 < (x0_2.length : Int) then (impl_Item_85.l3 k2 ((x0_2.set (x17_2 : Int).toNat (⟨(rd_T52 x0_2 (ji45)).f0, (rd_T52 x0_2 (ji45)).f1⟩ : S52)).set ((ji45) : Int).toNat (⟨(rd_T52 x0_2 x17_2).f0, (rd_T52 x0_2 x17_2).f1⟩ : S52)) x14_1 ji45) else (none)) else (none)) else (none)) else (none)) = some r := by first | (rw [hji45] at H; exact H) | (simp only [hji45] at H ⊢; exact H)
         have hji45w : (IntKind.i64.wrap (x17_2 - 1)) = ji45 := (i64_w _).trans hji45
         obtain ⟨c46b0, H⟩ := ifd_ H
         obtain ⟨c47b0, H⟩ := ifd_ H
         obtain ⟨c48b0, H⟩ := ifd_ H
         obtain ⟨c49b0, H⟩ := ifd_ H
         obtain ⟨y395, hy395⟩ : ∃ y_ : List (S52), y_ = (x0_2.set (x17_2 : Int).toNat (⟨(rd_T52 x0_2 (ji45)).f0, (rd_T52 x0_2 (ji45)).f1⟩ : S52)) := ⟨_, rfl⟩
         replace H : (impl_Item_85.l3 k2 (y395.set ((ji45) : Int).toNat (⟨(rd_T52 x0_2 x17_2).f0, (rd_T52 x0_2 x17_2).f1⟩ : S52)) x14_1 ji45) = some r := rh_ hy395 H
         have Ny395 := aa_ hy395
         clear hy395
         obtain ⟨y396, hy396⟩ : ∃ y_ : List (S52), y_ = (y395.set ((ji45) : Int).toNat (⟨(rd_T52 x0_2 x17_2).f0, (rd_T52 x0_2 x17_2).f1⟩ : S52)) := ⟨_, rfl⟩
         replace H : (impl_Item_85.l3 k2 y396 x14_1 ji45) = some r := rh_ hy396 H
         have Ny396 := aa_ hy396
         clear hy396
         as_aux_lemma =>
          have H' := aa_ H
          clear H
          try go_wp2
          replace HO_0 := aa_ (Kd.R_drew HO_0.out)
          replace HK := aa_ (Kept.drew HK.out)
          replace HB := aa_ (below_drew1 HB.out)
          obtain ⟨Ao53, co53, eo53⟩ := Kd.R_slice HO_0.out
          (first | subst eo53 | (injection eo53 with f1_ f2_ f3_; have f4_ := f1_.symm; have f5_ := f3_.symm; clear f1_ f2_ f3_; subst f4_; subst f5_))
          have p393 : 0 ≤ ((ji45) : Int) := od_
          have q393 : (ji45) < (x0_2.length : Int) := od_
          obtain ⟨ad393, e393, hx393_0, hx393_1⟩ := at_T52 (Kd.R_reads' HO_0.out).2.2 (ji45) p393 q393
          cases e393
          replace p393 := eq_true p393
          replace q393 := eq_true q393
          have p394 : 0 ≤ (x17_2 : Int) := od_
          have q394 : x17_2 < (x0_2.length : Int) := od_
          obtain ⟨ad394, e394, hx394_0, hx394_1⟩ := at_T52 (Kd.R_reads' HO_0.out).2.2 x17_2 p394 q394
          obtain rfl : ad393 = ad394 := (by injection e394)
          replace p394 := eq_true p394
          replace q394 := eq_true q394
          have p50 : 0 ≤ (x17_2 : Int) := od_
          have q50 : (x17_2 : Int) < ((x0_2.length : Int) : Int) := od_
          obtain ⟨go50, co50, eo50, gb50, gl50, cl50, HG50⟩ := Kd.R_form HO_0.out (by omega)
          (first | cases eo50 | (injection eo50 with ea_ en_ ec_; (first | subst ea_ | (injection ea_ with ea_; subst ea_)); subst ec_; clear en_))
          have GB50 := aa_ gb50
          have GG50 := aa_ HG50
          clear gb50 gl50 HG50
          have HMgo50 := aa_ (show (P0_ go50 ∨ w.heap.size ≤ go50) from (HO_0.out.1 _ rfl))
          (first | simp only [add_plain] at hx393_0 | skip)
          (first | simp only [add_plain] at hx393_1 | skip)
          (first | simp only [add_plain] at hx394_0 | skip)
          (first | simp only [add_plain] at hx394_1 | skip)
          obtain ⟨ce50, hcl50, hM50, hcc50, hfr50⟩ := Kd.R_elem HO_0.out z52 (x17_2 : Int) p50 q50
          obtain rfl := k52_openM hM50
          have hx50_0 : World.cell? _ ⟨go50, (x17_2 : Int).toNat * 2, none⟩ = some (.string ((rd_T52 x0_2 x17_2).f0)) := hcc50 0 _ rfl
          have hx50_1 : World.cell? _ ⟨go50, (x17_2 : Int).toNat * 2 + 1, none⟩ = some (.bool ((rd_T52 x0_2 x17_2).f1)) := hcc50 1 _ rfl
          have hf50_0 : World.frozen? _ ⟨go50, (x17_2 : Int).toNat * 2, none⟩ = false := hfr50 0
          have hf50_1 : World.frozen? _ ⟨go50, (x17_2 : Int).toNat * 2 + 1, none⟩ = false := hfr50 1
          clear hcl50 hcc50 hfr50 hM50
          replace p50 := eq_true p50
          replace q50 := eq_true q50
          obtain ⟨ce54, hcl54, hM54, hcc54, hfr54⟩ := Kd.R_elem HO_0.out z52 (x17_2 : Int) (od_) (by have h_ : (x17_2 : Int) < ((x0_2.length : Int) : Int) := od_; first | exact h_ | (have e_ := (Kd.R_reads' HO_0.out).1; omega) | simpa using h_)
          obtain rfl := k52_openM hM54
          have HP54 := (Kd.R_seg HO_0.out (x17_2 : Int) (od_) (by have h_ : (x17_2 : Int) < ((x0_2.length : Int) : Int) := od_; first | exact h_ | (have e_ := (Kd.R_reads' HO_0.out).1; omega) | simpa using h_) (seg := [.string ((rd_T52 x0_2 (ji45)).f0), .bool ((rd_T52 x0_2 (ji45)).f1)]) (j := 0) hcl54 hcc54 (show 2 ≤ 2 from by decide) (x' := (⟨(rd_T52 x0_2 (ji45)).f0, (rd_T52 x0_2 (ji45)).f1⟩ : S52)) (k52_mkM _ _ _ (⟨(rd_T52 x0_2 (ji45)).f0, (rd_T52 x0_2 (ji45)).f1⟩ : S52) ) (fun _ hk => hk)).1
          rw [← Ny395.out] at HP54
          have HQ54 := aa_ HP54
          clear hcl54 hcc54 hfr54 hM54 HP54
          have p51 : 0 ≤ ((ji45) : Int) := od_
          have q51 : ((ji45) : Int) < ((x0_2.length : Int) : Int) := od_
          obtain ⟨ce51, hcl51, hM51, hcc51, hfr51⟩ := Kd.R_elem HQ54.out z52 ((ji45) : Int) p51 q51
          obtain rfl := k52_openM hM51
          have hx51_0 : World.cell? _ ⟨go50, ((ji45) : Int).toNat * 2, none⟩ = some (.string ((rd_T52 y395 (ji45)).f0)) := hcc51 0 _ rfl
          have hx51_1 : World.cell? _ ⟨go50, ((ji45) : Int).toNat * 2 + 1, none⟩ = some (.bool ((rd_T52 y395 (ji45)).f1)) := hcc51 1 _ rfl
          have hf51_0 : World.frozen? _ ⟨go50, ((ji45) : Int).toNat * 2, none⟩ = false := hfr51 0
          have hf51_1 : World.frozen? _ ⟨go50, ((ji45) : Int).toNat * 2 + 1, none⟩ = false := hfr51 1
          clear hcl51 hcc51 hfr51 hM51
          have hz51_0 := cell_odd_ hx51_0
          have hz51_1 := cell_evn_ hx51_1
          have hy51_0 := frz2_ hf51_0
          have hy51_1 := frz2_ hf51_1
          replace p51 := eq_true p51
          replace q51 := eq_true q51
          obtain ⟨ce55, hcl55, hM55, hcc55, hfr55⟩ := Kd.R_elem HQ54.out z52 ((ji45) : Int) (od_) (by have h_ : ((ji45) : Int) < ((x0_2.length : Int) : Int) := od_; first | exact h_ | (have e_ := (Kd.R_reads' HO_0.out).1; omega) | simpa using h_)
          obtain rfl := k52_openM hM55
          have HP55 := (Kd.R_seg HQ54.out ((ji45) : Int) (od_) (by have h_ : ((ji45) : Int) < ((x0_2.length : Int) : Int) := od_; first | exact h_ | (have e_ := (Kd.R_reads' HO_0.out).1; omega) | simpa using h_) (seg := [.string ((rd_T52 x0_2 x17_2).f0), .bool ((rd_T52 x0_2 x17_2).f1)]) (j := 0) hcl55 hcc55 (show 2 ≤ 2 from by decide) (x' := (⟨(rd_T52 x0_2 x17_2).f0, (rd_T52 x0_2 x17_2).f1⟩ : S52)) (k52_mkM _ _ _ (⟨(rd_T52 x0_2 x17_2).f0, (rd_T52 x0_2 x17_2).f1⟩ : S52) ) (fun _ hk => hk)).1
          rw [← Ny396.out] at HP55
          have HQ55 := aa_ HP55
          clear hcl55 hcc55 hfr55 hM55 HP55
          refine start_ (n := 18) (S := fun w' => w'.cell? ⟨go50, (((ji45)).toNat * 2), none⟩ = some (.string ((rd_T52 x0_2 (ji45)).f0)) ∧ w'.cell? ⟨go50, (((ji45)).toNat * 2) + 1, none⟩ = some (.bool ((rd_T52 x0_2 (ji45)).f1)) ∧ w'.cell? ⟨go50, ((x17_2).toNat * 2), none⟩ = some (.string ((rd_T52 x0_2 x17_2).f0)) ∧ w'.cell? ⟨go50, ((x17_2).toNat * 2) + 1, none⟩ = some (.bool ((rd_T52 x0_2 x17_2).f1))) (ds := [15, 17]) (ba_ 18 0) (by kernel_rfl) rfl rfl ⟨hx393_0, hx393_1, hx394_0, hx394_1⟩ (fun hHeld => ?_); refine with_tabW impl_Item_85.tab23 impl_Item_85.bits23 (fun HT_ HW_ => ?_)
          generalize wr.drew = w52 at HO_0 HK HB GG50 HQ54 HQ55 hf50_0 hf50_1 hf51_0 hf51_1 hx393_0 hx393_1 hx394_0 hx394_1 hx50_0 hx50_1 hx51_0 hz51_0 hz51_1 hy51_0 hy51_1 hx51_1 hHeld ⊢
          refine pureZ_ (i := 0) (some 113) (ba_ 18 1) (ao_ HT_) ?_
          refine pureZ_ (i := 1) (some 114) (ba_ 18 3) (ao_ HT_) ?_
          refine pureZ_ (i := 2) (some 115) (ba_ 18 7) (ao_ HT_) ?_
          refine pureZ_ (i := 3) (some 116) (ba_ 18 15) (ao_ HT_) ?_
          refine pureZ_ (i := 4) (some 117) (ba_ 18 31) (ao_ HT_) ?_
          refine pureZ_ (i := 5) (some 118) (ba_ 18 63) (ao_ HT_) ?_
          refine pureZ_ (i := 6) (some 119) (ba_ 18 127) (ao_ HT_) ?_
          refine pureZ_ (i := 7) (some 120) (ba_ 18 255) (ao_ HT_) ?_
          refine pureZ_ (i := 8) (some 121) (ba_ 18 511) (ao_ HT_) ?_
          refine pureZ_ (i := 10) (some 123) (ba_ 18 1535) (ao_ HT_) ?_
          refine pureZ_ (i := 11) (some 124) (ba_ 18 3583) (ao_ HT_) ?_
          refine pureZ_ (i := 12) (some 125) (ba_ 18 7679) (ao_ HT_) ?_
          refine takeZ_ (i := 9) (some 122) (ba_ 18 8191) (take_ofW HT_.out HW_.out (by kernel_rfl)) hHeld ?_
          refine takeZ_ (i := 13) (some 126) (ba_ 18 16383) (take_ofW HT_.out HW_.out (by kernel_rfl)) hHeld ?_
          refine pureZ_ (i := 14) (some 127) (ba_ 18 32767) (ao_ HT_) ?_
          refine last_ (i := 15) (N := none) (ba_ 18 65535) rfl rfl (one_of HT_.out (by kernel_rfl)) (by decide) (fun K hK => ?_)
          refine skip_ (w1 := ?_) (by rfl) rfl ?_ ?_
          rotate_left
          ·go_simp
           rfl
          refine hK.out _ _ ?_
          clear hK K
          refine pureZ_ (i := 16) (some 128) (ba_ 18 131071) (ao_ HT_) ?_
          refine last_ (i := 17) (N := none) (ba_ 18 262143) rfl rfl (one_of HT_.out (by kernel_rfl)) (by decide) (fun K hK => ?_)
          refine skip_ (w1 := ?_) (by rfl) rfl ?_ ?_
          rotate_left
          ·go_simp
           rfl
          refine hK.out _ _ ?_
          clear hK K
          refine done_ (done_of HT_.out (by kernel_rfl)) ?_
          try go_wp2
          go_roundg k2
          case measure => have := HK1.out; have := HK2.out; omega
          case rel => exact ⟨(y396), (ji45), (by first | rfl | (simp; done) | (simp only [← hji45] <;> (first | rfl | simp)) | (simp [*]; done)), H', ⟨by have := HK1.out; have := HK2.out; omega⟩, ⟨rr_ HQ55⟩, ⟨by repeat (first | (with_reducible first | exact HK.out | apply Kept.alloc | apply Kept.drewN | apply Kept.drew | refine Kept.setCell ?_ HMgo50.out _ | refine Kept.setCell ?_ HMgo50.out _ | refine Kept.setCell ?_ HMgo50.out _ | refine Kept.setCell ?_ HMgo50.out _) | exact HK.out)⟩, ⟨by repeat (first | (with_reducible first | exact HB.out | apply below_alloc | apply pw_below_drewN | apply below_drew1 | refine below_set ?_ GB50.out | refine below_set ?_ GB50.out | refine below_set ?_ GB50.out | refine below_set ?_ GB50.out) | exact HB.out)⟩⟩
        ·rw [if_neg c44] at H
         have c44b0 : decide (x14_1 < x17_2) = false := decide_eq_false c44
         clear c44
         as_aux_lemma =>
          obtain rfl := Option.some.inj H
          go_wp2
          first | go_end0 | ((try simp only [Exit.inBlock, Exit.then]); refine bodyPost_ret (results_none rfl _ _ _) rfl ?_)
          exact ⟨eq_, by (with_reducible repeat (first | apply Kd.R_alloc | apply Kd.R_drewN | apply Kd.R_drew)); exact HO_0.out, bl_, by repeat (first | (with_reducible first | exact HK.out | apply Kept.alloc | apply Kept.drewN | apply Kept.drew) | exact HK.out)⟩
  ·rw [if_neg c31] at H
   have c31b0 : ((wrap64 (a3 - a2)) == 1) = false := beq_eq_false_iff_ne.mpr c31
   have c31b1 : ((wrap64 (a3 - a2)) != 1) = true := bne_iff_ne.mpr c31
   have HC56 := aa_ H
   clear H
   go_enter Try.func85, Try.ntmps85
   go_upto_if 140 with (fail)
   go_cut [20, 21] (fun v20 v21 wc => ∃ (kq : Nat) (x20_55 : Int) (x21_55 : Int), v20 = .int .i64 x20_55 ∧ v21 = .int .i64 x21_55 ∧ Aside0 (impl_Item_85.j4 kq l0 a1 a2 a3 a4 (wrap64 ((IntKind.u64.wrap (wrap64 (a1 + a3))) / 2)) (wrap64 ((wrap64 ((IntKind.u64.wrap (wrap64 (a1 + a3))) / 2)) + a2)) x20_55 x21_55 = some r) ∧ Aside0 (kq ≤ k) ∧ Aside0 (Kd.R k52 52 wc w0.heap.size (fun k_ => (P0_ k_ ∨ w.heap.size ≤ k_)) u9000_ l0) ∧ Aside0 (Kept w wc (fun k_ => P0_ k_)) ∧ Aside0 (Below w0.heap.size w0 wc))
   case first =>
    have H := HC56.out
    clear HC56
    by_cases c57 : a2 > (wrap64 ((IntKind.u64.wrap (wrap64 (a1 + a3))) / 2))
    ·rw [if_pos c57] at H
     have c57b0 : decide ((wrap64 ((IntKind.u64.wrap (wrap64 (a1 + a3))) / 2)) < a2) = true := decide_eq_true c57
     clear c57
     (first | rw [c57b0] | (simp only [i64_w, i32_w]; rw [c57b0]) | skip)
     as_aux_lemma =>
      have H' := aa_ H
      clear H
      go_wp2
      go_meet
      case rel => exact ⟨_, (wrap64 ((wrap64 ((wrap64 ((IntKind.u64.wrap (wrap64 (a1 + a3))) / 2)) + a2)) - a3)), (wrap64 ((IntKind.u64.wrap (wrap64 (a1 + a3))) / 2)), rf_, rf_, H', ⟨by first | omega | exact Nat.le_refl _⟩, ⟨rr_ HO0⟩, ⟨by repeat (first | (with_reducible first | exact HK.out | apply Kept.alloc | apply Kept.drewN | apply Kept.drew) | exact HK.out)⟩, ⟨bl_⟩⟩
    ·rw [if_neg c57] at H
     have c57b0 : decide ((wrap64 ((IntKind.u64.wrap (wrap64 (a1 + a3))) / 2)) < a2) = false := decide_eq_false c57
     clear c57
     (first | rw [c57b0] | (simp only [i64_w, i32_w]; rw [c57b0]) | skip)
     as_aux_lemma =>
      have H' := aa_ H
      clear H
      go_wp2
      go_meet
      case rel => exact ⟨_, (a1), (a2), rf_, rf_, H', ⟨by first | omega | exact Nat.le_refl _⟩, ⟨rr_ HO0⟩, ⟨by repeat (first | (with_reducible first | exact HK.out | apply Kept.alloc | apply Kept.drewN | apply Kept.drew) | exact HK.out)⟩, ⟨bl_⟩⟩
   case rest =>
    clear HC56
    try clear c1
    try clear c2
    try clear p2
    try clear q2
    try clear hx2
    try clear c3
    try clear p3
    try clear q3
    try clear hx3
    try clear c4
    try clear q4
    try clear c5
    try clear p5
    try clear q5
    try clear hx5
    try clear hf5
    try clear c6
    try clear c6b0
    try clear c6b1
    try clear p6
    try clear c7
    try clear c7b0
    try clear c8
    try clear c9
    try clear c9b0
    try clear c10
    try clear c10b0
    try clear c11
    try clear c11b0
    try clear c12
    try clear c12b0
    try clear c18
    try clear c18b0
    try clear c19
    try clear c19b0
    try clear c21
    try clear c21b0
    try clear c22
    try clear c22b0
    try clear c23
    try clear c23b0
    try clear c24
    try clear c24b0
    try clear c25
    try clear p25
    try clear q25
    try clear hx25
    try clear hf25
    try clear c26
    try clear p26
    try clear q26
    try clear hx26
    try clear hf26
    try clear c29
    try clear c30
    try clear c31
    try clear c31b0
    try clear c31b1
    try clear c32
    try clear c32b0
    try clear c33
    try clear c33b0
    try clear c34
    try clear c34b0
    try clear c36
    try clear c36b0
    try clear c37
    try clear c37b0
    try clear p38
    try clear q38
    try clear hx38
    try clear p39
    try clear q39
    try clear hx39
    try clear c43
    try clear c43b0
    try clear c44
    try clear c44b0
    try clear c46
    try clear c46b0
    try clear c47
    try clear c47b0
    try clear c48
    try clear c48b0
    try clear c49
    try clear c49b0
    try clear c50
    try clear p50
    try clear q50
    try clear hx50
    try clear hf50
    try clear c51
    try clear p51
    try clear q51
    try clear hx51
    try clear hf51
    try clear c54
    try clear c55
    try clear c57
    try clear c57b0
    try clear hx25_0
    try clear hx25_1
    try clear hx26_0
    try clear hx26_1
    try clear hx383_0
    try clear hx383_1
    try clear hx384_0
    try clear hx384_1
    try clear hx386_0
    try clear hx386_1
    try clear hx387_0
    try clear hx387_1
    try clear hx390_0
    try clear hx390_1
    try clear hx391_0
    try clear hx391_1
    try clear hx393_0
    try clear hx393_1
    try clear hx394_0
    try clear hx394_1
    try clear hx50_0
    try clear hx50_1
    try clear hx51_0
    try clear hx51_1
    try clear p2
    try clear p25
    try clear p26
    try clear p3
    try clear p38
    try clear p383
    try clear p384
    try clear p386
    try clear p387
    try clear p39
    try clear p390
    try clear p391
    try clear p393
    try clear p394
    try clear p50
    try clear p51
    try clear p6
    try clear q2
    try clear q25
    try clear q26
    try clear q3
    try clear q38
    try clear q383
    try clear q384
    try clear q386
    try clear q387
    try clear q39
    try clear q390
    try clear q391
    try clear q393
    try clear q394
    try clear q4
    try clear q50
    try clear q51
    obtain ⟨kq, x20_55, x21_55, rfl, rfl, HA, HJ55, HO_0, HK, HB⟩ := hcut
    cases kq with
    | zero => exact absurd HA.out (by simp [impl_Item_85.j4])
    | succ kj55 =>
     have H := HA.out
     clear HA
     simp only [impl_Item_85.j4] at H
     have H' := aa_ H
     clear H
     go_wp2
     go_loopg [20, 21] kj55 (fun kq v20 v21 w' => ∃ (x20_2 : Int) (x21_2 : Int), v20 = .int .i64 x20_2 ∧ v21 = .int .i64 x21_2 ∧ Aside0 (impl_Item_85.l4 kq l0 a1 a2 a3 a4 (wrap64 ((IntKind.u64.wrap (wrap64 (a1 + a3))) / 2)) (wrap64 ((wrap64 ((IntKind.u64.wrap (wrap64 (a1 + a3))) / 2)) + a2)) x20_2 x21_2 (wrap64 ((wrap64 ((wrap64 ((IntKind.u64.wrap (wrap64 (a1 + a3))) / 2)) + a2)) - 1)) = some r) ∧ Aside0 (kq ≤ kj55) ∧ Aside0 (Kd.R k52 52 w' w0.heap.size (fun k_ => (P0_ k_ ∨ w.heap.size ≤ k_)) u9000_ l0) ∧ Aside0 (Kept w w' (fun k_ => P0_ k_)) ∧ Aside0 (Below w0.heap.size w0 w'))
     case atStart => exact ⟨(x20_55), (x21_55), rf_, rf_, H', ⟨Nat.le_refl _⟩, ⟨rr_ HO_0⟩, ⟨by repeat (first | (with_reducible first | exact HK.out | apply Kept.alloc | apply Kept.drewN | apply Kept.drew) | exact HK.out)⟩, ⟨bl_⟩⟩
     case round =>
      clear H'
      try clear c1
      try clear c2
      try clear p2
      try clear q2
      try clear hx2
      try clear c3
      try clear p3
      try clear q3
      try clear hx3
      try clear c4
      try clear q4
      try clear c5
      try clear p5
      try clear q5
      try clear hx5
      try clear hf5
      try clear c6
      try clear c6b0
      try clear c6b1
      try clear p6
      try clear c7
      try clear c7b0
      try clear c8
      try clear c9
      try clear c9b0
      try clear c10
      try clear c10b0
      try clear c11
      try clear c11b0
      try clear c12
      try clear c12b0
      try clear c18
      try clear c18b0
      try clear c19
      try clear c19b0
      try clear c21
      try clear c21b0
      try clear c22
      try clear c22b0
      try clear c23
      try clear c23b0
      try clear c24
      try clear c24b0
      try clear c25
      try clear p25
      try clear q25
      try clear hx25
      try clear hf25
      try clear c26
      try clear p26
      try clear q26
      try clear hx26
      try clear hf26
      try clear c29
      try clear c30
      try clear c31
      try clear c31b0
      try clear c31b1
      try clear c32
      try clear c32b0
      try clear c33
      try clear c33b0
      try clear c34
      try clear c34b0
      try clear c36
      try clear c36b0
      try clear c37
      try clear c37b0
      try clear p38
      try clear q38
      try clear hx38
      try clear p39
      try clear q39
      try clear hx39
      try clear c43
      try clear c43b0
      try clear c44
      try clear c44b0
      try clear c46
      try clear c46b0
      try clear c47
      try clear c47b0
      try clear c48
      try clear c48b0
      try clear c49
      try clear c49b0
      try clear c50
      try clear p50
      try clear q50
      try clear hx50
      try clear hf50
      try clear c51
      try clear p51
      try clear q51
      try clear hx51
      try clear hf51
      try clear c54
      try clear c55
      try clear c57
      try clear c57b0
      try clear hx25_0
      try clear hx25_1
      try clear hx26_0
      try clear hx26_1
      try clear hx383_0
      try clear hx383_1
      try clear hx384_0
      try clear hx384_1
      try clear hx386_0
      try clear hx386_1
      try clear hx387_0
      try clear hx387_1
      try clear hx390_0
      try clear hx390_1
      try clear hx391_0
      try clear hx391_1
      try clear hx393_0
      try clear hx393_1
      try clear hx394_0
      try clear hx394_1
      try clear hx50_0
      try clear hx50_1
      try clear hx51_0
      try clear hx51_1
      try clear p2
      try clear p25
      try clear p26
      try clear p3
      try clear p38
      try clear p383
      try clear p384
      try clear p386
      try clear p387
      try clear p39
      try clear p390
      try clear p391
      try clear p393
      try clear p394
      try clear p5
      try clear p50
      try clear p51
      try clear p6
      try clear q2
      try clear q25
      try clear q26
      try clear q3
      try clear q38
      try clear q383
      try clear q384
      try clear q386
      try clear q387
      try clear q39
      try clear q390
      try clear q391
      try clear q393
      try clear q394
      try clear q4
      try clear q5
      try clear q50
      try clear q51
      obtain ⟨x20_2, x21_2, rfl, rfl, HA, HK2, HO_0, HK, HB⟩ := hrel
      cases gk with
      | zero => exact absurd HA.out (by simp [impl_Item_85.l4])
      | succ k2 =>
       have H := HA.out
       clear HA
       simp only [impl_Item_85.l4] at H
       by_cases c58 : x20_2 < x21_2
       ·rw [if_pos c58] at H
        have c58b0 : decide (x20_2 < x21_2) = true := decide_eq_true c58
        clear c58
        obtain ⟨ji59, hji59⟩ : ∃ j_ : Int, (wrap64 ((wrap64 ((wrap64 ((wrap64 ((IntKind.u64.wrap (wrap64 (a1 + a3))) / 2)) + a2)) - 1)) - (wrap64 ((IntKind.u64.wrap (wrap64 (x20_2 + x21_2))) / 2)))) = j_ := ⟨_, rfl⟩
        replace H : (if 0 ≤ (ji59) then (if (ji59) < (l0.length : Int) then (if 0 ≤ (wrap64 ((IntKind.u64.wrap (wrap64 (x20_2 + x21_2))) / 2)) then (if (wrap64 ((IntKind.u64.wrap (wrap64 (x20_2 + x21_2))) / 2)) < (l0.length : Int) then ((a4 (⟨(rd_T52 l0 (ji59)).f0, (rd_T52 l0 (ji59)).f1⟩ : S52) (⟨(rd_T52 l0 (wrap64 ((IntKind.u64.wrap (wrap64 (x20_2 + x21_2))) / 2))).f0, (rd_T52 l0 (wrap64 ((IntKind.u64.wrap (wrap64 (x20_2 + x21_2))) / 2))).f1⟩ : S52)).bind fun t399 => (if t399 < 0 then (impl_Item_85.l4 k2 l0 a1 a2 a3 a4 (wrap64 ((IntKind.u64.wrap (wrap64 (a1 + a3))) / 2)) (wrap64 ((wrap64 ((IntKind.u64.wrap (wrap64 (a1 + a3))) / 2)) + a2)) x20_2 (wrap64 ((IntKind.u64.wrap (wrap64 (x20_2 + x21_2))) / 2)) (wrap64 ((wrap64 ((wrap64 ((IntKind.u64.wrap (wrap64 (a1 + a3))) / 2)) + a2)) - 1))) else (impl_Item_85.l4 k2 l0 a1 a2 a3 a4 (wrap64 ((IntKind.u64.wrap (wrap64 (a1 + a3))) / 2)) (wrap64 ((wrap64 ((IntKind.u64.wrap (wrap64 (a1 + a3))) / 2)) + a2)) (wrap64 ((wrap64 ((IntKind.u64.wrap (wrap64 (x20_2 + x21_2))) / 2)) + 1)) x21_2 (wrap64 ((wrap64 ((wrap64 ((IntKind.u64.wrap (wrap64 (a1 + a3))) / 2)) + a2)) - 1))))) else (none)) else (none)) else (none)) else (none)) = some r := by first | (rw [hji59] at H; exact H) | (simp only [hji59] at H ⊢; exact H)
        have hji59w : (IntKind.i64.wrap ((wrap64 ((wrap64 ((wrap64 ((IntKind.u64.wrap (wrap64 (a1 + a3))) / 2)) + a2)) - 1)) - (wrap64 ((IntKind.u64.wrap (wrap64 (x20_2 + x21_2))) / 2)))) = ji59 := (i64_w _).trans hji59
        obtain ⟨c60b0, H⟩ := ifd_ H
        obtain ⟨c61b0, H⟩ := ifd_ H
        obtain ⟨ji62, hji62⟩ : ∃ j_ : Int, (wrap64 ((IntKind.u64.wrap (wrap64 (x20_2 + x21_2))) / 2)) = j_ := ⟨_, rfl⟩
        replace H : (if 0 ≤ (ji62) then (if (ji62) < (l0.length : Int) then ((a4 (⟨(rd_T52 l0 (ji59)).f0, (rd_T52 l0 (ji59)).f1⟩ : S52) (⟨(rd_T52 l0 (ji62)).f0, (rd_T52 l0 (ji62)).f1⟩ : S52)).bind fun t399 => (if t399 < 0 then (impl_Item_85.l4 k2 l0 a1 a2 a3 a4 (wrap64 ((IntKind.u64.wrap (wrap64 (a1 + a3))) / 2)) (wrap64 ((wrap64 ((IntKind.u64.wrap (wrap64 (a1 + a3))) / 2)) + a2)) x20_2 ji62 (wrap64 ((wrap64 ((wrap64 ((IntKind.u64.wrap (wrap64 (a1 + a3))) / 2)) + a2)) - 1))) else (impl_Item_85.l4 k2 l0 a1 a2 a3 a4 (wrap64 ((IntKind.u64.wrap (wrap64 (a1 + a3))) / 2)) (wrap64 ((wrap64 ((IntKind.u64.wrap (wrap64 (a1 + a3))) / 2)) + a2)) (wrap64 ((ji62) + 1)) x21_2 (wrap64 ((wrap64 ((wrap64 ((IntKind.u64.wrap (wrap64 (a1 + a3))) / 2)) + a2)) - 1))))) else (none)) else (none)) = some r := by first | (rw [hji62] at H; exact H) | (simp only [hji62] at H ⊢; exact H)
        have hji62w : (IntKind.i64.wrap ((IntKind.u64.wrap (wrap64 (x20_2 + x21_2))) / 2)) = ji62 := (i64_w _).trans hji62
        (try rw [hji62] at hji59)
        (try rw [hji62] at hji59w)
        obtain ⟨c63b0, H⟩ := ifd_ H
        obtain ⟨c64b0, H⟩ := ifd_ H
        obtain ⟨t399, A65, H⟩ := bindE_ H
        have HC66 := aa_ H
        clear H
        try go_wp2
        replace HO_0 := aa_ (Kd.R_drew HO_0.out)
        replace HK := aa_ (Kept.drew HK.out)
        replace HB := aa_ (below_drew1 HB.out)
        obtain ⟨Ao68, co68, eo68⟩ := Kd.R_slice HO_0.out
        (first | subst eo68 | (injection eo68 with f1_ f2_ f3_; have f4_ := f1_.symm; have f5_ := f3_.symm; clear f1_ f2_ f3_; subst f4_; subst f5_))
        have p397 : 0 ≤ ((ji59) : Int) := od_
        have q397 : (ji59) < (l0.length : Int) := od_
        obtain ⟨ad397, e397, hx397_0, hx397_1⟩ := at_T52 (Kd.R_reads' HO_0.out).2.2 (ji59) p397 q397
        cases e397
        replace p397 := eq_true p397
        replace q397 := eq_true q397
        have p398 : 0 ≤ ((ji62) : Int) := od_
        have q398 : (ji62) < (l0.length : Int) := od_
        obtain ⟨ad398, e398, hx398_0, hx398_1⟩ := at_T52 (Kd.R_reads' HO_0.out).2.2 (ji62) p398 q398
        obtain rfl : ad397 = ad398 := (by injection e398)
        replace p398 := eq_true p398
        replace q398 := eq_true q398
        refine start_ (n := 14) (S := fun w' => w'.cell? (ad397.add (((ji59)).toNat * 2)) = some (.string ((rd_T52 l0 (ji59)).f0)) ∧ w'.cell? ⟨(ad397.add (((ji59)).toNat * 2)).block, (ad397.add (((ji59)).toNat * 2)).off + 1, none⟩ = some (.bool ((rd_T52 l0 (ji59)).f1)) ∧ w'.cell? (ad397.add (((ji62)).toNat * 2)) = some (.string ((rd_T52 l0 (ji62)).f0)) ∧ w'.cell? ⟨(ad397.add (((ji62)).toNat * 2)).block, (ad397.add (((ji62)).toNat * 2)).off + 1, none⟩ = some (.bool ((rd_T52 l0 (ji62)).f1))) (ds := []) (ba_ 14 0) (by kernel_rfl) rfl rfl ⟨hx397_0, hx397_1, hx398_0, hx398_1⟩ (fun hHeld => ?_); refine with_tabW impl_Item_85.tab35 impl_Item_85.bits35 (fun HT_ HW_ => ?_)
        generalize wr.drew = w67 at HO_0 HK HB hx397_0 hx397_1 hx398_0 hx398_1 hHeld ⊢
        refine pureZ_ (i := 0) (some 158) (ba_ 14 1) (ao_ HT_) ?_
        refine pureZ_ (i := 1) (some 159) (ba_ 14 3) (ao_ HT_) ?_
        refine pureZ_ (i := 2) (some 160) (ba_ 14 7) (ao_ HT_) ?_
        refine pureZ_ (i := 3) (some 161) (ba_ 14 15) (ao_ HT_) ?_
        refine pureZ_ (i := 4) (some 162) (ba_ 14 31) (ao_ HT_) ?_
        refine pureZ_ (i := 5) (some 163) (ba_ 14 63) (ao_ HT_) ?_
        refine pureZ_ (i := 7) (some 165) (ba_ 14 191) (ao_ HT_) ?_
        refine pureZ_ (i := 8) (some 166) (ba_ 14 447) (ao_ HT_) ?_
        refine pureZ_ (i := 9) (some 167) (ba_ 14 959) (ao_ HT_) ?_
        refine takeZ_ (i := 6) (some 164) (ba_ 14 1023) (take_ofW HT_.out HW_.out (by kernel_rfl)) hHeld ?_
        refine takeZ_ (i := 10) (some 168) (ba_ 14 2047) (take_ofW HT_.out HW_.out (by kernel_rfl)) hHeld ?_
        refine one_ (i := 11) (N := some 169) (ba_ 14 4095) rfl rfl (one_of HT_.out (by kernel_rfl)) (by decide) (fun K hK => ?_)
        refine goesw_ eg4 #[.agg #[.string ((rd_T52 l0 (ji59)).f0), .bool ((rd_T52 l0 (ji59)).f1)], .agg #[.string ((rd_T52 l0 (ji62)).f0), .bool ((rd_T52 l0 (ji62)).f1)]] (by rfl) rfl rfl (by rfl) (by (try simp only [List.map_toArray, List.map_cons, List.map_nil]); first | done | (simp only [hji59, hji62]; rfl) | rfl) ?_
        refine ((HFN4.out _).2 _ _ _ A65.out).mono ?_
        rintro e w69 ⟨rfl, hb⟩
        have HS0_ := (hb.cell (World.block_lt_of_cell? _ _ (hHeld.1))).trans (hHeld.1)
        have HS1_ := (hb.cell (World.block_lt_of_cell? _ _ (hHeld.2.1))).trans (hHeld.2.1)
        have HS2_ := (hb.cell (World.block_lt_of_cell? _ _ (hHeld.2.2.1))).trans (hHeld.2.2.1)
        have HS3_ := (hb.cell (World.block_lt_of_cell? _ _ (hHeld.2.2.2))).trans (hHeld.2.2.2)
        refine ⟨_, rfl, ?_⟩
        replace HO_0 := hob_ HO_0 hb
        replace HK := aa_ (Kept.below (S := (fun k_ => P0_ k_)) (by repeat (first | (with_reducible first | exact HK.out | apply Kept.alloc | apply Kept.drewN | apply Kept.drew) | exact HK.out)) hb)
        replace HB := hbs_ hb
        (try clear hb)
        (try clear hb2)
        (try clear hk)
        (try clear hi)
        refine hK.out _ _ ⟨HS0_, HS1_, HS2_, HS3_⟩ (fun hHeld => ?_)
        clear hK K
        refine norm_ (a' := ?_) ?_ ?_
        rotate_left
        ·show Act.put _ (some 169) _ = _
         simp only [Act.put, List.setIfInBounds_toArray, List.set_cons_zero, List.set_cons_succ, i64_w, i32_w]
         rfl
        refine pureZ_ (i := 12) (some 170) (ba_ 14 8191) (ao_ HT_) ?_
        refine pureZ_ (i := 13) (some 171) (ba_ 14 16383) (ao_ HT_) ?_
        refine done_ (done_of HT_.out (by kernel_rfl)) ?_
        go_upto_if 171 with (fail)
        have H := HC66.out
        clear HC66
        by_cases c70 : t399 < 0
        ·rw [if_pos c70] at H
         have c70b0 : decide (t399 < 0) = true := decide_eq_true c70
         clear c70
         (first | rw [c70b0] | (simp only [i64_w, i32_w]; rw [c70b0]) | skip)
         as_aux_lemma =>
          have H' := aa_ H
          clear H
          go_wp2
          go_roundg k2
          case measure => have := HJ55.out; have := HK2.out; omega
          case rel => exact ⟨(x20_2), (ji62), rf_, (by first | rfl | (simp; done) | (simp only [← hji62] <;> (first | rfl | simp)) | (simp [*]; done)), H', ⟨by have := HJ55.out; have := HK2.out; omega⟩, ⟨rr_ HO_0⟩, ⟨by repeat (first | (with_reducible first | exact HK.out | apply Kept.alloc | apply Kept.drewN | apply Kept.drew) | exact HK.out)⟩, ⟨bl_⟩⟩
        ·rw [if_neg c70] at H
         have c70b0 : decide (t399 < 0) = false := decide_eq_false c70
         clear c70
         (first | rw [c70b0] | (simp only [i64_w, i32_w]; rw [c70b0]) | skip)
         as_aux_lemma =>
          have H' := aa_ H
          clear H
          go_wp2
          go_roundg k2
          case measure => have := HJ55.out; have := HK2.out; omega
          case rel => exact ⟨(wrap64 ((ji62) + 1)), (x21_2), (by first | rfl | (simp; done) | (simp only [← hji62] <;> (first | rfl | simp)) | (simp [*]; done)), rf_, H', ⟨by have := HJ55.out; have := HK2.out; omega⟩, ⟨rr_ HO_0⟩, ⟨by repeat (first | (with_reducible first | exact HK.out | apply Kept.alloc | apply Kept.drewN | apply Kept.drew) | exact HK.out)⟩, ⟨bl_⟩⟩
       ·rw [if_neg c58] at H
        have c58b0 : decide (x20_2 < x21_2) = false := decide_eq_false c58
        clear c58
        have HC71 := aa_ H
        clear H
        go_upto_region 39 with (fail)
        go_cut [185] (fun v185 wc => ∃ (kq : Nat) (x185_70 : Bool), v185 = .bool x185_70 ∧ Aside0 (impl_Item_85.j6 kq l0 a1 a2 a3 a4 (wrap64 ((IntKind.u64.wrap (wrap64 (a1 + a3))) / 2)) x20_2 (wrap64 ((wrap64 ((wrap64 ((IntKind.u64.wrap (wrap64 (a1 + a3))) / 2)) + a2)) - x20_2)) x185_70 = some r) ∧ Aside0 (kq ≤ k2) ∧ Aside0 (Kd.R k52 52 wc w0.heap.size (fun k_ => (P0_ k_ ∨ w.heap.size ≤ k_)) u9000_ l0) ∧ Aside0 (Kept w wc (fun k_ => P0_ k_)) ∧ Aside0 (Below w0.heap.size w0 wc))
        case first =>
         have H := HC71.out
         clear HC71
         by_cases c72 : x20_2 < a2
         ·rw [if_pos c72] at H
          have c72b0 : decide (x20_2 < a2) = true := decide_eq_true c72
          clear c72
          (first | rw [c72b0] | (simp only [i64_w, i32_w]; rw [c72b0]) | skip)
          as_aux_lemma =>
           have H' := aa_ H
           clear H
           go_wp2
           go_meet
           case rel => exact ⟨_, (decide (a2 < (wrap64 ((wrap64 ((wrap64 ((IntKind.u64.wrap (wrap64 (a1 + a3))) / 2)) + a2)) - x20_2)))), rf_, H', ⟨by have := HJ55.out; have := HK2.out; first | omega | exact Nat.le_refl _⟩, ⟨rr_ HO_0⟩, ⟨by repeat (first | (with_reducible first | exact HK.out | apply Kept.alloc | apply Kept.drewN | apply Kept.drew) | exact HK.out)⟩, ⟨bl_⟩⟩
         ·rw [if_neg c72] at H
          have c72b0 : decide (x20_2 < a2) = false := decide_eq_false c72
          clear c72
          (first | rw [c72b0] | (simp only [i64_w, i32_w]; rw [c72b0]) | skip)
          as_aux_lemma =>
           have H' := aa_ H
           clear H
           go_wp2
           go_meet
           case rel => exact ⟨_, (false), rf_, H', ⟨by have := HJ55.out; have := HK2.out; first | omega | exact Nat.le_refl _⟩, ⟨rr_ HO_0⟩, ⟨by repeat (first | (with_reducible first | exact HK.out | apply Kept.alloc | apply Kept.drewN | apply Kept.drew) | exact HK.out)⟩, ⟨bl_⟩⟩
        case rest =>
         clear HC71
         try clear c1
         try clear c2
         try clear p2
         try clear q2
         try clear hx2
         try clear c3
         try clear p3
         try clear q3
         try clear hx3
         try clear c4
         try clear q4
         try clear c5
         try clear p5
         try clear q5
         try clear hx5
         try clear hf5
         try clear c6
         try clear c6b0
         try clear c6b1
         try clear p6
         try clear c7
         try clear c7b0
         try clear c8
         try clear c9
         try clear c9b0
         try clear c10
         try clear c10b0
         try clear c11
         try clear c11b0
         try clear c12
         try clear c12b0
         try clear c18
         try clear c18b0
         try clear c19
         try clear c19b0
         try clear c21
         try clear c21b0
         try clear c22
         try clear c22b0
         try clear c23
         try clear c23b0
         try clear c24
         try clear c24b0
         try clear c25
         try clear p25
         try clear q25
         try clear hx25
         try clear hf25
         try clear c26
         try clear p26
         try clear q26
         try clear hx26
         try clear hf26
         try clear c29
         try clear c30
         try clear c31
         try clear c31b0
         try clear c31b1
         try clear c32
         try clear c32b0
         try clear c33
         try clear c33b0
         try clear c34
         try clear c34b0
         try clear c36
         try clear c36b0
         try clear c37
         try clear c37b0
         try clear p38
         try clear q38
         try clear hx38
         try clear p39
         try clear q39
         try clear hx39
         try clear c43
         try clear c43b0
         try clear c44
         try clear c44b0
         try clear c46
         try clear c46b0
         try clear c47
         try clear c47b0
         try clear c48
         try clear c48b0
         try clear c49
         try clear c49b0
         try clear c50
         try clear p50
         try clear q50
         try clear hx50
         try clear hf50
         try clear c51
         try clear p51
         try clear q51
         try clear hx51
         try clear hf51
         try clear c54
         try clear c55
         try clear c57
         try clear c57b0
         try clear c58
         try clear c58b0
         try clear c60
         try clear c60b0
         try clear c61
         try clear c61b0
         try clear c63
         try clear c63b0
         try clear c64
         try clear c64b0
         try clear p64
         try clear c70
         try clear c70b0
         try clear c72
         try clear c72b0
         try clear hx25_0
         try clear hx25_1
         try clear hx26_0
         try clear hx26_1
         try clear hx383_0
         try clear hx383_1
         try clear hx384_0
         try clear hx384_1
         try clear hx386_0
         try clear hx386_1
         try clear hx387_0
         try clear hx387_1
         try clear hx390_0
         try clear hx390_1
         try clear hx391_0
         try clear hx391_1
         try clear hx393_0
         try clear hx393_1
         try clear hx394_0
         try clear hx394_1
         try clear hx397_0
         try clear hx397_1
         try clear hx398_0
         try clear hx398_1
         try clear hx50_0
         try clear hx50_1
         try clear hx51_0
         try clear hx51_1
         try clear p2
         try clear p25
         try clear p26
         try clear p3
         try clear p38
         try clear p383
         try clear p384
         try clear p386
         try clear p387
         try clear p39
         try clear p390
         try clear p391
         try clear p393
         try clear p394
         try clear p397
         try clear p398
         try clear p5
         try clear p50
         try clear p51
         try clear p6
         try clear q2
         try clear q25
         try clear q26
         try clear q3
         try clear q38
         try clear q383
         try clear q384
         try clear q386
         try clear q387
         try clear q39
         try clear q390
         try clear q391
         try clear q393
         try clear q394
         try clear q397
         try clear q398
         try clear q4
         try clear q5
         try clear q50
         try clear q51
         obtain ⟨kq, x185_70, rfl, HA, HJ70, HO_0, HK, HB⟩ := hcut
         cases kq with
         | zero => exact absurd HA.out (by simp [impl_Item_85.j6])
         | succ kj70 =>
          have H := HA.out
          clear HA
          simp only [impl_Item_85.j6] at H
          have HC73 := aa_ H
          clear H
          go_upto_if 185 with (fail)
          go_cut [] (fun wc => ∃ (kq : Nat) (x0_72 : List (S52)), Aside0 (impl_Item_85.j7 kq x0_72 a1 a3 a4 (wrap64 ((IntKind.u64.wrap (wrap64 (a1 + a3))) / 2)) x20_2 (wrap64 ((wrap64 ((wrap64 ((IntKind.u64.wrap (wrap64 (a1 + a3))) / 2)) + a2)) - x20_2)) = some r) ∧ Aside0 (kq ≤ kj70) ∧ Aside0 (Kd.R k52 52 wc w0.heap.size (fun k_ => (P0_ k_ ∨ w.heap.size ≤ k_)) u9000_ x0_72) ∧ Aside0 (Kept w wc (fun k_ => P0_ k_)) ∧ Aside0 (Below w0.heap.size w0 wc))
          case first =>
           have H := HC73.out
           clear HC73
           by_cases c74 : x185_70 = true
           ·subst c74
            replace H := ite_t_ H
            obtain ⟨t400, A75, H⟩ := bindE_ H
            as_aux_lemma =>
             have H' := aa_ H
             clear H
             obtain ⟨Ao76, co76, eo76⟩ := Kd.R_slice HO_0.out
             subst eo76
             go_wp2_with (first | ((with_reducible refine gC_ 91 rfl ?_); refine goesC_ (some 191) Try.func91 #[.slice Ao76 l0.length co76, .int .i64 x20_2, .int .i64 a2, .int .i64 (wrap64 ((wrap64 ((wrap64 ((IntKind.u64.wrap (wrap64 (a1 + a3))) / 2)) + a2)) - x20_2)), .func (.func na4_) #[] ga4_] ?_; (with_reducible refine (impl_Item_91.calls kj70 (fun k_ => some k_ = (.slice Ao76 l0.length co76 : Value).ownBlock) (.slice Ao76 l0.length co76) l0 x20_2 a2 (wrap64 ((wrap64 ((wrap64 ((IntKind.u64.wrap (wrap64 (a1 + a3))) / 2)) + a2)) - x20_2)) a4 na4_ ga4_ t400 w0 _ ?side1 ?side2 ?side3 A75.out).mono ?_); (case side1 => repeat (first | (with_reducible first | exact HB.out | apply below_alloc | apply pw_below_drewN | apply below_drew1) | exact HB.out)); (case side2 => exact Kd.R_tight rfl HO_0.out); (case side3 => exact HFN4.out); rintro e w77 ⟨rfl, hy0, hb, hkp⟩; refine ⟨_, rfl, ?_⟩; replace HK := aa_ (Kept.then_ (S := (fun k_ => P0_ k_)) (by repeat (first | (with_reducible first | exact HK.out | apply Kept.alloc | apply Kept.drewN | apply Kept.drew) | exact HK.out)) hkp (fun k_ hs_ => (fun e_ => (HO_0.out.1 k_ e_.symm)) hs_)); replace HO_0 := aa_ (Kd.R_reok rfl hy0 (fun k_ e_ => HO_0.out.1 k_ e_)); replace HB := aa_ (hb); (try clear hb hkp hy0)))
             go_meet
             case rel => exact ⟨_, (t400), H', ⟨by have := HJ55.out; have := HK2.out; have := HJ70.out; first | omega | exact Nat.le_refl _⟩, ⟨rr_ HO_0⟩, ⟨by repeat (first | (with_reducible first | exact HK.out | apply Kept.alloc | apply Kept.drewN | apply Kept.drew) | exact HK.out)⟩, ⟨bl_⟩⟩
           ·replace c74 := Bool.eq_false_iff.mpr c74
            subst c74
            replace H := ite_f_ H
            as_aux_lemma =>
             have H' := aa_ H
             clear H
             go_wp2
             go_meet
             case rel => exact ⟨_, (l0), H', ⟨by have := HJ55.out; have := HK2.out; have := HJ70.out; first | omega | exact Nat.le_refl _⟩, ⟨rr_ HO_0⟩, ⟨by repeat (first | (with_reducible first | exact HK.out | apply Kept.alloc | apply Kept.drewN | apply Kept.drew) | exact HK.out)⟩, ⟨bl_⟩⟩
          case rest =>
           clear HC73
           try clear c1
           try clear c2
           try clear p2
           try clear q2
           try clear hx2
           try clear c3
           try clear p3
           try clear q3
           try clear hx3
           try clear c4
           try clear q4
           try clear c5
           try clear p5
           try clear q5
           try clear hx5
           try clear hf5
           try clear c6
           try clear c6b0
           try clear c6b1
           try clear p6
           try clear c7
           try clear c7b0
           try clear c8
           try clear c9
           try clear c9b0
           try clear c10
           try clear c10b0
           try clear c11
           try clear c11b0
           try clear c12
           try clear c12b0
           try clear c18
           try clear c18b0
           try clear c19
           try clear c19b0
           try clear c21
           try clear c21b0
           try clear c22
           try clear c22b0
           try clear c23
           try clear c23b0
           try clear c24
           try clear c24b0
           try clear c25
           try clear p25
           try clear q25
           try clear hx25
           try clear hf25
           try clear c26
           try clear p26
           try clear q26
           try clear hx26
           try clear hf26
           try clear c29
           try clear c30
           try clear c31
           try clear c31b0
           try clear c31b1
           try clear c32
           try clear c32b0
           try clear c33
           try clear c33b0
           try clear c34
           try clear c34b0
           try clear c36
           try clear c36b0
           try clear c37
           try clear c37b0
           try clear p38
           try clear q38
           try clear hx38
           try clear p39
           try clear q39
           try clear hx39
           try clear c43
           try clear c43b0
           try clear c44
           try clear c44b0
           try clear c46
           try clear c46b0
           try clear c47
           try clear c47b0
           try clear c48
           try clear c48b0
           try clear c49
           try clear c49b0
           try clear c50
           try clear p50
           try clear q50
           try clear hx50
           try clear hf50
           try clear c51
           try clear p51
           try clear q51
           try clear hx51
           try clear hf51
           try clear c54
           try clear c55
           try clear c57
           try clear c57b0
           try clear c58
           try clear c58b0
           try clear c60
           try clear c60b0
           try clear c61
           try clear c61b0
           try clear c63
           try clear c63b0
           try clear c64
           try clear c64b0
           try clear p64
           try clear c70
           try clear c70b0
           try clear c72
           try clear c72b0
           try clear c74
           try clear hx25_0
           try clear hx25_1
           try clear hx26_0
           try clear hx26_1
           try clear hx383_0
           try clear hx383_1
           try clear hx384_0
           try clear hx384_1
           try clear hx386_0
           try clear hx386_1
           try clear hx387_0
           try clear hx387_1
           try clear hx390_0
           try clear hx390_1
           try clear hx391_0
           try clear hx391_1
           try clear hx393_0
           try clear hx393_1
           try clear hx394_0
           try clear hx394_1
           try clear hx397_0
           try clear hx397_1
           try clear hx398_0
           try clear hx398_1
           try clear hx50_0
           try clear hx50_1
           try clear hx51_0
           try clear hx51_1
           try clear p2
           try clear p25
           try clear p26
           try clear p3
           try clear p38
           try clear p383
           try clear p384
           try clear p386
           try clear p387
           try clear p39
           try clear p390
           try clear p391
           try clear p393
           try clear p394
           try clear p397
           try clear p398
           try clear p5
           try clear p50
           try clear p51
           try clear p6
           try clear p64
           try clear q2
           try clear q25
           try clear q26
           try clear q3
           try clear q38
           try clear q383
           try clear q384
           try clear q386
           try clear q387
           try clear q39
           try clear q390
           try clear q391
           try clear q393
           try clear q394
           try clear q397
           try clear q398
           try clear q4
           try clear q5
           try clear q50
           try clear q51
           obtain ⟨kq, x0_72, HA, HJ72, HO_0, HK, HB⟩ := hcut
           cases kq with
           | zero => exact absurd HA.out (by simp [impl_Item_85.j7])
           | succ kj72 =>
            have H := HA.out
            clear HA
            simp only [impl_Item_85.j7] at H
            have HC78 := aa_ H
            clear H
            go_upto_region 41 with (fail)
            go_cut [199] (fun v199 wc => ∃ (kq : Nat) (x199_77 : Bool), v199 = .bool x199_77 ∧ Aside0 (impl_Item_85.j8 kq x0_72 a1 a3 a4 (wrap64 ((IntKind.u64.wrap (wrap64 (a1 + a3))) / 2)) x20_2 (wrap64 ((wrap64 ((wrap64 ((IntKind.u64.wrap (wrap64 (a1 + a3))) / 2)) + a2)) - x20_2)) x199_77 = some r) ∧ Aside0 (kq ≤ kj72) ∧ Aside0 (Kd.R k52 52 wc w0.heap.size (fun k_ => (P0_ k_ ∨ w.heap.size ≤ k_)) u9000_ x0_72) ∧ Aside0 (Kept w wc (fun k_ => P0_ k_)) ∧ Aside0 (Below w0.heap.size w0 wc))
            case first =>
             have H := HC78.out
             clear HC78
             by_cases c79 : a1 < x20_2
             ·rw [if_pos c79] at H
              have c79b0 : decide (a1 < x20_2) = true := decide_eq_true c79
              clear c79
              (first | rw [c79b0] | (simp only [i64_w, i32_w]; rw [c79b0]) | skip)
              as_aux_lemma =>
               have H' := aa_ H
               clear H
               go_wp2
               go_meet
               case rel => exact ⟨_, (decide (x20_2 < (wrap64 ((IntKind.u64.wrap (wrap64 (a1 + a3))) / 2)))), rf_, H', ⟨by have := HJ55.out; have := HK2.out; have := HJ70.out; have := HJ72.out; first | omega | exact Nat.le_refl _⟩, ⟨rr_ HO_0⟩, ⟨by repeat (first | (with_reducible first | exact HK.out | apply Kept.alloc | apply Kept.drewN | apply Kept.drew) | exact HK.out)⟩, ⟨bl_⟩⟩
             ·rw [if_neg c79] at H
              have c79b0 : decide (a1 < x20_2) = false := decide_eq_false c79
              clear c79
              (first | rw [c79b0] | (simp only [i64_w, i32_w]; rw [c79b0]) | skip)
              as_aux_lemma =>
               have H' := aa_ H
               clear H
               go_wp2
               go_meet
               case rel => exact ⟨_, (false), rf_, H', ⟨by have := HJ55.out; have := HK2.out; have := HJ70.out; have := HJ72.out; first | omega | exact Nat.le_refl _⟩, ⟨rr_ HO_0⟩, ⟨by repeat (first | (with_reducible first | exact HK.out | apply Kept.alloc | apply Kept.drewN | apply Kept.drew) | exact HK.out)⟩, ⟨bl_⟩⟩
            case rest =>
             clear HC78
             try clear c1
             try clear c2
             try clear p2
             try clear q2
             try clear hx2
             try clear c3
             try clear p3
             try clear q3
             try clear hx3
             try clear c4
             try clear q4
             try clear c5
             try clear p5
             try clear q5
             try clear hx5
             try clear hf5
             try clear c6
             try clear c6b0
             try clear c6b1
             try clear p6
             try clear c7
             try clear c7b0
             try clear c8
             try clear c9
             try clear c9b0
             try clear c10
             try clear c10b0
             try clear c11
             try clear c11b0
             try clear c12
             try clear c12b0
             try clear c18
             try clear c18b0
             try clear c19
             try clear c19b0
             try clear c21
             try clear c21b0
             try clear c22
             try clear c22b0
             try clear c23
             try clear c23b0
             try clear c24
             try clear c24b0
             try clear c25
             try clear p25
             try clear q25
             try clear hx25
             try clear hf25
             try clear c26
             try clear p26
             try clear q26
             try clear hx26
             try clear hf26
             try clear c29
             try clear c30
             try clear c31
             try clear c31b0
             try clear c31b1
             try clear c32
             try clear c32b0
             try clear c33
             try clear c33b0
             try clear c34
             try clear c34b0
             try clear c36
             try clear c36b0
             try clear c37
             try clear c37b0
             try clear p38
             try clear q38
             try clear hx38
             try clear p39
             try clear q39
             try clear hx39
             try clear c43
             try clear c43b0
             try clear c44
             try clear c44b0
             try clear c46
             try clear c46b0
             try clear c47
             try clear c47b0
             try clear c48
             try clear c48b0
             try clear c49
             try clear c49b0
             try clear c50
             try clear p50
             try clear q50
             try clear hx50
             try clear hf50
             try clear c51
             try clear p51
             try clear q51
             try clear hx51
             try clear hf51
             try clear c54
             try clear c55
             try clear c57
             try clear c57b0
             try clear c58
             try clear c58b0
             try clear c60
             try clear c60b0
             try clear c61
             try clear c61b0
             try clear c63
             try clear c63b0
             try clear c64
             try clear c64b0
             try clear p64
             try clear c70
             try clear c70b0
             try clear c72
             try clear c72b0
             try clear c74
             try clear c79
             try clear c79b0
             try clear hx25_0
             try clear hx25_1
             try clear hx26_0
             try clear hx26_1
             try clear hx383_0
             try clear hx383_1
             try clear hx384_0
             try clear hx384_1
             try clear hx386_0
             try clear hx386_1
             try clear hx387_0
             try clear hx387_1
             try clear hx390_0
             try clear hx390_1
             try clear hx391_0
             try clear hx391_1
             try clear hx393_0
             try clear hx393_1
             try clear hx394_0
             try clear hx394_1
             try clear hx397_0
             try clear hx397_1
             try clear hx398_0
             try clear hx398_1
             try clear hx50_0
             try clear hx50_1
             try clear hx51_0
             try clear hx51_1
             try clear p2
             try clear p25
             try clear p26
             try clear p3
             try clear p38
             try clear p383
             try clear p384
             try clear p386
             try clear p387
             try clear p39
             try clear p390
             try clear p391
             try clear p393
             try clear p394
             try clear p397
             try clear p398
             try clear p5
             try clear p50
             try clear p51
             try clear p6
             try clear p64
             try clear q2
             try clear q25
             try clear q26
             try clear q3
             try clear q38
             try clear q383
             try clear q384
             try clear q386
             try clear q387
             try clear q39
             try clear q390
             try clear q391
             try clear q393
             try clear q394
             try clear q397
             try clear q398
             try clear q4
             try clear q5
             try clear q50
             try clear q51
             obtain ⟨kq, x199_77, rfl, HA, HJ77, HO_0, HK, HB⟩ := hcut
             cases kq with
             | zero => exact absurd HA.out (by simp [impl_Item_85.j8])
             | succ kj77 =>
              have H := HA.out
              clear HA
              simp only [impl_Item_85.j8] at H
              by_cases c80 : x199_77 = true
              ·subst c80
               replace H := ite_t_ H
               obtain ⟨t401, A81, H⟩ := bindE_ H
               by_cases c82 : (wrap64 ((IntKind.u64.wrap (wrap64 (a1 + a3))) / 2)) < (wrap64 ((wrap64 ((wrap64 ((IntKind.u64.wrap (wrap64 (a1 + a3))) / 2)) + a2)) - x20_2))
               ·rw [if_pos c82] at H
                have c82b0 : decide ((wrap64 ((IntKind.u64.wrap (wrap64 (a1 + a3))) / 2)) < (wrap64 ((wrap64 ((wrap64 ((IntKind.u64.wrap (wrap64 (a1 + a3))) / 2)) + a2)) - x20_2))) = true := decide_eq_true c82
                clear c82
                have HC83 := aa_ H
                clear H
                obtain ⟨Ao84, co84, eo84⟩ := Kd.R_slice HO_0.out
                subst eo84
                go_upto_if 213 with (first | ((with_reducible refine gC_ 85 rfl ?_); refine goesC_ (some 205) Try.func85 #[.slice Ao84 x0_72.length co84, .int .i64 a1, .int .i64 x20_2, .int .i64 (wrap64 ((IntKind.u64.wrap (wrap64 (a1 + a3))) / 2)), .func (.func na4_) #[] ga4_] ?_; (with_reducible refine (ih kj77 (by have := HJ55.out; have := HK2.out; have := HJ70.out; have := HJ72.out; have := HJ77.out; omega) (fun k_ => some k_ = (.slice Ao84 x0_72.length co84 : Value).ownBlock) (.slice Ao84 x0_72.length co84) x0_72 a1 x20_2 (wrap64 ((IntKind.u64.wrap (wrap64 (a1 + a3))) / 2)) a4 na4_ ga4_ t401 w0 _ ?side1 ?side2 ?side3 A81.out).mono ?_); (case side1 => repeat (first | (with_reducible first | exact HB.out | apply below_alloc | apply pw_below_drewN | apply below_drew1) | exact HB.out)); (case side2 => exact Kd.R_tight rfl HO_0.out); (case side3 => exact HFN4.out); rintro e w85 ⟨rfl, hy0, hb, hkp⟩; refine ⟨_, rfl, ?_⟩; replace HK := aa_ (Kept.then_ (S := (fun k_ => P0_ k_)) (by repeat (first | (with_reducible first | exact HK.out | apply Kept.alloc | apply Kept.drewN | apply Kept.drew) | exact HK.out)) hkp (fun k_ hs_ => (fun e_ => (HO_0.out.1 k_ e_.symm)) hs_)); replace HO_0 := aa_ (Kd.R_reok rfl hy0 (fun k_ e_ => HO_0.out.1 k_ e_)); replace HB := aa_ (hb); (try clear hb hkp hy0)))
                (try simp only [Act.put, List.setIfInBounds_toArray, List.set_cons_zero, List.set_cons_succ])
                have H := HC83.out
                clear HC83
                by_cases c86 : (wrap64 ((wrap64 ((wrap64 ((IntKind.u64.wrap (wrap64 (a1 + a3))) / 2)) + a2)) - x20_2)) < a3
                ·rw [if_pos c86] at H
                 have c86b0 : decide ((wrap64 ((wrap64 ((wrap64 ((IntKind.u64.wrap (wrap64 (a1 + a3))) / 2)) + a2)) - x20_2)) < a3) = true := decide_eq_true c86
                 clear c86
                 (first | rw [c86b0] | (simp only [i64_w, i32_w]; rw [c86b0]) | skip)
                 obtain ⟨t402, A87, H⟩ := bindE_ H
                 as_aux_lemma =>
                  obtain rfl := Option.some.inj H
                  go_wp2_with (first | ((with_reducible refine gC_ 85 rfl ?_); refine goesC_ (some 219) Try.func85 #[.slice Ao84 x0_72.length co84, .int .i64 (wrap64 ((IntKind.u64.wrap (wrap64 (a1 + a3))) / 2)), .int .i64 (wrap64 ((wrap64 ((wrap64 ((IntKind.u64.wrap (wrap64 (a1 + a3))) / 2)) + a2)) - x20_2)), .int .i64 a3, .func (.func na4_) #[] ga4_] ?_; (with_reducible refine (ih kj77 (by have := HJ55.out; have := HK2.out; have := HJ70.out; have := HJ72.out; have := HJ77.out; omega) (fun k_ => some k_ = (.slice Ao84 x0_72.length co84 : Value).ownBlock) (.slice Ao84 x0_72.length co84) t401 (wrap64 ((IntKind.u64.wrap (wrap64 (a1 + a3))) / 2)) (wrap64 ((wrap64 ((wrap64 ((IntKind.u64.wrap (wrap64 (a1 + a3))) / 2)) + a2)) - x20_2)) a3 a4 na4_ ga4_ t402 w0 _ ?side1 ?side2 ?side3 A87.out).mono ?_); (case side1 => repeat (first | (with_reducible first | exact HB.out | apply below_alloc | apply pw_below_drewN | apply below_drew1) | exact HB.out)); (case side2 => exact Kd.R_tight rfl HO_0.out); (case side3 => exact HFN4.out); rintro e w88 ⟨rfl, hy0, hb, hkp⟩; refine ⟨_, rfl, ?_⟩; replace HK := aa_ (Kept.then_ (S := (fun k_ => P0_ k_)) (by repeat (first | (with_reducible first | exact HK.out | apply Kept.alloc | apply Kept.drewN | apply Kept.drew) | exact HK.out)) hkp (fun k_ hs_ => (fun e_ => (HO_0.out.1 k_ e_.symm)) hs_)); replace HO_0 := aa_ (Kd.R_reok rfl hy0 (fun k_ e_ => HO_0.out.1 k_ e_)); replace HB := aa_ (hb); (try clear hb hkp hy0)))
                  first | go_end0 | ((try simp only [Exit.inBlock, Exit.then]); refine bodyPost_ret (results_none rfl _ _ _) rfl ?_)
                  exact ⟨eq_, by (with_reducible repeat (first | apply Kd.R_alloc | apply Kd.R_drewN | apply Kd.R_drew)); exact HO_0.out, bl_, by repeat (first | (with_reducible first | exact HK.out | apply Kept.alloc | apply Kept.drewN | apply Kept.drew) | exact HK.out)⟩
                ·rw [if_neg c86] at H
                 have c86b0 : decide ((wrap64 ((wrap64 ((wrap64 ((IntKind.u64.wrap (wrap64 (a1 + a3))) / 2)) + a2)) - x20_2)) < a3) = false := decide_eq_false c86
                 clear c86
                 (first | rw [c86b0] | (simp only [i64_w, i32_w]; rw [c86b0]) | skip)
                 as_aux_lemma =>
                  obtain rfl := Option.some.inj H
                  go_wp2
                  first | go_end0 | ((try simp only [Exit.inBlock, Exit.then]); refine bodyPost_ret (results_none rfl _ _ _) rfl ?_)
                  exact ⟨eq_, by (with_reducible repeat (first | apply Kd.R_alloc | apply Kd.R_drewN | apply Kd.R_drew)); exact HO_0.out, bl_, by repeat (first | (with_reducible first | exact HK.out | apply Kept.alloc | apply Kept.drewN | apply Kept.drew) | exact HK.out)⟩
               ·rw [if_neg c82] at H
                have c82b0 : decide ((wrap64 ((IntKind.u64.wrap (wrap64 (a1 + a3))) / 2)) < (wrap64 ((wrap64 ((wrap64 ((IntKind.u64.wrap (wrap64 (a1 + a3))) / 2)) + a2)) - x20_2))) = false := decide_eq_false c82
                clear c82
                as_aux_lemma =>
                 obtain rfl := Option.some.inj H
                 obtain ⟨Ao89, co89, eo89⟩ := Kd.R_slice HO_0.out
                 subst eo89
                 go_wp2_with (first | ((with_reducible refine gC_ 85 rfl ?_); refine goesC_ (some 205) Try.func85 #[.slice Ao89 x0_72.length co89, .int .i64 a1, .int .i64 x20_2, .int .i64 (wrap64 ((IntKind.u64.wrap (wrap64 (a1 + a3))) / 2)), .func (.func na4_) #[] ga4_] ?_; (with_reducible refine (ih kj77 (by have := HJ55.out; have := HK2.out; have := HJ70.out; have := HJ72.out; have := HJ77.out; omega) (fun k_ => some k_ = (.slice Ao89 x0_72.length co89 : Value).ownBlock) (.slice Ao89 x0_72.length co89) x0_72 a1 x20_2 (wrap64 ((IntKind.u64.wrap (wrap64 (a1 + a3))) / 2)) a4 na4_ ga4_ t401 w0 _ ?side1 ?side2 ?side3 A81.out).mono ?_); (case side1 => repeat (first | (with_reducible first | exact HB.out | apply below_alloc | apply pw_below_drewN | apply below_drew1) | exact HB.out)); (case side2 => exact Kd.R_tight rfl HO_0.out); (case side3 => exact HFN4.out); rintro e w90 ⟨rfl, hy0, hb, hkp⟩; refine ⟨_, rfl, ?_⟩; replace HK := aa_ (Kept.then_ (S := (fun k_ => P0_ k_)) (by repeat (first | (with_reducible first | exact HK.out | apply Kept.alloc | apply Kept.drewN | apply Kept.drew) | exact HK.out)) hkp (fun k_ hs_ => (fun e_ => (HO_0.out.1 k_ e_.symm)) hs_)); replace HO_0 := aa_ (Kd.R_reok rfl hy0 (fun k_ e_ => HO_0.out.1 k_ e_)); replace HB := aa_ (hb); (try clear hb hkp hy0)))
                 first | go_end0 | ((try simp only [Exit.inBlock, Exit.then]); refine bodyPost_ret (results_none rfl _ _ _) rfl ?_)
                 exact ⟨eq_, by (with_reducible repeat (first | apply Kd.R_alloc | apply Kd.R_drewN | apply Kd.R_drew)); exact HO_0.out, bl_, by repeat (first | (with_reducible first | exact HK.out | apply Kept.alloc | apply Kept.drewN | apply Kept.drew) | exact HK.out)⟩
              ·replace c80 := Bool.eq_false_iff.mpr c80
               subst c80
               replace H := ite_f_ H
               by_cases c91 : (wrap64 ((IntKind.u64.wrap (wrap64 (a1 + a3))) / 2)) < (wrap64 ((wrap64 ((wrap64 ((IntKind.u64.wrap (wrap64 (a1 + a3))) / 2)) + a2)) - x20_2))
               ·rw [if_pos c91] at H
                have c91b0 : decide ((wrap64 ((IntKind.u64.wrap (wrap64 (a1 + a3))) / 2)) < (wrap64 ((wrap64 ((wrap64 ((IntKind.u64.wrap (wrap64 (a1 + a3))) / 2)) + a2)) - x20_2))) = true := decide_eq_true c91
                clear c91
                by_cases c92 : (wrap64 ((wrap64 ((wrap64 ((IntKind.u64.wrap (wrap64 (a1 + a3))) / 2)) + a2)) - x20_2)) < a3
                ·rw [if_pos c92] at H
                 have c92b0 : decide ((wrap64 ((wrap64 ((wrap64 ((IntKind.u64.wrap (wrap64 (a1 + a3))) / 2)) + a2)) - x20_2)) < a3) = true := decide_eq_true c92
                 clear c92
                 obtain ⟨t403, A93, H⟩ := bindE_ H
                 as_aux_lemma =>
                  obtain rfl := Option.some.inj H
                  obtain ⟨Ao94, co94, eo94⟩ := Kd.R_slice HO_0.out
                  subst eo94
                  go_wp2_with (first | ((with_reducible refine gC_ 85 rfl ?_); refine goesC_ (some 219) Try.func85 #[.slice Ao94 x0_72.length co94, .int .i64 (wrap64 ((IntKind.u64.wrap (wrap64 (a1 + a3))) / 2)), .int .i64 (wrap64 ((wrap64 ((wrap64 ((IntKind.u64.wrap (wrap64 (a1 + a3))) / 2)) + a2)) - x20_2)), .int .i64 a3, .func (.func na4_) #[] ga4_] ?_; (with_reducible refine (ih kj77 (by have := HJ55.out; have := HK2.out; have := HJ70.out; have := HJ72.out; have := HJ77.out; omega) (fun k_ => some k_ = (.slice Ao94 x0_72.length co94 : Value).ownBlock) (.slice Ao94 x0_72.length co94) x0_72 (wrap64 ((IntKind.u64.wrap (wrap64 (a1 + a3))) / 2)) (wrap64 ((wrap64 ((wrap64 ((IntKind.u64.wrap (wrap64 (a1 + a3))) / 2)) + a2)) - x20_2)) a3 a4 na4_ ga4_ t403 w0 _ ?side1 ?side2 ?side3 A93.out).mono ?_); (case side1 => repeat (first | (with_reducible first | exact HB.out | apply below_alloc | apply pw_below_drewN | apply below_drew1) | exact HB.out)); (case side2 => exact Kd.R_tight rfl HO_0.out); (case side3 => exact HFN4.out); rintro e w95 ⟨rfl, hy0, hb, hkp⟩; refine ⟨_, rfl, ?_⟩; replace HK := aa_ (Kept.then_ (S := (fun k_ => P0_ k_)) (by repeat (first | (with_reducible first | exact HK.out | apply Kept.alloc | apply Kept.drewN | apply Kept.drew) | exact HK.out)) hkp (fun k_ hs_ => (fun e_ => (HO_0.out.1 k_ e_.symm)) hs_)); replace HO_0 := aa_ (Kd.R_reok rfl hy0 (fun k_ e_ => HO_0.out.1 k_ e_)); replace HB := aa_ (hb); (try clear hb hkp hy0)))
                  first | go_end0 | ((try simp only [Exit.inBlock, Exit.then]); refine bodyPost_ret (results_none rfl _ _ _) rfl ?_)
                  exact ⟨eq_, by (with_reducible repeat (first | apply Kd.R_alloc | apply Kd.R_drewN | apply Kd.R_drew)); exact HO_0.out, bl_, by repeat (first | (with_reducible first | exact HK.out | apply Kept.alloc | apply Kept.drewN | apply Kept.drew) | exact HK.out)⟩
                ·rw [if_neg c92] at H
                 have c92b0 : decide ((wrap64 ((wrap64 ((wrap64 ((IntKind.u64.wrap (wrap64 (a1 + a3))) / 2)) + a2)) - x20_2)) < a3) = false := decide_eq_false c92
                 clear c92
                 as_aux_lemma =>
                  obtain rfl := Option.some.inj H
                  go_wp2
                  first | go_end0 | ((try simp only [Exit.inBlock, Exit.then]); refine bodyPost_ret (results_none rfl _ _ _) rfl ?_)
                  exact ⟨eq_, by (with_reducible repeat (first | apply Kd.R_alloc | apply Kd.R_drewN | apply Kd.R_drew)); exact HO_0.out, bl_, by repeat (first | (with_reducible first | exact HK.out | apply Kept.alloc | apply Kept.drewN | apply Kept.drew) | exact HK.out)⟩
               ·rw [if_neg c91] at H
                have c91b0 : decide ((wrap64 ((IntKind.u64.wrap (wrap64 (a1 + a3))) / 2)) < (wrap64 ((wrap64 ((wrap64 ((IntKind.u64.wrap (wrap64 (a1 + a3))) / 2)) + a2)) - x20_2))) = false := decide_eq_false c91
                clear c91
                as_aux_lemma =>
                 obtain rfl := Option.some.inj H
                 go_wp2
                 first | go_end0 | ((try simp only [Exit.inBlock, Exit.then]); refine bodyPost_ret (results_none rfl _ _ _) rfl ?_)
                 exact ⟨eq_, by (with_reducible repeat (first | apply Kd.R_alloc | apply Kd.R_drewN | apply Kd.R_drew)); exact HO_0.out, bl_, by repeat (first | (with_reducible first | exact HK.out | apply Kept.alloc | apply Kept.drewN | apply Kept.drew) | exact HK.out)⟩
end Go.Proofs.Ytkimdmdkldlhpaa.PA
