import Derived.Test.YtingghknjicpjaaKPPBx1
-- printed by wip/tools
namespace Go.Proofs.Ytingghknjicpjaa.PB
open Go.RowKit Go.Proofs.YtingghknjicpjaaW.PrintWords Go.Proofs.YtingghknjicpjaaW.PrintLast Go.Proofs.YtingghknjicpjaaW.PrintMore
attribute [local go_sem] max2_int min2_int max_two min_two max_three min_three max_four min_four
set_option linter.unusedVariables false
set_option linter.unusedSimpArgs false
mutual
def impl_ShaBlock.j0 : Nat → List Int → ByteArray → List Int → Bool → Option (List Int)
 | 0, _, _, _, _ => none
 | k + 1, x0, x1, x5, x28 => if x28 = true then (some x5) else (if 8 ≤ 70368744177664 then (impl_ShaBlock.l0 k x1 x5 (List.replicate 8 0) x0 (x0.length : Int) 0) else (none))
def impl_ShaBlock.l0 : Nat → ByteArray → List Int → List Int → List Int → Int → Int → Option (List Int)
 | 0, _, _, _, _, _, _ => none
 | k + 1, x1, x5, x6, x31, x32, x33 => if x33 < x32 then (if 0 ≤ x33 then (if x33 < (x31.length : Int) then ((impl_in.f (rd x31 x33) 0 4294967295).bind fun t140 => (if t140 = true then (if x33 < (x6.length : Int) then (impl_ShaBlock.l0 k x1 x5 (x6.set (x33 : Int).toNat ((rd x31 x33) % 4294967296)) x31 x32 (wrap64 (x33 + 1))) else (none)) else (some x5))) else (none)) else (none)) else ((impl_rounds.f).bind fun t142 => ((impl_schedule.f k x1).bind fun t145 => (impl_ShaBlock.l1 k x5 x6 t142 t145 (t145.length : Int) 0)))
def impl_ShaBlock.l1 : Nat → List Int → List Int → List Int → List Int → Int → Int → Option (List Int)
 | 0, _, _, _, _, _, _ => none
 | k + 1, x5, x6, x9, x50, x51, x52 => if x52 < x51 then (if 0 ≤ x52 then (if x52 < (x50.length : Int) then (if 4 < (x6.length : Int) then (if 0 < (x6.length : Int) then (if 7 < (x6.length : Int) then ((impl_turn.f (rd x6 4) 6).bind fun t152 => ((impl_turn.f (rd x6 4) 11).bind fun t153 => ((impl_turn.f (rd x6 4) 25).bind fun t154 => (if 5 < (x6.length : Int) then (if 6 < (x6.length : Int) then (if x52 < (x9.length : Int) then ((impl_turn.f (rd x6 0) 2).bind fun t158 => ((impl_turn.f (rd x6 0) 13).bind fun t159 => ((impl_turn.f (rd x6 0) 22).bind fun t160 => (if 1 < (x6.length : Int) then (if 2 < (x6.length : Int) then (if 3 < (x6.length : Int) then (impl_ShaBlock.l1 k x5 (([((((((((((rd x6 7) + (Go.bits .xor .u32 (Go.bits .xor .u32 t152 t153) t154)) % 4294967296) + (Go.bits .xor .u32 (Go.bits .and .u32 (rd x6 4) (rd x6 5)) (Go.bits .and .u32 (Go.bits .xor .u32 4294967295 (rd x6 4)) (rd x6 6)))) % 4294967296) + (rd x9 x52)) % 4294967296) + (rd x50 x52)) % 4294967296) + (((Go.bits .xor .u32 (Go.bits .xor .u32 t158 t159) t160) + (Go.bits .xor .u32 (Go.bits .xor .u32 (Go.bits .and .u32 (rd x6 0) (rd x6 1)) (Go.bits .and .u32 (rd x6 0) (rd x6 2))) (Go.bits .and .u32 (rd x6 1) (rd x6 2)))) % 4294967296)) % 4294967296, rd x6 0, rd x6 1, rd x6 2, ((rd x6 3) + (((((((((rd x6 7) + (Go.bits .xor .u32 (Go.bits .xor .u32 t152 t153) t154)) % 4294967296) + (Go.bits .xor .u32 (Go.bits .and .u32 (rd x6 4) (rd x6 5)) (Go.bits .and .u32 (Go.bits .xor .u32 4294967295 (rd x6 4)) (rd x6 6)))) % 4294967296) + (rd x9 x52)) % 4294967296) + (rd x50 x52)) % 4294967296)) % 4294967296, rd x6 4, rd x6 5, rd x6 6] : List Int)) x9 x50 x51 (wrap64 (x52 + 1))) else (none)) else (none)) else (none))))) else (none)) else (none)) else (none))))) else (none)) else (none)) else (none)) else (none)) else (none)) else (impl_ShaBlock.l2 k x5 x6 (x6.length : Int) 0)
def impl_ShaBlock.l2 : Nat → List Int → List Int → Int → Int → Option (List Int)
 | 0, _, _, _, _ => none
 | k + 1, x5, x151, x152, x153 => if x153 < x152 then (if 0 ≤ x153 then (if x153 < (x151.length : Int) then (if x153 < (x5.length : Int) then (impl_ShaBlock.l2 k (x5.set (x153 : Int).toNat ((((rd x5 x153) % 4294967296) + (rd x151 x153)) % 4294967296)) x151 x152 (wrap64 (x153 + 1))) else (none)) else (none)) else (none)) else (some x5)
end
def impl_ShaBlock.f (k : Nat) (l0 : List Int) (a1 : ByteArray) : Option (List Int) := (some (([] : List Int) : List Int)).bind fun y130 => (if y130.length + l0.length < 17592186044416 then ((some (y130 ++ l0 : List Int)).bind fun y133 => (if (l0.length : Int) = 8 then (impl_ShaBlock.j0 k l0 a1 y133 ((a1.size : Int) != 64)) else (impl_ShaBlock.j0 k l0 a1 y133 true))) else (none))
def impl_ShaBlock.T16 : Bool × List (List Nat × List Nat) := (true, [([], []), ([0], [0]), ([1], [1]), ([], []), ([3], [3]), ([4], [4]), ([2, 0, 1, 2], [2]), ([5, 6, 0, 1, 2, 3, 4, 5, 6], [5])])
def impl_ShaBlock.B16 : List Nat := [0, 1, 3, 0, 8, 24, 7, 127]
theorem impl_ShaBlock.tab16 : rtab .any (opsOf Try.f14 16) = impl_ShaBlock.T16 := by kernel_rfl
theorem impl_ShaBlock.bits16 : waitsOk impl_ShaBlock.T16.2 impl_ShaBlock.B16 = true := by kernel_rfl
def impl_ShaBlock.T17 : Bool × List (List Nat × List Nat) := (true, [([], []), ([0], [0]), ([1], [1]), ([], []), ([3], [3]), ([], []), ([5, 4], [5]), ([4, 6], [4, 6]), ([], []), ([8, 6], [8]), ([7, 9], [7, 9]), ([2, 10], [2, 10]), ([], []), ([], []), ([13], [13]), ([14], [14]), ([12, 15], [12, 15]), ([], []), ([17], [17]), ([], []), ([19], [19]), ([20], [20]), ([18, 21], [18, 21]), ([16, 22], [16, 22]), ([11, 23], [11, 23]), ([], []), ([], []), ([25, 26], [25, 26]), ([27], [27]), ([24, 28], [24, 28]), ([], []), ([29, 30], [29, 30]), ([31, 9, 0, 1, 2, 3, 4, 5, 6, 7, 8, 9, 10, 11, 12, 13, 14, 15, 16, 17, 18, 19, 20, 21, 22, 23, 24, 25, 26, 27, 28, 29, 30, 31], [31])])
def impl_ShaBlock.B17 : List Nat := [0, 1, 3, 0, 8, 0, 56, 120, 0, 376, 1016, 2047, 0, 0, 8192, 24576, 61440, 0, 131072, 0, 524288, 1572864, 4063232, 8384512, 16777215, 0, 0, 100663296, 234881024, 536870911, 0, 2147483647, 4294967295]
theorem impl_ShaBlock.tab17 : rtab .any (opsOf Try.f14 17) = impl_ShaBlock.T17 := by kernel_rfl
theorem impl_ShaBlock.bits17 : waitsOk impl_ShaBlock.T17.2 impl_ShaBlock.B17 = true := by kernel_rfl
def impl_ShaBlock.T18 : Bool × List (List Nat × List Nat) := (true, [([], []), ([0], [0]), ([], []), ([2, 1], [2]), ([1, 3], [1, 3]), ([], []), ([5, 3], [5]), ([4, 6], [4, 6]), ([], []), ([], []), ([9], [9]), ([10], [10]), ([8, 11], [8, 11]), ([], []), ([], []), ([14], [14]), ([15], [15]), ([13, 16], [13, 16]), ([12, 17], [12, 17]), ([], []), ([19], [19]), ([20], [20]), ([], []), ([22], [22]), ([23], [23]), ([21, 24], [21, 24]), ([18, 25], [18, 25]), ([7, 26], [7, 26]), ([27, 6, 0, 1, 2, 3, 4, 5, 6, 7, 8, 9, 10, 11, 12, 13, 14, 15, 16, 17, 18, 19, 20, 21, 22, 23, 24, 25, 26, 27], [27])])
def impl_ShaBlock.B18 : List Nat := [0, 1, 0, 7, 15, 0, 47, 127, 0, 0, 512, 1536, 3840, 0, 0, 16384, 49152, 122880, 261888, 0, 524288, 1572864, 0, 4194304, 12582912, 33030144, 67108608, 134217727, 268435455]
theorem impl_ShaBlock.tab18 : rtab .any (opsOf Try.f14 18) = impl_ShaBlock.T18 := by kernel_rfl
theorem impl_ShaBlock.bits18 : waitsOk impl_ShaBlock.T18.2 impl_ShaBlock.B18 = true := by kernel_rfl
def impl_ShaBlock.T19 : Bool × List (List Nat × List Nat) := (true, [([], []), ([], []), ([0, 1], [0, 1]), ([], []), ([3], [3]), ([4], [4]), ([], []), ([6], [6]), ([7], [7]), ([], []), ([9], [9]), ([10], [10]), ([], []), ([12], [12]), ([13], [13]), ([], []), ([14, 15], [14, 15]), ([], []), ([17], [17]), ([18], [18]), ([], []), ([20], [20]), ([21], [21]), ([], []), ([23], [23]), ([24], [24]), ([2, 5, 8, 11, 16, 19, 22, 25], [2, 5, 8, 11, 16, 19, 22, 25]), ([26, 0, 1, 2, 3, 4, 5, 6, 7, 8, 9, 10, 11, 12, 13, 14, 15, 16, 17, 18, 19, 20, 21, 22, 23, 24, 25, 26], [3, 6, 9, 12, 17, 20, 23, 26])])
def impl_ShaBlock.B19 : List Nat := [0, 0, 3, 0, 8, 24, 0, 64, 192, 0, 512, 1536, 0, 4096, 12288, 0, 61440, 0, 131072, 393216, 0, 1048576, 3145728, 0, 8388608, 25165824, 67108863, 134217727]
theorem impl_ShaBlock.tab19 : rtab .any (opsOf Try.f14 19) = impl_ShaBlock.T19 := by kernel_rfl
theorem impl_ShaBlock.bits19 : waitsOk impl_ShaBlock.T19.2 impl_ShaBlock.B19 = true := by kernel_rfl
set_option maxHeartbeats 8000000 in
set_option maxRecDepth 100000 in
theorem impl_ShaBlock.calls (k : Nat) (A0 : Option Addr) (c0 : Nat) (l0 : List Int) (a1 : ByteArray) (r : List Int) (w : World) (hr0 : Kd.C (Kd.int .i64) w A0 l0.length l0) (hc0 : l0.length ≤ c0) (h : impl_ShaBlock.f k l0 a1 = some r) :
  Calls Try.prog 14 #[.slice A0 l0.length c0, .string a1] w fun e w' => ∃ v0_ : Value, e = .returned (v0_) ∧ Kd.R (Kd.int .i64) 3 w' w.heap.size (fun _ => True) v0_ r ∧ Below w.heap.size w w' := by
 have HR0 := aa_ hr0
 have HC0 := aa_ hc0
 clear hr0 hc0
 have HB := aa_ (Below.refl w.heap.size w)
 have H : ((some (([] : List Int) : List Int)).bind fun y130 => (if y130.length + l0.length < 17592186044416 then ((some (y130 ++ l0 : List Int)).bind fun y133 => (if (l0.length : Int) = 8 then (impl_ShaBlock.j0 k l0 a1 y133 ((a1.size : Int) != 64)) else (impl_ShaBlock.j0 k l0 a1 y133 true))) else (none))) = some r := h
 clear h
 obtain ⟨y130, hy130⟩ : ∃ y_ : List Int, y_ = (([] : List Int)) := ⟨_, rfl⟩
 replace H : (if y130.length + l0.length < 17592186044416 then ((some (y130 ++ l0 : List Int)).bind fun y133 => (if (l0.length : Int) = 8 then (impl_ShaBlock.j0 k l0 a1 y133 ((a1.size : Int) != 64)) else (impl_ShaBlock.j0 k l0 a1 y133 true))) else (none)) = some r := rh_ hy130 H
 have Ny130 := aa_ hy130
 clear hy130
 obtain ⟨c3, H⟩ := ifn_ H
 have LMc3 := aa_ c3
 clear c3
 obtain ⟨y133, hy133⟩ : ∃ y_ : List Int, y_ = (y130 ++ l0) := ⟨_, rfl⟩
 replace H : (if (l0.length : Int) = 8 then (impl_ShaBlock.j0 k l0 a1 y133 ((a1.size : Int) != 64)) else (impl_ShaBlock.j0 k l0 a1 y133 true)) = some r := rh_ hy133 H
 have Ny133 := aa_ hy133
 clear hy133
 have HC4 := aa_ H
 clear H
 go_enter Try.func14, Try.ntmps14
 go_upto_region 2 with (first | ((with_reducible refine gD_ 18 rfl ?_); (try (refine gate_guard (by rfl) ?_; dsimp only)); refine Kd.R_lit (Kd.int .i64) _ 3 ?hg (N := 18) ?hd (xs := ([] : List Int)) (inner := []) (ok := fun _ => True) (okp := fun _ => True) ?hr ?hp (fun _ hk => hk) trivial (Below.refl _ _) (Nat.le_refl _) (by simp) ?_; (case hd => rfl); (case hg => rfl); (case hr => first | (go_simp; done) | (go_simp; rfl)); (case hp => exact (Reps.none _ _)); intro v131 w5 ho6 hb hg_ hnew_; clear hg_ hnew_; (first | rw [← Ny130.out] at ho6 | (simp only [Int.reduceToNat] at ho6; rw [← Ny130.out] at ho6)); have HO132 := aa_ (Kd.R_lower ho6 bls_); replace HB := hbs_ hb; clear hb ho6) | ((with_reducible refine gate_builtin (b := .append) (xs := #[.tmp 18, .tmp 19]) rfl ?_); (try (refine gate_guard (by rfl) ?_; dsimp only)); at_builtin; refine Kd.R_append_rows (Kd.int .i64) (w0 := w) w.heap.size rfl (.tmp 18) (.tmp 19) 33 3 (.int .i64 0) 8 rfl Try.underlying33 info3 rfl (by decide) (by omega) v131 y130 l0 _ _ _ (fun _ => True) (fun _ => False) rfl rfl ?aO ?aR (fun _ _ h => h) (fun _ h => h.elim) ?aF ?aB ?aS ?aL ?_; (case aR => repeat (first | exact (Kd.C_below HR0.out HB.out) | (with_reducible refine Kd.C_alloc ?_ _) | (with_reducible refine Kd.C_drewN ?_ _) | (with_reducible refine Kd.C_drew ?_))); (case aB => exact bl_); (case aF => exact (fun _ _ => trivial)); (case aO => exact (rr_ HO132)); (case aS => exact bls_); (case aL => have := LMc3.out; omega); intro v134 w7 ho hb hg hat; rw [← Ny133.out] at ho; replace HB := aa_ (hb); have HO135 := aa_ (ho); clear HO132; clear ho hb hg hat))
 (try simp only [Act.put, List.setIfInBounds_toArray, List.set_cons_zero, List.set_cons_succ])
 go_cut [28] (fun v28 wc => ∃ (kq : Nat) (x28_3 : Bool), v28 = .bool x28_3 ∧ Aside0 (impl_ShaBlock.j0 kq l0 a1 y133 x28_3 = some r) ∧ Aside0 (kq ≤ k) ∧ Aside0 (Kd.R (Kd.int .i64) 3 wc w.heap.size (fun _ => True) v134 y133) ∧ Aside0 (Below w.heap.size w wc))
 case first =>
  have H := HC4.out
  clear HC4
  by_cases c8 : (l0.length : Int) = 8
  ·rw [if_pos c8] at H
   have c8b0 : ((l0.length : Int) == 8) = true := beq_iff_eq.mpr c8
   have c8b1 : ((l0.length : Int) != 8) = false := bne_eq_false_iff_eq.mpr c8
   clear c8
   (first | rw [c8b0] | (simp only [i64_w, i32_w]; rw [c8b0]) | (have cz_ := c8b0; simp only [Int.ofNat_lt, Int.ofNat_le, gt_iff_lt, ge_iff_le] at cz_; rw [cz_]; clear cz_) | skip)
   have H' := aa_ H
   clear H
   go_wp2
   go_meet
   case rel => exact ⟨_, (((a1.size : Int) != 64)), rf_, H', ⟨by first | omega | exact Nat.le_refl _⟩, ⟨rr_ HO135⟩, ⟨bl_⟩⟩
  ·rw [if_neg c8] at H
   have c8b0 : ((l0.length : Int) == 8) = false := beq_eq_false_iff_ne.mpr c8
   have c8b1 : ((l0.length : Int) != 8) = true := bne_iff_ne.mpr c8
   (first | rw [c8b0] | (simp only [i64_w, i32_w]; rw [c8b0]) | (have cz_ := c8b0; simp only [Int.ofNat_lt, Int.ofNat_le, gt_iff_lt, ge_iff_le] at cz_; rw [cz_]; clear cz_) | skip)
   have H' := aa_ H
   clear H
   go_wp2
   go_meet
   case rel => exact ⟨_, (true), rf_, H', ⟨by first | omega | exact Nat.le_refl _⟩, ⟨rr_ HO135⟩, ⟨bl_⟩⟩
 case rest =>
  clear HC4
  try clear c1
  try clear p2
  try clear c3
  try clear c8
  try clear c8b0
  try clear c8b1
  obtain ⟨kq, x28_3, rfl, HA, HJ3, HO_5, HB⟩ := hcut
  cases kq with
  | zero => exact absurd HA.out (by simp [impl_ShaBlock.j0])
  | succ kj3 =>
   have H := HA.out
   clear HA
   simp only [impl_ShaBlock.j0] at H
   by_cases c9 : x28_3 = true
   ·subst c9
    replace H := ite_t_ H
    obtain rfl := Option.some.inj H
    go_wp2
    go_ret
    exact ⟨_, eq_, by (with_reducible repeat (first | apply Kd.R_alloc | apply Kd.R_drewN | apply Kd.R_drew)); exact HO_5.out, bl_⟩
   ·replace c9 := Bool.eq_false_iff.mpr c9
    subst c9
    replace H := ite_f_ H
    obtain ⟨c10, H⟩ := ifn_ H
    have c10b0 := eq_true c10
    have c10b1 : decide (8 ≤ 70368744177664) = true := decide_eq_true c10
    clear c10
    obtain ⟨y136, hy136⟩ : ∃ y_ : List Int, y_ = (List.replicate 8 0) := ⟨_, rfl⟩
    replace H : (impl_ShaBlock.l0 kj3 a1 y133 y136 l0 (l0.length : Int) 0) = some r := rh_ hy136 H
    have Ny136 := aa_ hy136
    clear hy136
    have H' := aa_ H
    clear H
    go_wp2_with (first | ((with_reducible refine gD_ 30 rfl ?_); (try (refine gate_guard (by rfl) ?_; dsimp only)); refine Kd.R_make (Kd.int .u32) _ 25 rfl (N := 30) rfl 38 _ _ rfl 8 rfl rfl Try.underlying38 (.int .u32 0) 4 info25 rfl (by decide) (by omega) 0 (ok := fun _ => True) (okp := fun _ => True) rfl (fun _ hk => hk) trivial (by omega) (by omega) (Below.refl _ _) (Nat.le_refl _) ?_; intro v137 w11 ho12 hb hg_ hnew_; clear hg_ hnew_; (first | rw [← Ny136.out] at ho12 | (simp only [Int.reduceToNat] at ho12; rw [← Ny136.out] at ho12)); replace HO_5 := hob_ HO_5 hb; have HO138 := aa_ (Kd.R_lower ho12 bls_); replace HB := hbs_ hb; clear hb ho12))
    go_loopg [33] kj3 (fun kq v33 w' => ∃ (x6_2 : List Int) (x33_2 : Int), v33 = .int .i64 x33_2 ∧ Aside0 (impl_ShaBlock.l0 kq a1 y133 x6_2 l0 (l0.length : Int) x33_2 = some r) ∧ Aside0 (kq ≤ kj3) ∧ Aside0 (Kd.R (Kd.int .i64) 3 w' w.heap.size (fun _ => True) v134 y133) ∧ Aside0 (Kd.R (Kd.int .u32) 25 w' w.heap.size (fun _ => True) v137 x6_2) ∧ Aside0 (Below w.heap.size w w'))
    case atStart => exact ⟨(y136), (0), rf_, H', ⟨Nat.le_refl _⟩, ⟨rr_ HO_5⟩, ⟨rr_ HO138⟩, ⟨bl_⟩⟩
    case round =>
     clear H'
     try clear c1
     try clear p2
     try clear c3
     try clear c8
     try clear c8b0
     try clear c8b1
     try clear c9
     try clear c10
     try clear c10b0
     try clear c10b1
     try clear p2
     obtain ⟨x6_2, x33_2, rfl, HA, HK2, HO_5, HO_6, HB⟩ := hrel
     cases gk with
     | zero => exact absurd HA.out (by simp [impl_ShaBlock.l0])
     | succ k2 =>
      have H := HA.out
      clear HA
      simp only [impl_ShaBlock.l0] at H
      by_cases c13 : x33_2 < (l0.length : Int)
      ·rw [if_pos c13] at H
       have c13b0 : decide (x33_2 < (l0.length : Int)) = true := decide_eq_true c13
       clear c13
       obtain ⟨c14b0, H⟩ := ifd_ H
       obtain ⟨c15b0, H⟩ := ifd_ H
       obtain ⟨t140, A16, H⟩ := bindE_ H
       have HC17 := aa_ H
       clear H
       have p139 : 0 ≤ (x33_2 : Int) := od_
       have q139 : x33_2 < (l0.length : Int) := od_
       obtain ⟨ad139, e139, hx139_0⟩ := Kd.at_int (Kd.C_below HR0.out HB.out) x33_2 p139 q139
       cases e139
       replace p139 := eq_true p139
       replace q139 := eq_true q139
       go_upto_if 40 with (first | ((with_reducible refine gC_ 17 rfl ?_); refine goesC_ (some 39) Try.func17 #[.int .i64 (rd l0 x33_2), .int .i64 0, .int .i64 4294967295] ?_; (with_reducible refine (impl_in.calls (rd l0 x33_2) 0 4294967295 t140 _ A16.out).mono ?_); rintro e w' ⟨rfl, ⟨nd, rfl⟩⟩; refine ⟨_, rfl, ?_⟩))
       (try simp only [Act.put, List.setIfInBounds_toArray, List.set_cons_zero, List.set_cons_succ])
       have H := HC17.out
       clear HC17
       by_cases c18 : t140 = true
       ·subst c18
        replace H := ite_t_ H
        obtain ⟨c19b0, H⟩ := ifd_ H
        (first | rw [c19b0] | (simp only [i64_w, i32_w]; rw [c19b0]) | (have cz_ := c19b0; simp only [Int.ofNat_lt, Int.ofNat_le, gt_iff_lt, ge_iff_le] at cz_; rw [cz_]; clear cz_) | skip)
        obtain ⟨y141, hy141⟩ : ∃ y_ : List Int, y_ = (x6_2.set (x33_2 : Int).toNat ((rd l0 x33_2) % 4294967296)) := ⟨_, rfl⟩
        replace H : (impl_ShaBlock.l0 k2 a1 y133 y141 l0 (l0.length : Int) (wrap64 (x33_2 + 1))) = some r := rh_ hy141 H
        have Ny141 := aa_ hy141
        clear hy141
        have H' := aa_ H
        clear H
        have n0_ := aa_ (Kd.R_drewN (m := nd) HO_5.out)
        have n1_ := aa_ (Kd.R_drewN (m := nd) HO_6.out)
        have n2_ := aa_ (pw_below_drewN (n := nd) HB.out)
        clear HO_5 HO_6 HB
        generalize wr.drewN nd = wq at n0_ n1_ n2_ ⊢
        have HO_5 := n0_
        have HO_6 := n1_
        have HB := n2_
        clear n0_ n1_ n2_
        have p20 : 0 ≤ (x33_2 : Int) := od_
        have q20 : (x33_2 : Int) < ((x6_2.length : Int) : Int) := od_
        obtain ⟨go20, co20, eo20, gb20, gl20, cl20, HG20⟩ := Kd.R_form HO_6.out (by omega)
        (first | cases eo20 | (injection eo20 with ea_ en_ ec_; (first | subst ea_ | (injection ea_ with ea_; subst ea_)); subst ec_; clear en_))
        have GB20 := aa_ gb20
        have GG20 := aa_ HG20
        clear gb20 gl20 HG20
        obtain ⟨hx20_0, hf20_0⟩ := Kd.R_celln 0 HO_6.out (x33_2 : Int) p20 q20
        replace p20 := eq_true p20
        replace q20 := eq_true q20
        have HP21 := Kd.R_putg HO_6.out (x33_2 : Int) ((rd l0 x33_2) % 4294967296)
        go_wp2_with (first | ((with_reducible refine gate_store (t := 25) (p := 46) rfl ?_); refine store_event (t := 25) (p := 46) (v := ?vo_w22) (w1 := (wq.setCell ⟨go20, (x33_2 : Int).toNat, none⟩ (.int .u32 ((rd l0 x33_2) % 4294967296)))) ?hg ?ho ?hn ?hr ?_; (case ho => rfl); (case hg => rfl); (case hn => rfl); (case hr => first | (go_simp; done) | (go_simp; rfl)); intro w22 hw; have hg : wq.grownBy w22 (some go20) := (by rw [hw]; exact HP21.2); have hp_ : Kd.R (Kd.int .u32) 25 w22 w.heap.size (fun _ => True) (.slice (some ⟨go20, 0, none⟩) x6_2.length co20) y141 := (by rw [hw, Ny141.out]; exact HP21.1); clear HP21; replace HO_5 := aa_ (Kd.R_over' (v := (.slice (some ⟨go20, 0, none⟩) x6_2.length co20)) (rr_ HO_5) (Kd.R_typed HO_6.out) (by decide) hg); replace HO_6 := aa_ (hp_); replace HB := aa_ ((by rw [hw]; exact below_set (HB.out) GB20.out : Below w.heap.size w w22)); clear hg hw hp_))
        go_roundg k2
        case measure => have := HJ3.out; have := HK2.out; omega
        case rel => exact ⟨(y141), (wrap64 (x33_2 + 1)), rf_, H', ⟨by have := HJ3.out; have := HK2.out; omega⟩, ⟨rr_ HO_5⟩, ⟨rr_ HO_6⟩, ⟨bl_⟩⟩
       ·replace c18 := Bool.eq_false_iff.mpr c18
        subst c18
        replace H := ite_f_ H
        obtain rfl := Option.some.inj H
        go_wp2
        go_ret
        exact ⟨_, eq_, by (with_reducible repeat (first | apply Kd.R_alloc | apply Kd.R_drewN | apply Kd.R_drew)); exact HO_5.out, bl_⟩
      ·rw [if_neg c13] at H
       have c13b0 : decide (x33_2 < (l0.length : Int)) = false := decide_eq_false c13
       clear c13
       obtain ⟨t142, A23, H⟩ := bindE_ H
       obtain ⟨t145, A24, H⟩ := bindE_ H
       have H' := aa_ H
       clear H
       go_wp2_with (first | ((with_reducible refine gC_ 18 rfl ?_); refine goesC_ (some 48) Try.func18 #[] ?_; (with_reducible refine (impl_rounds.calls  t142 _ A23.out).mono ?_); rintro e w25 ⟨v143, rfl, ho0, hb⟩; refine ⟨_, rfl, ?_⟩; replace HO_5 := hob_ HO_5 hb; have HO144 := aa_ (Kd.R_lower (Kd.R_new' ho0 (Kd.R_lt (rr_ HO_6))) bls_); replace HO_6 := aa_ (Kd.R_elder' (rr_ HO_6) (Kd.R_base ho0) hb); replace HB := hbs_ hb; (try clear hb ho0)) | ((with_reducible refine gC_ 19 rfl ?_); refine goesC_ (some 50) Try.func19 #[.string a1] ?_; (with_reducible refine (impl_schedule.calls k2 a1 t145 _ A24.out).mono ?_); rintro e w26 ⟨v146, rfl, ho0, hb⟩; refine ⟨_, rfl, ?_⟩; replace HO_5 := hob_ HO_5 hb; have HO147 := aa_ (Kd.R_lower (Kd.R_new' (Kd.R_new' ho0 (Kd.R_lt (rr_ HO_6))) (Kd.R_lt (rr_ HO144))) bls_); replace HO_6 := aa_ (Kd.R_elder' (rr_ HO_6) (Kd.R_base ho0) hb); replace HO144 := aa_ (Kd.R_elder' (rr_ HO144) (Kd.R_base ho0) hb); replace HB := hbs_ hb; (try clear hb ho0); obtain ⟨Ao27, co27, eo27⟩ := Kd.R_slice HO147.out; subst eo27))
       go_loopg [6, 52] k2 (fun kq v6 v52 w' => ∃ (x6_3 : List Int) (x52_3 : Int), v52 = .int .i64 x52_3 ∧ Aside0 (impl_ShaBlock.l1 kq y133 x6_3 t142 t145 (t145.length : Int) x52_3 = some r) ∧ Aside0 (kq ≤ k2) ∧ Aside0 (Kd.R (Kd.int .i64) 3 w' w.heap.size (fun _ => True) v134 y133) ∧ Aside0 (Kd.R (Kd.int .u32) 25 w' w.heap.size (fun k_ => some k_ ≠ (v143 : Value).ownBlock ∧ some k_ ≠ ((.slice Ao27 t145.length co27) : Value).ownBlock) v6 x6_3) ∧ Aside0 (Kd.R (Kd.int .u32) 25 w' w.heap.size (fun k_ => some k_ ≠ (v6 : Value).ownBlock ∧ some k_ ≠ ((.slice Ao27 t145.length co27) : Value).ownBlock) v143 t142) ∧ Aside0 (Kd.R (Kd.int .u32) 25 w' w.heap.size (fun k_ => some k_ ≠ (v6 : Value).ownBlock ∧ some k_ ≠ (v143 : Value).ownBlock) (.slice Ao27 t145.length co27) t145) ∧ Aside0 (Below w.heap.size w w'))
       case atStart => exact ⟨(x6_2), (0), rf_, H', ⟨Nat.le_refl _⟩, ⟨rr_ HO_5⟩, ⟨by (with_reducible repeat (first | apply Kd.R_alloc | apply Kd.R_drewN | apply Kd.R_drew)); exact Kd.R_mono HO_6.out (fun _ hk => ⟨hk.1.2, hk.2⟩)⟩, ⟨by (with_reducible repeat (first | apply Kd.R_alloc | apply Kd.R_drewN | apply Kd.R_drew)); exact Kd.R_mono HO144.out (fun _ hk => ⟨hk.1.2, hk.2⟩)⟩, ⟨by (with_reducible repeat (first | apply Kd.R_alloc | apply Kd.R_drewN | apply Kd.R_drew)); exact Kd.R_mono HO147.out (fun _ hk => ⟨hk.1.2, hk.2⟩)⟩, ⟨bl_⟩⟩
       case round =>
        clear H'
        try clear c1
        try clear p1
        try clear q1
        try clear hx1
        try clear p2
        try clear q2
        try clear hx2
        try clear hf2
        try clear c3
        try clear p6
        try clear c8
        try clear c8b0
        try clear c8b1
        try clear c9
        try clear c10
        try clear c10b0
        try clear c10b1
        try clear c13
        try clear c13b0
        try clear p13
        try clear q13
        try clear hx13
        try clear c14
        try clear c14b0
        try clear c15
        try clear c15b0
        try clear c17
        try clear c18
        try clear c19
        try clear c19b0
        try clear p20
        try clear q20
        try clear hx20
        try clear hf20
        try clear hx139_0
        try clear hx20_0
        try clear p139
        try clear p2
        try clear p20
        try clear q139
        try clear q20
        obtain ⟨x6_3, x52_3, rfl, HA, HK3, HO_5, HO_6, HO_9, HO_50, HB⟩ := hrel
        cases gk with
        | zero => exact absurd HA.out (by simp [impl_ShaBlock.l1])
        | succ k3 =>
         have H := HA.out
         clear HA
         simp only [impl_ShaBlock.l1] at H
         by_cases c28 : x52_3 < (t145.length : Int)
         ·rw [if_pos c28] at H
          have c28b0 : decide (x52_3 < (t145.length : Int)) = true := decide_eq_true c28
          clear c28
          obtain ⟨c29b0, H⟩ := ifd_ H
          obtain ⟨c30b0, H⟩ := ifd_ H
          obtain ⟨c31, H⟩ := ifn_ H
          have c31b0 : decide (4 < (x6_3.length : Int)) = true := decide_eq_true c31
          have c31b1 : decide (4 < x6_3.length) = true := decide_eq_true (by omega)
          clear c31
          obtain ⟨c32, H⟩ := ifn_ H
          have c32b0 : decide (0 < (x6_3.length : Int)) = true := decide_eq_true c32
          have c32b1 : decide (0 < x6_3.length) = true := decide_eq_true (by omega)
          clear c32
          obtain ⟨c33, H⟩ := ifn_ H
          have c33b0 : decide (7 < (x6_3.length : Int)) = true := decide_eq_true c33
          have c33b1 : decide (7 < x6_3.length) = true := decide_eq_true (by omega)
          clear c33
          obtain ⟨t152, A34, H⟩ := bindE_ H
          obtain ⟨t153, A35, H⟩ := bindE_ H
          obtain ⟨t154, A36, H⟩ := bindE_ H
          obtain ⟨c37, H⟩ := ifn_ H
          have c37b0 : decide (5 < (x6_3.length : Int)) = true := decide_eq_true c37
          have c37b1 : decide (5 < x6_3.length) = true := decide_eq_true (by omega)
          clear c37
          obtain ⟨c38, H⟩ := ifn_ H
          have c38b0 : decide (6 < (x6_3.length : Int)) = true := decide_eq_true c38
          have c38b1 : decide (6 < x6_3.length) = true := decide_eq_true (by omega)
          clear c38
          obtain ⟨c39b0, H⟩ := ifd_ H
          obtain ⟨t158, A40, H⟩ := bindE_ H
          obtain ⟨t159, A41, H⟩ := bindE_ H
          obtain ⟨t160, A42, H⟩ := bindE_ H
          obtain ⟨c43, H⟩ := ifn_ H
          have c43b0 : decide (1 < (x6_3.length : Int)) = true := decide_eq_true c43
          have c43b1 : decide (1 < x6_3.length) = true := decide_eq_true (by omega)
          clear c43
          obtain ⟨c44, H⟩ := ifn_ H
          have c44b0 : decide (2 < (x6_3.length : Int)) = true := decide_eq_true c44
          have c44b1 : decide (2 < x6_3.length) = true := decide_eq_true (by omega)
          clear c44
          obtain ⟨c45, H⟩ := ifn_ H
          have c45b0 : decide (3 < (x6_3.length : Int)) = true := decide_eq_true c45
          have c45b1 : decide (3 < x6_3.length) = true := decide_eq_true (by omega)
          clear c45
          obtain ⟨y172, hy172⟩ : ∃ y_ : List Int, y_ = (([((((((((((rd x6_3 7) + (Go.bits .xor .u32 (Go.bits .xor .u32 t152 t153) t154)) % 4294967296) + (Go.bits .xor .u32 (Go.bits .and .u32 (rd x6_3 4) (rd x6_3 5)) (Go.bits .and .u32 (Go.bits .xor .u32 4294967295 (rd x6_3 4)) (rd x6_3 6)))) % 4294967296) + (rd t142 x52_3)) % 4294967296) + (rd t145 x52_3)) % 4294967296) + (((Go.bits .xor .u32 (Go.bits .xor .u32 t158 t159) t160) + (Go.bits .xor .u32 (Go.bits .xor .u32 (Go.bits .and .u32 (rd x6_3 0) (rd x6_3 1)) (Go.bits .and .u32 (rd x6_3 0) (rd x6_3 2))) (Go.bits .and .u32 (rd x6_3 1) (rd x6_3 2)))) % 4294967296)) % 4294967296, rd x6_3 0, rd x6_3 1, rd x6_3 2, ((rd x6_3 3) + (((((((((rd x6_3 7) + (Go.bits .xor .u32 (Go.bits .xor .u32 t152 t153) t154)) % 4294967296) + (Go.bits .xor .u32 (Go.bits .and .u32 (rd x6_3 4) (rd x6_3 5)) (Go.bits .and .u32 (Go.bits .xor .u32 4294967295 (rd x6_3 4)) (rd x6_3 6)))) % 4294967296) + (rd t142 x52_3)) % 4294967296) + (rd t145 x52_3)) % 4294967296)) % 4294967296, rd x6_3 4, rd x6_3 5, rd x6_3 6] : List Int)) := ⟨_, rfl⟩
          replace H : (impl_ShaBlock.l1 k3 y133 y172 t142 t145 (t145.length : Int) (wrap64 (x52_3 + 1))) = some r := rh_ hy172 H
          have Ny172 := aa_ hy172
          clear hy172
          have H' := aa_ H
          clear H
          have p148 : 0 ≤ (x52_3 : Int) := od_
          have q148 : x52_3 < (t145.length : Int) := od_
          obtain ⟨ad148, e148, hx148_0⟩ := Kd.at_int (Kd.R_reads' HO_50.out).2.2 x52_3 p148 q148
          cases e148
          replace p148 := eq_true p148
          replace q148 := eq_true q148
          try go_wp2
          replace HO_5 := aa_ (Kd.R_drew HO_5.out)
          replace HO_6 := aa_ (Kd.R_drew HO_6.out)
          replace HO_9 := aa_ (Kd.R_drew HO_9.out)
          replace HO_50 := aa_ (Kd.R_drew HO_50.out)
          replace HB := aa_ (below_drew1 HB.out)
          obtain ⟨Ao47, co47, eo47⟩ := Kd.R_slice HO_6.out
          (first | subst eo47 | (injection eo47 with f1_ f2_ f3_; have f4_ := f1_.symm; have f5_ := f3_.symm; clear f1_ f2_ f3_; subst f4_; subst f5_))
          have p149 : 0 ≤ (4 : Int) := (by omega)
          have q149 : 4 < (x6_3.length : Int) := od_
          obtain ⟨ad149, e149, hx149_0⟩ := Kd.at_int (Kd.R_reads' HO_6.out).2.2 4 p149 q149
          cases e149
          (try simp only [show (4 : Int).toNat = 4 from rfl, Nat.reduceMul, Nat.reduceEqDiff, Go.Addr.add, ↓reduceIte] at hx149_0)
          have qi149 : (4 < x6_3.length) = True := eq_true (by omega)
          (try rw [show ((4 : Int)).toNat = 4 from rfl] at hx149_0)
          replace p149 := eq_true p149
          replace q149 := eq_true q149
          have p150 : 0 ≤ (0 : Int) := (by omega)
          have q150 : 0 < (x6_3.length : Int) := od_
          obtain ⟨ad150, e150, hx150_0⟩ := Kd.at_int (Kd.R_reads' HO_6.out).2.2 0 p150 q150
          obtain rfl : ad149 = ad150 := (by injection e150)
          have qi150 : (0 < x6_3.length) = True := eq_true (by omega)
          (try rw [show ((0 : Int)).toNat = 0 from rfl] at hx150_0)
          (try rw [Addr.add_zero'] at hx150_0)
          replace p150 := eq_true p150
          replace q150 := eq_true q150
          refine start_ (n := 8) (S := fun w' => w'.cell? ⟨ad149.block, ad149.off + 4, none⟩ = some (.int .u32 (rd x6_3 4)) ∧ w'.cell? ad149 = some (.int .u32 (rd x6_3 0))) (ds := []) (ba_ 8 0) (by kernel_rfl) rfl rfl ⟨hx149_0, hx150_0⟩ (fun hHeld => ?_); refine with_tabW impl_ShaBlock.tab16 impl_ShaBlock.bits16 (fun HT_ HW_ => ?_)
          generalize wr.drew = w46 at HO_5 HO_6 HO_9 HO_50 HB hx149_0 hx150_0 hHeld ⊢
          refine pureZ_ (i := 0) (some 57) (ba_ 8 1) (ao_ HT_) ?_
          refine pureZ_ (i := 1) (some 58) (ba_ 8 3) (ao_ HT_) ?_
          refine pureZ_ (i := 3) (some 60) (ba_ 8 11) (ao_ HT_) ?_
          refine pureZ_ (i := 4) (some 61) (ba_ 8 27) (ao_ HT_) ?_
          refine takeZ_ (i := 2) (some 59) (ba_ 8 31) (take_ofW HT_.out HW_.out (by kernel_rfl)) hHeld ?_
          refine pureZ_ (i := 6) (some 12) (ba_ 8 95) (ao_ HT_) ?_
          refine takeZ_ (i := 5) (some 62) (ba_ 8 127) (take_ofW HT_.out HW_.out (by kernel_rfl)) hHeld ?_
          refine pureZ_ (i := 7) (some 13) (ba_ 8 255) (ao_ HT_) ?_
          refine done_ (done_of HT_.out (by kernel_rfl)) ?_
          try go_wp2
          replace HO_5 := aa_ (Kd.R_drew HO_5.out)
          replace HO_6 := aa_ (Kd.R_drew HO_6.out)
          replace HO_9 := aa_ (Kd.R_drew HO_9.out)
          replace HO_50 := aa_ (Kd.R_drew HO_50.out)
          replace HB := aa_ (below_drew1 HB.out)
          have p151 : 0 ≤ (7 : Int) := (by omega)
          have q151 : 7 < (x6_3.length : Int) := od_
          obtain ⟨ad151, e151, hx151_0⟩ := Kd.at_int (Kd.R_reads' HO_6.out).2.2 7 p151 q151
          obtain rfl : ad149 = ad151 := (by injection e151)
          (try simp only [show (7 : Int).toNat = 7 from rfl, Nat.reduceMul, Nat.reduceEqDiff, Go.Addr.add, ↓reduceIte] at hx151_0)
          have qi151 : (7 < x6_3.length) = True := eq_true (by omega)
          (try rw [show ((7 : Int)).toNat = 7 from rfl] at hx151_0)
          replace p151 := eq_true p151
          replace q151 := eq_true q151
          have p155 : 0 ≤ (5 : Int) := (by omega)
          have q155 : 5 < (x6_3.length : Int) := od_
          obtain ⟨ad155, e155, hx155_0⟩ := Kd.at_int (Kd.R_reads' HO_6.out).2.2 5 p155 q155
          obtain rfl : ad149 = ad155 := (by injection e155)
          (try simp only [show (5 : Int).toNat = 5 from rfl, Nat.reduceMul, Nat.reduceEqDiff, Go.Addr.add, ↓reduceIte] at hx155_0)
          have qi155 : (5 < x6_3.length) = True := eq_true (by omega)
          (try rw [show ((5 : Int)).toNat = 5 from rfl] at hx155_0)
          replace p155 := eq_true p155
          replace q155 := eq_true q155
          have p156 : 0 ≤ (6 : Int) := (by omega)
          have q156 : 6 < (x6_3.length : Int) := od_
          obtain ⟨ad156, e156, hx156_0⟩ := Kd.at_int (Kd.R_reads' HO_6.out).2.2 6 p156 q156
          obtain rfl : ad149 = ad156 := (by injection e156)
          (try simp only [show (6 : Int).toNat = 6 from rfl, Nat.reduceMul, Nat.reduceEqDiff, Go.Addr.add, ↓reduceIte] at hx156_0)
          have qi156 : (6 < x6_3.length) = True := eq_true (by omega)
          (try rw [show ((6 : Int)).toNat = 6 from rfl] at hx156_0)
          replace p156 := eq_true p156
          replace q156 := eq_true q156
          obtain ⟨Ao49, co49, eo49⟩ := Kd.R_slice HO_9.out
          (first | subst eo49 | (injection eo49 with f1_ f2_ f3_; have f4_ := f1_.symm; have f5_ := f3_.symm; clear f1_ f2_ f3_; subst f4_; subst f5_))
          have p157 : 0 ≤ (x52_3 : Int) := od_
          have q157 : x52_3 < (t142.length : Int) := od_
          obtain ⟨ad157, e157, hx157_0⟩ := Kd.at_int (Kd.R_reads' HO_9.out).2.2 x52_3 p157 q157
          cases e157
          replace p157 := eq_true p157
          replace q157 := eq_true q157
          refine start_ (n := 33) (S := fun w' => w'.cell? ⟨ad149.block, ad149.off + 7, none⟩ = some (.int .u32 (rd x6_3 7)) ∧ w'.cell? ⟨ad149.block, ad149.off + 5, none⟩ = some (.int .u32 (rd x6_3 5)) ∧ w'.cell? ⟨ad149.block, ad149.off + 6, none⟩ = some (.int .u32 (rd x6_3 6)) ∧ w'.cell? (ad157.add (x52_3).toNat) = some (.int .u32 (rd t142 x52_3))) (ds := []) (ba_ 33 0) (by kernel_rfl) rfl rfl ⟨hx151_0, hx155_0, hx156_0, hx157_0⟩ (fun hHeld => ?_); refine with_tabW impl_ShaBlock.tab17 impl_ShaBlock.bits17 (fun HT_ HW_ => ?_)
          generalize w46.drew = w48 at HO_5 HO_6 HO_9 HO_50 HB hx151_0 hx155_0 hx156_0 hx157_0 hHeld ⊢
          refine pureZ_ (i := 0) (some 63) (ba_ 33 1) (ao_ HT_) ?_
          refine pureZ_ (i := 1) (some 64) (ba_ 33 3) (ao_ HT_) ?_
          refine pureZ_ (i := 3) (some 66) (ba_ 33 11) (ao_ HT_) ?_
          refine pureZ_ (i := 5) (some 68) (ba_ 33 43) (ao_ HT_) ?_
          refine pureZ_ (i := 8) (some 71) (ba_ 33 299) (ao_ HT_) ?_
          refine pureZ_ (i := 12) (some 75) (ba_ 33 4395) (ao_ HT_) ?_
          refine pureZ_ (i := 13) (some 76) (ba_ 33 12587) (ao_ HT_) ?_
          refine pureZ_ (i := 14) (some 77) (ba_ 33 28971) (ao_ HT_) ?_
          refine pureZ_ (i := 17) (some 80) (ba_ 33 160043) (ao_ HT_) ?_
          refine pureZ_ (i := 18) (some 81) (ba_ 33 422187) (ao_ HT_) ?_
          refine pureZ_ (i := 19) (some 82) (ba_ 33 946475) (ao_ HT_) ?_
          refine pureZ_ (i := 20) (some 83) (ba_ 33 1995051) (ao_ HT_) ?_
          refine pureZ_ (i := 25) (some 88) (ba_ 33 35549483) (ao_ HT_) ?_
          refine pureZ_ (i := 26) (some 89) (ba_ 33 102658347) (ao_ HT_) ?_
          refine pureZ_ (i := 27) (some 90) (ba_ 33 236876075) (ao_ HT_) ?_
          refine pureZ_ (i := 30) (some 93) (ba_ 33 1310617899) (ao_ HT_) ?_
          refine takeZ_ (i := 2) (some 65) (ba_ 33 1310617903) (take_ofW HT_.out HW_.out (by kernel_rfl)) hHeld ?_
          refine takeZ_ (i := 15) (some 78) (ba_ 33 1310650671) (take_ofW HT_.out HW_.out (by kernel_rfl)) hHeld ?_
          refine pureZ_ (i := 16) (some 79) (ba_ 33 1310716207) (ao_ HT_) ?_
          refine takeZ_ (i := 21) (some 84) (ba_ 33 1312813359) (take_ofW HT_.out HW_.out (by kernel_rfl)) hHeld ?_
          refine pureZ_ (i := 22) (some 85) (ba_ 33 1317007663) (ao_ HT_) ?_
          refine pureZ_ (i := 23) (some 86) (ba_ 33 1325396271) (ao_ HT_) ?_
          refine takeZ_ (i := 28) (some 91) (ba_ 33 1593831727) (take_ofW HT_.out HW_.out (by kernel_rfl)) hHeld ?_
          refine one_ (i := 4) (N := some 67) (ba_ 33 1593831743) rfl rfl (one_of HT_.out (by kernel_rfl)) (by decide) (fun K hK => ?_)
          refine goes_ Try.func20 (by kernel_rfl) rfl #[.int .u32 (rd x6_3 4), .int .i64 6] (by rfl) rfl rfl (by (try simp only [List.map_toArray, List.map_cons, List.map_nil]); first | done | rfl | (simp only [List.length_drop, List.length_take]; rfl)) ?_
          with_reducible refine (impl_turn.calls (rd x6_3 4) 6 t152 _ A34.out).mono ?_
          rintro e w' ⟨rfl, ⟨nd, rfl⟩⟩
          refine ⟨_, rfl, ?_⟩
          refine hK.out _ _ ⟨hHeld.1, hHeld.2.1, hHeld.2.2.1, hHeld.2.2.2⟩ (fun hHeld => ?_)
          clear hK K
          refine norm_ (a' := ?_) ?_ ?_
          rotate_left
          ·show Act.put _ (some 67) _ = _
           simp only [Act.put, List.setIfInBounds_toArray, List.set_cons_zero, List.set_cons_succ, i64_w, i32_w]
           rfl
          refine one_ (i := 6) (N := some 69) (ba_ 33 1593831807) rfl rfl (one_of HT_.out (by kernel_rfl)) (by decide) (fun K hK => ?_)
          refine goes_ Try.func20 (by kernel_rfl) rfl #[.int .u32 (rd x6_3 4), .int .i64 11] (by rfl) rfl rfl (by (try simp only [List.map_toArray, List.map_cons, List.map_nil]); first | done | rfl | (simp only [List.length_drop, List.length_take]; rfl)) ?_
          with_reducible refine (impl_turn.calls (rd x6_3 4) 11 t153 _ A35.out).mono ?_
          rintro e w' ⟨rfl, ⟨nd, rfl⟩⟩
          refine ⟨_, rfl, ?_⟩
          refine hK.out _ _ ⟨hHeld.1, hHeld.2.1, hHeld.2.2.1, hHeld.2.2.2⟩ (fun hHeld => ?_)
          clear hK K
          refine norm_ (a' := ?_) ?_ ?_
          rotate_left
          ·show Act.put _ (some 69) _ = _
           simp only [Act.put, List.setIfInBounds_toArray, List.set_cons_zero, List.set_cons_succ, i64_w, i32_w]
           rfl
          refine pureZ_ (i := 7) (some 70) (ba_ 33 1593831935) (ao_ HT_) ?_
          refine one_ (i := 9) (N := some 72) (ba_ 33 1593832447) rfl rfl (one_of HT_.out (by kernel_rfl)) (by decide) (fun K hK => ?_)
          refine goes_ Try.func20 (by kernel_rfl) rfl #[.int .u32 (rd x6_3 4), .int .i64 25] (by rfl) rfl rfl (by (try simp only [List.map_toArray, List.map_cons, List.map_nil]); first | done | rfl | (simp only [List.length_drop, List.length_take]; rfl)) ?_
          with_reducible refine (impl_turn.calls (rd x6_3 4) 25 t154 _ A36.out).mono ?_
          rintro e w' ⟨rfl, ⟨nd, rfl⟩⟩
          refine ⟨_, rfl, ?_⟩
          refine hK.out _ _ ⟨hHeld.1, hHeld.2.1, hHeld.2.2.1, hHeld.2.2.2⟩ (fun hHeld => ?_)
          clear hK K
          refine norm_ (a' := ?_) ?_ ?_
          rotate_left
          ·show Act.put _ (some 72) _ = _
           simp only [Act.put, List.setIfInBounds_toArray, List.set_cons_zero, List.set_cons_succ, i64_w, i32_w]
           rfl
          refine pureZ_ (i := 10) (some 73) (ba_ 33 1593833471) (ao_ HT_) ?_
          refine pureZ_ (i := 11) (some 74) (ba_ 33 1593835519) (ao_ HT_) ?_
          refine pureZ_ (i := 24) (some 87) (ba_ 33 1610612735) (ao_ HT_) ?_
          refine pureZ_ (i := 29) (some 92) (ba_ 33 2147483647) (ao_ HT_) ?_
          refine pureZ_ (i := 31) (some 94) (ba_ 33 4294967295) (ao_ HT_) ?_
          refine pureZ_ (i := 32) (some 14) (ba_ 33 8589934591) (ao_ HT_) ?_
          refine done_ (done_of HT_.out (by kernel_rfl)) ?_
          try go_wp2
          (try (rw [drewN_self w48]; generalize hq_ : World.drewN w48 _ = w48; have n0_ : Aside0 (Kd.R (Kd.int .i64) 3 w48 w.heap.size (fun _ => True) v134 y133) := ⟨by rw [← hq_]; exact (rr_ HO_5)⟩; have n1_ : Aside0 (Kd.R (Kd.int .u32) 25 w48 w.heap.size (fun k_ => some k_ ≠ (.slice (some ad149) x6_3.length co47 : Value).ownBlock ∧ some k_ ≠ (.slice (some ad157) t142.length co49 : Value).ownBlock) (.slice (some ad148) t145.length co27) t145) := ⟨by rw [← hq_]; exact (rr_ HO_50)⟩; have n2_ : Aside0 (Kd.R (Kd.int .u32) 25 w48 w.heap.size (fun k_ => some k_ ≠ (.slice (some ad148) t145.length co27 : Value).ownBlock ∧ some k_ ≠ (.slice (some ad157) t142.length co49 : Value).ownBlock) (.slice (some ad149) x6_3.length co47) x6_3) := ⟨by rw [← hq_]; exact (by (with_reducible repeat (first | apply Kd.R_alloc | apply Kd.R_drewN | apply Kd.R_drew)); first | exact HO_6.out | exact Kd.R_mono HO_6.out (fun _ hk => ⟨hk.2, hk.1⟩))⟩; have n3_ : Aside0 (Kd.R (Kd.int .u32) 25 w48 w.heap.size (fun k_ => some k_ ≠ (.slice (some ad148) t145.length co27 : Value).ownBlock ∧ some k_ ≠ (.slice (some ad149) x6_3.length co47 : Value).ownBlock) (.slice (some ad157) t142.length co49) t142) := ⟨by rw [← hq_]; exact (by (with_reducible repeat (first | apply Kd.R_alloc | apply Kd.R_drewN | apply Kd.R_drew)); first | exact HO_9.out | exact Kd.R_mono HO_9.out (fun _ hk => ⟨hk.2, hk.1⟩))⟩; have n4_ : Aside0 (Below w.heap.size w w48) := ⟨by rw [← hq_]; exact bl_⟩; clear HO_5 HO_50 HO_6 HO_9 HB hq_; have HO_5 := n0_; have HO_50 := n1_; have HO_6 := n2_; have HO_9 := n3_; have HB := n4_; clear n0_ n1_ n2_ n3_ n4_))
          replace HO_5 := aa_ (Kd.R_drew HO_5.out)
          replace HO_6 := aa_ (Kd.R_drew HO_6.out)
          replace HO_9 := aa_ (Kd.R_drew HO_9.out)
          replace HO_50 := aa_ (Kd.R_drew HO_50.out)
          replace HB := aa_ (below_drew1 HB.out)
          have p161 : 0 ≤ (1 : Int) := (by omega)
          have q161 : 1 < (x6_3.length : Int) := od_
          obtain ⟨ad161, e161, hx161_0⟩ := Kd.at_int (Kd.R_reads' HO_6.out).2.2 1 p161 q161
          obtain rfl : ad149 = ad161 := (by injection e161)
          (try simp only [show (1 : Int).toNat = 1 from rfl, Nat.reduceMul, Nat.reduceEqDiff, Go.Addr.add, ↓reduceIte] at hx161_0)
          have qi161 : (1 < x6_3.length) = True := eq_true (by omega)
          (try rw [show ((1 : Int)).toNat = 1 from rfl] at hx161_0)
          replace p161 := eq_true p161
          replace q161 := eq_true q161
          have p162 : 0 ≤ (2 : Int) := (by omega)
          have q162 : 2 < (x6_3.length : Int) := od_
          obtain ⟨ad162, e162, hx162_0⟩ := Kd.at_int (Kd.R_reads' HO_6.out).2.2 2 p162 q162
          obtain rfl : ad149 = ad162 := (by injection e162)
          (try simp only [show (2 : Int).toNat = 2 from rfl, Nat.reduceMul, Nat.reduceEqDiff, Go.Addr.add, ↓reduceIte] at hx162_0)
          have qi162 : (2 < x6_3.length) = True := eq_true (by omega)
          (try rw [show ((2 : Int)).toNat = 2 from rfl] at hx162_0)
          replace p162 := eq_true p162
          replace q162 := eq_true q162
          have p163 : 0 ≤ (1 : Int) := (by omega)
          have q163 : 1 < (x6_3.length : Int) := od_
          obtain ⟨ad163, e163, hx163_0⟩ := Kd.at_int (Kd.R_reads' HO_6.out).2.2 1 p163 q163
          obtain rfl : ad149 = ad163 := (by injection e163)
          (try simp only [show (1 : Int).toNat = 1 from rfl, Nat.reduceMul, Nat.reduceEqDiff, Go.Addr.add, ↓reduceIte] at hx163_0)
          have qi163 : (1 < x6_3.length) = True := eq_true (by omega)
          (try rw [show ((1 : Int)).toNat = 1 from rfl] at hx163_0)
          replace p163 := eq_true p163
          replace q163 := eq_true q163
          have p164 : 0 ≤ (2 : Int) := (by omega)
          have q164 : 2 < (x6_3.length : Int) := od_
          obtain ⟨ad164, e164, hx164_0⟩ := Kd.at_int (Kd.R_reads' HO_6.out).2.2 2 p164 q164
          obtain rfl : ad149 = ad164 := (by injection e164)
          (try simp only [show (2 : Int).toNat = 2 from rfl, Nat.reduceMul, Nat.reduceEqDiff, Go.Addr.add, ↓reduceIte] at hx164_0)
          have qi164 : (2 < x6_3.length) = True := eq_true (by omega)
          (try rw [show ((2 : Int)).toNat = 2 from rfl] at hx164_0)
          replace p164 := eq_true p164
          replace q164 := eq_true q164
          refine start_ (n := 29) (S := fun w' => w'.cell? ⟨ad149.block, ad149.off + 1, none⟩ = some (.int .u32 (rd x6_3 1)) ∧ w'.cell? ⟨ad149.block, ad149.off + 2, none⟩ = some (.int .u32 (rd x6_3 2)) ∧ w'.cell? ⟨ad149.block, ad149.off + 1, none⟩ = some (.int .u32 (rd x6_3 1)) ∧ w'.cell? ⟨ad149.block, ad149.off + 2, none⟩ = some (.int .u32 (rd x6_3 2))) (ds := []) (ba_ 29 0) (by kernel_rfl) rfl rfl ⟨hx161_0, hx162_0, hx163_0, hx164_0⟩ (fun hHeld => ?_); refine with_tabW impl_ShaBlock.tab18 impl_ShaBlock.bits18 (fun HT_ HW_ => ?_)
          generalize w48.drew = w50 at HO_5 HO_6 HO_9 HO_50 HB hx161_0 hx162_0 hx163_0 hx164_0 hHeld ⊢
          refine pureZ_ (i := 0) (some 95) (ba_ 29 1) (ao_ HT_) ?_
          refine pureZ_ (i := 2) (some 97) (ba_ 29 5) (ao_ HT_) ?_
          refine pureZ_ (i := 5) (some 100) (ba_ 29 37) (ao_ HT_) ?_
          refine pureZ_ (i := 8) (some 103) (ba_ 29 293) (ao_ HT_) ?_
          refine pureZ_ (i := 9) (some 104) (ba_ 29 805) (ao_ HT_) ?_
          refine pureZ_ (i := 10) (some 105) (ba_ 29 1829) (ao_ HT_) ?_
          refine pureZ_ (i := 13) (some 108) (ba_ 29 10021) (ao_ HT_) ?_
          refine pureZ_ (i := 14) (some 109) (ba_ 29 26405) (ao_ HT_) ?_
          refine pureZ_ (i := 15) (some 110) (ba_ 29 59173) (ao_ HT_) ?_
          refine pureZ_ (i := 19) (some 114) (ba_ 29 583461) (ao_ HT_) ?_
          refine pureZ_ (i := 20) (some 115) (ba_ 29 1632037) (ao_ HT_) ?_
          refine pureZ_ (i := 22) (some 117) (ba_ 29 5826341) (ao_ HT_) ?_
          refine pureZ_ (i := 23) (some 118) (ba_ 29 14214949) (ao_ HT_) ?_
          refine takeZ_ (i := 11) (some 106) (ba_ 29 14216997) (take_ofW HT_.out HW_.out (by kernel_rfl)) hHeld ?_
          refine pureZ_ (i := 12) (some 107) (ba_ 29 14221093) (ao_ HT_) ?_
          refine takeZ_ (i := 16) (some 111) (ba_ 29 14286629) (take_ofW HT_.out HW_.out (by kernel_rfl)) hHeld ?_
          refine pureZ_ (i := 17) (some 112) (ba_ 29 14417701) (ao_ HT_) ?_
          refine pureZ_ (i := 18) (some 113) (ba_ 29 14679845) (ao_ HT_) ?_
          refine takeZ_ (i := 21) (some 116) (ba_ 29 16776997) (take_ofW HT_.out HW_.out (by kernel_rfl)) hHeld ?_
          refine takeZ_ (i := 24) (some 119) (ba_ 29 33554213) (take_ofW HT_.out HW_.out (by kernel_rfl)) hHeld ?_
          refine pureZ_ (i := 25) (some 120) (ba_ 29 67108645) (ao_ HT_) ?_
          refine pureZ_ (i := 26) (some 121) (ba_ 29 134217509) (ao_ HT_) ?_
          refine one_ (i := 1) (N := some 96) (ba_ 29 134217511) rfl rfl (one_of HT_.out (by kernel_rfl)) (by decide) (fun K hK => ?_)
          refine goes_ Try.func20 (by kernel_rfl) rfl #[.int .u32 (rd x6_3 0), .int .i64 2] (by rfl) rfl rfl (by (try simp only [List.map_toArray, List.map_cons, List.map_nil]); first | done | rfl | (simp only [List.length_drop, List.length_take]; rfl)) ?_
          with_reducible refine (impl_turn.calls (rd x6_3 0) 2 t158 _ A40.out).mono ?_
          rintro e w' ⟨rfl, ⟨nd, rfl⟩⟩
          refine ⟨_, rfl, ?_⟩
          refine hK.out _ _ ⟨hHeld.1, hHeld.2.1, hHeld.2.2.1, hHeld.2.2.2⟩ (fun hHeld => ?_)
          clear hK K
          refine norm_ (a' := ?_) ?_ ?_
          rotate_left
          ·show Act.put _ (some 96) _ = _
           simp only [Act.put, List.setIfInBounds_toArray, List.set_cons_zero, List.set_cons_succ, i64_w, i32_w]
           rfl
          refine one_ (i := 3) (N := some 98) (ba_ 29 134217519) rfl rfl (one_of HT_.out (by kernel_rfl)) (by decide) (fun K hK => ?_)
          refine goes_ Try.func20 (by kernel_rfl) rfl #[.int .u32 (rd x6_3 0), .int .i64 13] (by rfl) rfl rfl (by (try simp only [List.map_toArray, List.map_cons, List.map_nil]); first | done | rfl | (simp only [List.length_drop, List.length_take]; rfl)) ?_
          with_reducible refine (impl_turn.calls (rd x6_3 0) 13 t159 _ A41.out).mono ?_
          rintro e w' ⟨rfl, ⟨nd, rfl⟩⟩
          refine ⟨_, rfl, ?_⟩
          refine hK.out _ _ ⟨hHeld.1, hHeld.2.1, hHeld.2.2.1, hHeld.2.2.2⟩ (fun hHeld => ?_)
          clear hK K
          refine norm_ (a' := ?_) ?_ ?_
          rotate_left
          ·show Act.put _ (some 98) _ = _
           simp only [Act.put, List.setIfInBounds_toArray, List.set_cons_zero, List.set_cons_succ, i64_w, i32_w]
           rfl
          refine pureZ_ (i := 4) (some 99) (ba_ 29 134217535) (ao_ HT_) ?_
          refine one_ (i := 6) (N := some 101) (ba_ 29 134217599) rfl rfl (one_of HT_.out (by kernel_rfl)) (by decide) (fun K hK => ?_)
          refine goes_ Try.func20 (by kernel_rfl) rfl #[.int .u32 (rd x6_3 0), .int .i64 22] (by rfl) rfl rfl (by (try simp only [List.map_toArray, List.map_cons, List.map_nil]); first | done | rfl | (simp only [List.length_drop, List.length_take]; rfl)) ?_
          with_reducible refine (impl_turn.calls (rd x6_3 0) 22 t160 _ A42.out).mono ?_
          rintro e w' ⟨rfl, ⟨nd, rfl⟩⟩
          refine ⟨_, rfl, ?_⟩
          refine hK.out _ _ ⟨hHeld.1, hHeld.2.1, hHeld.2.2.1, hHeld.2.2.2⟩ (fun hHeld => ?_)
          clear hK K
          refine norm_ (a' := ?_) ?_ ?_
          rotate_left
          ·show Act.put _ (some 101) _ = _
           simp only [Act.put, List.setIfInBounds_toArray, List.set_cons_zero, List.set_cons_succ, i64_w, i32_w]
           rfl
          refine pureZ_ (i := 7) (some 102) (ba_ 29 134217727) (ao_ HT_) ?_
          refine pureZ_ (i := 27) (some 122) (ba_ 29 268435455) (ao_ HT_) ?_
          refine pureZ_ (i := 28) (some 15) (ba_ 29 536870911) (ao_ HT_) ?_
          refine done_ (done_of HT_.out (by kernel_rfl)) ?_
          try go_wp2
          (try (rw [drewN_self w50]; generalize hq_ : World.drewN w50 _ = w50; have n0_ : Aside0 (Kd.R (Kd.int .i64) 3 w50 w.heap.size (fun _ => True) v134 y133) := ⟨by rw [← hq_]; exact (rr_ HO_5)⟩; have n1_ : Aside0 (Kd.R (Kd.int .u32) 25 w50 w.heap.size (fun k_ => some k_ ≠ (.slice (some ad149) x6_3.length co47 : Value).ownBlock ∧ some k_ ≠ (.slice (some ad157) t142.length co49 : Value).ownBlock) (.slice (some ad148) t145.length co27) t145) := ⟨by rw [← hq_]; exact (rr_ HO_50)⟩; have n2_ : Aside0 (Kd.R (Kd.int .u32) 25 w50 w.heap.size (fun k_ => some k_ ≠ (.slice (some ad148) t145.length co27 : Value).ownBlock ∧ some k_ ≠ (.slice (some ad157) t142.length co49 : Value).ownBlock) (.slice (some ad149) x6_3.length co47) x6_3) := ⟨by rw [← hq_]; exact (by (with_reducible repeat (first | apply Kd.R_alloc | apply Kd.R_drewN | apply Kd.R_drew)); first | exact HO_6.out | exact Kd.R_mono HO_6.out (fun _ hk => ⟨hk.2, hk.1⟩))⟩; have n3_ : Aside0 (Kd.R (Kd.int .u32) 25 w50 w.heap.size (fun k_ => some k_ ≠ (.slice (some ad148) t145.length co27 : Value).ownBlock ∧ some k_ ≠ (.slice (some ad149) x6_3.length co47 : Value).ownBlock) (.slice (some ad157) t142.length co49) t142) := ⟨by rw [← hq_]; exact (by (with_reducible repeat (first | apply Kd.R_alloc | apply Kd.R_drewN | apply Kd.R_drew)); first | exact HO_9.out | exact Kd.R_mono HO_9.out (fun _ hk => ⟨hk.2, hk.1⟩))⟩; have n4_ : Aside0 (Below w.heap.size w w50) := ⟨by rw [← hq_]; exact bl_⟩; clear HO_5 HO_50 HO_6 HO_9 HB hq_; have HO_5 := n0_; have HO_50 := n1_; have HO_6 := n2_; have HO_9 := n3_; have HB := n4_; clear n0_ n1_ n2_ n3_ n4_))
          replace HO_5 := aa_ (Kd.R_drew HO_5.out)
          replace HO_6 := aa_ (Kd.R_drew HO_6.out)
          replace HO_9 := aa_ (Kd.R_drew HO_9.out)
          replace HO_50 := aa_ (Kd.R_drew HO_50.out)
          replace HB := aa_ (below_drew1 HB.out)
          have p165 : 0 ≤ (0 : Int) := (by omega)
          have q165 : 0 < (x6_3.length : Int) := od_
          obtain ⟨ad165, e165, hx165_0⟩ := Kd.at_int (Kd.R_reads' HO_6.out).2.2 0 p165 q165
          obtain rfl : ad149 = ad165 := (by injection e165)
          have qi165 : (0 < x6_3.length) = True := eq_true (by omega)
          (try rw [show ((0 : Int)).toNat = 0 from rfl] at hx165_0)
          (try rw [Addr.add_zero'] at hx165_0)
          replace p165 := eq_true p165
          replace q165 := eq_true q165
          have p166 : 0 ≤ (1 : Int) := (by omega)
          have q166 : 1 < (x6_3.length : Int) := od_
          obtain ⟨ad166, e166, hx166_0⟩ := Kd.at_int (Kd.R_reads' HO_6.out).2.2 1 p166 q166
          obtain rfl : ad149 = ad166 := (by injection e166)
          (try simp only [show (1 : Int).toNat = 1 from rfl, Nat.reduceMul, Nat.reduceEqDiff, Go.Addr.add, ↓reduceIte] at hx166_0)
          have qi166 : (1 < x6_3.length) = True := eq_true (by omega)
          (try rw [show ((1 : Int)).toNat = 1 from rfl] at hx166_0)
          replace p166 := eq_true p166
          replace q166 := eq_true q166
          have p167 : 0 ≤ (2 : Int) := (by omega)
          have q167 : 2 < (x6_3.length : Int) := od_
          obtain ⟨ad167, e167, hx167_0⟩ := Kd.at_int (Kd.R_reads' HO_6.out).2.2 2 p167 q167
          obtain rfl : ad149 = ad167 := (by injection e167)
          (try simp only [show (2 : Int).toNat = 2 from rfl, Nat.reduceMul, Nat.reduceEqDiff, Go.Addr.add, ↓reduceIte] at hx167_0)
          have qi167 : (2 < x6_3.length) = True := eq_true (by omega)
          (try rw [show ((2 : Int)).toNat = 2 from rfl] at hx167_0)
          replace p167 := eq_true p167
          replace q167 := eq_true q167
          have p168 : 0 ≤ (3 : Int) := (by omega)
          have q168 : 3 < (x6_3.length : Int) := od_
          obtain ⟨ad168, e168, hx168_0⟩ := Kd.at_int (Kd.R_reads' HO_6.out).2.2 3 p168 q168
          obtain rfl : ad149 = ad168 := (by injection e168)
          (try simp only [show (3 : Int).toNat = 3 from rfl, Nat.reduceMul, Nat.reduceEqDiff, Go.Addr.add, ↓reduceIte] at hx168_0)
          have qi168 : (3 < x6_3.length) = True := eq_true (by omega)
          (try rw [show ((3 : Int)).toNat = 3 from rfl] at hx168_0)
          replace p168 := eq_true p168
          replace q168 := eq_true q168
          have p169 : 0 ≤ (4 : Int) := (by omega)
          have q169 : 4 < (x6_3.length : Int) := od_
          obtain ⟨ad169, e169, hx169_0⟩ := Kd.at_int (Kd.R_reads' HO_6.out).2.2 4 p169 q169
          obtain rfl : ad149 = ad169 := (by injection e169)
          (try simp only [show (4 : Int).toNat = 4 from rfl, Nat.reduceMul, Nat.reduceEqDiff, Go.Addr.add, ↓reduceIte] at hx169_0)
          have qi169 : (4 < x6_3.length) = True := eq_true (by omega)
          (try rw [show ((4 : Int)).toNat = 4 from rfl] at hx169_0)
          replace p169 := eq_true p169
          replace q169 := eq_true q169
          have p170 : 0 ≤ (5 : Int) := (by omega)
          have q170 : 5 < (x6_3.length : Int) := od_
          obtain ⟨ad170, e170, hx170_0⟩ := Kd.at_int (Kd.R_reads' HO_6.out).2.2 5 p170 q170
          obtain rfl : ad149 = ad170 := (by injection e170)
          (try simp only [show (5 : Int).toNat = 5 from rfl, Nat.reduceMul, Nat.reduceEqDiff, Go.Addr.add, ↓reduceIte] at hx170_0)
          have qi170 : (5 < x6_3.length) = True := eq_true (by omega)
          (try rw [show ((5 : Int)).toNat = 5 from rfl] at hx170_0)
          replace p170 := eq_true p170
          replace q170 := eq_true q170
          have p171 : 0 ≤ (6 : Int) := (by omega)
          have q171 : 6 < (x6_3.length : Int) := od_
          obtain ⟨ad171, e171, hx171_0⟩ := Kd.at_int (Kd.R_reads' HO_6.out).2.2 6 p171 q171
          obtain rfl : ad149 = ad171 := (by injection e171)
          (try simp only [show (6 : Int).toNat = 6 from rfl, Nat.reduceMul, Nat.reduceEqDiff, Go.Addr.add, ↓reduceIte] at hx171_0)
          have qi171 : (6 < x6_3.length) = True := eq_true (by omega)
          (try rw [show ((6 : Int)).toNat = 6 from rfl] at hx171_0)
          replace p171 := eq_true p171
          replace q171 := eq_true q171
          refine start_ (n := 28) (S := fun w' => w'.cell? ad149 = some (.int .u32 (rd x6_3 0)) ∧ w'.cell? ⟨ad149.block, ad149.off + 1, none⟩ = some (.int .u32 (rd x6_3 1)) ∧ w'.cell? ⟨ad149.block, ad149.off + 2, none⟩ = some (.int .u32 (rd x6_3 2)) ∧ w'.cell? ⟨ad149.block, ad149.off + 3, none⟩ = some (.int .u32 (rd x6_3 3)) ∧ w'.cell? ⟨ad149.block, ad149.off + 4, none⟩ = some (.int .u32 (rd x6_3 4)) ∧ w'.cell? ⟨ad149.block, ad149.off + 5, none⟩ = some (.int .u32 (rd x6_3 5)) ∧ w'.cell? ⟨ad149.block, ad149.off + 6, none⟩ = some (.int .u32 (rd x6_3 6))) (ds := []) (ba_ 28 0) (by kernel_rfl) rfl rfl ⟨hx165_0, hx166_0, hx167_0, hx168_0, hx169_0, hx170_0, hx171_0⟩ (fun hHeld => ?_); refine with_tabW impl_ShaBlock.tab19 impl_ShaBlock.bits19 (fun HT_ HW_ => ?_)
          generalize w50.drew = w51 at HO_5 HO_6 HO_9 HO_50 HB hx165_0 hx166_0 hx167_0 hx168_0 hx169_0 hx170_0 hx171_0 hHeld ⊢
          refine pureZ_ (i := 0) (some 123) (ba_ 28 1) (ao_ HT_) ?_
          refine pureZ_ (i := 1) (some 124) (ba_ 28 3) (ao_ HT_) ?_
          refine pureZ_ (i := 2) (some 125) (ba_ 28 7) (ao_ HT_) ?_
          refine pureZ_ (i := 3) (some 126) (ba_ 28 15) (ao_ HT_) ?_
          refine pureZ_ (i := 4) (some 127) (ba_ 28 31) (ao_ HT_) ?_
          refine pureZ_ (i := 6) (some 129) (ba_ 28 95) (ao_ HT_) ?_
          refine pureZ_ (i := 7) (some 130) (ba_ 28 223) (ao_ HT_) ?_
          refine pureZ_ (i := 9) (some 132) (ba_ 28 735) (ao_ HT_) ?_
          refine pureZ_ (i := 10) (some 133) (ba_ 28 1759) (ao_ HT_) ?_
          refine pureZ_ (i := 12) (some 135) (ba_ 28 5855) (ao_ HT_) ?_
          refine pureZ_ (i := 13) (some 136) (ba_ 28 14047) (ao_ HT_) ?_
          refine pureZ_ (i := 15) (some 138) (ba_ 28 46815) (ao_ HT_) ?_
          refine pureZ_ (i := 17) (some 140) (ba_ 28 177887) (ao_ HT_) ?_
          refine pureZ_ (i := 18) (some 141) (ba_ 28 440031) (ao_ HT_) ?_
          refine pureZ_ (i := 20) (some 143) (ba_ 28 1488607) (ao_ HT_) ?_
          refine pureZ_ (i := 21) (some 144) (ba_ 28 3585759) (ao_ HT_) ?_
          refine pureZ_ (i := 23) (some 146) (ba_ 28 11974367) (ao_ HT_) ?_
          refine pureZ_ (i := 24) (some 147) (ba_ 28 28751583) (ao_ HT_) ?_
          refine takeZ_ (i := 5) (some 128) (ba_ 28 28751615) (take_ofW HT_.out HW_.out (by kernel_rfl)) hHeld ?_
          refine takeZ_ (i := 8) (some 131) (ba_ 28 28751871) (take_ofW HT_.out HW_.out (by kernel_rfl)) hHeld ?_
          refine takeZ_ (i := 11) (some 134) (ba_ 28 28753919) (take_ofW HT_.out HW_.out (by kernel_rfl)) hHeld ?_
          refine takeZ_ (i := 14) (some 137) (ba_ 28 28770303) (take_ofW HT_.out HW_.out (by kernel_rfl)) hHeld ?_
          refine pureZ_ (i := 16) (some 139) (ba_ 28 28835839) (ao_ HT_) ?_
          refine takeZ_ (i := 19) (some 142) (ba_ 28 29360127) (take_ofW HT_.out HW_.out (by kernel_rfl)) hHeld ?_
          refine takeZ_ (i := 22) (some 145) (ba_ 28 33554431) (take_ofW HT_.out HW_.out (by kernel_rfl)) hHeld ?_
          refine takeZ_ (i := 25) (some 148) (ba_ 28 67108863) (take_ofW HT_.out HW_.out (by kernel_rfl)) hHeld ?_
          refine one_ (i := 26) (N := some 149) (ba_ 28 134217727) rfl rfl (one_of HT_.out (by kernel_rfl)) (by decide) (fun K hK => ?_)
          refine Kd.R_lit_step (Kd.int .u32) _ 25 ?hg (N := 149) ?hd (xs := ([((((((((((rd x6_3 7) + (Go.bits .xor .u32 (Go.bits .xor .u32 t152 t153) t154)) % 4294967296) + (Go.bits .xor .u32 (Go.bits .and .u32 (rd x6_3 4) (rd x6_3 5)) (Go.bits .and .u32 (Go.bits .xor .u32 4294967295 (rd x6_3 4)) (rd x6_3 6)))) % 4294967296) + (rd t142 x52_3)) % 4294967296) + (rd t145 x52_3)) % 4294967296) + (((Go.bits .xor .u32 (Go.bits .xor .u32 t158 t159) t160) + (Go.bits .xor .u32 (Go.bits .xor .u32 (Go.bits .and .u32 (rd x6_3 0) (rd x6_3 1)) (Go.bits .and .u32 (rd x6_3 0) (rd x6_3 2))) (Go.bits .and .u32 (rd x6_3 1) (rd x6_3 2)))) % 4294967296)) % 4294967296, rd x6_3 0, rd x6_3 1, rd x6_3 2, ((rd x6_3 3) + (((((((((rd x6_3 7) + (Go.bits .xor .u32 (Go.bits .xor .u32 t152 t153) t154)) % 4294967296) + (Go.bits .xor .u32 (Go.bits .and .u32 (rd x6_3 4) (rd x6_3 5)) (Go.bits .and .u32 (Go.bits .xor .u32 4294967295 (rd x6_3 4)) (rd x6_3 6)))) % 4294967296) + (rd t142 x52_3)) % 4294967296) + (rd t145 x52_3)) % 4294967296)) % 4294967296, rd x6_3 4, rd x6_3 5, rd x6_3 6] : List Int)) (inner := [.int .u32 (((((((((((rd x6_3 7) + (Go.bits .xor .u32 (Go.bits .xor .u32 t152 t153) t154)) % 4294967296) + (Go.bits .xor .u32 (Go.bits .and .u32 (rd x6_3 4) (rd x6_3 5)) (Go.bits .and .u32 (Go.bits .xor .u32 4294967295 (rd x6_3 4)) (rd x6_3 6)))) % 4294967296) + (rd t142 x52_3)) % 4294967296) + (rd t145 x52_3)) % 4294967296) + (((Go.bits .xor .u32 (Go.bits .xor .u32 t158 t159) t160) + (Go.bits .xor .u32 (Go.bits .xor .u32 (Go.bits .and .u32 (rd x6_3 0) (rd x6_3 1)) (Go.bits .and .u32 (rd x6_3 0) (rd x6_3 2))) (Go.bits .and .u32 (rd x6_3 1) (rd x6_3 2)))) % 4294967296)) % 4294967296), .int .u32 (rd x6_3 0), .int .u32 (rd x6_3 1), .int .u32 (rd x6_3 2), .int .u32 (((rd x6_3 3) + (((((((((rd x6_3 7) + (Go.bits .xor .u32 (Go.bits .xor .u32 t152 t153) t154)) % 4294967296) + (Go.bits .xor .u32 (Go.bits .and .u32 (rd x6_3 4) (rd x6_3 5)) (Go.bits .and .u32 (Go.bits .xor .u32 4294967295 (rd x6_3 4)) (rd x6_3 6)))) % 4294967296) + (rd t142 x52_3)) % 4294967296) + (rd t145 x52_3)) % 4294967296)) % 4294967296), .int .u32 (rd x6_3 4), .int .u32 (rd x6_3 5), .int .u32 (rd x6_3 6)]) (ok := fun _ => True) (okp := fun _ => True) ?hr ?hp (fun _ hk => hk) trivial (Below.refl _ _) (Nat.le_refl _) (by simp) ?_; (case hd => rfl); (case hg => rfl); (case hr => (first | (go_simp; done) | (go_simp; rfl) | (go_simp; simp only [IntKind.wrap_u32, show IntKind.u32.max = 4294967295 from rfl, Int.emod_add_emod, Int.add_emod_emod, Int.emod_emod]; done) | (go_simp; simp only [IntKind.wrap_u32, show IntKind.u32.max = 4294967295 from rfl, Int.emod_add_emod, Int.add_emod_emod, Int.emod_emod]; rfl))); (case hp => exact (Reps.one (show Kd.M (Kd.int .u32) _ _ _ (((((((((((rd x6_3 7) + (Go.bits .xor .u32 (Go.bits .xor .u32 t152 t153) t154)) % 4294967296) + (Go.bits .xor .u32 (Go.bits .and .u32 (rd x6_3 4) (rd x6_3 5)) (Go.bits .and .u32 (Go.bits .xor .u32 4294967295 (rd x6_3 4)) (rd x6_3 6)))) % 4294967296) + (rd t142 x52_3)) % 4294967296) + (rd t145 x52_3)) % 4294967296) + (((Go.bits .xor .u32 (Go.bits .xor .u32 t158 t159) t160) + (Go.bits .xor .u32 (Go.bits .xor .u32 (Go.bits .and .u32 (rd x6_3 0) (rd x6_3 1)) (Go.bits .and .u32 (rd x6_3 0) (rd x6_3 2))) (Go.bits .and .u32 (rd x6_3 1) (rd x6_3 2)))) % 4294967296)) % 4294967296) [.int .u32 (((((((((((rd x6_3 7) + (Go.bits .xor .u32 (Go.bits .xor .u32 t152 t153) t154)) % 4294967296) + (Go.bits .xor .u32 (Go.bits .and .u32 (rd x6_3 4) (rd x6_3 5)) (Go.bits .and .u32 (Go.bits .xor .u32 4294967295 (rd x6_3 4)) (rd x6_3 6)))) % 4294967296) + (rd t142 x52_3)) % 4294967296) + (rd t145 x52_3)) % 4294967296) + (((Go.bits .xor .u32 (Go.bits .xor .u32 t158 t159) t160) + (Go.bits .xor .u32 (Go.bits .xor .u32 (Go.bits .and .u32 (rd x6_3 0) (rd x6_3 1)) (Go.bits .and .u32 (rd x6_3 0) (rd x6_3 2))) (Go.bits .and .u32 (rd x6_3 1) (rd x6_3 2)))) % 4294967296)) % 4294967296)] from rfl) (Reps.one (show Kd.M (Kd.int .u32) _ _ _ (rd x6_3 0) [.int .u32 (rd x6_3 0)] from rfl) (Reps.one (show Kd.M (Kd.int .u32) _ _ _ (rd x6_3 1) [.int .u32 (rd x6_3 1)] from rfl) (Reps.one (show Kd.M (Kd.int .u32) _ _ _ (rd x6_3 2) [.int .u32 (rd x6_3 2)] from rfl) (Reps.one (show Kd.M (Kd.int .u32) _ _ _ (((rd x6_3 3) + (((((((((rd x6_3 7) + (Go.bits .xor .u32 (Go.bits .xor .u32 t152 t153) t154)) % 4294967296) + (Go.bits .xor .u32 (Go.bits .and .u32 (rd x6_3 4) (rd x6_3 5)) (Go.bits .and .u32 (Go.bits .xor .u32 4294967295 (rd x6_3 4)) (rd x6_3 6)))) % 4294967296) + (rd t142 x52_3)) % 4294967296) + (rd t145 x52_3)) % 4294967296)) % 4294967296) [.int .u32 (((rd x6_3 3) + (((((((((rd x6_3 7) + (Go.bits .xor .u32 (Go.bits .xor .u32 t152 t153) t154)) % 4294967296) + (Go.bits .xor .u32 (Go.bits .and .u32 (rd x6_3 4) (rd x6_3 5)) (Go.bits .and .u32 (Go.bits .xor .u32 4294967295 (rd x6_3 4)) (rd x6_3 6)))) % 4294967296) + (rd t142 x52_3)) % 4294967296) + (rd t145 x52_3)) % 4294967296)) % 4294967296)] from rfl) (Reps.one (show Kd.M (Kd.int .u32) _ _ _ (rd x6_3 4) [.int .u32 (rd x6_3 4)] from rfl) (Reps.one (show Kd.M (Kd.int .u32) _ _ _ (rd x6_3 5) [.int .u32 (rd x6_3 5)] from rfl) (Reps.one (show Kd.M (Kd.int .u32) _ _ _ (rd x6_3 6) [.int .u32 (rd x6_3 6)] from rfl) (Reps.none _ _))))))))))
          intro v173 w52 ho53 hb hg_ hnew_
          have HS0_ := (hb.cell (World.block_lt_of_cell? _ _ (hHeld.1))).trans (hHeld.1)
          have HS1_ := (hb.cell (World.block_lt_of_cell? _ _ (hHeld.2.1))).trans (hHeld.2.1)
          have HS2_ := (hb.cell (World.block_lt_of_cell? _ _ (hHeld.2.2.1))).trans (hHeld.2.2.1)
          have HS3_ := (hb.cell (World.block_lt_of_cell? _ _ (hHeld.2.2.2.1))).trans (hHeld.2.2.2.1)
          have HS4_ := (hb.cell (World.block_lt_of_cell? _ _ (hHeld.2.2.2.2.1))).trans (hHeld.2.2.2.2.1)
          have HS5_ := (hb.cell (World.block_lt_of_cell? _ _ (hHeld.2.2.2.2.2.1))).trans (hHeld.2.2.2.2.2.1)
          have HS6_ := (hb.cell (World.block_lt_of_cell? _ _ (hHeld.2.2.2.2.2.2))).trans (hHeld.2.2.2.2.2.2)
          clear hg_ hnew_
          (first | rw [← Ny172.out] at ho53 | (simp only [Int.reduceToNat] at ho53; rw [← Ny172.out] at ho53))
          replace HO_5 := hob_ HO_5 hb
          have HO174 := aa_ (Kd.R_lower (Kd.R_new' (Kd.R_new' (Kd.R_new' ho53 (Kd.R_lt (rr_ HO_6))) (Kd.R_lt (rr_ HO_9))) (Kd.R_lt (rr_ HO_50))) bls_)
          replace HO_6 := aa_ (Kd.R_elder' (rr_ HO_6) (Kd.R_base ho53) hb)
          replace HO_9 := aa_ (Kd.R_elder' (rr_ HO_9) (Kd.R_base ho53) hb)
          replace HO_50 := aa_ (Kd.R_elder' (rr_ HO_50) (Kd.R_base ho53) hb)
          replace HB := hbs_ hb
          clear hb ho53
          refine hK.out _ _ ⟨HS0_, HS1_, HS2_, HS3_, HS4_, HS5_, HS6_⟩ (fun hHeld => ?_)
          clear hK K
          refine norm_ (a' := ?_) ?_ ?_
          rotate_left
          ·show Act.put _ (some 149) _ = _
           simp only [Act.put, List.setIfInBounds_toArray, List.set_cons_zero, List.set_cons_succ, i64_w, i32_w]
           rfl
          refine pureZ_ (i := 27) (some 6) (ba_ 28 268435455) (ao_ HT_) ?_
          refine done_ (done_of HT_.out (by kernel_rfl)) ?_
          try go_wp2
          go_roundg k3
          case measure => have := HJ3.out; have := HK2.out; have := HK3.out; omega
          case rel => exact ⟨(y172), (wrap64 (x52_3 + 1)), rf_, H', ⟨by have := HJ3.out; have := HK2.out; have := HK3.out; omega⟩, ⟨rr_ HO_5⟩, ⟨by (with_reducible repeat (first | apply Kd.R_alloc | apply Kd.R_drewN | apply Kd.R_drew)); exact Kd.R_mono HO174.out (fun _ hk => ⟨hk.1.2, hk.2⟩)⟩, ⟨by (with_reducible repeat (first | apply Kd.R_alloc | apply Kd.R_drewN | apply Kd.R_drew)); first | exact Kd.R_mono HO_9.out (fun _ hk => ⟨hk.2, hk.1.2⟩) | exact Kd.R_mono HO_9.out (fun _ hk => ⟨hk.2, hk.1.1⟩)⟩, ⟨by (with_reducible repeat (first | apply Kd.R_alloc | apply Kd.R_drewN | apply Kd.R_drew)); first | exact Kd.R_mono HO_50.out (fun _ hk => ⟨hk.2, hk.1.2⟩) | exact Kd.R_mono HO_50.out (fun _ hk => ⟨hk.2, hk.1.1⟩)⟩, ⟨bl_⟩⟩
         ·rw [if_neg c28] at H
          have c28b0 : decide (x52_3 < (t145.length : Int)) = false := decide_eq_false c28
          clear c28
          have H' := aa_ H
          clear H
          obtain ⟨Ao54, co54, eo54⟩ := Kd.R_slice HO_6.out
          subst eo54
          go_wp2
          go_loopg [153] k3 (fun kq v153 w' => ∃ (x5_4 : List Int) (x153_4 : Int), v153 = .int .i64 x153_4 ∧ Aside0 (impl_ShaBlock.l2 kq x5_4 x6_3 (x6_3.length : Int) x153_4 = some r) ∧ Aside0 (kq ≤ k3) ∧ Aside0 (Kd.R (Kd.int .i64) 3 w' w.heap.size (fun _ => True) v134 x5_4) ∧ Aside0 (Kd.R (Kd.int .u32) 25 w' w.heap.size (fun _ => True) (.slice Ao54 x6_3.length co54) x6_3) ∧ Aside0 (Below w.heap.size w w'))
          case atStart => exact ⟨(y133), (0), rf_, H', ⟨Nat.le_refl _⟩, ⟨rr_ HO_5⟩, ⟨by (with_reducible repeat (first | apply Kd.R_alloc | apply Kd.R_drewN | apply Kd.R_drew)); exact Kd.R_mono HO_6.out (fun _ hk => trivial)⟩, ⟨bl_⟩⟩
          case round =>
           clear H'
           try clear p1
           try clear q1
           try clear hx1
           try clear qi1
           try clear c2
           try clear p2
           try clear c3
           try clear c4
           try clear p6
           try clear p16
           try clear q16
           try clear hx16
           try clear qi16
           try clear p17
           try clear q17
           try clear hx17
           try clear qi17
           try clear c20
           try clear c28
           try clear c28b0
           try clear c29
           try clear c30
           try clear c31
           try clear c32
           try clear c33
           try clear c37
           try clear c38
           try clear c39
           try clear c43
           try clear c44
           try clear c45
           try clear hx165_0
           try clear hx166_0
           try clear hx167_0
           try clear hx168_0
           try clear hx169_0
           try clear hx170_0
           try clear hx171_0
           try clear p165
           try clear p166
           try clear p167
           try clear p168
           try clear p169
           try clear p170
           try clear p171
           try clear q165
           try clear q166
           try clear q167
           try clear q168
           try clear q169
           try clear q170
           try clear q171
           obtain ⟨x5_4, x153_4, rfl, HA, HK4, HO_5, HO_151, HB⟩ := hrel
           cases gk with
           | zero => exact absurd HA.out (by simp [impl_ShaBlock.l2])
           | succ k4 =>
            have H := HA.out
            clear HA
            simp only [impl_ShaBlock.l2] at H
            by_cases c55 : x153_4 < (x6_3.length : Int)
            ·rw [if_pos c55] at H
             have c55b0 : decide (x153_4 < (x6_3.length : Int)) = true := decide_eq_true c55
             clear c55
             obtain ⟨c56b0, H⟩ := ifd_ H
             obtain ⟨c57b0, H⟩ := ifd_ H
             obtain ⟨c58b0, H⟩ := ifd_ H
             obtain ⟨y177, hy177⟩ : ∃ y_ : List Int, y_ = (x5_4.set (x153_4 : Int).toNat ((((rd x5_4 x153_4) % 4294967296) + (rd x6_3 x153_4)) % 4294967296)) := ⟨_, rfl⟩
             replace H : (impl_ShaBlock.l2 k4 y177 x6_3 (x6_3.length : Int) (wrap64 (x153_4 + 1))) = some r := rh_ hy177 H
             have Ny177 := aa_ hy177
             clear hy177
             have H' := aa_ H
             clear H
             have p175 : 0 ≤ (x153_4 : Int) := od_
             have q175 : x153_4 < (x6_3.length : Int) := od_
             obtain ⟨ad175, e175, hx175_0⟩ := Kd.at_int (Kd.R_reads' HO_151.out).2.2 x153_4 p175 q175
             cases e175
             replace p175 := eq_true p175
             replace q175 := eq_true q175
             obtain ⟨Ao60, co60, eo60⟩ := Kd.R_slice HO_5.out
             subst eo60
             have p176 : 0 ≤ (x153_4 : Int) := od_
             have q176 : x153_4 < (x5_4.length : Int) := od_
             obtain ⟨ad176, e176, hx176_0⟩ := Kd.at_int (Kd.R_reads' HO_5.out).2.2 x153_4 p176 q176
             cases e176
             replace p176 := eq_true p176
             replace q176 := eq_true q176
             have p59 : 0 ≤ (x153_4 : Int) := od_
             have q59 : (x153_4 : Int) < ((x5_4.length : Int) : Int) := od_
             obtain ⟨go59, co59, eo59, gb59, gl59, cl59, HG59⟩ := Kd.R_form HO_5.out (by omega)
             (first | cases eo59 | (injection eo59 with ea_ en_ ec_; (first | subst ea_ | (injection ea_ with ea_; subst ea_)); subst ec_; clear en_))
             have GB59 := aa_ gb59
             have GG59 := aa_ HG59
             clear gb59 gl59 HG59
             (first | simp only [add_plain] at hx176_0 | skip)
             obtain ⟨hx59_0, hf59_0⟩ := Kd.R_celln 0 HO_5.out (x153_4 : Int) p59 q59
             replace p59 := eq_true p59
             replace q59 := eq_true q59
             have HP61 := Kd.R_putg HO_5.out (x153_4 : Int) ((((rd x5_4 x153_4) % 4294967296) + (rd x6_3 x153_4)) % 4294967296)
             go_wp2_with (first | ((with_reducible refine gate_store (t := 3) (p := 168) rfl ?_); refine store_event (t := 3) (p := 168) (v := ?vo_w62) (w1 := (wr.setCell ⟨go59, (x153_4 : Int).toNat, none⟩ (.int .i64 ((((rd x5_4 x153_4) % 4294967296) + (rd x6_3 x153_4)) % 4294967296)))) ?hg ?ho ?hn ?hr ?_; (case ho => rfl); (case hg => rfl); (case hn => rfl); (case hr => first | (go_simp; done) | (go_simp; rfl)); intro w62 hw; have hg : wr.grownBy w62 (some go59) := (by rw [hw]; exact HP61.2); have hp_ : Kd.R (Kd.int .i64) 3 w62 w.heap.size (fun _ => True) (.slice (some ⟨go59, 0, none⟩) x5_4.length co60) y177 := (by rw [hw, Ny177.out]; exact HP61.1); clear HP61; replace HO_151 := aa_ (Kd.R_over' (v := (.slice (some ⟨go59, 0, none⟩) x5_4.length co60)) (rr_ HO_151) (Kd.R_typed HO_5.out) (by decide) hg); replace HO_5 := aa_ (hp_); replace HB := aa_ ((by rw [hw]; exact below_set (HB.out) GB59.out : Below w.heap.size w w62)); clear hg hw hp_))
             go_roundg k4
             case measure => have := HJ3.out; have := HK2.out; have := HK3.out; have := HK4.out; omega
             case rel => exact ⟨(y177), (wrap64 (x153_4 + 1)), rf_, H', ⟨by have := HJ3.out; have := HK2.out; have := HK3.out; have := HK4.out; omega⟩, ⟨rr_ HO_5⟩, ⟨rr_ HO_151⟩, ⟨bl_⟩⟩
            ·rw [if_neg c55] at H
             have c55b0 : decide (x153_4 < (x6_3.length : Int)) = false := decide_eq_false c55
             clear c55
             obtain rfl := Option.some.inj H
             go_wp2
             go_ret
             exact ⟨_, eq_, by (with_reducible repeat (first | apply Kd.R_alloc | apply Kd.R_drewN | apply Kd.R_drew)); exact HO_5.out, bl_⟩
end Go.Proofs.Ytingghknjicpjaa.PB
