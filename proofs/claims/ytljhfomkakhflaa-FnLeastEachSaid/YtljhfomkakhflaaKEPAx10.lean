import Derived.Test.YtljhfomkakhflaaKEPAx9
-- printed by wip/tools
namespace Go.Proofs.Ytljhfomkakhflaa.PA
open Go.RowKit Go.Proofs.YtljhfomkakhflaaW.PrintWords Go.Proofs.YtljhfomkakhflaaW.PrintLast Go.Proofs.YtljhfomkakhflaaW.PrintMore
attribute [local go_sem] max2_int min2_int max_two min_two max_three min_three max_four min_four
set_option linter.unusedVariables false
set_option linter.unusedSimpArgs false
def slices_Repeat_int_int.f (l0 : List (Int)) (a1 : Int) : Option (List (Int)) := if l0.length = 1 ∧ 0 ≤ a1 ∧ a1 ≤ 1000000 then some (List.replicate a1.toNat (l0.getD 0 0)) else none
theorem slices_Repeat_int_int.mul (N : Int) (h0 : 0 ≤ N) (h1 : N ≤ 1000000) : bits_Mul.f 1 N = some (0, N) := by
 have wu : ∀ n : Int, 0 ≤ n → n < 2 ^ 64 → IntKind.u64.wrap n = n := fun n a b => by rw [IntKind.wrap_u64]; omega
 have e1 : Go.bits .and .u64 N 4294967295 = N := by
  have := bits_mask .u64 64 (by decide) wu 32 (by decide) N h0 (by omega)
  rw [show ((4294967295 : Int)) = 2 ^ 32 - 1 by decide]
  rw [this]
  omega
 have e2 : Go.bits .and .u64 1 4294967295 = 1 := by decide +kernel
 have e3 : N / 4294967296 = 0 := by omega
 have e4 : (1 : Int) / 4294967296 = 0 := by decide
 have e5 : IntKind.u64.wrap N = N := wu N h0 (by omega)
 have e6 : IntKind.u64.wrap 0 = 0 := wu 0 (by decide) (by decide)
 have e7 : Go.bits .and .u64 0 4294967295 = 0 := by decide +kernel
 unfold bits_Mul.f bits_Mul64.f
 simp only [Option.bind_some, e1, e2, e3, e4, Int.zero_mul, Int.mul_zero, Int.one_mul, e5, e6, e7, Int.zero_ediv, Int.add_zero, Int.zero_add]
theorem slices_Repeat_int_int.wr (m c : Nat) (h : m + c ≤ 1000000) : IntKind.i64.wrap ((m : Int) + (c : Int)) = ((m + c : Nat) : Int) := by rw [IntKind.wrap_i64]; omega
set_option maxHeartbeats 8000000 in
set_option maxRecDepth 100000 in
theorem slices_Repeat_int_int.calls (A0 : Option Addr) (c0 : Nat) (l0 : List (Int)) (a1 : Int) (r : List (Int)) (w : World) (hr0 : Kd.C (Kd.int .i64) w A0 l0.length l0) (hc0 : l0.length ≤ c0) (h : slices_Repeat_int_int.f l0 a1 = some r) :
  Calls Try.prog 39 #[.slice A0 l0.length c0, .int .i64 a1] w fun e w' => ∃ v0_ : Value, e = .returned (v0_) ∧ Kd.R (Kd.int .i64) 3 w' w.heap.size (fun _ => True) v0_ r ∧ Below w.heap.size w w' := by
 unfold slices_Repeat_int_int.f at h
 by_cases hc : l0.length = 1 ∧ 0 ≤ a1 ∧ a1 ≤ 1000000
 ·rw [if_pos hc] at h
  obtain ⟨h1, h2, h3⟩ := hc
  obtain ⟨N, rfl⟩ := Int.eq_ofNat_of_zero_le h2
  obtain ⟨x, rfl⟩ : ∃ x, l0 = [x] := by
   match l0, h1 with
   | [x], _ => exact ⟨x, rfl⟩
  obtain rfl := Option.some.inj h
  have HR0 := aa_ (show Kd.C (Kd.int .i64) w A0 1 [x] from hr0)
  have HMu := aa_ (slices_Repeat_int_int.mul N (by omega) h3)
  have HB := aa_ (Below.refl w.heap.size w)
  have HN := aa_ (show N ≤ 1000000 by omega)
  have hw1 : IntKind.u64.wrap (N : Int) = N := by rw [IntKind.wrap_u64]; omega
  have hw2 : IntKind.i64.wrap (N : Int) = N := by rw [IntKind.wrap_i64]; omega
  have hw3 : wrap64 (N : Int) = N := by unfold wrap64; omega
  have hn0 : ¬ (N : Int) < 0 := by omega
  have hn1 : ¬ (9223372036854775807 : Int) < (N : Int) := by omega
  obtain ⟨Z, hZ⟩ : ∃ Z : List Int, Z = List.replicate N 0 := ⟨_, rfl⟩
  have HZ := aa_ hZ
  have HZl := aa_ (show Z.length = N by rw [hZ, List.length_replicate])
  obtain ⟨m0, hm0⟩ : ∃ m0 : Nat, m0 = min 1 Z.length := ⟨_, rfl⟩
  have HM0 := aa_ hm0
  have HI := aa_ (show (Try.prog.info? 3).map (·.size) = some 1 by rw [Option.map_eq_some_iff]; obtain ⟨i0, e0, h0_⟩ := Option.map_eq_some_iff.1 info3; exact ⟨i0, e0, by injection h0_ with _ h1_; injection h1_⟩)
  clear hr0 hc0 h1 h2 h3 h hZ hm0
  show Calls Try.prog 39 #[.slice A0 1 c0, .int .i64 (N : Int)] w _
  go_enter Try.func39, Try.ntmps39
  go_wp2_with (first | ((with_reducible refine gC_ 54 rfl ?_); refine goesC_ (some 18) Try.func54 #[.int .u64 1, .int .u64 (N : Int)] ?_; (with_reducible refine (bits_Mul.calls 1 (N : Int) 0 (N : Int) _ HMu.out).mono ?_); rintro e w' ⟨rfl, ⟨nd, rfl⟩⟩; refine ⟨_, rfl, ?_⟩; replace HB := aa_ (pw_below_drewN HB.out nd)) | ((with_reducible refine gD_ 30 rfl ?_); refine Kd.R_make (Kd.int .i64) _ 3 rfl (N := 30) rfl 53 _ _ rfl (N : Int) rfl rfl Try.underlying53 (.int .i64 0) 8 info3 rfl (by decide) (by omega) 0 (ok := fun _ => True) (okp := fun _ => True) rfl (fun _ hk => hk) trivial (by omega) (by have := HN.out; omega) HB.out bls_ ?_; intro v1 w1 ho hb hg_ hnew_; have HO := aa_ (show Kd.R (Kd.int .i64) 3 w1 w.heap.size (fun _ => True) v1 Z from by rw [HZ.out]; exact ho); have HW := aa_ hnew_; replace HB := aa_ hb; clear ho hb hg_ hnew_) | ((with_reducible refine gate_builtin (b := .copy) (xs := #[.tmp 31, .tmp 32]) rfl ?_); refine Kd.R_copy (enc := Value.int .i64) 0 w.heap.size rfl (.tmp 31) (.tmp 32) 53 53 3 rfl Try.underlying53 HI.out v1 Z [x] A0 1 c0 (fun _ => True) rfl rfl HO.out (Kd.C_below HR0.out HB.out) HB.out bls_ ?_; intro w2 ho2 hb2 hg2; rw [← HM0.out]; have HO2 := aa_ ho2; replace HB := aa_ hb2; clear ho2 hb2 hg2))
  clear hw1 hw2 hw3
  obtain ⟨b0, hb0, hbb⟩ := HW.out
  have hlen : ([x].take m0 ++ Z.drop m0).length = N := by
   have h1 := HM0.out
   have h2 := HZl.out
   simp only [List.length_append, List.length_take, List.length_drop, List.length_singleton]
   omega
  have hO2 : Kd.R (Kd.int .i64) 3 w2 w.heap.size (fun _ => True) v1 ([x].take m0 ++ Z.drop m0) := by
   have := HO2.out
   rw [← HM0.out] at this
   exact this
  obtain ⟨_, hf⟩ := Kd.own_of_R (enc := Value.int .i64) hO2
  rw [hlen] at hf
  rcases hf with ⟨rfl, _⟩ | ⟨g, cap, cur, rfl, hg, hb, hn, hc, hs, ht⟩
  ·cases hb0
  have HG0 := aa_ (show w2.heap[g]? = some (.cells cur.toList.toArray 3 (0, 0)) from hb)
  have HC0 := aa_ (show cur.toList.length = cap ∧ cur.toList.take m0 = List.replicate m0 (Value.int .i64 x) by
   refine ⟨by rw [Array.length_toList, hs, Nat.mul_one], ?_⟩
   have h1 := HM0.out
   have h2 := HZl.out
   have h3 := congrArg (List.take m0) ht
   rw [List.take_take, Nat.min_eq_left (by omega)] at h3
   rw [h3]
   rcases Nat.eq_zero_or_pos m0 with h0 | h0
   ·rw [h0]; rfl
   ·have : m0 = 1 := by omega
    rw [this]; rfl)
  have HN2 := aa_ (show N ≤ cap ∧ cap ≤ maxLen ∧ m0 ≤ N ∧ (0 < N → 0 < m0) by
   have h1 := HM0.out
   have h2 := HZl.out
   exact ⟨hn, hc, by omega, by omega⟩)
  have HGE := aa_ hg
  clear hb0 hbb hlen hO2 hb hs ht hn hc hg HO HO2 HW
  go_loopg [8] N (fun gg v8 w' => ∃ (m : Nat) (cu : List Value), v8 = .int .i64 m ∧ m ≤ N ∧ N - m ≤ gg ∧ (0 < N → 0 < m) ∧ Aside0 (w'.heap[g]? = some (.cells cu.toArray 3 (0, 0))) ∧ Aside0 (cu.length = cap ∧ cu.take m = List.replicate m (Value.int .i64 x)) ∧ Aside0 (Below w.heap.size w w'))
  case atStart =>
   obtain ⟨h1, h2, h3, h4⟩ := HN2.out
   exact ⟨m0, cur.toList, (by first | rfl | (simp; done)), h3, by omega, h4, HG0, HC0, ⟨bl_⟩⟩
  case round =>
   clear HG0 HC0 HM0 HZ HZl HB
   obtain ⟨m, cu, rfl, hm, hgg, hp, HG, HC, HB⟩ := hrel
   obtain ⟨q1, q2, q3, q4⟩ := HN2.out
   have q5 : cap ≤ 9223372036854775807 := by simpa [maxLen] using q2
   by_cases hlt : m < N
   ·have hm0 := hp (by omega)
    have HP := aa_ (show 0 < m ∧ m < N ∧ N ≤ cap ∧ N - m ≤ gk from ⟨hm0, hlt, q1, hgg⟩)
    have i1 : (m : Int) < (N : Int) := by omega
    have i2 : (0 : Int) ≤ (m : Int) := by omega
    have i3 : (m : Int) ≤ (N : Int) := by omega
    have i4 : ¬ cap = m := by omega
    have i5 : m ≤ cap := by omega
    have i6 : m ≤ N := by omega
    obtain ⟨c, hc⟩ : ∃ c : Nat, c = min m (N - m) := ⟨_, rfl⟩
    have HCm := aa_ (show c ≤ m ∧ m + c ≤ N ∧ 0 < c ∧ c = min m (N - m) by omega)
    have HI8 := aa_ (slices_Repeat_int_int.wr m c (by have := HN.out; have := HCm.out; omega))
    clear hm hgg hp q1 q2 q3 q4 hlt hm0 hc
    have HCe := aa_ (show ∀ j v, (List.replicate c (Value.int .i64 x))[j]? = some v → wr.drew.cell? ⟨g, j, none⟩ = some v by
     intro j v hv
     obtain ⟨hj, hv⟩ := List.getElem?_eq_some_iff.1 hv
     rw [List.length_replicate] at hj
     rw [List.getElem_replicate] at hv
     subst hv
     have hjm : j < m := by have := HCm.out.1; omega
     have h1 := congrArg (fun l => l[j]?) HC.out.2
     simp only [List.getElem?_take_of_lt hjm, List.getElem?_replicate, hjm, if_true] at h1
     rw [cell_of_row wr.drew g j cu.toArray 3 (0, 0) HG.out]
     simpa using h1)
    go_wp2_with fail
    go_region_law (refine step_copy_splice rfl (.tmp 41) (.tmp 44) 53 53 rfl 3 Try.underlying53 HI.out _ _ _ _ _ _ rfl rfl g m cu 3 (show wr.drew.heap[g]? = _ from HG.out) (List.replicate c (Value.int .i64 x)) (by have := HCm.out.2.2.2; simpa using this) (fun _ => ⟨by simp, _, rfl, fun j v hv => by rw [add_at, Nat.zero_add]; exact HCe.out j v hv⟩) (by have := HCm.out.2.1; have := HC.out.1; have := HN2.out.1; simp only [List.length_replicate]; omega) (fun v hv => by rw [List.eq_of_mem_replicate hv]; rfl) w.heap.size w (below_drew HB.out) HGE.out ?_; intro w4 hg4 hb4; have HG4 := aa_ hg4.out; have HB4 := aa_ hb4; clear hg4 hb4; simp only [List.length_replicate])
    all_goals
     go_wp2
     go_roundg (N - (m + c))
     case measure => have := HP.out; have := HCm.out; omega
     case rel =>
      have h1 := HCm.out
      have h2 := HC.out
      have h21 := h2.1
      have h3 := HN2.out.1
      refine ⟨m + c, splice cu m (List.replicate c (Value.int .i64 x)), (by first | rfl | exact congrArg (Value.int .i64) HI8.out | go_num), h1.2.1, by omega, fun _ => by omega, HG4, ⟨?_, ?_⟩, HB4⟩
      ·rw [length_splice _ _ _ (by rw [List.length_replicate]; omega)]
       exact h2.1
      ·unfold splice
       have h4 : m ≤ cu.length := by rw [h21]; exact Nat.le_trans i6 h3
       rw [← List.append_assoc, List.take_left' (by rw [List.length_append, List.length_take_of_le h4, List.length_replicate]), h2.2, List.replicate_append_replicate]
   ·obtain rfl : m = N := by omega
    have i1 : ¬ (m : Int) < (m : Int) := by omega
    go_wp2
    go_ret
    refine ⟨.slice (some ⟨g, 0, none⟩) m cap, (by first | rfl | (simp; done)), Kd.R_of_own (enc := Value.int .i64) (xs := List.replicate m x) ?_ (fun _ _ => trivial), HB.out⟩
    refine ⟨by simp [encs], .inr ⟨g, cap, cu.toArray, by rw [List.length_replicate], HGE.out, HG.out, by rw [List.length_replicate]; exact q1, q2, by simpa using HC.out.1, ?_⟩⟩
    rw [List.length_replicate, Nat.mul_one]
    show cu.take m = _
    rw [HC.out.2]
    simp [encs]
 ·rw [if_neg hc] at h
  exact absurd h (by simp)
def impl_sizeBy.l0 : Nat → List Int → Int → List Int → Int → Int → Option (Int)
 | 0, _, _, _, _, _ => none
 | k + 1, x0, x5, x9, x10, x11 => if x11 < x10 then (if 0 ≤ x11 then (if x11 < (x9.length : Int) then (if 0 ≤ (rd x9 x11) then (if (rd x9 x11) < (x0.length : Int) then (if (rd x0 (rd x9 x11)) > 1000000 then (some 1000001) else (impl_sizeBy.l0 k x0 (wrap64 (x5 + (rd x0 (rd x9 x11)))) x9 x10 (wrap64 (x11 + 1)))) else (none)) else (none)) else (none)) else (none)) else (some (mn x5 1000000))
def impl_sizeBy.f (k : Nat) (l0 : List Int) (a1_0 : Int) (a1_1 : Int) (a1_2 : Int) (l1_3 : List Int) : Option (Int) := impl_sizeBy.l0 k l0 1 l1_3 (l1_3.length : Int) 0
set_option maxHeartbeats 8000000 in
set_option maxRecDepth 100000 in
theorem impl_sizeBy.calls (k : Nat) (A0 : Option Addr) (c0 : Nat) (l0 : List Int) (a1_0 : Int) (a1_1 : Int) (a1_2 : Int) (A1_3 : Option Addr) (c1_3 : Nat) (l1_3 : List Int) (r : Int) (w : World) (hr0 : Kd.C (Kd.int .i64) w A0 l0.length l0) (hc0 : l0.length ≤ c0) (hr1_3 : Kd.C (Kd.int .i64) w A1_3 l1_3.length l1_3) (hc1_3 : l1_3.length ≤ c1_3) (h : impl_sizeBy.f k l0 a1_0 a1_1 a1_2 l1_3 = some r) :
  Calls Try.prog 42 #[.slice A0 l0.length c0, .agg #[.int .i64 a1_0, .int .i64 a1_1, .int .i64 a1_2, .slice A1_3 l1_3.length c1_3]] w fun e w' => e = .returned (.int .i64 r) ∧ Below w.heap.size w w' := by
 have hu81 := Try.underlying81
 have HR0 := aa_ hr0
 have HC0 := aa_ hc0
 clear hr0 hc0
 have HR1_3 := aa_ hr1_3
 have HC1_3 := aa_ hc1_3
 clear hr1_3 hc1_3
 have HB := aa_ (Below.refl w.heap.size w)
 have H : (impl_sizeBy.l0 k l0 1 l1_3 (l1_3.length : Int) 0) = some r := h
 clear h
 have H' := aa_ H
 clear H
 go_enter Try.func42, Try.ntmps42
 go_wp2_with (first | ((with_reducible refine gD_ 3 rfl ?_); refine bx_ (N := 3) (cs := #[.int .i64 a1_0, .int .i64 a1_1, .int .i64 a1_2, .slice A1_3 l1_3.length c1_3]) (t := 81) ?_; intro gb385 hg w3 hbox hb; have BK385 := aa_ (hbox); have GW385 := gs_ hg; have GE385 := gs_ hg; replace HB := hbs_ hb; clear hb hbox hg; obtain ⟨hcz4, hfz4⟩ := bcf_ BK385))
 go_loopg [5, 11] k (fun kq v5 v11 w' => ∃ (x5_1 : Int) (x11_1 : Int), v5 = .int .i64 x5_1 ∧ v11 = .int .i64 x11_1 ∧ Aside0 (impl_sizeBy.l0 kq l0 x5_1 l1_3 (l1_3.length : Int) x11_1 = some r) ∧ Aside0 (kq ≤ k) ∧ Aside0 (w'.heap[gb385]? = some (.cells #[.int .i64 a1_0, .int .i64 a1_1, .int .i64 a1_2, (.slice A1_3 l1_3.length c1_3)] 81 (0, 0))) ∧ Aside0 (Below w.heap.size w w'))
 case atStart => exact ⟨(1), (0), rf_, rf_, H', ⟨Nat.le_refl _⟩, ⟨bk_ BK385⟩, ⟨bl_⟩⟩
 case round =>
  clear H'
  try clear p2
  try clear hcz4
  try clear hfz4
  obtain ⟨x5_1, x11_1, rfl, rfl, HA, HK1, BK385, HB⟩ := hrel
  cases gk with
  | zero => exact absurd HA.out (by simp [impl_sizeBy.l0])
  | succ k1 =>
   have H := HA.out
   clear HA
   simp only [impl_sizeBy.l0] at H
   by_cases c5 : x11_1 < (l1_3.length : Int)
   ·rw [if_pos c5] at H
    have c5b0 : decide (x11_1 < (l1_3.length : Int)) = true := decide_eq_true c5
    clear c5
    obtain ⟨c6b0, H⟩ := ifd_ H
    obtain ⟨c7b0, H⟩ := ifd_ H
    obtain ⟨c8b0, H⟩ := ifd_ H
    obtain ⟨c9b0, H⟩ := ifd_ H
    have HC10 := aa_ H
    clear H
    have p386 : 0 ≤ (x11_1 : Int) := od_
    have q386 : x11_1 < (l1_3.length : Int) := od_
    obtain ⟨ad386, e386, hx386_0⟩ := Kd.at_int (Kd.C_below HR1_3.out HB.out) x11_1 p386 q386
    cases e386
    replace p386 := eq_true p386
    replace q386 := eq_true q386
    have p387 : 0 ≤ ((rd l1_3 x11_1) : Int) := od_
    have q387 : (rd l1_3 x11_1) < (l0.length : Int) := od_
    obtain ⟨ad387, e387, hx387_0⟩ := Kd.at_int (Kd.C_below HR0.out HB.out) (rd l1_3 x11_1) p387 q387
    cases e387
    replace p387 := eq_true p387
    replace q387 := eq_true q387
    go_upto_if 19 with (fail)
    have H := HC10.out
    clear HC10
    by_cases c11 : (rd l0 (rd l1_3 x11_1)) > 1000000
    ·rw [if_pos c11] at H
     have c11b0 : decide (1000000 < (rd l0 (rd l1_3 x11_1))) = true := decide_eq_true c11
     clear c11
     (first | rw [c11b0] | (simp only [i64_w, i32_w]; rw [c11b0]) | skip)
     obtain rfl := Option.some.inj H
     go_wp2
     go_ret
     exact ⟨eq_, bl_⟩
    ·rw [if_neg c11] at H
     have c11b0 : decide (1000000 < (rd l0 (rd l1_3 x11_1))) = false := decide_eq_false c11
     clear c11
     (first | rw [c11b0] | (simp only [i64_w, i32_w]; rw [c11b0]) | skip)
     have H' := aa_ H
     clear H
     have p388 : 0 ≤ ((rd l1_3 x11_1) : Int) := od_
     have q388 : (rd l1_3 x11_1) < (l0.length : Int) := od_
     obtain ⟨ad388, e388, hx388_0⟩ := Kd.at_int HR0.out (rd l1_3 x11_1) p388 q388
     obtain rfl : ad387 = ad388 := (by injection e388)
     replace hx388_0 := cb_ HB hx388_0
     replace p388 := eq_true p388
     replace q388 := eq_true q388
     go_wp2
     go_roundg k1
     case measure => have := HK1.out; omega
     case rel => exact ⟨(wrap64 (x5_1 + (rd l0 (rd l1_3 x11_1)))), (wrap64 (x11_1 + 1)), rf_, rf_, H', ⟨by have := HK1.out; omega⟩, ⟨bk_ BK385⟩, ⟨bl_⟩⟩
   ·rw [if_neg c5] at H
    have c5b0 : decide (x11_1 < (l1_3.length : Int)) = false := decide_eq_false c5
    clear c5
    obtain ⟨ji12, hji12⟩ : ∃ j_ : Int, (mn x5_1 1000000) = j_ := ⟨_, rfl⟩
    replace H : (some ji12) = some r := by first | (rw [hji12] at H; exact H) | (simp only [hji12] at H ⊢; exact H)
    have hji12_ : (if 1000000 < x5_1 then 1000000 else x5_1) = ji12 := hji12
    obtain rfl := Option.some.inj H
    go_wp2
    go_ret
    exact ⟨by first | rfl | (simp [errW_none, errW_some] <;> rfl) | (simp only [← hji12]; first | rfl | (simp [errW_none, errW_some] <;> rfl)) | (simp [*, errW_none, errW_some] <;> rfl), bl_⟩
mutual
def impl_costs.l0 : Nat → List (S35) → List (S28) → List Int → Bool → Option (List Int)
 | 0, _, _, _, _ => none
 | k + 1, x0, x1, x5, x6 => if x6 = true then (impl_costs.l1 k x0 x1 x5 false x0 (x0.length : Int) 0) else (some x5)
def impl_costs.l1 : Nat → List (S35) → List (S28) → List Int → Bool → List (S35) → Int → Int → Option (List Int)
 | 0, _, _, _, _, _, _, _ => none
 | k + 1, x0, x1, x5, x6, x18, x19, x20 => if x20 < x19 then (if 0 ≤ x20 then (if x20 < (x18.length : Int) then ((impl_CredOk.f k ((rd_T35 x18 x20).f0) ((rd_T35 x18 x20).f1.f0) ((rd_T35 x18 x20).f1.f1) ((rd_T35 x18 x20).f2) ((rd_T35 x18 x20).f3.f0) ((rd_T35 x18 x20).f3.f1) ((rd_T35 x18 x20).f4.f0) ((rd_T35 x18 x20).f4.f1) ((rd_T35 x18 x20).f5) ((rd_T35 x18 x20).f6)).bind fun t397 => (if t397 = true then ((impl_derive.f k x1 ((rd_T35 x18 x20).f0) ((rd_T35 x18 x20).f1.f0) ((rd_T35 x18 x20).f1.f1) ((rd_T35 x18 x20).f2) ((rd_T35 x18 x20).f3.f0) ((rd_T35 x18 x20).f3.f1) ((rd_T35 x18 x20).f4.f0) ((rd_T35 x18 x20).f4.f1) ((rd_T35 x18 x20).f5) ((rd_T35 x18 x20).f6)).bind fun t398 => (impl_costs.l2 k x0 x1 x5 x6 x18 x19 x20 t398 (t398.length : Int) 0)) else (impl_costs.l1 k x0 x1 x5 x6 x18 x19 (wrap64 (x20 + 1))))) else (none)) else (none)) else (impl_costs.l0 k x0 x1 x5 x6)
def impl_costs.l2 : Nat → List (S35) → List (S28) → List Int → Bool → List (S35) → Int → Int → List (S81) → Int → Int → Option (List Int)
 | 0, _, _, _, _, _, _, _, _, _, _ => none
 | k + 1, x0, x1, x5, x6, x18, x19, x20, x29, x30, x31 => if x31 < x30 then (if 0 ≤ x31 then (if x31 < (x29.length : Int) then ((impl_sizeBy.f k x5 ((rd_T81 x29 x31).f0.f0.f0) ((rd_T81 x29 x31).f0.f0.f1) ((rd_T81 x29 x31).f0.f1) ((rd_T81 x29 x31).f1)).bind fun t403 => ((impl_Fact_22.f k x1 ((rd_T81 x29 x31).f0.f0.f0) ((rd_T81 x29 x31).f0.f0.f1) ((rd_T81 x29 x31).f0.f1)).bind fun t404 => (if t404 ≥ 0 then (if 0 ≤ t404 then (if t404 < (x5.length : Int) then (if t403 < (rd x5 t404) then (impl_costs.l2 k x0 x1 (x5.set (t404 : Int).toNat t403) true x18 x19 x20 x29 x30 (wrap64 (x31 + 1))) else (impl_costs.l2 k x0 x1 x5 x6 x18 x19 x20 x29 x30 (wrap64 (x31 + 1)))) else (none)) else (none)) else (impl_costs.l2 k x0 x1 x5 x6 x18 x19 x20 x29 x30 (wrap64 (x31 + 1)))))) else (none)) else (none)) else (impl_costs.l1 k x0 x1 x5 x6 x18 x19 (wrap64 (x20 + 1)))
end
def impl_costs.f (k : Nat) (l0 : List (S35)) (l1 : List (S28)) : Option (List Int) := (slices_Repeat_int_int.f (([1000001] : List Int)) (l1.length : Int)).bind fun t392 => (impl_costs.l0 k l0 l1 t392 true)
set_option maxHeartbeats 8000000 in
set_option maxRecDepth 100000 in
theorem impl_costs.calls (k : Nat) (A0 : Option Addr) (c0 : Nat) (l0 : List (S35)) (A1 : Option Addr) (c1 : Nat) (l1 : List (S28)) (r : List Int) (w : World) (hr0 : Kd.C k35 w A0 l0.length l0) (hc0 : l0.length ≤ c0) (hr1 : Kd.C k28 w A1 l1.length l1) (hc1 : l1.length ≤ c1) (h : impl_costs.f k l0 l1 = some r) :
  Calls Try.prog 23 #[.slice A0 l0.length c0, .slice A1 l1.length c1] w fun e w' => ∃ v0_ : Value, e = .returned (v0_) ∧ Kd.R (Kd.int .i64) 3 w' w.heap.size (fun _ => True) v0_ r ∧ Below w.heap.size w w' := by
 have hu35 := Try.underlying35
 have hu81 := Try.underlying81
 have hu28 := Try.underlying28
 have HR0 := aa_ hr0
 have HC0 := aa_ hc0
 clear hr0 hc0
 have HR1 := aa_ hr1
 have HC1 := aa_ hc1
 clear hr1 hc1
 have HB := aa_ (Below.refl w.heap.size w)
 have H : ((slices_Repeat_int_int.f (([1000001] : List Int)) (l1.length : Int)).bind fun t392 => (impl_costs.l0 k l0 l1 t392 true)) = some r := h
 clear h
 obtain ⟨y389, hy389⟩ : ∃ y_ : List Int, y_ = (([1000001] : List Int)) := ⟨_, rfl⟩
 replace H : ((slices_Repeat_int_int.f y389 (l1.length : Int)).bind fun t392 => (impl_costs.l0 k l0 l1 t392 true)) = some r := rh_ hy389 H
 have Ny389 := aa_ hy389
 clear hy389
 obtain ⟨t392, A3, H⟩ := bindE_ H
 have H' := aa_ H
 clear H
 go_enter Try.func23, Try.ntmps23
 go_wp2_with (first | ((with_reducible refine gD_ 13 rfl ?_); refine Kd.R_lit (Kd.int .i64) _ 3 ?hg (N := 13) ?hd (xs := ([1000001] : List Int)) (inner := [.int .i64 1000001]) (ok := fun _ => True) (okp := fun _ => True) ?hr ?hp (fun _ hk => hk) trivial (Below.refl _ _) (Nat.le_refl _) (by simp) ?_; (case hd => rfl); (case hg => rfl); (case hr => first | (go_simp; done) | (go_simp; rfl)); (case hp => exact (Reps.one (show Kd.M (Kd.int .i64) _ _ _ 1000001 [.int .i64 1000001] from rfl) (Reps.none _ _))); intro v390 w4 ho5 hb hg_ hnew_; clear hg_ hnew_; (first | rw [← Ny389.out] at ho5 | (simp only [Int.reduceToNat] at ho5; rw [← Ny389.out] at ho5)); have HO391 := aa_ (Kd.R_lower ho5 bls_); replace HB := hbs_ hb; clear hb ho5; obtain ⟨Ao6, co6, eo6⟩ := Kd.R_slice HO391.out; subst eo6) | ((with_reducible refine gC_ 39 rfl ?_); refine goesC_ (some 16) Try.func39 #[.slice Ao6 y389.length co6, .int .i64 (l1.length : Int)] ?_; (with_reducible refine (slices_Repeat_int_int.calls _ _ y389 (l1.length : Int) t392 _ ?side1 ?side2 A3.out).mono ?_); (case side1 => repeat (first | exact (Kd.R_reads' HO391.out).2.2 | (with_reducible refine Kd.C_alloc ?_ _) | (with_reducible refine Kd.C_drewN ?_ _) | (with_reducible refine Kd.C_drew ?_))); (case side2 => exact (Kd.R_reads' HO391.out).2.1); rintro e w7 ⟨v393, rfl, ho0, hb⟩; refine ⟨_, rfl, ?_⟩; have HO394 := aa_ (Kd.R_lower (Kd.R_new' ho0 (Kd.R_lt (rr_ HO391))) bls_); replace HO391 := aa_ (Kd.R_elder' (rr_ HO391) (Kd.R_base ho0) hb); replace HB := hbs_ hb; (try clear hb ho0)))
 go_loopg [6] k (fun kq v6 w' => ∃ (x5_1 : List Int) (x6_1 : Bool), v6 = .bool x6_1 ∧ Aside0 (impl_costs.l0 kq l0 l1 x5_1 x6_1 = some r) ∧ Aside0 (kq ≤ k) ∧ Aside0 (Kd.R (Kd.int .i64) 3 w' w.heap.size (fun _ => True) v393 x5_1) ∧ Aside0 (Below w.heap.size w w'))
 case atStart => exact ⟨(t392), (true), rf_, H', ⟨Nat.le_refl _⟩, ⟨by (with_reducible repeat (first | apply Kd.R_alloc | apply Kd.R_drewN | apply Kd.R_drew)); exact Kd.R_mono HO394.out (fun _ hk => trivial)⟩, ⟨bl_⟩⟩
 case round =>
  clear H'
  try clear p2
  obtain ⟨x5_1, x6_1, rfl, HA, HK1, HO_5, HB⟩ := hrel
  cases gk with
  | zero => exact absurd HA.out (by simp [impl_costs.l0])
  | succ k1 =>
   have H := HA.out
   clear HA
   simp only [impl_costs.l0] at H
   by_cases c8 : x6_1 = true
   ·subst c8
    replace H := ite_t_ H
    have H' := aa_ H
    clear H
    go_wp2
    go_loopg [6, 20] k1 (fun kq v6 v20 w' => ∃ (x5_2 : List Int) (x6_2 : Bool) (x20_2 : Int), v6 = .bool x6_2 ∧ v20 = .int .i64 x20_2 ∧ Aside0 (impl_costs.l1 kq l0 l1 x5_2 x6_2 l0 (l0.length : Int) x20_2 = some r) ∧ Aside0 (kq ≤ k1) ∧ Aside0 (Kd.R (Kd.int .i64) 3 w' w.heap.size (fun _ => True) v393 x5_2) ∧ Aside0 (Below w.heap.size w w'))
    case atStart => exact ⟨(x5_1), (false), (0), rf_, rf_, H', ⟨Nat.le_refl _⟩, ⟨rr_ HO_5⟩, ⟨bl_⟩⟩
    case round =>
     clear H'
     try clear p2
     try clear p2
     obtain ⟨x5_2, x6_2, x20_2, rfl, rfl, HA, HK2, HO_5, HB⟩ := hrel
     cases gk with
     | zero => exact absurd HA.out (by simp [impl_costs.l1])
     | succ k2 =>
      have H := HA.out
      clear HA
      simp only [impl_costs.l1] at H
      by_cases c9 : x20_2 < (l0.length : Int)
      ·rw [if_pos c9] at H
       have c9b0 : decide (x20_2 < (l0.length : Int)) = true := decide_eq_true c9
       clear c9
       obtain ⟨c10b0, H⟩ := ifd_ H
       obtain ⟨c11b0, H⟩ := ifd_ H
       obtain ⟨t397, A12, H⟩ := bindE_ H
       have HC13 := aa_ H
       clear H
       have p395 : 0 ≤ (x20_2 : Int) := od_
       have q395 : x20_2 < (l0.length : Int) := od_
       obtain ⟨ad395, e395, hx395_0, hx395_1, hx395_2, hx395_3, hx395_4, hx395_5, hx395_6, hx395_7, hx395_8, hx395_9⟩ := at_T35 (Kd.C_below HR0.out HB.out) x20_2 p395 q395
       cases e395
       replace p395 := eq_true p395
       replace q395 := eq_true q395
       go_upto_if 26 with (first | ((with_reducible refine gD_ 8 rfl ?_); refine bx_ (N := 8) (cs := #[.int .i64 0, .int .i64 0, .int .i64 0, .int .i64 0, .int .i64 0, .int .i64 0, .int .i64 0, .int .i64 0, .int .i64 0, .int .i64 0]) (t := 35) ?_; intro gb396 hg w14 hbox hb; replace HO_5 := hob_ HO_5 hb; have BK396 := aa_ (hbox); have GW396 := gs_ hg; have GE396 := gs_ hg; replace HB := hbs_ hb; clear hb hbox hg; obtain ⟨hcz15, hfz15⟩ := bcf_ BK396) | ((with_reducible refine gC_ 40 rfl ?_); refine goesC_ (some 25) Try.func40 #[.agg #[.int .i64 ((rd_T35 l0 x20_2).f0), .int .i64 ((rd_T35 l0 x20_2).f1.f0), .int .i64 ((rd_T35 l0 x20_2).f1.f1), .int .i64 ((rd_T35 l0 x20_2).f2), .int .i64 ((rd_T35 l0 x20_2).f3.f0), .int .i64 ((rd_T35 l0 x20_2).f3.f1), .int .i64 ((rd_T35 l0 x20_2).f4.f0), .int .i64 ((rd_T35 l0 x20_2).f4.f1), .int .i64 ((rd_T35 l0 x20_2).f5), .int .i64 ((rd_T35 l0 x20_2).f6)]] ?_; (with_reducible refine (impl_CredOk.calls k2 ((rd_T35 l0 x20_2).f0) ((rd_T35 l0 x20_2).f1.f0) ((rd_T35 l0 x20_2).f1.f1) ((rd_T35 l0 x20_2).f2) ((rd_T35 l0 x20_2).f3.f0) ((rd_T35 l0 x20_2).f3.f1) ((rd_T35 l0 x20_2).f4.f0) ((rd_T35 l0 x20_2).f4.f1) ((rd_T35 l0 x20_2).f5) ((rd_T35 l0 x20_2).f6) t397 _ A12.out).mono ?_); rintro e w16 ⟨rfl, hb⟩; refine ⟨_, rfl, ?_⟩; replace HO_5 := aa_ (Kd.R_below (by (with_reducible repeat (first | apply Kd.R_alloc | apply Kd.R_drewN | apply Kd.R_drew)); exact (Kd.R_mono (fr10_ (Kd.R_types HO_5.out BK396.out (by decide)) (fun _ hk => hk.2)) (fun _ h_ => h_.1))) hb); replace BK396 := aa_ (blk_below (g := gb396) (o := .cells #[.int .i64 ((rd_T35 l0 x20_2).f0), .int .i64 ((rd_T35 l0 x20_2).f1.f0), .int .i64 ((rd_T35 l0 x20_2).f1.f1), .int .i64 ((rd_T35 l0 x20_2).f2), .int .i64 ((rd_T35 l0 x20_2).f3.f0), .int .i64 ((rd_T35 l0 x20_2).f3.f1), .int .i64 ((rd_T35 l0 x20_2).f4.f0), .int .i64 ((rd_T35 l0 x20_2).f4.f1), .int .i64 ((rd_T35 l0 x20_2).f5), .int .i64 ((rd_T35 l0 x20_2).f6)] 35 (0, 0)) (bk_ BK396) hb); replace HB := hbs_ hb; clear hb))
       (try simp only [Act.put, sb_, sz_, ss_])
       have H := HC13.out
       clear HC13
       by_cases c17 : t397 = true
       ·subst c17
        replace H := ite_t_ H
        obtain ⟨t398, A18, H⟩ := bindE_ H
        have H' := aa_ H
        clear H
        have hcz19 := blk_cell BK396.out
        have hfz19 := blk_frozen BK396.out
        go_wp2_with (first | ((with_reducible refine gC_ 41 rfl ?_); refine goesC_ (some 29) Try.func41 #[.slice A1 l1.length c1, .agg #[.int .i64 ((rd_T35 l0 x20_2).f0), .int .i64 ((rd_T35 l0 x20_2).f1.f0), .int .i64 ((rd_T35 l0 x20_2).f1.f1), .int .i64 ((rd_T35 l0 x20_2).f2), .int .i64 ((rd_T35 l0 x20_2).f3.f0), .int .i64 ((rd_T35 l0 x20_2).f3.f1), .int .i64 ((rd_T35 l0 x20_2).f4.f0), .int .i64 ((rd_T35 l0 x20_2).f4.f1), .int .i64 ((rd_T35 l0 x20_2).f5), .int .i64 ((rd_T35 l0 x20_2).f6)]] ?_; (with_reducible refine (impl_derive.calls k2 _ _ l1 ((rd_T35 l0 x20_2).f0) ((rd_T35 l0 x20_2).f1.f0) ((rd_T35 l0 x20_2).f1.f1) ((rd_T35 l0 x20_2).f2) ((rd_T35 l0 x20_2).f3.f0) ((rd_T35 l0 x20_2).f3.f1) ((rd_T35 l0 x20_2).f4.f0) ((rd_T35 l0 x20_2).f4.f1) ((rd_T35 l0 x20_2).f5) ((rd_T35 l0 x20_2).f6) t398 _ ?side1 ?side2 A18.out).mono ?_); (case side1 => repeat (first | exact (Kd.C_below HR1.out HB.out) | (with_reducible refine Kd.C_alloc ?_ _) | (with_reducible refine Kd.C_drewN ?_ _) | (with_reducible refine Kd.C_drew ?_))); (case side2 => exact HC1.out); rintro e w20 ⟨v399, rfl, ho0, hb⟩; refine ⟨_, rfl, ?_⟩; have HO400 := aa_ (Kd.S_lower (Kd.S_new' ho0 (Kd.R_lt (rr_ HO_5))) bls_); replace HO_5 := hob_ HO_5 hb; replace BK396 := bkb_ BK396 hb; replace HB := hbs_ hb; (try clear hb ho0); obtain ⟨Ao21, co21, eo21⟩ := Kd.S_slice HO400.out; subst eo21))
        go_loopg [6, 31] k2 (fun kq v6 v31 w' => ∃ (x5_3 : List Int) (x6_3 : Bool) (x31_3 : Int), v6 = .bool x6_3 ∧ v31 = .int .i64 x31_3 ∧ Aside0 (impl_costs.l2 kq l0 l1 x5_3 x6_3 l0 (l0.length : Int) x20_2 t398 (t398.length : Int) x31_3 = some r) ∧ Aside0 (kq ≤ k2) ∧ Aside0 (Kd.R (Kd.int .i64) 3 w' w.heap.size (fun _ => True) v393 x5_3) ∧ Aside0 (Kd.S k81 81 w' w.heap.size (fun k_ => some k_ ≠ (v393 : Value).ownBlock) (.slice Ao21 t398.length co21) t398) ∧ Aside0 (w'.heap[gb396]? = some (.cells #[.int .i64 ((rd_T35 l0 x20_2).f0), .int .i64 ((rd_T35 l0 x20_2).f1.f0), .int .i64 ((rd_T35 l0 x20_2).f1.f1), .int .i64 ((rd_T35 l0 x20_2).f2), .int .i64 ((rd_T35 l0 x20_2).f3.f0), .int .i64 ((rd_T35 l0 x20_2).f3.f1), .int .i64 ((rd_T35 l0 x20_2).f4.f0), .int .i64 ((rd_T35 l0 x20_2).f4.f1), .int .i64 ((rd_T35 l0 x20_2).f5), .int .i64 ((rd_T35 l0 x20_2).f6)] 35 (0, 0))) ∧ Aside0 (Below w.heap.size w w'))
        case atStart => exact ⟨(x5_2), (x6_2), (0), rf_, rf_, H', ⟨Nat.le_refl _⟩, ⟨rr_ HO_5⟩, ⟨by (with_reducible repeat (first | apply Kd.S_alloc | apply Kd.S_drewN | apply Kd.S_drew)); exact Kd.S_mono HO400.out (fun _ hk => hk.2)⟩, ⟨bk_ BK396⟩, ⟨bl_⟩⟩
        case round =>
         clear H'
         try clear p2
         try clear p3
         try clear q3
         try clear hx3
         try clear c9b0
         try clear c10b0
         try clear c11b0
         try clear hcz15
         try clear hcz19
         try clear hfz15
         try clear hfz19
         try clear hx395_0
         try clear hx395_1
         try clear hx395_2
         try clear hx395_3
         try clear hx395_4
         try clear hx395_5
         try clear hx395_6
         try clear hx395_7
         try clear hx395_8
         try clear hx395_9
         try clear p2
         try clear p395
         try clear q395
         obtain ⟨x5_3, x6_3, x31_3, rfl, rfl, HA, HK3, HO_5, HO_29, BK396, HB⟩ := hrel
         cases gk with
         | zero => exact absurd HA.out (by simp [impl_costs.l2])
         | succ k3 =>
          have H := HA.out
          clear HA
          simp only [impl_costs.l2] at H
          by_cases c22 : x31_3 < (t398.length : Int)
          ·rw [if_pos c22] at H
           have c22b0 : decide (x31_3 < (t398.length : Int)) = true := decide_eq_true c22
           clear c22
           (first | rw [c22b0] | (simp only [i64_w, i32_w]; rw [c22b0]) | (have cz_ := c22b0; simp only [Int.ofNat_lt, Int.ofNat_le, gt_iff_lt, ge_iff_le] at cz_; rw [cz_]; clear cz_) | skip)
           obtain ⟨c23b0, H⟩ := ifd_ H
           obtain ⟨c24b0, H⟩ := ifd_ H
           obtain ⟨t403, A25, H⟩ := bindE_ H
           obtain ⟨t404, A26, H⟩ := bindE_ H
           by_cases c27 : t404 ≥ 0
           ·rw [if_pos c27] at H
            have c27b0 : decide (0 ≤ t404) = true := decide_eq_true c27
            clear c27
            obtain ⟨c28b0, H⟩ := ifd_ H
            obtain ⟨c29b0, H⟩ := ifd_ H
            have HC30 := aa_ H
            clear H
            have p401 : 0 ≤ (x31_3 : Int) := od_
            have q401 : x31_3 < (t398.length : Int) := od_
            obtain ⟨ad401, A401_3, c401_3, e401, hx401_0, hx401_1, hx401_2, hx401_3, hl401_3, hi401_3⟩ := at_T81 (Kd.S_reads' HO_29.out).2.2 x31_3 p401 q401
            cases e401
            obtain ⟨ce401, hce401, hMe401, hcc401⟩ := Kd.S_get HO_29.out z81 x31_3 p401 (by first | exact q401 | exact od_ | (have e_ := (Kd.S_reads' HO_29.out).1; omega))
            obtain ⟨ve401_3, rfl, ge401_3⟩ := k81_openM hMe401
            have hv401_3 := hcc401 3 _ rfl
            rw [add_field _ _ 3 (by omega)] at hv401_3
            replace hv401_3 := Option.some.inj (hv401_3.symm.trans hx401_3)
            rw [hv401_3] at ge401_3
            have HL401_3 := aa_ (show Kd.R (Kd.int .i64) 3 _ _ _ _ ((rd_T81 t398 x31_3).f1) from ge401_3)
            clear hv401_3 ge401_3
            clear hcc401 hce401
            have HR401_3 := aa_ hi401_3
            have HC401_3 := aa_ hl401_3
            clear hi401_3 hl401_3
            replace p401 := eq_true p401
            replace q401 := eq_true q401
            go_upto_if 51 with (first | ((with_reducible refine gD_ 10 rfl ?_); refine bx_ (N := 10) (cs := #[.int .i64 0, .int .i64 0, .int .i64 0, .slice none 0 0]) (t := 81) ?_; intro gb402 hg w31 hbox hb; replace HO_5 := hob_ HO_5 hb; replace HO_29 := aa_ (Kd.S_below (Kd.S_elderB (rs_ HO_29) gb402 (Nat.le_of_eq hg.symm)) hb); replace HL401_3 := aa_ (Kd.R_below (rr_ HL401_3) hb); replace HR401_3 := aa_ (Kd.C_below (by repeat (first | (with_reducible exact HR401_3.out) | (with_reducible refine Kd.C_alloc ?_ _) | (with_reducible refine Kd.C_drewN ?_ _) | (with_reducible refine Kd.C_drew ?_) | exact HR401_3.out)) hb); have BK402 := aa_ (hbox); have GW402 := gs_ hg; have GE402 := gs_ hg; replace HB := hbs_ hb; have NB396_402 := nl_ hg BK396; have NB402_396 := nr_ hg BK396; replace BK396 := bkb_ BK396 hb; clear hb hbox hg; have hnb32 := NB402_396.out; have hnc32 := NB396_402.out; obtain ⟨hcz33, hfz33⟩ := bcf_ BK402; obtain ⟨Ao34, co34, eo34⟩ := Kd.R_slice HO_5.out; subst eo34) | ((with_reducible refine gC_ 42 rfl ?_); refine goesC_ (some 37) Try.func42 #[.slice Ao34 x5_3.length co34, .agg #[.int .i64 ((rd_T81 t398 x31_3).f0.f0.f0), .int .i64 ((rd_T81 t398 x31_3).f0.f0.f1), .int .i64 ((rd_T81 t398 x31_3).f0.f1), .slice A401_3 ((rd_T81 t398 x31_3).f1).length c401_3]] ?_; (with_reducible refine (impl_sizeBy.calls k3 _ _ x5_3 ((rd_T81 t398 x31_3).f0.f0.f0) ((rd_T81 t398 x31_3).f0.f0.f1) ((rd_T81 t398 x31_3).f0.f1) _ _ ((rd_T81 t398 x31_3).f1) t403 _ ?side1 ?side2 ?side3 ?side4 A25.out).mono ?_); (case side1 => refine (Kd.R_reads' (e := 3) (base := w.heap.size) (ok := fun k_ => True) (n := x5_3.length) (c := co34) ?_).2.2; exact (by (with_reducible repeat (first | apply Kd.R_alloc | apply Kd.R_drewN | apply Kd.R_drew)); exact (Kd.R_mono (fr4_ (Kd.R_types HO_5.out BK402.out (by decide)) (fun _ hk => hk.2)) (fun _ h_ => h_.1)))); (case side2 => exact (Kd.R_reads' HO_5.out).2.1); (case side3 => repeat (first | exact ((Kd.R_reads' (by (with_reducible repeat (first | apply Kd.R_alloc | apply Kd.R_drewN | apply Kd.R_drew)); exact (Kd.R_mono (fr4_ (Kd.R_types HL401_3.out BK402.out (by decide)) (fun _ hk => hk.2)) (fun _ h_ => h_.1)))).2.2) | (with_reducible refine Kd.C_alloc ?_ _) | (with_reducible refine Kd.C_drewN ?_ _) | (with_reducible refine Kd.C_drew ?_))); (case side4 => exact HC401_3.out); rintro e w35 ⟨rfl, hb⟩; refine ⟨_, rfl, ?_⟩; replace HO_5 := aa_ (Kd.R_below (by (with_reducible repeat (first | apply Kd.R_alloc | apply Kd.R_drewN | apply Kd.R_drew)); exact (Kd.R_mono (fr4_ (Kd.R_types HO_5.out BK402.out (by decide)) (fun _ hk => hk.2)) (fun _ h_ => h_.1))) hb); replace HO_29 := aa_ (Kd.S_below (by (with_reducible repeat (first | apply Kd.S_alloc | apply Kd.S_drewN | apply Kd.S_drew)); exact (Kd.S_mono (fs4_ (Kd.S_mono HO_29.out (fun k_ hk => (⟨hk, hk.2⟩ : _ ∧ k_ ≠ gb402))) (fun _ hk => hk.2)) (fun _ h_ => h_.1))) hb); replace BK396 := aa_ (blk_below (g := gb396) (o := .cells #[.int .i64 ((rd_T35 l0 x20_2).f0), .int .i64 ((rd_T35 l0 x20_2).f1.f0), .int .i64 ((rd_T35 l0 x20_2).f1.f1), .int .i64 ((rd_T35 l0 x20_2).f2), .int .i64 ((rd_T35 l0 x20_2).f3.f0), .int .i64 ((rd_T35 l0 x20_2).f3.f1), .int .i64 ((rd_T35 l0 x20_2).f4.f0), .int .i64 ((rd_T35 l0 x20_2).f4.f1), .int .i64 ((rd_T35 l0 x20_2).f5), .int .i64 ((rd_T35 l0 x20_2).f6)] 35 (0, 0)) (bk_ BK396) hb); replace HR401_3 := aa_ (Kd.C_below ((Kd.R_reads' (by (with_reducible repeat (first | apply Kd.R_alloc | apply Kd.R_drewN | apply Kd.R_drew)); exact (Kd.R_mono (fr4_ (Kd.R_types HL401_3.out BK402.out (by decide)) (fun _ hk => hk.2)) (fun _ h_ => h_.1)))).2.2) hb); replace HL401_3 := aa_ (Kd.R_below (by (with_reducible repeat (first | apply Kd.R_alloc | apply Kd.R_drewN | apply Kd.R_drew)); exact (Kd.R_mono (fr4_ (Kd.R_types HL401_3.out BK402.out (by decide)) (fun _ hk => hk.2)) (fun _ h_ => h_.1))) hb); replace BK402 := aa_ (blk_below (g := gb402) (o := .cells #[.int .i64 ((rd_T81 t398 x31_3).f0.f0.f0), .int .i64 ((rd_T81 t398 x31_3).f0.f0.f1), .int .i64 ((rd_T81 t398 x31_3).f0.f1), .slice A401_3 ((rd_T81 t398 x31_3).f1).length c401_3] 81 (0, 0)) (bk_ BK402) hb); replace HB := hbs_ hb; clear hb; obtain ⟨hcz36, hfz36⟩ := bcf_ BK402) | ((with_reducible refine gC_ 22 rfl ?_); refine goesC_ (some 41) Try.func22 #[.slice A1 l1.length c1, .agg #[.int .i64 ((rd_T81 t398 x31_3).f0.f0.f0), .int .i64 ((rd_T81 t398 x31_3).f0.f0.f1), .int .i64 ((rd_T81 t398 x31_3).f0.f1)]] ?_; (with_reducible refine (impl_Fact_22.calls k3 _ _ l1 ((rd_T81 t398 x31_3).f0.f0.f0) ((rd_T81 t398 x31_3).f0.f0.f1) ((rd_T81 t398 x31_3).f0.f1) t404 _ ?side1 ?side2 A26.out).mono ?_); (case side1 => repeat (first | exact (Kd.C_below HR1.out HB.out) | (with_reducible refine Kd.C_alloc ?_ _) | (with_reducible refine Kd.C_drewN ?_ _) | (with_reducible refine Kd.C_drew ?_))); (case side2 => exact HC1.out); rintro e w37 ⟨rfl, hb⟩; refine ⟨_, rfl, ?_⟩; replace HO_5 := hob_ HO_5 hb; replace HO_29 := aa_ (Kd.S_below (rs_ HO_29) hb); replace HL401_3 := aa_ (Kd.R_below (rr_ HL401_3) hb); replace BK396 := bkb_ BK396 hb; replace HR401_3 := aa_ (Kd.C_below (by repeat (first | (with_reducible exact HR401_3.out) | (with_reducible refine Kd.C_alloc ?_ _) | (with_reducible refine Kd.C_drewN ?_ _) | (with_reducible refine Kd.C_drew ?_) | exact HR401_3.out)) hb); replace BK402 := bkb_ BK402 hb; replace HB := hbs_ hb; clear hb; have p405 : 0 ≤ (t404 : Int) := od_; have q405 : t404 < (x5_3.length : Int) := od_; obtain ⟨ad405, e405, hx405_0⟩ := Kd.at_int (Kd.R_reads' HO_5.out).2.2 t404 p405 q405; cases e405; replace p405 := eq_true p405; replace q405 := eq_true q405))
            (try simp only [Act.put, sb_, sz_, ss_])
            have H := HC30.out
            clear HC30
            by_cases c38 : t403 < (rd x5_3 t404)
            ·rw [if_pos c38] at H
             have c38b0 : decide (t403 < (rd x5_3 t404)) = true := decide_eq_true c38
             clear c38
             (first | rw [c38b0] | (simp only [i64_w, i32_w]; rw [c38b0]) | skip)
             obtain ⟨y406, hy406⟩ : ∃ y_ : List Int, y_ = (x5_3.set (t404 : Int).toNat t403) := ⟨_, rfl⟩
             replace H : (impl_costs.l2 k3 l0 l1 y406 true l0 (l0.length : Int) x20_2 t398 (t398.length : Int) (wrap64 (x31_3 + 1))) = some r := rh_ hy406 H
             have Ny406 := aa_ hy406
             clear hy406
             have H' := aa_ H
             clear H
             have p39 : 0 ≤ (t404 : Int) := od_
             have q39 : (t404 : Int) < ((x5_3.length : Int) : Int) := od_
             obtain ⟨go39, co39, eo39, gb39, gl39, cl39, HG39⟩ := Kd.R_form HO_5.out (by omega)
             (first | cases eo39 | (injection eo39 with ea_ en_ ec_; (first | subst ea_ | (injection ea_ with ea_; subst ea_)); subst ec_; clear en_))
             have GB39 := aa_ gb39
             have GG39 := aa_ HG39
             clear gb39 gl39 HG39
             (first | simp only [add_plain] at hx405_0 | skip)
             obtain ⟨hx39_0, hf39_0⟩ := Kd.R_celln 0 HO_5.out (t404 : Int) p39 q39
             replace p39 := eq_true p39
             replace q39 := eq_true q39
             have HP40 := Kd.R_putg HO_5.out (t404 : Int) t403
             go_wp2_with (first | ((with_reducible refine gate_store (t := 3) (p := 55) rfl ?_); refine store_event (t := 3) (p := 55) (v := ?vo_w41) (w1 := (w37.setCell ⟨go39, (t404 : Int).toNat, none⟩ (.int .i64 t403))) ?hg ?ho ?hn ?hr ?_; (case ho => rfl); (case hg => rfl); (case hn => rfl); (case hr => first | (go_simp; done) | (go_simp; rfl)); intro w41 hw; have hg : w37.grownBy w41 (some go39) := (by rw [hw]; exact HP40.2); have hp_ : Kd.R (Kd.int .i64) 3 w41 w.heap.size (fun _ => True) (.slice (some ⟨go39, 0, none⟩) x5_3.length co34) y406 := (by rw [hw, Ny406.out]; exact HP40.1); clear HP40; replace HO_29 := aa_ (Kd.S_after (v := (.slice (some ⟨go39, 0, none⟩) x5_3.length co34)) (v1 := (.slice (some ⟨go39, 0, none⟩) x5_3.length co34)) (ok := (fun k_ => k_ ≠ gb402)) (by (with_reducible repeat (first | apply Kd.S_alloc | apply Kd.S_drewN | apply Kd.S_drew)); exact Kd.S_mono HO_29.out (fun _ hk => ⟨hk.2, hk.1⟩)) hg (.inl rfl)); replace BK396 := aa_ (blk_grown (g := gb396) (o := .cells #[.int .i64 ((rd_T35 l0 x20_2).f0), .int .i64 ((rd_T35 l0 x20_2).f1.f0), .int .i64 ((rd_T35 l0 x20_2).f1.f1), .int .i64 ((rd_T35 l0 x20_2).f2), .int .i64 ((rd_T35 l0 x20_2).f3.f0), .int .i64 ((rd_T35 l0 x20_2).f3.f1), .int .i64 ((rd_T35 l0 x20_2).f4.f0), .int .i64 ((rd_T35 l0 x20_2).f4.f1), .int .i64 ((rd_T35 l0 x20_2).f5), .int .i64 ((rd_T35 l0 x20_2).f6)] 35 (0, 0)) (bk_ BK396) hg (Kd.R_ne HO_5.out BK396.out (by decide))); replace HL401_3 := aa_ (Kd.R_after (v := (.slice (some ⟨go39, 0, none⟩) x5_3.length co34)) (v1 := (.slice (some ⟨go39, 0, none⟩) x5_3.length co34)) (ok := (fun k_ => some k_ ≠ (.slice (some ad401) t398.length co21 : Value).ownBlock)) (by (with_reducible repeat (first | apply Kd.R_alloc | apply Kd.R_drewN | apply Kd.R_drew)); exact Kd.R_mono HL401_3.out (fun _ hk => ⟨hk.2, hk.1⟩)) hg (.inl rfl)); replace BK402 := aa_ (blk_grown (g := gb402) (o := .cells #[.int .i64 ((rd_T81 t398 x31_3).f0.f0.f0), .int .i64 ((rd_T81 t398 x31_3).f0.f0.f1), .int .i64 ((rd_T81 t398 x31_3).f0.f1), .slice A401_3 ((rd_T81 t398 x31_3).f1).length c401_3] 81 (0, 0)) (bk_ BK402) hg (Kd.R_ne HO_5.out BK402.out (by decide))); replace HO_5 := aa_ (hp_); replace HB := aa_ ((by rw [hw]; exact below_set (HB.out) GB39.out : Below w.heap.size w w41)); clear hg hw hp_))
             go_roundg k3
             case measure => have := HK1.out; have := HK2.out; have := HK3.out; omega
             case rel => exact ⟨(y406), (true), (wrap64 (x31_3 + 1)), rf_, rf_, H', ⟨by have := HK1.out; have := HK2.out; have := HK3.out; omega⟩, ⟨rr_ HO_5⟩, ⟨by (with_reducible repeat (first | apply Kd.S_alloc | apply Kd.S_drewN | apply Kd.S_drew)); exact Kd.S_mono HO_29.out (fun _ hk => hk.2)⟩, ⟨bk_ BK396⟩, ⟨bl_⟩⟩
            ·rw [if_neg c38] at H
             have c38b0 : decide (t403 < (rd x5_3 t404)) = false := decide_eq_false c38
             clear c38
             (first | rw [c38b0] | (simp only [i64_w, i32_w]; rw [c38b0]) | skip)
             have H' := aa_ H
             clear H
             go_wp2
             go_roundg k3
             case measure => have := HK1.out; have := HK2.out; have := HK3.out; omega
             case rel => exact ⟨(x5_3), (x6_3), (wrap64 (x31_3 + 1)), rf_, rf_, H', ⟨by have := HK1.out; have := HK2.out; have := HK3.out; omega⟩, ⟨rr_ HO_5⟩, ⟨by (with_reducible repeat (first | apply Kd.S_alloc | apply Kd.S_drewN | apply Kd.S_drew)); exact Kd.S_mono HO_29.out (fun _ hk => hk.1)⟩, ⟨bk_ BK396⟩, ⟨bl_⟩⟩
           ·rw [if_neg c27] at H
            have c27b0 : decide (0 ≤ t404) = false := decide_eq_false c27
            clear c27
            have H' := aa_ H
            clear H
            have p401 : 0 ≤ (x31_3 : Int) := od_
            have q401 : x31_3 < (t398.length : Int) := od_
            obtain ⟨ad401, A401_3, c401_3, e401, hx401_0, hx401_1, hx401_2, hx401_3, hl401_3, hi401_3⟩ := at_T81 (Kd.S_reads' HO_29.out).2.2 x31_3 p401 q401
            cases e401
            obtain ⟨ce401, hce401, hMe401, hcc401⟩ := Kd.S_get HO_29.out z81 x31_3 p401 (by first | exact q401 | exact od_ | (have e_ := (Kd.S_reads' HO_29.out).1; omega))
            obtain ⟨ve401_3, rfl, ge401_3⟩ := k81_openM hMe401
            have hv401_3 := hcc401 3 _ rfl
            rw [add_field _ _ 3 (by omega)] at hv401_3
            replace hv401_3 := Option.some.inj (hv401_3.symm.trans hx401_3)
            rw [hv401_3] at ge401_3
            have HL401_3 := aa_ (show Kd.R (Kd.int .i64) 3 _ _ _ _ ((rd_T81 t398 x31_3).f1) from ge401_3)
            clear hv401_3 ge401_3
            clear hcc401 hce401
            have HR401_3 := aa_ hi401_3
            have HC401_3 := aa_ hl401_3
            clear hi401_3 hl401_3
            replace p401 := eq_true p401
            replace q401 := eq_true q401
            go_wp2_with (first | ((with_reducible refine gD_ 10 rfl ?_); refine bx_ (N := 10) (cs := #[.int .i64 0, .int .i64 0, .int .i64 0, .slice none 0 0]) (t := 81) ?_; intro gb402 hg w42 hbox hb; replace HO_5 := hob_ HO_5 hb; replace HO_29 := aa_ (Kd.S_below (Kd.S_elderB (rs_ HO_29) gb402 (Nat.le_of_eq hg.symm)) hb); replace HL401_3 := aa_ (Kd.R_below (rr_ HL401_3) hb); replace HR401_3 := aa_ (Kd.C_below (by repeat (first | (with_reducible exact HR401_3.out) | (with_reducible refine Kd.C_alloc ?_ _) | (with_reducible refine Kd.C_drewN ?_ _) | (with_reducible refine Kd.C_drew ?_) | exact HR401_3.out)) hb); have BK402 := aa_ (hbox); have GW402 := gs_ hg; have GE402 := gs_ hg; replace HB := hbs_ hb; have NB396_402 := nl_ hg BK396; have NB402_396 := nr_ hg BK396; replace BK396 := bkb_ BK396 hb; clear hb hbox hg; have hnb43 := NB402_396.out; have hnc43 := NB396_402.out; obtain ⟨hcz44, hfz44⟩ := bcf_ BK402; obtain ⟨Ao45, co45, eo45⟩ := Kd.R_slice HO_5.out; subst eo45) | ((with_reducible refine gC_ 42 rfl ?_); refine goesC_ (some 37) Try.func42 #[.slice Ao45 x5_3.length co45, .agg #[.int .i64 ((rd_T81 t398 x31_3).f0.f0.f0), .int .i64 ((rd_T81 t398 x31_3).f0.f0.f1), .int .i64 ((rd_T81 t398 x31_3).f0.f1), .slice A401_3 ((rd_T81 t398 x31_3).f1).length c401_3]] ?_; (with_reducible refine (impl_sizeBy.calls k3 _ _ x5_3 ((rd_T81 t398 x31_3).f0.f0.f0) ((rd_T81 t398 x31_3).f0.f0.f1) ((rd_T81 t398 x31_3).f0.f1) _ _ ((rd_T81 t398 x31_3).f1) t403 _ ?side1 ?side2 ?side3 ?side4 A25.out).mono ?_); (case side1 => refine (Kd.R_reads' (e := 3) (base := w.heap.size) (ok := fun k_ => True) (n := x5_3.length) (c := co45) ?_).2.2; exact (by (with_reducible repeat (first | apply Kd.R_alloc | apply Kd.R_drewN | apply Kd.R_drew)); exact (Kd.R_mono (fr4_ (Kd.R_types HO_5.out BK402.out (by decide)) (fun _ hk => hk.2)) (fun _ h_ => h_.1)))); (case side2 => exact (Kd.R_reads' HO_5.out).2.1); (case side3 => repeat (first | exact ((Kd.R_reads' (by (with_reducible repeat (first | apply Kd.R_alloc | apply Kd.R_drewN | apply Kd.R_drew)); exact (Kd.R_mono (fr4_ (Kd.R_types HL401_3.out BK402.out (by decide)) (fun _ hk => hk.2)) (fun _ h_ => h_.1)))).2.2) | (with_reducible refine Kd.C_alloc ?_ _) | (with_reducible refine Kd.C_drewN ?_ _) | (with_reducible refine Kd.C_drew ?_))); (case side4 => exact HC401_3.out); rintro e w46 ⟨rfl, hb⟩; refine ⟨_, rfl, ?_⟩; replace HO_5 := aa_ (Kd.R_below (by (with_reducible repeat (first | apply Kd.R_alloc | apply Kd.R_drewN | apply Kd.R_drew)); exact (Kd.R_mono (fr4_ (Kd.R_types HO_5.out BK402.out (by decide)) (fun _ hk => hk.2)) (fun _ h_ => h_.1))) hb); replace HO_29 := aa_ (Kd.S_below (by (with_reducible repeat (first | apply Kd.S_alloc | apply Kd.S_drewN | apply Kd.S_drew)); exact (Kd.S_mono (fs4_ (Kd.S_mono HO_29.out (fun k_ hk => (⟨hk, hk.2⟩ : _ ∧ k_ ≠ gb402))) (fun _ hk => hk.2)) (fun _ h_ => h_.1))) hb); replace BK396 := aa_ (blk_below (g := gb396) (o := .cells #[.int .i64 ((rd_T35 l0 x20_2).f0), .int .i64 ((rd_T35 l0 x20_2).f1.f0), .int .i64 ((rd_T35 l0 x20_2).f1.f1), .int .i64 ((rd_T35 l0 x20_2).f2), .int .i64 ((rd_T35 l0 x20_2).f3.f0), .int .i64 ((rd_T35 l0 x20_2).f3.f1), .int .i64 ((rd_T35 l0 x20_2).f4.f0), .int .i64 ((rd_T35 l0 x20_2).f4.f1), .int .i64 ((rd_T35 l0 x20_2).f5), .int .i64 ((rd_T35 l0 x20_2).f6)] 35 (0, 0)) (bk_ BK396) hb); replace HR401_3 := aa_ (Kd.C_below ((Kd.R_reads' (by (with_reducible repeat (first | apply Kd.R_alloc | apply Kd.R_drewN | apply Kd.R_drew)); exact (Kd.R_mono (fr4_ (Kd.R_types HL401_3.out BK402.out (by decide)) (fun _ hk => hk.2)) (fun _ h_ => h_.1)))).2.2) hb); replace HL401_3 := aa_ (Kd.R_below (by (with_reducible repeat (first | apply Kd.R_alloc | apply Kd.R_drewN | apply Kd.R_drew)); exact (Kd.R_mono (fr4_ (Kd.R_types HL401_3.out BK402.out (by decide)) (fun _ hk => hk.2)) (fun _ h_ => h_.1))) hb); replace BK402 := aa_ (blk_below (g := gb402) (o := .cells #[.int .i64 ((rd_T81 t398 x31_3).f0.f0.f0), .int .i64 ((rd_T81 t398 x31_3).f0.f0.f1), .int .i64 ((rd_T81 t398 x31_3).f0.f1), .slice A401_3 ((rd_T81 t398 x31_3).f1).length c401_3] 81 (0, 0)) (bk_ BK402) hb); replace HB := hbs_ hb; clear hb; obtain ⟨hcz47, hfz47⟩ := bcf_ BK402) | ((with_reducible refine gC_ 22 rfl ?_); refine goesC_ (some 41) Try.func22 #[.slice A1 l1.length c1, .agg #[.int .i64 ((rd_T81 t398 x31_3).f0.f0.f0), .int .i64 ((rd_T81 t398 x31_3).f0.f0.f1), .int .i64 ((rd_T81 t398 x31_3).f0.f1)]] ?_; (with_reducible refine (impl_Fact_22.calls k3 _ _ l1 ((rd_T81 t398 x31_3).f0.f0.f0) ((rd_T81 t398 x31_3).f0.f0.f1) ((rd_T81 t398 x31_3).f0.f1) t404 _ ?side1 ?side2 A26.out).mono ?_); (case side1 => repeat (first | exact (Kd.C_below HR1.out HB.out) | (with_reducible refine Kd.C_alloc ?_ _) | (with_reducible refine Kd.C_drewN ?_ _) | (with_reducible refine Kd.C_drew ?_))); (case side2 => exact HC1.out); rintro e w48 ⟨rfl, hb⟩; refine ⟨_, rfl, ?_⟩; replace HO_5 := hob_ HO_5 hb; replace HO_29 := aa_ (Kd.S_below (rs_ HO_29) hb); replace HL401_3 := aa_ (Kd.R_below (rr_ HL401_3) hb); replace BK396 := bkb_ BK396 hb; replace HR401_3 := aa_ (Kd.C_below (by repeat (first | (with_reducible exact HR401_3.out) | (with_reducible refine Kd.C_alloc ?_ _) | (with_reducible refine Kd.C_drewN ?_ _) | (with_reducible refine Kd.C_drew ?_) | exact HR401_3.out)) hb); replace BK402 := bkb_ BK402 hb; replace HB := hbs_ hb; clear hb))
            go_roundg k3
            case measure => have := HK1.out; have := HK2.out; have := HK3.out; omega
            case rel => exact ⟨(x5_3), (x6_3), (wrap64 (x31_3 + 1)), rf_, rf_, H', ⟨by have := HK1.out; have := HK2.out; have := HK3.out; omega⟩, ⟨rr_ HO_5⟩, ⟨by (with_reducible repeat (first | apply Kd.S_alloc | apply Kd.S_drewN | apply Kd.S_drew)); exact Kd.S_mono HO_29.out (fun _ hk => hk.1)⟩, ⟨bk_ BK396⟩, ⟨bl_⟩⟩
          ·rw [if_neg c22] at H
           have c22b0 : decide (x31_3 < (t398.length : Int)) = false := decide_eq_false c22
           clear c22
           (first | rw [c22b0] | (simp only [i64_w, i32_w]; rw [c22b0]) | (have cz_ := c22b0; simp only [Int.ofNat_lt, Int.ofNat_le, gt_iff_lt, ge_iff_le] at cz_; rw [cz_]; clear cz_) | skip)
           have H' := aa_ H
           clear H
           go_wp2
           go_roundg k3
           case measure => have := HK1.out; have := HK2.out; have := HK3.out; omega
           case rel => exact ⟨(x5_3), (x6_3), (wrap64 (x20_2 + 1)), rf_, rf_, H', ⟨by have := HK1.out; have := HK2.out; have := HK3.out; omega⟩, ⟨rr_ HO_5⟩, ⟨bl_⟩⟩
       ·replace c17 := Bool.eq_false_iff.mpr c17
        subst c17
        replace H := ite_f_ H
        have H' := aa_ H
        clear H
        go_wp2
        go_roundg k2
        case measure => have := HK1.out; have := HK2.out; omega
        case rel => exact ⟨(x5_2), (x6_2), (wrap64 (x20_2 + 1)), rf_, rf_, H', ⟨by have := HK1.out; have := HK2.out; omega⟩, ⟨rr_ HO_5⟩, ⟨bl_⟩⟩
      ·rw [if_neg c9] at H
       have c9b0 : decide (x20_2 < (l0.length : Int)) = false := decide_eq_false c9
       clear c9
       have H' := aa_ H
       clear H
       go_wp2
       go_roundg k2
       case measure => have := HK1.out; have := HK2.out; omega
       case rel => exact ⟨(x5_2), (x6_2), rf_, H', ⟨by have := HK1.out; have := HK2.out; omega⟩, ⟨rr_ HO_5⟩, ⟨bl_⟩⟩
   ·replace c8 := Bool.eq_false_iff.mpr c8
    subst c8
    replace H := ite_f_ H
    obtain rfl := Option.some.inj H
    go_wp2
    go_ret
    exact ⟨_, eq_, by (with_reducible repeat (first | apply Kd.R_alloc | apply Kd.R_drewN | apply Kd.R_drew)); exact HO_5.out, bl_⟩
end Go.Proofs.Ytljhfomkakhflaa.PA
