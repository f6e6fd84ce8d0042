import Derived.Test.YtppdmcimddhbaaaKCPGx0
-- printed by wip/tools
namespace Go.Proofs.Ytppdmcimddhbaaa.PG
open Go.RowKit Go.Proofs.YtppdmcimddhbaaaW.PrintWords Go.Proofs.YtppdmcimddhbaaaW.PrintLast Go.Proofs.YtppdmcimddhbaaaW.PrintMore
attribute [local go_sem] max2_int min2_int max_two min_two max_three min_three max_four min_four
set_option linter.unusedVariables false
set_option linter.unusedSimpArgs false
def bits_Mul64.f (a0 : Int) (a1 : Int) : Option (Int × Int) := some (IntKind.u64.wrap ((IntKind.u64.wrap ((IntKind.u64.wrap ((a0 / 4294967296) * (a1 / 4294967296))) + ((IntKind.u64.wrap ((IntKind.u64.wrap ((a0 / 4294967296) * (Go.bits .and .u64 a1 4294967295))) + ((IntKind.u64.wrap ((Go.bits .and .u64 a0 4294967295) * (Go.bits .and .u64 a1 4294967295))) / 4294967296))) / 4294967296))) + ((IntKind.u64.wrap ((Go.bits .and .u64 (IntKind.u64.wrap ((IntKind.u64.wrap ((a0 / 4294967296) * (Go.bits .and .u64 a1 4294967295))) + ((IntKind.u64.wrap ((Go.bits .and .u64 a0 4294967295) * (Go.bits .and .u64 a1 4294967295))) / 4294967296))) 4294967295) + (IntKind.u64.wrap ((Go.bits .and .u64 a0 4294967295) * (a1 / 4294967296))))) / 4294967296)), IntKind.u64.wrap (a0 * a1))
set_option maxHeartbeats 8000000 in
set_option maxRecDepth 100000 in
theorem bits_Mul64.calls (a0 : Int) (a1 : Int) (r1 : Int) (r2 : Int) (w : World) (h : bits_Mul64.f a0 a1 = some (r1, r2)) :
  Calls Try.prog 171 #[.int .u64 a0, .int .u64 a1] w fun e w' => e = .returned (.tuple #[.int .u64 r1, .int .u64 r2]) ∧ Drawn0 w w' := by
 have H : (some (IntKind.u64.wrap ((IntKind.u64.wrap ((IntKind.u64.wrap ((a0 / 4294967296) * (a1 / 4294967296))) + ((IntKind.u64.wrap ((IntKind.u64.wrap ((a0 / 4294967296) * (Go.bits .and .u64 a1 4294967295))) + ((IntKind.u64.wrap ((Go.bits .and .u64 a0 4294967295) * (Go.bits .and .u64 a1 4294967295))) / 4294967296))) / 4294967296))) + ((IntKind.u64.wrap ((Go.bits .and .u64 (IntKind.u64.wrap ((IntKind.u64.wrap ((a0 / 4294967296) * (Go.bits .and .u64 a1 4294967295))) + ((IntKind.u64.wrap ((Go.bits .and .u64 a0 4294967295) * (Go.bits .and .u64 a1 4294967295))) / 4294967296))) 4294967295) + (IntKind.u64.wrap ((Go.bits .and .u64 a0 4294967295) * (a1 / 4294967296))))) / 4294967296)), IntKind.u64.wrap (a0 * a1))) = some (r1, r2) := h
 clear h
 simp only [Option.some.injEq, Prod.mk.injEq] at H
 obtain ⟨rfl, rfl⟩ := H
 go_enter Try.func171, Try.ntmps171
 go_wp2
 go_ret2
 exact ⟨by first | rfl | (simp; done) | (simp [*]; done), by repeat (first | exact Drawn0.refl _ | apply Drawn0.step)⟩
def bits_Mul.f (a0 : Int) (a1 : Int) : Option (Int × Int) := (bits_Mul64.f a0 a1).bind fun bt378 => (some (bt378.1, bt378.2))
set_option maxHeartbeats 8000000 in
set_option maxRecDepth 100000 in
theorem bits_Mul.calls (a0 : Int) (a1 : Int) (r1 : Int) (r2 : Int) (w : World) (h : bits_Mul.f a0 a1 = some (r1, r2)) :
  Calls Try.prog 157 #[.int .u64 a0, .int .u64 a1] w fun e w' => e = .returned (.tuple #[.int .u64 r1, .int .u64 r2]) ∧ Drawn0 w w' := by
 have H : ((bits_Mul64.f a0 a1).bind fun bt378 => (some (bt378.1, bt378.2))) = some (r1, r2) := h
 clear h
 obtain ⟨⟨t378, t379⟩, A3, H⟩ := bindE_ H
 replace H : (some (t378, t379)) = some (r1, r2) := H
 simp only [Option.some.injEq, Prod.mk.injEq] at H
 obtain ⟨rfl, rfl⟩ := H
 go_enter Try.func157, Try.ntmps157
 go_wp2_with (first | ((with_reducible refine gate_callee (f := 171) rfl ?_); refine goesC_ (some 25) Try.func171 #[.int .u64 a0, .int .u64 a1] ?_; (with_reducible refine (bits_Mul64.calls a0 a1 t378 t379 _ A3.out).mono ?_); rintro e w' ⟨rfl, ⟨nd, rfl⟩⟩; refine ⟨_, rfl, ?_⟩))
 go_ret2
 exact ⟨by first | rfl | (simp; done) | (simp [*]; done), by repeat (first | exact Drawn0.refl _ | apply Drawn0.step)⟩
def slices_Repeat_int_int.f (l0 : List (Int)) (a1 : Int) : Option (List (Int)) := if l0.length = 1 ∧ 0 ≤ a1 ∧ a1 ≤ 1000000 then some (List.replicate a1.toNat (l0.getD 0 0)) else none
theorem slices_Repeat_int_int.mul (N : Int) (h0 : 0 ≤ N) (h1 : N ≤ 1000000) : bits_Mul.f 1 N = some (0, N) := by
 have wu : ∀ n : Int, 0 ≤ n → n < 2 ^ 64 → IntKind.u64.wrap n = n := fun n a b => by rw [IntKind.wrap_u64]; omega
 have e1 : Go.bits .and .u64 N 4294967295 = N := by
  have := bits_mask .u64 64 (by decide) wu 32 (by decide) N h0 (by omega)
  rw [show ((4294967295 : Int)) = 2 ^ 32 - 1 by decide]
  rw [this]
  omega
 have e2 : Go.bits .and .u64 1 4294967295 = 1 := by decide +kernel
 have e3 : N / 4294967296 = 0 := by omega
 have e4 : (1 : Int) / 4294967296 = 0 := by decide
 have e5 : IntKind.u64.wrap N = N := wu N h0 (by omega)
 have e6 : IntKind.u64.wrap 0 = 0 := wu 0 (by decide) (by decide)
 have e7 : Go.bits .and .u64 0 4294967295 = 0 := by decide +kernel
 unfold bits_Mul.f bits_Mul64.f
 simp only [Option.bind_some, e1, e2, e3, e4, Int.zero_mul, Int.mul_zero, Int.one_mul, e5, e6, e7, Int.zero_ediv, Int.add_zero, Int.zero_add]
theorem slices_Repeat_int_int.wr (m c : Nat) (h : m + c ≤ 1000000) : IntKind.i64.wrap ((m : Int) + (c : Int)) = ((m + c : Nat) : Int) := by rw [IntKind.wrap_i64]; omega
set_option maxHeartbeats 8000000 in
set_option maxRecDepth 100000 in
theorem slices_Repeat_int_int.calls (A0 : Option Addr) (c0 : Nat) (l0 : List (Int)) (a1 : Int) (r : List (Int)) (w : World) (hr0 : Kd.C (Kd.int .i64) w A0 l0.length l0) (hc0 : l0.length ≤ c0) (h : slices_Repeat_int_int.f l0 a1 = some r) :
  Calls Try.prog 151 #[.slice A0 l0.length c0, .int .i64 a1] w fun e w' => ∃ v0_ : Value, e = .returned (v0_) ∧ Kd.R (Kd.int .i64) 3 w' w.heap.size (fun _ => True) v0_ r ∧ Below w.heap.size w w' := by
 unfold slices_Repeat_int_int.f at h
 by_cases hc : l0.length = 1 ∧ 0 ≤ a1 ∧ a1 ≤ 1000000
 ·rw [if_pos hc] at h
  obtain ⟨h1, h2, h3⟩ := hc
  obtain ⟨N, rfl⟩ := Int.eq_ofNat_of_zero_le h2
  obtain ⟨x, rfl⟩ : ∃ x, l0 = [x] := by
   match l0, h1 with
   | [x], _ => exact ⟨x, rfl⟩
  obtain rfl := Option.some.inj h
  have HR0 := Aside0.mk (show Kd.C (Kd.int .i64) w A0 1 [x] from hr0)
  have HMu := Aside0.mk (slices_Repeat_int_int.mul N (by omega) h3)
  have HB := Aside0.mk (Below.refl w.heap.size w)
  have HN := Aside0.mk (show N ≤ 1000000 by omega)
  have hw1 : IntKind.u64.wrap (N : Int) = N := by rw [IntKind.wrap_u64]; omega
  have hw2 : IntKind.i64.wrap (N : Int) = N := by rw [IntKind.wrap_i64]; omega
  have hw3 : wrap64 (N : Int) = N := by unfold wrap64; omega
  have hn0 : ¬ (N : Int) < 0 := by omega
  have hn1 : ¬ (9223372036854775807 : Int) < (N : Int) := by omega
  obtain ⟨Z, hZ⟩ : ∃ Z : List Int, Z = List.replicate N 0 := ⟨_, rfl⟩
  have HZ := Aside0.mk hZ
  have HZl := Aside0.mk (show Z.length = N by rw [hZ, List.length_replicate])
  obtain ⟨m0, hm0⟩ : ∃ m0 : Nat, m0 = min 1 Z.length := ⟨_, rfl⟩
  have HM0 := Aside0.mk hm0
  have HI := Aside0.mk (show (Try.prog.info? 3).map (·.size) = some 1 by rw [Option.map_eq_some_iff]; obtain ⟨i0, e0, h0_⟩ := Option.map_eq_some_iff.1 info3; exact ⟨i0, e0, by injection h0_ with _ h1_; injection h1_⟩)
  clear hr0 hc0 h1 h2 h3 h hZ hm0
  show Calls Try.prog 151 #[.slice A0 1 c0, .int .i64 (N : Int)] w _
  go_enter Try.func151, Try.ntmps151
  go_wp2_with (first | ((with_reducible refine gate_callee (f := 157) rfl ?_); refine goesC_ (some 18) Try.func157 #[.int .u64 1, .int .u64 (N : Int)] ?_; (with_reducible refine (bits_Mul.calls 1 (N : Int) 0 (N : Int) _ HMu.out).mono ?_); rintro e w' ⟨rfl, ⟨nd, rfl⟩⟩; refine ⟨_, rfl, ?_⟩; replace HB := Aside0.mk (pw_below_drewN HB.out nd)) | ((with_reducible refine gate_dst (N := 30) rfl ?_); refine Kd.R_make (Kd.int .i64) _ 3 rfl (N := 30) rfl 32 _ _ rfl (N : Int) rfl rfl Try.underlying32 (.int .i64 0) 8 info3 rfl (by decide) (by omega) 0 (ok := fun _ => True) (okp := fun _ => True) rfl (fun _ hk => hk) trivial (by omega) (by have := HN.out; omega) HB.out bls_ ?_; intro v1 w1 ho hb hg_ hnew_; have HO := Aside0.mk (show Kd.R (Kd.int .i64) 3 w1 w.heap.size (fun _ => True) v1 Z from by rw [HZ.out]; exact ho); have HW := Aside0.mk hnew_; replace HB := Aside0.mk hb; clear ho hb hg_ hnew_) | ((with_reducible refine gate_builtin (b := .copy) (xs := #[.tmp 31, .tmp 32]) rfl ?_); refine Kd.R_copy (enc := Value.int .i64) 0 w.heap.size rfl (.tmp 31) (.tmp 32) 32 32 3 rfl Try.underlying32 HI.out v1 Z [x] A0 1 c0 (fun _ => True) rfl rfl HO.out (Kd.C_below HR0.out HB.out) HB.out bls_ ?_; intro w2 ho2 hb2 hg2; rw [← HM0.out]; have HO2 := Aside0.mk ho2; replace HB := Aside0.mk hb2; clear ho2 hb2 hg2))
  clear hw1 hw2 hw3
  obtain ⟨b0, hb0, hbb⟩ := HW.out
  have hlen : ([x].take m0 ++ Z.drop m0).length = N := by
   have h1 := HM0.out
   have h2 := HZl.out
   simp only [List.length_append, List.length_take, List.length_drop, List.length_singleton]
   omega
  have hO2 : Kd.R (Kd.int .i64) 3 w2 w.heap.size (fun _ => True) v1 ([x].take m0 ++ Z.drop m0) := by
   have := HO2.out
   rw [← HM0.out] at this
   exact this
  obtain ⟨_, hf⟩ := Kd.own_of_R (enc := Value.int .i64) hO2
  rw [hlen] at hf
  rcases hf with ⟨rfl, _⟩ | ⟨g, cap, cur, rfl, hg, hb, hn, hc, hs, ht⟩
  ·cases hb0
  have HG0 := Aside0.mk (show w2.heap[g]? = some (.cells cur.toList.toArray 3 (0, 0)) from hb)
  have HC0 := Aside0.mk (show cur.toList.length = cap ∧ cur.toList.take m0 = List.replicate m0 (Value.int .i64 x) by
   refine ⟨by rw [Array.length_toList, hs, Nat.mul_one], ?_⟩
   have h1 := HM0.out
   have h2 := HZl.out
   have h3 := congrArg (List.take m0) ht
   rw [List.take_take, Nat.min_eq_left (by omega)] at h3
   rw [h3]
   rcases Nat.eq_zero_or_pos m0 with h0 | h0
   ·rw [h0]; rfl
   ·have : m0 = 1 := by omega
    rw [this]; rfl)
  have HN2 := Aside0.mk (show N ≤ cap ∧ cap ≤ maxLen ∧ m0 ≤ N ∧ (0 < N → 0 < m0) by
   have h1 := HM0.out
   have h2 := HZl.out
   exact ⟨hn, hc, by omega, by omega⟩)
  have HGE := Aside0.mk hg
  clear hb0 hbb hlen hO2 hb hs ht hn hc hg HO HO2 HW
  go_loopg [8] N (fun gg v8 w' => ∃ (m : Nat) (cu : List Value), v8 = .int .i64 m ∧ m ≤ N ∧ N - m ≤ gg ∧ (0 < N → 0 < m) ∧ Aside0 (w'.heap[g]? = some (.cells cu.toArray 3 (0, 0))) ∧ Aside0 (cu.length = cap ∧ cu.take m = List.replicate m (Value.int .i64 x)) ∧ Aside0 (Below w.heap.size w w'))
  case atStart =>
   obtain ⟨h1, h2, h3, h4⟩ := HN2.out
   exact ⟨m0, cur.toList, (by first | rfl | (simp; done)), h3, by omega, h4, HG0, HC0, ⟨bl_⟩⟩
  case round =>
   clear HG0 HC0 HM0 HZ HZl HB
   obtain ⟨m, cu, rfl, hm, hgg, hp, HG, HC, HB⟩ := hrel
   obtain ⟨q1, q2, q3, q4⟩ := HN2.out
   have q5 : cap ≤ 9223372036854775807 := by simpa [maxLen] using q2
   by_cases hlt : m < N
   ·have hm0 := hp (by omega)
    have HP := Aside0.mk (show 0 < m ∧ m < N ∧ N ≤ cap ∧ N - m ≤ gk from ⟨hm0, hlt, q1, hgg⟩)
    have i1 : (m : Int) < (N : Int) := by omega
    have i2 : (0 : Int) ≤ (m : Int) := by omega
    have i3 : (m : Int) ≤ (N : Int) := by omega
    have i4 : ¬ cap = m := by omega
    have i5 : m ≤ cap := by omega
    have i6 : m ≤ N := by omega
    obtain ⟨c, hc⟩ : ∃ c : Nat, c = min m (N - m) := ⟨_, rfl⟩
    have HCm := Aside0.mk (show c ≤ m ∧ m + c ≤ N ∧ 0 < c ∧ c = min m (N - m) by omega)
    have HI8 := Aside0.mk (slices_Repeat_int_int.wr m c (by have := HN.out; have := HCm.out; omega))
    clear hm hgg hp q1 q2 q3 q4 hlt hm0 hc
    have HCe := Aside0.mk (show ∀ j v, (List.replicate c (Value.int .i64 x))[j]? = some v → wr.drew.cell? ⟨g, j, none⟩ = some v by
     intro j v hv
     obtain ⟨hj, hv⟩ := List.getElem?_eq_some_iff.1 hv
     rw [List.length_replicate] at hj
     rw [List.getElem_replicate] at hv
     subst hv
     have hjm : j < m := by have := HCm.out.1; omega
     have h1 := congrArg (fun l => l[j]?) HC.out.2
     simp only [List.getElem?_take_of_lt hjm, List.getElem?_replicate, hjm, if_true] at h1
     rw [cell_of_row wr.drew g j cu.toArray 3 (0, 0) HG.out]
     simpa using h1)
    go_wp2_with fail
    go_region_law (refine step_copy_splice rfl (.tmp 41) (.tmp 44) 32 32 rfl 3 Try.underlying32 HI.out _ _ _ _ _ _ rfl rfl g m cu 3 (show wr.drew.heap[g]? = _ from HG.out) (List.replicate c (Value.int .i64 x)) (by have := HCm.out.2.2.2; simpa using this) (fun _ => ⟨by simp, _, rfl, fun j v hv => by rw [add_at, Nat.zero_add]; exact HCe.out j v hv⟩) (by have := HCm.out.2.1; have := HC.out.1; have := HN2.out.1; simp only [List.length_replicate]; omega) (fun v hv => by rw [List.eq_of_mem_replicate hv]; rfl) w.heap.size w (below_drew HB.out) HGE.out ?_; intro w4 hg4 hb4; have HG4 := Aside0.mk hg4.out; have HB4 := Aside0.mk hb4; clear hg4 hb4; simp only [List.length_replicate])
    all_goals
     go_wp2
     go_roundg (N - (m + c))
     case measure => have := HP.out; have := HCm.out; omega
     case rel =>
      have h1 := HCm.out
      have h2 := HC.out
      have h21 := h2.1
      have h3 := HN2.out.1
      refine ⟨m + c, splice cu m (List.replicate c (Value.int .i64 x)), (by first | rfl | exact congrArg (Value.int .i64) HI8.out | go_num), h1.2.1, by omega, fun _ => by omega, HG4, ⟨?_, ?_⟩, HB4⟩
      ·rw [length_splice _ _ _ (by rw [List.length_replicate]; omega)]
       exact h2.1
      ·unfold splice
       have h4 : m ≤ cu.length := by rw [h21]; exact Nat.le_trans i6 h3
       rw [← List.append_assoc, List.take_left' (by rw [List.length_append, List.length_take_of_le h4, List.length_replicate]), h2.2, List.replicate_append_replicate]
   ·obtain rfl : m = N := by omega
    have i1 : ¬ (m : Int) < (m : Int) := by omega
    go_wp2
    go_ret
    refine ⟨.slice (some ⟨g, 0, none⟩) m cap, (by first | rfl | (simp; done)), Kd.R_of_own (enc := Value.int .i64) (xs := List.replicate m x) ?_ (fun _ _ => trivial), HB.out⟩
    refine ⟨by simp [encs], .inr ⟨g, cap, cu.toArray, by rw [List.length_replicate], HGE.out, HG.out, by rw [List.length_replicate]; exact q1, q2, by simpa using HC.out.1, ?_⟩⟩
    rw [List.length_replicate, Nat.mul_one]
    show cu.take m = _
    rw [HC.out.2]
    simp [encs]
 ·rw [if_neg hc] at h
  exact absurd h (by simp)
def impl_sizeBy.l0 : Nat → List Int → Int → List Int → Int → Int → Option (Int)
 | 0, _, _, _, _, _ => none
 | k + 1, x0, x5, x9, x10, x11 => if x11 < x10 then (if 0 ≤ x11 then (if x11 < (x9.length : Int) then (if 0 ≤ (rd x9 x11) then (if (rd x9 x11) < (x0.length : Int) then (if (rd x0 (rd x9 x11)) > 1000000 then (some 1000001) else (impl_sizeBy.l0 k x0 (wrap64 (x5 + (rd x0 (rd x9 x11)))) x9 x10 (wrap64 (x11 + 1)))) else (none)) else (none)) else (none)) else (none)) else (some (mn x5 1000000))
def impl_sizeBy.f (k : Nat) (l0 : List Int) (a1_0 : Int) (a1_1 : Int) (a1_2 : Int) (l1_3 : List Int) : Option (Int) := impl_sizeBy.l0 k l0 1 l1_3 (l1_3.length : Int) 0
set_option maxHeartbeats 8000000 in
set_option maxRecDepth 100000 in
theorem impl_sizeBy.calls (k : Nat) (A0 : Option Addr) (c0 : Nat) (l0 : List Int) (a1_0 : Int) (a1_1 : Int) (a1_2 : Int) (A1_3 : Option Addr) (c1_3 : Nat) (l1_3 : List Int) (r : Int) (w : World) (hr0 : Kd.C (Kd.int .i64) w A0 l0.length l0) (hc0 : l0.length ≤ c0) (hr1_3 : Kd.C (Kd.int .i64) w A1_3 l1_3.length l1_3) (hc1_3 : l1_3.length ≤ c1_3) (h : impl_sizeBy.f k l0 a1_0 a1_1 a1_2 l1_3 = some r) :
  Calls Try.prog 152 #[.slice A0 l0.length c0, .agg #[.int .i64 a1_0, .int .i64 a1_1, .int .i64 a1_2, .slice A1_3 l1_3.length c1_3]] w fun e w' => e = .returned (.int .i64 r) ∧ Below w.heap.size w w' := by
 have hu177 := Try.underlying177
 have HR0 := Aside0.mk hr0
 have HC0 := Aside0.mk hc0
 clear hr0 hc0
 have HR1_3 := Aside0.mk hr1_3
 have HC1_3 := Aside0.mk hc1_3
 clear hr1_3 hc1_3
 have HB := Aside0.mk (Below.refl w.heap.size w)
 have H : (impl_sizeBy.l0 k l0 1 l1_3 (l1_3.length : Int) 0) = some r := h
 clear h
 have H' := Aside0.mk H
 clear H
 go_enter Try.func152, Try.ntmps152
 go_wp2_with (first | ((with_reducible refine gate_dst (N := 3) rfl ?_); refine box_event ?hg (N := 3) ?hd (cs := #[.int .i64 a1_0, .int .i64 a1_1, .int .i64 a1_2, .slice A1_3 l1_3.length c1_3]) (t := 177) ?hr ?_; (case hd => rfl); (case hg => rfl); (case hr => first | (go_simp; done) | (go_simp; rfl)); intro gb380 hg w3 hbox hb; have BK380 := Aside0.mk (hbox); have GW380 := gs_ hg; have GE380 := gs_ hg; replace HB := hbs_ hb; clear hb hbox hg; have hcz4 := blk_cell BK380.out; have hfz4 := blk_frozen BK380.out))
 go_loopg [5, 11] k (fun kq v5 v11 w' => ∃ (x5_1 : Int) (x11_1 : Int), v5 = .int .i64 x5_1 ∧ v11 = .int .i64 x11_1 ∧ Aside0 (impl_sizeBy.l0 kq l0 x5_1 l1_3 (l1_3.length : Int) x11_1 = some r) ∧ Aside0 (kq ≤ k) ∧ Aside0 (w'.heap[gb380]? = some (.cells #[.int .i64 a1_0, .int .i64 a1_1, .int .i64 a1_2, (.slice A1_3 l1_3.length c1_3)] 177 (0, 0))) ∧ Aside0 (Below w.heap.size w w'))
 case atStart => exact ⟨(1), (0), rf_, rf_, H', ⟨Nat.le_refl _⟩, ⟨bk_ BK380⟩, ⟨bl_⟩⟩
 case round =>
  clear H'
  try clear c1
  try clear p2
  try clear hcz4
  try clear hfz4
  obtain ⟨x5_1, x11_1, rfl, rfl, HA, HK1, BK380, HB⟩ := hrel
  cases gk with
  | zero => exact absurd HA.out (by simp [impl_sizeBy.l0])
  | succ k1 =>
   have H := HA.out
   clear HA
   simp only [impl_sizeBy.l0] at H
   by_cases c5 : x11_1 < (l1_3.length : Int)
   ·rw [if_pos c5] at H
    have c5b0 : decide (x11_1 < (l1_3.length : Int)) = true := decide_eq_true c5
    clear c5
    obtain ⟨c6b0, H⟩ := ifd_ H
    obtain ⟨c7b0, H⟩ := ifd_ H
    obtain ⟨c8b0, H⟩ := ifd_ H
    obtain ⟨c9b0, H⟩ := ifd_ H
    by_cases c10 : (rd l0 (rd l1_3 x11_1)) > 1000000
    ·rw [if_pos c10] at H
     have c10b0 : decide (1000000 < (rd l0 (rd l1_3 x11_1))) = true := decide_eq_true c10
     clear c10
     obtain rfl := Option.some.inj H
     have p381 : 0 ≤ (x11_1 : Int) := od_
     have q381 : x11_1 < (l1_3.length : Int) := od_
     obtain ⟨ad381, e381, hx381_0⟩ := Kd.at_int (Kd.C_below HR1_3.out HB.out) x11_1 p381 q381
     cases e381
     replace p381 := eq_true p381
     replace q381 := eq_true q381
     have p382 : 0 ≤ ((rd l1_3 x11_1) : Int) := od_
     have q382 : (rd l1_3 x11_1) < (l0.length : Int) := od_
     obtain ⟨ad382, e382, hx382_0⟩ := Kd.at_int (Kd.C_below HR0.out HB.out) (rd l1_3 x11_1) p382 q382
     cases e382
     replace p382 := eq_true p382
     replace q382 := eq_true q382
     go_wp2
     go_ret
     exact ⟨eq_, bl_⟩
    ·rw [if_neg c10] at H
     have c10b0 : decide (1000000 < (rd l0 (rd l1_3 x11_1))) = false := decide_eq_false c10
     clear c10
     have H' := Aside0.mk H
     clear H
     have p381 : 0 ≤ (x11_1 : Int) := od_
     have q381 : x11_1 < (l1_3.length : Int) := od_
     obtain ⟨ad381, e381, hx381_0⟩ := Kd.at_int (Kd.C_below HR1_3.out HB.out) x11_1 p381 q381
     cases e381
     replace p381 := eq_true p381
     replace q381 := eq_true q381
     have p382 : 0 ≤ ((rd l1_3 x11_1) : Int) := od_
     have q382 : (rd l1_3 x11_1) < (l0.length : Int) := od_
     obtain ⟨ad382, e382, hx382_0⟩ := Kd.at_int (Kd.C_below HR0.out HB.out) (rd l1_3 x11_1) p382 q382
     cases e382
     replace p382 := eq_true p382
     replace q382 := eq_true q382
     have p383 : 0 ≤ ((rd l1_3 x11_1) : Int) := od_
     have q383 : (rd l1_3 x11_1) < (l0.length : Int) := od_
     obtain ⟨ad383, e383, hx383_0⟩ := Kd.at_int HR0.out (rd l1_3 x11_1) p383 q383
     obtain rfl : ad382 = ad383 := (by injection e383)
     replace hx383_0 := cb_ HB hx383_0
     replace p383 := eq_true p383
     replace q383 := eq_true q383
     go_wp2
     go_roundg k1
     case measure => have := HK1.out; omega
     case rel => exact ⟨(wrap64 (x5_1 + (rd l0 (rd l1_3 x11_1)))), (wrap64 (x11_1 + 1)), rf_, rf_, H', ⟨by have := HK1.out; omega⟩, ⟨bk_ BK380⟩, ⟨bl_⟩⟩
   ·rw [if_neg c5] at H
    have c5b0 : decide (x11_1 < (l1_3.length : Int)) = false := decide_eq_false c5
    clear c5
    obtain ⟨ji11, hji11⟩ : ∃ j_ : Int, (mn x5_1 1000000) = j_ := ⟨_, rfl⟩
    replace H : (some ji11) = some r := by first | (rw [hji11] at H; exact H) | (simp only [hji11] at H ⊢; exact H)
    have hji11_ : (if 1000000 < x5_1 then 1000000 else x5_1) = ji11 := hji11
    obtain rfl := Option.some.inj H
    go_wp2
    go_ret
    exact ⟨by first | rfl | (simp [errW_none, errW_some] <;> rfl) | (simp only [← hji11]; first | rfl | (simp [errW_none, errW_some] <;> rfl)) | (simp [*, errW_none, errW_some] <;> rfl), bl_⟩
end Go.Proofs.Ytppdmcimddhbaaa.PG
