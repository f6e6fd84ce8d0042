import Derived.Test.YtcbhmcpdnokbiaaKLPAx3
import Derived.Test.YtcbhmcpdnokbiaaKLPAx8
-- printed by wip/tools
namespace Go.Proofs.Ytcbhmcpdnokbiaa.PA
open Go.RowKit Go.Proofs.YtcbhmcpdnokbiaaW.PrintWords Go.Proofs.YtcbhmcpdnokbiaaW.PrintLast Go.Proofs.YtcbhmcpdnokbiaaW.PrintMore
attribute [local go_sem] max2_int min2_int max_two min_two max_three min_three max_four min_four
set_option linter.unusedVariables false
set_option linter.unusedSimpArgs false
attribute [local go_sem high] eqA46
mutual
def spec_CredsIn.l0 : Nat → List (S63) → List (S46) → Int → Option ((List (S46)))
 | 0, _, _, _ => none
 | k + 1, x0, x3, x4 => if x4 < (x0.length : Int) then (spec_CredsIn.l1 k x0 x3 x4 false 0) else (some x3)
def spec_CredsIn.l1 : Nat → List (S63) → List (S46) → Int → Bool → Int → Option ((List (S46)))
 | 0, _, _, _, _, _ => none
 | k + 1, x0, x3, x4, x5, x6 => if x6 < (x3.length : Int) then (if x5 = true then (spec_CredsIn.l1 k x0 x3 x4 true (wrap64 (x6 + 1))) else (if 0 ≤ x6 then (if 0 ≤ x4 then (if x4 < (x0.length : Int) then (spec_CredsIn.l1 k x0 x3 x4 (((rd_T46 x3 x6).f0) == ((rd_T63 x0 x4).f0.f0) && ((((rd_T46 x3 x6).f1.f0) == ((rd_T63 x0 x4).f0.f1.f0) && (((rd_T46 x3 x6).f1.f1) == ((rd_T63 x0 x4).f0.f1.f1))) && (((rd_T46 x3 x6).f2) == ((rd_T63 x0 x4).f0.f2) && ((((rd_T46 x3 x6).f3.f0) == ((rd_T63 x0 x4).f0.f3.f0) && (((rd_T46 x3 x6).f3.f1) == ((rd_T63 x0 x4).f0.f3.f1))) && ((((rd_T46 x3 x6).f4.f0) == ((rd_T63 x0 x4).f0.f4.f0) && (((rd_T46 x3 x6).f4.f1) == ((rd_T63 x0 x4).f0.f4.f1))) && (((rd_T46 x3 x6).f5) == ((rd_T63 x0 x4).f0.f5) && (((rd_T46 x3 x6).f6) == ((rd_T63 x0 x4).f0.f6)))))))) (wrap64 (x6 + 1))) else (none)) else (none)) else (none))) else (if x5 = true then (spec_CredsIn.l0 k x0 x3 (wrap64 (x4 + 1))) else (if 0 ≤ x4 then (if x4 < (x0.length : Int) then (if x3.length < 1759218604441 then (spec_CredsIn.l0 k x0 (x3 ++ [(⟨(rd_T63 x0 x4).f0.f0, (⟨(rd_T63 x0 x4).f0.f1.f0, (rd_T63 x0 x4).f0.f1.f1⟩ : S27), (rd_T63 x0 x4).f0.f2, (⟨(rd_T63 x0 x4).f0.f3.f0, (rd_T63 x0 x4).f0.f3.f1⟩ : S27), (⟨(rd_T63 x0 x4).f0.f4.f0, (rd_T63 x0 x4).f0.f4.f1⟩ : S27), (rd_T63 x0 x4).f0.f5, (rd_T63 x0 x4).f0.f6⟩ : S46)]) (wrap64 (x4 + 1))) else (none)) else (none)) else (none)))
end
def spec_CredsIn.f (k : Nat) (l0 : List (S63)) : Option ((List (S46))) := spec_CredsIn.l0 k l0 (([] : List (S46))) 0
set_option maxHeartbeats 8000000 in
set_option maxRecDepth 100000 in
theorem spec_CredsIn.calls (k : Nat) (A0 : Option Addr) (c0 : Nat) (l0 : List (S63)) (r : List (S46)) (w : World) (hr0 : Kd.C k63 w A0 l0.length l0) (hc0 : l0.length ≤ c0) (h : spec_CredsIn.f k l0 = some r) :
  Calls Try.prog 16 #[.slice A0 l0.length c0] w fun e w' => ∃ v0_ : Value, e = .returned (v0_) ∧ Kd.R k46 46 w' w.heap.size (fun _ => True) v0_ r ∧ Below w.heap.size w w' := by
 have hu46 := Try.underlying46
 have HR0 := aa_ hr0
 have HC0 := aa_ hc0
 clear hr0 hc0
 have HB := aa_ (Below.refl w.heap.size w)
 have H : (spec_CredsIn.l0 k l0 (([] : List (S46))) 0) = some r := h
 clear h
 obtain ⟨y612, hy612⟩ : ∃ y_ : List (S46), y_ = (([] : List (S46))) := ⟨_, rfl⟩
 replace H : (spec_CredsIn.l0 k l0 y612 0) = some r := rh_ hy612 H
 have Ny612 := aa_ hy612
 clear hy612
 have H' := aa_ H
 clear H
 go_enter Try.func16, Try.ntmps16
 go_wp2_with (first | ((with_reducible refine gD_ 7 rfl ?_); refine Kd.R_lit k46 _ 46 ?hg (N := 7) ?hd (xs := ([] : List (S46))) (inner := []) (ok := fun _ => True) (okp := fun _ => True) ?hr ?hp (fun _ hk => hk) trivial (Below.refl _ _) (Nat.le_refl _) (by simp) ?_; (case hd => rfl); (case hg => rfl); (case hr => first | (go_simp; done) | (go_simp; rfl)); (case hp => exact (Reps.none _ _)); intro v613 w2 ho3 hb hg_ hnew_; clear hg_ hnew_; (first | rw [← Ny612.out] at ho3 | (simp only [Int.reduceToNat] at ho3; rw [← Ny612.out] at ho3)); have HO614 := aa_ (Kd.R_lower ho3 bls_); replace HB := hbs_ hb; clear hb ho3))
 repeat (go_quiet (first | ((with_reducible refine gD_ 7 rfl ?_); refine Kd.R_lit k46 _ 46 ?hg (N := 7) ?hd (xs := ([] : List (S46))) (inner := []) (ok := fun _ => True) (okp := fun _ => True) ?hr ?hp (fun _ hk => hk) trivial (Below.refl _ _) (Nat.le_refl _) (by simp) ?_; (case hd => rfl); (case hg => rfl); (case hr => first | (go_simp; done) | (go_simp; rfl)); (case hp => exact (Reps.none _ _)); intro v613 w2 ho3 hb hg_ hnew_; clear hg_ hnew_; (first | rw [← Ny612.out] at ho3 | (simp only [Int.reduceToNat] at ho3; rw [← Ny612.out] at ho3)); have HO614 := aa_ (Kd.R_lower ho3 bls_); replace HB := hbs_ hb; clear hb ho3)); try go_wp2_with (first | ((with_reducible refine gD_ 7 rfl ?_); refine Kd.R_lit k46 _ 46 ?hg (N := 7) ?hd (xs := ([] : List (S46))) (inner := []) (ok := fun _ => True) (okp := fun _ => True) ?hr ?hp (fun _ hk => hk) trivial (Below.refl _ _) (Nat.le_refl _) (by simp) ?_; (case hd => rfl); (case hg => rfl); (case hr => first | (go_simp; done) | (go_simp; rfl)); (case hp => exact (Reps.none _ _)); intro v613 w2 ho3 hb hg_ hnew_; clear hg_ hnew_; (first | rw [← Ny612.out] at ho3 | (simp only [Int.reduceToNat] at ho3; rw [← Ny612.out] at ho3)); have HO614 := aa_ (Kd.R_lower ho3 bls_); replace HB := hbs_ hb; clear hb ho3)))
 go_loopg [3, 4] k (fun kq v3 v4 w' => ∃ (x3_1 : List (S46)) (x4_1 : Int), v4 = .int .i64 x4_1 ∧ Aside0 (spec_CredsIn.l0 kq l0 x3_1 x4_1 = some r) ∧ Aside0 (kq ≤ k) ∧ Aside0 (Kd.R k46 46 w' w.heap.size (fun _ => True) v3 x3_1) ∧ Aside0 (Below w.heap.size w w'))
 case atStart => exact ⟨(y612), (0), rf_, H', ⟨Nat.le_refl _⟩, ⟨rr_ HO614⟩, ⟨bl_⟩⟩
 case round =>
  clear H'
  try clear c1
  try clear p2
  obtain ⟨x3_1, x4_1, rfl, HA, HK1, HO_3, HB⟩ := hrel
  cases gk with
  | zero => exact absurd HA.out (by simp [spec_CredsIn.l0])
  | succ k1 =>
   have H := HA.out
   clear HA
   simp only [spec_CredsIn.l0] at H
   by_cases c4 : x4_1 < (l0.length : Int)
   ·rw [if_pos c4] at H
    have c4b0 : decide (x4_1 < (l0.length : Int)) = true := decide_eq_true c4
    clear c4
    have H' := aa_ H
    clear H
    go_wp2
    repeat (go_quiet (fail); try go_wp2)
    go_loopg [5, 6] k1 (fun kq v5 v6 w' => ∃ (x5_2 : Bool) (x6_2 : Int), v5 = .bool x5_2 ∧ v6 = .int .i64 x6_2 ∧ Aside0 (spec_CredsIn.l1 kq l0 x3_1 x4_1 x5_2 x6_2 = some r) ∧ Aside0 (kq ≤ k1) ∧ Aside0 (Kd.R k46 46 w' w.heap.size (fun _ => True) u3 x3_1) ∧ Aside0 (Below w.heap.size w w'))
    case atStart => exact ⟨(false), (0), rf_, rf_, H', ⟨Nat.le_refl _⟩, ⟨rr_ HO_3⟩, ⟨bl_⟩⟩
    case round =>
     clear H'
     try clear c1
     try clear p2
     try clear c4
     try clear c4b0
     try clear p2
     obtain ⟨x5_2, x6_2, rfl, rfl, HA, HK2, HO_3, HB⟩ := hrel
     cases gk with
     | zero => exact absurd HA.out (by simp [spec_CredsIn.l1])
     | succ k2 =>
      have H := HA.out
      clear HA
      simp only [spec_CredsIn.l1] at H
      by_cases c5 : x6_2 < (x3_1.length : Int)
      ·rw [if_pos c5] at H
       have c5b0 : decide (x6_2 < (x3_1.length : Int)) = true := decide_eq_true c5
       clear c5
       by_cases c6 : x5_2 = true
       ·subst c6
        replace H := ite_t_ H
        have H' := aa_ H
        clear H
        obtain ⟨Ao7, co7, eo7⟩ := Kd.R_slice HO_3.out
        subst eo7
        go_wp2
        repeat (go_quiet (fail); try go_wp2)
        go_roundg k2
        case measure => have := HK1.out; have := HK2.out; omega
        case rel => exact ⟨(true), (wrap64 (x6_2 + 1)), rf_, rf_, H', ⟨by have := HK1.out; have := HK2.out; omega⟩, ⟨rr_ HO_3⟩, ⟨bl_⟩⟩
       ·replace c6 := Bool.eq_false_iff.mpr c6
        subst c6
        replace H := ite_f_ H
        obtain ⟨c8b0, H⟩ := ifd_ H
        obtain ⟨c9b0, H⟩ := ifd_ H
        obtain ⟨c10b0, H⟩ := ifd_ H
        have H' := aa_ H
        clear H
        obtain ⟨Ao11, co11, eo11⟩ := Kd.R_slice HO_3.out
        subst eo11
        have p615 : 0 ≤ (x6_2 : Int) := od_
        have q615 : x6_2 < (x3_1.length : Int) := od_
        obtain ⟨ad615, e615, hx615_0, hx615_1, hx615_2, hx615_3, hx615_4, hx615_5, hx615_6, hx615_7, hx615_8, hx615_9⟩ := at_T46 (Kd.R_reads' HO_3.out).2.2 x6_2 p615 q615
        cases e615
        replace p615 := eq_true p615
        replace q615 := eq_true q615
        have p616 : 0 ≤ (x4_1 : Int) := od_
        have q616 : x4_1 < (l0.length : Int) := od_
        obtain ⟨ad616, A616_13, c616_13, e616, hx616_0, hx616_1, hx616_2, hx616_3, hx616_4, hx616_5, hx616_6, hx616_7, hx616_8, hx616_9, hx616_10, hx616_11, hx616_12, hx616_13, hl616_13, hi616_13⟩ := at_T63 HR0.out x4_1 p616 q616
        cases e616
        replace hx616_0 := cb_ HB hx616_0
        replace hx616_1 := cb_ HB hx616_1
        replace hx616_2 := cb_ HB hx616_2
        replace hx616_3 := cb_ HB hx616_3
        replace hx616_4 := cb_ HB hx616_4
        replace hx616_5 := cb_ HB hx616_5
        replace hx616_6 := cb_ HB hx616_6
        replace hx616_7 := cb_ HB hx616_7
        replace hx616_8 := cb_ HB hx616_8
        replace hx616_9 := cb_ HB hx616_9
        replace hx616_10 := cb_ HB hx616_10
        replace hx616_11 := cb_ HB hx616_11
        replace hx616_12 := cb_ HB hx616_12
        replace hx616_13 := cb_ HB hx616_13
        have HR616_13 := aa_ hi616_13
        have HC616_13 := aa_ hl616_13
        clear hi616_13 hl616_13
        replace p616 := eq_true p616
        replace q616 := eq_true q616
        go_wp2
        repeat (go_quiet (fail); try go_wp2)
        go_roundg k2
        case measure => have := HK1.out; have := HK2.out; omega
        case rel => exact ⟨((((rd_T46 x3_1 x6_2).f0) == ((rd_T63 l0 x4_1).f0.f0) && ((((rd_T46 x3_1 x6_2).f1.f0) == ((rd_T63 l0 x4_1).f0.f1.f0) && (((rd_T46 x3_1 x6_2).f1.f1) == ((rd_T63 l0 x4_1).f0.f1.f1))) && (((rd_T46 x3_1 x6_2).f2) == ((rd_T63 l0 x4_1).f0.f2) && ((((rd_T46 x3_1 x6_2).f3.f0) == ((rd_T63 l0 x4_1).f0.f3.f0) && (((rd_T46 x3_1 x6_2).f3.f1) == ((rd_T63 l0 x4_1).f0.f3.f1))) && ((((rd_T46 x3_1 x6_2).f4.f0) == ((rd_T63 l0 x4_1).f0.f4.f0) && (((rd_T46 x3_1 x6_2).f4.f1) == ((rd_T63 l0 x4_1).f0.f4.f1))) && (((rd_T46 x3_1 x6_2).f5) == ((rd_T63 l0 x4_1).f0.f5) && (((rd_T46 x3_1 x6_2).f6) == ((rd_T63 l0 x4_1).f0.f6))))))))), (wrap64 (x6_2 + 1)), rf_, rf_, H', ⟨by have := HK1.out; have := HK2.out; omega⟩, ⟨rr_ HO_3⟩, ⟨bl_⟩⟩
      ·rw [if_neg c5] at H
       have c5b0 : decide (x6_2 < (x3_1.length : Int)) = false := decide_eq_false c5
       clear c5
       by_cases c12 : x5_2 = true
       ·subst c12
        replace H := ite_t_ H
        have H' := aa_ H
        clear H
        obtain ⟨Ao13, co13, eo13⟩ := Kd.R_slice HO_3.out
        subst eo13
        go_wp2
        repeat (go_quiet (fail); try go_wp2)
        go_roundg k2
        case measure => have := HK1.out; have := HK2.out; omega
        case rel => exact ⟨(x3_1), (wrap64 (x4_1 + 1)), rf_, H', ⟨by have := HK1.out; have := HK2.out; omega⟩, ⟨rr_ HO_3⟩, ⟨bl_⟩⟩
       ·replace c12 := Bool.eq_false_iff.mpr c12
        subst c12
        replace H := ite_f_ H
        obtain ⟨c14b0, H⟩ := ifd_ H
        obtain ⟨c15b0, H⟩ := ifd_ H
        obtain ⟨c16, H⟩ := ifn_ H
        have LMc16 := aa_ c16
        clear c16
        obtain ⟨y618, hy618⟩ : ∃ y_ : List (S46), y_ = (x3_1 ++ [(⟨(rd_T63 l0 x4_1).f0.f0, (⟨(rd_T63 l0 x4_1).f0.f1.f0, (rd_T63 l0 x4_1).f0.f1.f1⟩ : S27), (rd_T63 l0 x4_1).f0.f2, (⟨(rd_T63 l0 x4_1).f0.f3.f0, (rd_T63 l0 x4_1).f0.f3.f1⟩ : S27), (⟨(rd_T63 l0 x4_1).f0.f4.f0, (rd_T63 l0 x4_1).f0.f4.f1⟩ : S27), (rd_T63 l0 x4_1).f0.f5, (rd_T63 l0 x4_1).f0.f6⟩ : S46)]) := ⟨_, rfl⟩
        replace H : (spec_CredsIn.l0 k2 l0 y618 (wrap64 (x4_1 + 1))) = some r := rh_ hy618 H
        have Ny618 := aa_ hy618
        clear hy618
        have H' := aa_ H
        clear H
        obtain ⟨Ao17, co17, eo17⟩ := Kd.R_slice HO_3.out
        subst eo17
        have p617 : 0 ≤ (x4_1 : Int) := od_
        have q617 : x4_1 < (l0.length : Int) := od_
        obtain ⟨ad617, A617_13, c617_13, e617, hx617_0, hx617_1, hx617_2, hx617_3, hx617_4, hx617_5, hx617_6, hx617_7, hx617_8, hx617_9, hx617_10, hx617_11, hx617_12, hx617_13, hl617_13, hi617_13⟩ := at_T63 HR0.out x4_1 p617 q617
        cases e617
        replace hx617_0 := cb_ HB hx617_0
        replace hx617_1 := cb_ HB hx617_1
        replace hx617_2 := cb_ HB hx617_2
        replace hx617_3 := cb_ HB hx617_3
        replace hx617_4 := cb_ HB hx617_4
        replace hx617_5 := cb_ HB hx617_5
        replace hx617_6 := cb_ HB hx617_6
        replace hx617_7 := cb_ HB hx617_7
        replace hx617_8 := cb_ HB hx617_8
        replace hx617_9 := cb_ HB hx617_9
        replace hx617_10 := cb_ HB hx617_10
        replace hx617_11 := cb_ HB hx617_11
        replace hx617_12 := cb_ HB hx617_12
        replace hx617_13 := cb_ HB hx617_13
        have HR617_13 := aa_ hi617_13
        have HC617_13 := aa_ hl617_13
        clear hi617_13 hl617_13
        replace p617 := eq_true p617
        replace q617 := eq_true q617
        go_wp2_with (first | ((with_reducible refine gate_builtin (b := .append) (xs := #[.tmp 35, .tmp 41]) rfl ?_); at_builtin; refine Kd.R_append k46 (w0 := w) w.heap.size rfl (.tmp 35) (.tmp 41) 24 46 (.agg #[(.int .i64 0), (.int .i64 0), (.int .i64 0), (.int .i64 0), (.int .i64 0), (.int .i64 0), (.int .i64 0), (.int .i64 0), (.int .i64 0), (.int .i64 0)]) 80 rfl Try.underlying24 info46 rfl (by decide) (by omega) (.slice Ao17 x3_1.length co17) x3_1 (⟨(rd_T63 l0 x4_1).f0.f0, (⟨(rd_T63 l0 x4_1).f0.f1.f0, (rd_T63 l0 x4_1).f0.f1.f1⟩ : S27), (rd_T63 l0 x4_1).f0.f2, (⟨(rd_T63 l0 x4_1).f0.f3.f0, (rd_T63 l0 x4_1).f0.f3.f1⟩ : S27), (⟨(rd_T63 l0 x4_1).f0.f4.f0, (rd_T63 l0 x4_1).f0.f4.f1⟩ : S27), (rd_T63 l0 x4_1).f0.f5, (rd_T63 l0 x4_1).f0.f6⟩ : S46) [.int .i64 ((rd_T63 l0 x4_1).f0.f0), .int .i64 ((rd_T63 l0 x4_1).f0.f1.f0), .int .i64 ((rd_T63 l0 x4_1).f0.f1.f1), .int .i64 ((rd_T63 l0 x4_1).f0.f2), .int .i64 ((rd_T63 l0 x4_1).f0.f3.f0), .int .i64 ((rd_T63 l0 x4_1).f0.f3.f1), .int .i64 ((rd_T63 l0 x4_1).f0.f4.f0), .int .i64 ((rd_T63 l0 x4_1).f0.f4.f1), .int .i64 ((rd_T63 l0 x4_1).f0.f5), .int .i64 ((rd_T63 l0 x4_1).f0.f6)] (fun _ => True) (fun _ => False) rfl rfl ?aP (fun _ hk => hk.elim) ?aF ?aO ?aB ?aS ?aL ?_; (case aP => exact k46_mkM _ _ _ (⟨(rd_T63 l0 x4_1).f0.f0, (⟨(rd_T63 l0 x4_1).f0.f1.f0, (rd_T63 l0 x4_1).f0.f1.f1⟩ : S27), (rd_T63 l0 x4_1).f0.f2, (⟨(rd_T63 l0 x4_1).f0.f3.f0, (rd_T63 l0 x4_1).f0.f3.f1⟩ : S27), (⟨(rd_T63 l0 x4_1).f0.f4.f0, (rd_T63 l0 x4_1).f0.f4.f1⟩ : S27), (rd_T63 l0 x4_1).f0.f5, (rd_T63 l0 x4_1).f0.f6⟩ : S46)); (case aB => exact bl_); (case aF => exact (fun _ _ => trivial)); (case aO => exact (rr_ HO_3)); (case aS => exact bls_); (case aL => have := LMc16.out; omega); intro v619 w18 ho hb hg hat; rw [← Ny618.out] at ho; replace HB := aa_ (hb); have HO620 := aa_ (ho); clear HO_3; clear ho hb hg hat))
        repeat (go_quiet (first | ((with_reducible refine gate_builtin (b := .append) (xs := #[.tmp 35, .tmp 41]) rfl ?_); at_builtin; refine Kd.R_append k46 (w0 := w) w.heap.size rfl (.tmp 35) (.tmp 41) 24 46 (.agg #[(.int .i64 0), (.int .i64 0), (.int .i64 0), (.int .i64 0), (.int .i64 0), (.int .i64 0), (.int .i64 0), (.int .i64 0), (.int .i64 0), (.int .i64 0)]) 80 rfl Try.underlying24 info46 rfl (by decide) (by omega) (.slice Ao17 x3_1.length co17) x3_1 (⟨(rd_T63 l0 x4_1).f0.f0, (⟨(rd_T63 l0 x4_1).f0.f1.f0, (rd_T63 l0 x4_1).f0.f1.f1⟩ : S27), (rd_T63 l0 x4_1).f0.f2, (⟨(rd_T63 l0 x4_1).f0.f3.f0, (rd_T63 l0 x4_1).f0.f3.f1⟩ : S27), (⟨(rd_T63 l0 x4_1).f0.f4.f0, (rd_T63 l0 x4_1).f0.f4.f1⟩ : S27), (rd_T63 l0 x4_1).f0.f5, (rd_T63 l0 x4_1).f0.f6⟩ : S46) [.int .i64 ((rd_T63 l0 x4_1).f0.f0), .int .i64 ((rd_T63 l0 x4_1).f0.f1.f0), .int .i64 ((rd_T63 l0 x4_1).f0.f1.f1), .int .i64 ((rd_T63 l0 x4_1).f0.f2), .int .i64 ((rd_T63 l0 x4_1).f0.f3.f0), .int .i64 ((rd_T63 l0 x4_1).f0.f3.f1), .int .i64 ((rd_T63 l0 x4_1).f0.f4.f0), .int .i64 ((rd_T63 l0 x4_1).f0.f4.f1), .int .i64 ((rd_T63 l0 x4_1).f0.f5), .int .i64 ((rd_T63 l0 x4_1).f0.f6)] (fun _ => True) (fun _ => False) rfl rfl ?aP (fun _ hk => hk.elim) ?aF ?aO ?aB ?aS ?aL ?_; (case aP => exact k46_mkM _ _ _ (⟨(rd_T63 l0 x4_1).f0.f0, (⟨(rd_T63 l0 x4_1).f0.f1.f0, (rd_T63 l0 x4_1).f0.f1.f1⟩ : S27), (rd_T63 l0 x4_1).f0.f2, (⟨(rd_T63 l0 x4_1).f0.f3.f0, (rd_T63 l0 x4_1).f0.f3.f1⟩ : S27), (⟨(rd_T63 l0 x4_1).f0.f4.f0, (rd_T63 l0 x4_1).f0.f4.f1⟩ : S27), (rd_T63 l0 x4_1).f0.f5, (rd_T63 l0 x4_1).f0.f6⟩ : S46)); (case aB => exact bl_); (case aF => exact (fun _ _ => trivial)); (case aO => exact (rr_ HO_3)); (case aS => exact bls_); (case aL => have := LMc16.out; omega); intro v619 w18 ho hb hg hat; rw [← Ny618.out] at ho; replace HB := aa_ (hb); have HO620 := aa_ (ho); clear HO_3; clear ho hb hg hat)); try go_wp2_with (first | ((with_reducible refine gate_builtin (b := .append) (xs := #[.tmp 35, .tmp 41]) rfl ?_); at_builtin; refine Kd.R_append k46 (w0 := w) w.heap.size rfl (.tmp 35) (.tmp 41) 24 46 (.agg #[(.int .i64 0), (.int .i64 0), (.int .i64 0), (.int .i64 0), (.int .i64 0), (.int .i64 0), (.int .i64 0), (.int .i64 0), (.int .i64 0), (.int .i64 0)]) 80 rfl Try.underlying24 info46 rfl (by decide) (by omega) (.slice Ao17 x3_1.length co17) x3_1 (⟨(rd_T63 l0 x4_1).f0.f0, (⟨(rd_T63 l0 x4_1).f0.f1.f0, (rd_T63 l0 x4_1).f0.f1.f1⟩ : S27), (rd_T63 l0 x4_1).f0.f2, (⟨(rd_T63 l0 x4_1).f0.f3.f0, (rd_T63 l0 x4_1).f0.f3.f1⟩ : S27), (⟨(rd_T63 l0 x4_1).f0.f4.f0, (rd_T63 l0 x4_1).f0.f4.f1⟩ : S27), (rd_T63 l0 x4_1).f0.f5, (rd_T63 l0 x4_1).f0.f6⟩ : S46) [.int .i64 ((rd_T63 l0 x4_1).f0.f0), .int .i64 ((rd_T63 l0 x4_1).f0.f1.f0), .int .i64 ((rd_T63 l0 x4_1).f0.f1.f1), .int .i64 ((rd_T63 l0 x4_1).f0.f2), .int .i64 ((rd_T63 l0 x4_1).f0.f3.f0), .int .i64 ((rd_T63 l0 x4_1).f0.f3.f1), .int .i64 ((rd_T63 l0 x4_1).f0.f4.f0), .int .i64 ((rd_T63 l0 x4_1).f0.f4.f1), .int .i64 ((rd_T63 l0 x4_1).f0.f5), .int .i64 ((rd_T63 l0 x4_1).f0.f6)] (fun _ => True) (fun _ => False) rfl rfl ?aP (fun _ hk => hk.elim) ?aF ?aO ?aB ?aS ?aL ?_; (case aP => exact k46_mkM _ _ _ (⟨(rd_T63 l0 x4_1).f0.f0, (⟨(rd_T63 l0 x4_1).f0.f1.f0, (rd_T63 l0 x4_1).f0.f1.f1⟩ : S27), (rd_T63 l0 x4_1).f0.f2, (⟨(rd_T63 l0 x4_1).f0.f3.f0, (rd_T63 l0 x4_1).f0.f3.f1⟩ : S27), (⟨(rd_T63 l0 x4_1).f0.f4.f0, (rd_T63 l0 x4_1).f0.f4.f1⟩ : S27), (rd_T63 l0 x4_1).f0.f5, (rd_T63 l0 x4_1).f0.f6⟩ : S46)); (case aB => exact bl_); (case aF => exact (fun _ _ => trivial)); (case aO => exact (rr_ HO_3)); (case aS => exact bls_); (case aL => have := LMc16.out; omega); intro v619 w18 ho hb hg hat; rw [← Ny618.out] at ho; replace HB := aa_ (hb); have HO620 := aa_ (ho); clear HO_3; clear ho hb hg hat)))
        go_roundg k2
        case measure => have := HK1.out; have := HK2.out; omega
        case rel => exact ⟨(y618), (wrap64 (x4_1 + 1)), rf_, H', ⟨by have := HK1.out; have := HK2.out; omega⟩, ⟨rr_ HO620⟩, ⟨bl_⟩⟩
   ·rw [if_neg c4] at H
    have c4b0 : decide (x4_1 < (l0.length : Int)) = false := decide_eq_false c4
    clear c4
    obtain rfl := Option.some.inj H
    go_wp2
    repeat (go_quiet (fail); try go_wp2)
    go_ret
    exact ⟨_, eq_, by (with_reducible repeat (first | apply Kd.R_alloc | apply Kd.R_drewN | apply Kd.R_drew)); exact HO_3.out, bl_⟩
def spec_IsMember.f (k : Nat) (l0 : List (S46)) (a1_0 : Int) (a1_1 : Int) (a2 : Int) : Option (Bool) := (spec_FactsOf.f k l0).bind fun t622 => ((spec_l06Has.f k t622 a1_0 a1_1 a2).bind fun t625 => (some t625))
set_option maxHeartbeats 8000000 in
set_option maxRecDepth 100000 in
theorem spec_IsMember.calls (k : Nat) (A0 : Option Addr) (c0 : Nat) (l0 : List (S46)) (a1_0 : Int) (a1_1 : Int) (a2 : Int) (r : Bool) (w : World) (hr0 : Kd.C k46 w A0 l0.length l0) (hc0 : l0.length ≤ c0) (h : spec_IsMember.f k l0 a1_0 a1_1 a2 = some r) :
  Calls Try.prog 17 #[.slice A0 l0.length c0, .agg #[.int .i64 a1_0, .int .i64 a1_1], .int .i64 a2] w fun e w' => e = .returned (.bool r) ∧ Below w.heap.size w w' := by
 have hu27 := Try.underlying27
 have hu29 := Try.underlying29
 have HR0 := aa_ hr0
 have HC0 := aa_ hc0
 clear hr0 hc0
 have HB := aa_ (Below.refl w.heap.size w)
 have H : ((spec_FactsOf.f k l0).bind fun t622 => ((spec_l06Has.f k t622 a1_0 a1_1 a2).bind fun t625 => (some t625))) = some r := h
 clear h
 obtain ⟨t622, A4, H⟩ := bindE_ H
 obtain ⟨t625, A5, H⟩ := bindE_ H
 obtain rfl := Option.some.inj H
 go_enter Try.func17, Try.ntmps17
 try go_wp2_with (first | ((with_reducible refine gD_ 4 rfl ?_); refine bx_ (N := 4) (cs := #[.int .i64 a1_0, .int .i64 a1_1]) (t := 27) ?_; intro gb621 hg w6 hbox hb; have BK621 := aa_ (hbox); have GW621 := gs_ hg; have GE621 := gs_ hg; replace HB := hbs_ hb; clear hb hbox hg))
 replace BK621 := aa_ (blk_drew BK621.out)
 replace HB := aa_ (below_drew1 HB.out)
 refine start_ (n := 7) (S := fun w' => w'.cell? ⟨gb621, 0, none⟩ = some (.int .i64 a1_0) ∧ w'.cell? ⟨gb621, 1, none⟩ = some (.int .i64 a1_1)) (ds := []) #[false, false, false, false, false, false, false] (by kernel_rfl) rfl rfl ⟨(blk_cell BK621.out 0).trans rfl, (blk_cell BK621.out 1).trans rfl⟩ (fun hHeld => ?_)
 generalize w6.drew = w7 at BK621 HB hHeld ⊢
 refine pure_ (i := 0) (N := some 7) (v := ?_) (a' := ?_) #[true, false, false, false, false, false, false] rfl rfl (by kernel_rfl) (fun _ _ _ h => h) (Or.inl ⟨by rfl, ?_⟩) ?_ ?_
 rotate_left
 ·intro w'
  go_simp
  with_reducible rfl
 rotate_left
 ·simp only [Act.put, List.setIfInBounds_toArray, List.set_cons_zero, List.set_cons_succ, i64_w, i32_w]
  rfl
 refine pure_ (i := 3) (N := some 10) (v := ?_) (a' := ?_) #[true, false, false, true, false, false, false] rfl rfl (by kernel_rfl) (fun _ _ _ h => h) (Or.inl ⟨by rfl, ?_⟩) ?_ ?_
 rotate_left
 ·intro w'
  go_simp
  with_reducible rfl
 rotate_left
 ·simp only [Act.put, List.setIfInBounds_toArray, List.set_cons_zero, List.set_cons_succ, i64_w, i32_w]
  rfl
 refine take_ (i := 2) (N := some 9) (v := ?_) (a' := ?_) #[true, false, true, true, false, false, false] rfl rfl (by kernel_rfl) (fun _ _ _ h => h) (Or.inl ⟨by rfl, ?_⟩) hHeld ?_ ?_
 rotate_left
 ·rintro w' ⟨s0, s1⟩
  go_simp
  with_reducible rfl
 rotate_left
 ·simp only [Act.put, List.setIfInBounds_toArray, List.set_cons_zero, List.set_cons_succ, i64_w, i32_w]
  rfl
 refine pure_ (i := 4) (N := some 11) (v := ?_) (a' := ?_) #[true, false, true, true, true, false, false] rfl rfl (by kernel_rfl) (fun _ _ _ h => h) (Or.inl ⟨by rfl, ?_⟩) ?_ ?_
 rotate_left
 ·intro w'
  go_simp
  with_reducible rfl
 rotate_left
 ·simp only [Act.put, List.setIfInBounds_toArray, List.set_cons_zero, List.set_cons_succ, i64_w, i32_w]
  rfl
 refine one_ (i := 1) (N := some 8) #[true, true, true, true, true, false, false] rfl rfl (by kernel_rfl) (by decide) (fun K hK => ?_)
 refine goes_ Try.func22 (by kernel_rfl) rfl #[.slice A0 l0.length c0] (by rfl) rfl rfl (by (try simp only [List.map_toArray, List.map_cons, List.map_nil]); first | done | rfl | (simp only [List.length_drop, List.length_take]; rfl)) ?_
 with_reducible refine (spec_FactsOf.calls k _ _ l0 t622 _ ?side1 ?side2 A4.out).mono ?_
 (case side1 => repeat (first | exact (Kd.C_below HR0.out HB.out) | (with_reducible refine Kd.C_alloc ?_ _) | (with_reducible refine Kd.C_drewN ?_ _) | (with_reducible refine Kd.C_drew ?_)))
 (case side2 => exact HC0.out)
 rintro e w8 ⟨v623, rfl, ho0, hb⟩
 refine ⟨_, rfl, ?_⟩
 have HO624 := aa_ (Kd.R_lower ho0 bls_)
 replace BK621 := bkb_ BK621 hb
 replace HB := hbs_ hb
 (try clear hb)
 (try clear hb2)
 (try clear hk)
 (try clear hi)
 (try clear ho0)
 obtain ⟨Ao9, co9, eo9⟩ := Kd.R_slice HO624.out
 (first | subst eo9 | (injection eo9 with f1_ f2_ f3_; have f4_ := f1_.symm; have f5_ := f3_.symm; clear f1_ f2_ f3_; subst f4_; subst f5_))
 refine hK.out _ _ ⟨(blk_cell BK621.out 0).trans rfl, (blk_cell BK621.out 1).trans rfl⟩ (fun hHeld => ?_)
 clear hK K
 refine norm_ (a' := ?_) ?_ ?_
 rotate_left
 ·show Act.put _ (some 8) _ = _
  simp only [Act.put, List.setIfInBounds_toArray, List.set_cons_zero, List.set_cons_succ, i64_w, i32_w]
  rfl
 refine one_ (i := 5) (N := some 12) #[true, true, true, true, true, true, false] rfl rfl (by kernel_rfl) (by decide) (fun K hK => ?_)
 refine goes_ Try.func26 (by kernel_rfl) rfl #[.slice Ao9 t622.length co9, .agg #[.int .i64 a1_0, .int .i64 a1_1, .int .i64 a2]] (by rfl) rfl rfl (by (try simp only [List.map_toArray, List.map_cons, List.map_nil]); first | done | rfl | (simp only [List.length_drop, List.length_take]; rfl)) ?_
 with_reducible refine (spec_l06Has.calls k _ _ t622 a1_0 a1_1 a2 t625 _ ?side1 ?side2 A5.out).mono ?_
 (case side1 => repeat (first | exact (Kd.R_reads' HO624.out).2.2 | (with_reducible refine Kd.C_alloc ?_ _) | (with_reducible refine Kd.C_drewN ?_ _) | (with_reducible refine Kd.C_drew ?_)))
 (case side2 => exact (Kd.R_reads' HO624.out).2.1)
 rintro e w10 ⟨rfl, hb⟩
 refine ⟨_, rfl, ?_⟩
 replace HO624 := hob_ HO624 hb
 replace BK621 := bkb_ BK621 hb
 replace HB := hbs_ hb
 (try clear hb)
 (try clear hb2)
 (try clear hk)
 (try clear hi)
 refine hK.out _ _ ⟨(blk_cell BK621.out 0).trans rfl, (blk_cell BK621.out 1).trans rfl⟩ (fun hHeld => ?_)
 clear hK K
 refine norm_ (a' := ?_) ?_ ?_
 rotate_left
 ·show Act.put _ (some 12) _ = _
  simp only [Act.put, List.setIfInBounds_toArray, List.set_cons_zero, List.set_cons_succ, i64_w, i32_w]
  rfl
 refine pure_ (i := 6) (N := some 6) (v := ?_) (a' := ?_) #[true, true, true, true, true, true, true] rfl rfl (by kernel_rfl) (fun _ _ _ h => h) (Or.inl ⟨by rfl, ?_⟩) ?_ ?_
 rotate_left
 ·intro w'
  go_simp
  with_reducible rfl
 rotate_left
 ·simp only [Act.put, List.setIfInBounds_toArray, List.set_cons_zero, List.set_cons_succ, i64_w, i32_w]
  rfl
 refine done_ (by kernel_rfl) ?_
 try go_wp2
 go_ret
 exact ⟨eq_, bl_⟩
end Go.Proofs.Ytcbhmcpdnokbiaa.PA
