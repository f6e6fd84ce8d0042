import Derived.Test.YtcnjbkfnijnpnaaKSPAx2
import Derived.Test.YtcnjbkfnijnpnaaKSPAx3
-- printed by wip/tools
namespace Go.Proofs.Ytcnjbkfnijnpnaa.PA
open Go.RowKit Go.Proofs.YtcnjbkfnijnpnaaW.PrintWords Go.Proofs.YtcnjbkfnijnpnaaW.PrintLast Go.Proofs.YtcnjbkfnijnpnaaW.PrintMore
attribute [local go_sem] max2_int min2_int max_two min_two max_three min_three max_four min_four
set_option linter.unusedVariables false
set_option linter.unusedSimpArgs false
attribute [local go_sem high] eqA55 eqA57 eqA61
mutual
def spec_CredsIn.l0 : Nat → List (S80) → List (S61) → Int → Option ((List (S61)))
 | 0, _, _, _ => none
 | k + 1, x0, x3, x4 => if x4 < (x0.length : Int) then (spec_CredsIn.l1 k x0 x3 x4 false 0) else (some x3)
def spec_CredsIn.l1 : Nat → List (S80) → List (S61) → Int → Bool → Int → Option ((List (S61)))
 | 0, _, _, _, _, _ => none
 | k + 1, x0, x3, x4, x5, x6 => if x6 < (x3.length : Int) then (if x5 = true then (spec_CredsIn.l1 k x0 x3 x4 true (wrap64 (x6 + 1))) else (if 0 ≤ x6 then (if 0 ≤ x4 then (if x4 < (x0.length : Int) then (spec_CredsIn.l1 k x0 x3 x4 (((rd_T61 x3 x6).f0) == ((rd_T80 x0 x4).f0.f0) && ((((rd_T61 x3 x6).f1.f0) == ((rd_T80 x0 x4).f0.f1.f0) && (((rd_T61 x3 x6).f1.f1) == ((rd_T80 x0 x4).f0.f1.f1))) && (((rd_T61 x3 x6).f2) == ((rd_T80 x0 x4).f0.f2) && ((((rd_T61 x3 x6).f3.f0) == ((rd_T80 x0 x4).f0.f3.f0) && (((rd_T61 x3 x6).f3.f1) == ((rd_T80 x0 x4).f0.f3.f1))) && ((((rd_T61 x3 x6).f4.f0) == ((rd_T80 x0 x4).f0.f4.f0) && (((rd_T61 x3 x6).f4.f1) == ((rd_T80 x0 x4).f0.f4.f1))) && (((rd_T61 x3 x6).f5) == ((rd_T80 x0 x4).f0.f5) && (((rd_T61 x3 x6).f6) == ((rd_T80 x0 x4).f0.f6)))))))) (wrap64 (x6 + 1))) else (none)) else (none)) else (none))) else (if x5 = true then (spec_CredsIn.l0 k x0 x3 (wrap64 (x4 + 1))) else (if 0 ≤ x4 then (if x4 < (x0.length : Int) then (if x3.length < 1759218604441 then (spec_CredsIn.l0 k x0 (x3 ++ [(⟨(rd_T80 x0 x4).f0.f0, (⟨(rd_T80 x0 x4).f0.f1.f0, (rd_T80 x0 x4).f0.f1.f1⟩ : S55), (rd_T80 x0 x4).f0.f2, (⟨(rd_T80 x0 x4).f0.f3.f0, (rd_T80 x0 x4).f0.f3.f1⟩ : S55), (⟨(rd_T80 x0 x4).f0.f4.f0, (rd_T80 x0 x4).f0.f4.f1⟩ : S55), (rd_T80 x0 x4).f0.f5, (rd_T80 x0 x4).f0.f6⟩ : S61)]) (wrap64 (x4 + 1))) else (none)) else (none)) else (none)))
end
def spec_CredsIn.f (k : Nat) (l0 : List (S80)) : Option ((List (S61))) := spec_CredsIn.l0 k l0 (([] : List (S61))) 0
set_option maxHeartbeats 8000000 in
set_option maxRecDepth 100000 in
theorem spec_CredsIn.calls (k : Nat) (A0 : Option Addr) (c0 : Nat) (l0 : List (S80)) (r : List (S61)) (w : World) (hr0 : Kd.C k80 w A0 l0.length l0) (hc0 : l0.length ≤ c0) (h : spec_CredsIn.f k l0 = some r) :
  Calls Try.prog 14 #[.slice A0 l0.length c0] w fun e w' => ∃ v0_ : Value, e = .returned (v0_) ∧ Kd.R k61 61 w' w.heap.size (fun _ => True) v0_ r ∧ Below w.heap.size w w' := by
 have hu61 := Try.underlying61
 have HR0 := aa_ hr0
 have HC0 := aa_ hc0
 clear hr0 hc0
 have HB := aa_ (Below.refl w.heap.size w)
 have H : (spec_CredsIn.l0 k l0 (([] : List (S61))) 0) = some r := h
 clear h
 obtain ⟨y132, hy132⟩ : ∃ y_ : List (S61), y_ = (([] : List (S61))) := ⟨_, rfl⟩
 replace H : (spec_CredsIn.l0 k l0 y132 0) = some r := rh_ hy132 H
 have Ny132 := aa_ hy132
 clear hy132
 have H' := aa_ H
 clear H
 go_enter Try.func14, Try.ntmps14
 go_wp2_with (first | ((with_reducible refine gD_ 7 rfl ?_); refine Kd.R_lit k61 _ 61 ?hg (N := 7) ?hd (xs := ([] : List (S61))) (inner := []) (ok := fun _ => True) (okp := fun _ => True) ?hr ?hp (fun _ hk => hk) trivial (Below.refl _ _) (Nat.le_refl _) (by simp) ?_; (case hd => rfl); (case hg => rfl); (case hr => first | (go_simp; done) | (go_simp; rfl)); (case hp => exact (Reps.none _ _)); intro v133 w2 ho3 hb hg_ hnew_; clear hg_ hnew_; (first | rw [← Ny132.out] at ho3 | (simp only [Int.reduceToNat] at ho3; rw [← Ny132.out] at ho3)); have HO134 := aa_ (Kd.R_lower ho3 bls_); replace HB := hbs_ hb; clear hb ho3))
 repeat (go_quiet (first | ((with_reducible refine gD_ 7 rfl ?_); refine Kd.R_lit k61 _ 61 ?hg (N := 7) ?hd (xs := ([] : List (S61))) (inner := []) (ok := fun _ => True) (okp := fun _ => True) ?hr ?hp (fun _ hk => hk) trivial (Below.refl _ _) (Nat.le_refl _) (by simp) ?_; (case hd => rfl); (case hg => rfl); (case hr => first | (go_simp; done) | (go_simp; rfl)); (case hp => exact (Reps.none _ _)); intro v133 w2 ho3 hb hg_ hnew_; clear hg_ hnew_; (first | rw [← Ny132.out] at ho3 | (simp only [Int.reduceToNat] at ho3; rw [← Ny132.out] at ho3)); have HO134 := aa_ (Kd.R_lower ho3 bls_); replace HB := hbs_ hb; clear hb ho3)); try go_wp2_with (first | ((with_reducible refine gD_ 7 rfl ?_); refine Kd.R_lit k61 _ 61 ?hg (N := 7) ?hd (xs := ([] : List (S61))) (inner := []) (ok := fun _ => True) (okp := fun _ => True) ?hr ?hp (fun _ hk => hk) trivial (Below.refl _ _) (Nat.le_refl _) (by simp) ?_; (case hd => rfl); (case hg => rfl); (case hr => first | (go_simp; done) | (go_simp; rfl)); (case hp => exact (Reps.none _ _)); intro v133 w2 ho3 hb hg_ hnew_; clear hg_ hnew_; (first | rw [← Ny132.out] at ho3 | (simp only [Int.reduceToNat] at ho3; rw [← Ny132.out] at ho3)); have HO134 := aa_ (Kd.R_lower ho3 bls_); replace HB := hbs_ hb; clear hb ho3)))
 go_loopg [3, 4] k (fun kq v3 v4 w' => ∃ (x3_1 : List (S61)) (x4_1 : Int), v4 = .int .i64 x4_1 ∧ Aside0 (spec_CredsIn.l0 kq l0 x3_1 x4_1 = some r) ∧ Aside0 (kq ≤ k) ∧ Aside0 (Kd.R k61 61 w' w.heap.size (fun _ => True) v3 x3_1) ∧ Aside0 (Below w.heap.size w w'))
 case atStart => exact ⟨(y132), (0), rf_, H', ⟨Nat.le_refl _⟩, ⟨rr_ HO134⟩, ⟨bl_⟩⟩
 case round =>
  clear H'
  try clear c1
  try clear p2
  obtain ⟨x3_1, x4_1, rfl, HA, HK1, HO_3, HB⟩ := hrel
  cases gk with
  | zero => exact absurd HA.out (by simp [spec_CredsIn.l0])
  | succ k1 =>
   have H := HA.out
   clear HA
   simp only [spec_CredsIn.l0] at H
   by_cases c4 : x4_1 < (l0.length : Int)
   ·rw [if_pos c4] at H
    have c4b0 : decide (x4_1 < (l0.length : Int)) = true := decide_eq_true c4
    clear c4
    have H' := aa_ H
    clear H
    go_wp2
    repeat (go_quiet (fail); try go_wp2)
    go_loopg [5, 6] k1 (fun kq v5 v6 w' => ∃ (x5_2 : Bool) (x6_2 : Int), v5 = .bool x5_2 ∧ v6 = .int .i64 x6_2 ∧ Aside0 (spec_CredsIn.l1 kq l0 x3_1 x4_1 x5_2 x6_2 = some r) ∧ Aside0 (kq ≤ k1) ∧ Aside0 (Kd.R k61 61 w' w.heap.size (fun _ => True) u3 x3_1) ∧ Aside0 (Below w.heap.size w w'))
    case atStart => exact ⟨(false), (0), rf_, rf_, H', ⟨Nat.le_refl _⟩, ⟨rr_ HO_3⟩, ⟨bl_⟩⟩
    case round =>
     clear H'
     try clear c1
     try clear p2
     try clear c4
     try clear c4b0
     try clear p2
     obtain ⟨x5_2, x6_2, rfl, rfl, HA, HK2, HO_3, HB⟩ := hrel
     cases gk with
     | zero => exact absurd HA.out (by simp [spec_CredsIn.l1])
     | succ k2 =>
      have H := HA.out
      clear HA
      simp only [spec_CredsIn.l1] at H
      by_cases c5 : x6_2 < (x3_1.length : Int)
      ·rw [if_pos c5] at H
       have c5b0 : decide (x6_2 < (x3_1.length : Int)) = true := decide_eq_true c5
       clear c5
       by_cases c6 : x5_2 = true
       ·subst c6
        replace H := ite_t_ H
        have H' := aa_ H
        clear H
        obtain ⟨Ao7, co7, eo7⟩ := Kd.R_slice HO_3.out
        subst eo7
        go_wp2
        repeat (go_quiet (fail); try go_wp2)
        go_roundg k2
        case measure => have := HK1.out; have := HK2.out; omega
        case rel => exact ⟨(true), (wrap64 (x6_2 + 1)), rf_, rf_, H', ⟨by have := HK1.out; have := HK2.out; omega⟩, ⟨rr_ HO_3⟩, ⟨bl_⟩⟩
       ·replace c6 := Bool.eq_false_iff.mpr c6
        subst c6
        replace H := ite_f_ H
        obtain ⟨c8b0, H⟩ := ifd_ H
        obtain ⟨c9b0, H⟩ := ifd_ H
        obtain ⟨c10b0, H⟩ := ifd_ H
        have H' := aa_ H
        clear H
        obtain ⟨Ao11, co11, eo11⟩ := Kd.R_slice HO_3.out
        subst eo11
        have p135 : 0 ≤ (x6_2 : Int) := od_
        have q135 : x6_2 < (x3_1.length : Int) := od_
        obtain ⟨ad135, e135, hx135_0, hx135_1, hx135_2, hx135_3, hx135_4, hx135_5, hx135_6, hx135_7, hx135_8, hx135_9⟩ := at_T61 (Kd.R_reads' HO_3.out).2.2 x6_2 p135 q135
        cases e135
        replace p135 := eq_true p135
        replace q135 := eq_true q135
        have p136 : 0 ≤ (x4_1 : Int) := od_
        have q136 : x4_1 < (l0.length : Int) := od_
        obtain ⟨ad136, A136_13, c136_13, e136, hx136_0, hx136_1, hx136_2, hx136_3, hx136_4, hx136_5, hx136_6, hx136_7, hx136_8, hx136_9, hx136_10, hx136_11, hx136_12, hx136_13, hl136_13, hi136_13⟩ := at_T80 HR0.out x4_1 p136 q136
        cases e136
        replace hx136_0 := cb_ HB hx136_0
        replace hx136_1 := cb_ HB hx136_1
        replace hx136_2 := cb_ HB hx136_2
        replace hx136_3 := cb_ HB hx136_3
        replace hx136_4 := cb_ HB hx136_4
        replace hx136_5 := cb_ HB hx136_5
        replace hx136_6 := cb_ HB hx136_6
        replace hx136_7 := cb_ HB hx136_7
        replace hx136_8 := cb_ HB hx136_8
        replace hx136_9 := cb_ HB hx136_9
        replace hx136_10 := cb_ HB hx136_10
        replace hx136_11 := cb_ HB hx136_11
        replace hx136_12 := cb_ HB hx136_12
        replace hx136_13 := cb_ HB hx136_13
        have HR136_13 := aa_ hi136_13
        have HC136_13 := aa_ hl136_13
        clear hi136_13 hl136_13
        replace p136 := eq_true p136
        replace q136 := eq_true q136
        go_wp2
        repeat (go_quiet (fail); try go_wp2)
        go_roundg k2
        case measure => have := HK1.out; have := HK2.out; omega
        case rel => exact ⟨((((rd_T61 x3_1 x6_2).f0) == ((rd_T80 l0 x4_1).f0.f0) && ((((rd_T61 x3_1 x6_2).f1.f0) == ((rd_T80 l0 x4_1).f0.f1.f0) && (((rd_T61 x3_1 x6_2).f1.f1) == ((rd_T80 l0 x4_1).f0.f1.f1))) && (((rd_T61 x3_1 x6_2).f2) == ((rd_T80 l0 x4_1).f0.f2) && ((((rd_T61 x3_1 x6_2).f3.f0) == ((rd_T80 l0 x4_1).f0.f3.f0) && (((rd_T61 x3_1 x6_2).f3.f1) == ((rd_T80 l0 x4_1).f0.f3.f1))) && ((((rd_T61 x3_1 x6_2).f4.f0) == ((rd_T80 l0 x4_1).f0.f4.f0) && (((rd_T61 x3_1 x6_2).f4.f1) == ((rd_T80 l0 x4_1).f0.f4.f1))) && (((rd_T61 x3_1 x6_2).f5) == ((rd_T80 l0 x4_1).f0.f5) && (((rd_T61 x3_1 x6_2).f6) == ((rd_T80 l0 x4_1).f0.f6))))))))), (wrap64 (x6_2 + 1)), rf_, rf_, H', ⟨by have := HK1.out; have := HK2.out; omega⟩, ⟨rr_ HO_3⟩, ⟨bl_⟩⟩
      ·rw [if_neg c5] at H
       have c5b0 : decide (x6_2 < (x3_1.length : Int)) = false := decide_eq_false c5
       clear c5
       by_cases c12 : x5_2 = true
       ·subst c12
        replace H := ite_t_ H
        have H' := aa_ H
        clear H
        obtain ⟨Ao13, co13, eo13⟩ := Kd.R_slice HO_3.out
        subst eo13
        go_wp2
        repeat (go_quiet (fail); try go_wp2)
        go_roundg k2
        case measure => have := HK1.out; have := HK2.out; omega
        case rel => exact ⟨(x3_1), (wrap64 (x4_1 + 1)), rf_, H', ⟨by have := HK1.out; have := HK2.out; omega⟩, ⟨rr_ HO_3⟩, ⟨bl_⟩⟩
       ·replace c12 := Bool.eq_false_iff.mpr c12
        subst c12
        replace H := ite_f_ H
        obtain ⟨c14b0, H⟩ := ifd_ H
        obtain ⟨c15b0, H⟩ := ifd_ H
        obtain ⟨c16, H⟩ := ifn_ H
        have LMc16 := aa_ c16
        clear c16
        obtain ⟨y138, hy138⟩ : ∃ y_ : List (S61), y_ = (x3_1 ++ [(⟨(rd_T80 l0 x4_1).f0.f0, (⟨(rd_T80 l0 x4_1).f0.f1.f0, (rd_T80 l0 x4_1).f0.f1.f1⟩ : S55), (rd_T80 l0 x4_1).f0.f2, (⟨(rd_T80 l0 x4_1).f0.f3.f0, (rd_T80 l0 x4_1).f0.f3.f1⟩ : S55), (⟨(rd_T80 l0 x4_1).f0.f4.f0, (rd_T80 l0 x4_1).f0.f4.f1⟩ : S55), (rd_T80 l0 x4_1).f0.f5, (rd_T80 l0 x4_1).f0.f6⟩ : S61)]) := ⟨_, rfl⟩
        replace H : (spec_CredsIn.l0 k2 l0 y138 (wrap64 (x4_1 + 1))) = some r := rh_ hy138 H
        have Ny138 := aa_ hy138
        clear hy138
        have H' := aa_ H
        clear H
        obtain ⟨Ao17, co17, eo17⟩ := Kd.R_slice HO_3.out
        subst eo17
        have p137 : 0 ≤ (x4_1 : Int) := od_
        have q137 : x4_1 < (l0.length : Int) := od_
        obtain ⟨ad137, A137_13, c137_13, e137, hx137_0, hx137_1, hx137_2, hx137_3, hx137_4, hx137_5, hx137_6, hx137_7, hx137_8, hx137_9, hx137_10, hx137_11, hx137_12, hx137_13, hl137_13, hi137_13⟩ := at_T80 HR0.out x4_1 p137 q137
        cases e137
        replace hx137_0 := cb_ HB hx137_0
        replace hx137_1 := cb_ HB hx137_1
        replace hx137_2 := cb_ HB hx137_2
        replace hx137_3 := cb_ HB hx137_3
        replace hx137_4 := cb_ HB hx137_4
        replace hx137_5 := cb_ HB hx137_5
        replace hx137_6 := cb_ HB hx137_6
        replace hx137_7 := cb_ HB hx137_7
        replace hx137_8 := cb_ HB hx137_8
        replace hx137_9 := cb_ HB hx137_9
        replace hx137_10 := cb_ HB hx137_10
        replace hx137_11 := cb_ HB hx137_11
        replace hx137_12 := cb_ HB hx137_12
        replace hx137_13 := cb_ HB hx137_13
        have HR137_13 := aa_ hi137_13
        have HC137_13 := aa_ hl137_13
        clear hi137_13 hl137_13
        replace p137 := eq_true p137
        replace q137 := eq_true q137
        go_wp2_with (first | ((with_reducible refine gate_builtin (b := .append) (xs := #[.tmp 35, .tmp 41]) rfl ?_); at_builtin; refine Kd.R_append k61 (w0 := w) w.heap.size rfl (.tmp 35) (.tmp 41) 36 61 (.agg #[(.int .i64 0), (.int .i64 0), (.int .i64 0), (.int .i64 0), (.int .i64 0), (.int .i64 0), (.int .i64 0), (.int .i64 0), (.int .i64 0), (.int .i64 0)]) 80 rfl Try.underlying36 info61 rfl (by decide) (by omega) (.slice Ao17 x3_1.length co17) x3_1 (⟨(rd_T80 l0 x4_1).f0.f0, (⟨(rd_T80 l0 x4_1).f0.f1.f0, (rd_T80 l0 x4_1).f0.f1.f1⟩ : S55), (rd_T80 l0 x4_1).f0.f2, (⟨(rd_T80 l0 x4_1).f0.f3.f0, (rd_T80 l0 x4_1).f0.f3.f1⟩ : S55), (⟨(rd_T80 l0 x4_1).f0.f4.f0, (rd_T80 l0 x4_1).f0.f4.f1⟩ : S55), (rd_T80 l0 x4_1).f0.f5, (rd_T80 l0 x4_1).f0.f6⟩ : S61) [.int .i64 ((rd_T80 l0 x4_1).f0.f0), .int .i64 ((rd_T80 l0 x4_1).f0.f1.f0), .int .i64 ((rd_T80 l0 x4_1).f0.f1.f1), .int .i64 ((rd_T80 l0 x4_1).f0.f2), .int .i64 ((rd_T80 l0 x4_1).f0.f3.f0), .int .i64 ((rd_T80 l0 x4_1).f0.f3.f1), .int .i64 ((rd_T80 l0 x4_1).f0.f4.f0), .int .i64 ((rd_T80 l0 x4_1).f0.f4.f1), .int .i64 ((rd_T80 l0 x4_1).f0.f5), .int .i64 ((rd_T80 l0 x4_1).f0.f6)] (fun _ => True) (fun _ => False) rfl rfl ?aP (fun _ hk => hk.elim) ?aF ?aO ?aB ?aS ?aL ?_; (case aP => exact k61_mkM _ _ _ (⟨(rd_T80 l0 x4_1).f0.f0, (⟨(rd_T80 l0 x4_1).f0.f1.f0, (rd_T80 l0 x4_1).f0.f1.f1⟩ : S55), (rd_T80 l0 x4_1).f0.f2, (⟨(rd_T80 l0 x4_1).f0.f3.f0, (rd_T80 l0 x4_1).f0.f3.f1⟩ : S55), (⟨(rd_T80 l0 x4_1).f0.f4.f0, (rd_T80 l0 x4_1).f0.f4.f1⟩ : S55), (rd_T80 l0 x4_1).f0.f5, (rd_T80 l0 x4_1).f0.f6⟩ : S61)); (case aB => exact bl_); (case aF => exact (fun _ _ => trivial)); (case aO => exact (rr_ HO_3)); (case aS => exact bls_); (case aL => have := LMc16.out; omega); intro v139 w18 ho hb hg hat; rw [← Ny138.out] at ho; replace HB := aa_ (hb); have HO140 := aa_ (ho); clear HO_3; clear ho hb hg hat))
        repeat (go_quiet (first | ((with_reducible refine gate_builtin (b := .append) (xs := #[.tmp 35, .tmp 41]) rfl ?_); at_builtin; refine Kd.R_append k61 (w0 := w) w.heap.size rfl (.tmp 35) (.tmp 41) 36 61 (.agg #[(.int .i64 0), (.int .i64 0), (.int .i64 0), (.int .i64 0), (.int .i64 0), (.int .i64 0), (.int .i64 0), (.int .i64 0), (.int .i64 0), (.int .i64 0)]) 80 rfl Try.underlying36 info61 rfl (by decide) (by omega) (.slice Ao17 x3_1.length co17) x3_1 (⟨(rd_T80 l0 x4_1).f0.f0, (⟨(rd_T80 l0 x4_1).f0.f1.f0, (rd_T80 l0 x4_1).f0.f1.f1⟩ : S55), (rd_T80 l0 x4_1).f0.f2, (⟨(rd_T80 l0 x4_1).f0.f3.f0, (rd_T80 l0 x4_1).f0.f3.f1⟩ : S55), (⟨(rd_T80 l0 x4_1).f0.f4.f0, (rd_T80 l0 x4_1).f0.f4.f1⟩ : S55), (rd_T80 l0 x4_1).f0.f5, (rd_T80 l0 x4_1).f0.f6⟩ : S61) [.int .i64 ((rd_T80 l0 x4_1).f0.f0), .int .i64 ((rd_T80 l0 x4_1).f0.f1.f0), .int .i64 ((rd_T80 l0 x4_1).f0.f1.f1), .int .i64 ((rd_T80 l0 x4_1).f0.f2), .int .i64 ((rd_T80 l0 x4_1).f0.f3.f0), .int .i64 ((rd_T80 l0 x4_1).f0.f3.f1), .int .i64 ((rd_T80 l0 x4_1).f0.f4.f0), .int .i64 ((rd_T80 l0 x4_1).f0.f4.f1), .int .i64 ((rd_T80 l0 x4_1).f0.f5), .int .i64 ((rd_T80 l0 x4_1).f0.f6)] (fun _ => True) (fun _ => False) rfl rfl ?aP (fun _ hk => hk.elim) ?aF ?aO ?aB ?aS ?aL ?_; (case aP => exact k61_mkM _ _ _ (⟨(rd_T80 l0 x4_1).f0.f0, (⟨(rd_T80 l0 x4_1).f0.f1.f0, (rd_T80 l0 x4_1).f0.f1.f1⟩ : S55), (rd_T80 l0 x4_1).f0.f2, (⟨(rd_T80 l0 x4_1).f0.f3.f0, (rd_T80 l0 x4_1).f0.f3.f1⟩ : S55), (⟨(rd_T80 l0 x4_1).f0.f4.f0, (rd_T80 l0 x4_1).f0.f4.f1⟩ : S55), (rd_T80 l0 x4_1).f0.f5, (rd_T80 l0 x4_1).f0.f6⟩ : S61)); (case aB => exact bl_); (case aF => exact (fun _ _ => trivial)); (case aO => exact (rr_ HO_3)); (case aS => exact bls_); (case aL => have := LMc16.out; omega); intro v139 w18 ho hb hg hat; rw [← Ny138.out] at ho; replace HB := aa_ (hb); have HO140 := aa_ (ho); clear HO_3; clear ho hb hg hat)); try go_wp2_with (first | ((with_reducible refine gate_builtin (b := .append) (xs := #[.tmp 35, .tmp 41]) rfl ?_); at_builtin; refine Kd.R_append k61 (w0 := w) w.heap.size rfl (.tmp 35) (.tmp 41) 36 61 (.agg #[(.int .i64 0), (.int .i64 0), (.int .i64 0), (.int .i64 0), (.int .i64 0), (.int .i64 0), (.int .i64 0), (.int .i64 0), (.int .i64 0), (.int .i64 0)]) 80 rfl Try.underlying36 info61 rfl (by decide) (by omega) (.slice Ao17 x3_1.length co17) x3_1 (⟨(rd_T80 l0 x4_1).f0.f0, (⟨(rd_T80 l0 x4_1).f0.f1.f0, (rd_T80 l0 x4_1).f0.f1.f1⟩ : S55), (rd_T80 l0 x4_1).f0.f2, (⟨(rd_T80 l0 x4_1).f0.f3.f0, (rd_T80 l0 x4_1).f0.f3.f1⟩ : S55), (⟨(rd_T80 l0 x4_1).f0.f4.f0, (rd_T80 l0 x4_1).f0.f4.f1⟩ : S55), (rd_T80 l0 x4_1).f0.f5, (rd_T80 l0 x4_1).f0.f6⟩ : S61) [.int .i64 ((rd_T80 l0 x4_1).f0.f0), .int .i64 ((rd_T80 l0 x4_1).f0.f1.f0), .int .i64 ((rd_T80 l0 x4_1).f0.f1.f1), .int .i64 ((rd_T80 l0 x4_1).f0.f2), .int .i64 ((rd_T80 l0 x4_1).f0.f3.f0), .int .i64 ((rd_T80 l0 x4_1).f0.f3.f1), .int .i64 ((rd_T80 l0 x4_1).f0.f4.f0), .int .i64 ((rd_T80 l0 x4_1).f0.f4.f1), .int .i64 ((rd_T80 l0 x4_1).f0.f5), .int .i64 ((rd_T80 l0 x4_1).f0.f6)] (fun _ => True) (fun _ => False) rfl rfl ?aP (fun _ hk => hk.elim) ?aF ?aO ?aB ?aS ?aL ?_; (case aP => exact k61_mkM _ _ _ (⟨(rd_T80 l0 x4_1).f0.f0, (⟨(rd_T80 l0 x4_1).f0.f1.f0, (rd_T80 l0 x4_1).f0.f1.f1⟩ : S55), (rd_T80 l0 x4_1).f0.f2, (⟨(rd_T80 l0 x4_1).f0.f3.f0, (rd_T80 l0 x4_1).f0.f3.f1⟩ : S55), (⟨(rd_T80 l0 x4_1).f0.f4.f0, (rd_T80 l0 x4_1).f0.f4.f1⟩ : S55), (rd_T80 l0 x4_1).f0.f5, (rd_T80 l0 x4_1).f0.f6⟩ : S61)); (case aB => exact bl_); (case aF => exact (fun _ _ => trivial)); (case aO => exact (rr_ HO_3)); (case aS => exact bls_); (case aL => have := LMc16.out; omega); intro v139 w18 ho hb hg hat; rw [← Ny138.out] at ho; replace HB := aa_ (hb); have HO140 := aa_ (ho); clear HO_3; clear ho hb hg hat)))
        go_roundg k2
        case measure => have := HK1.out; have := HK2.out; omega
        case rel => exact ⟨(y138), (wrap64 (x4_1 + 1)), rf_, H', ⟨by have := HK1.out; have := HK2.out; omega⟩, ⟨rr_ HO140⟩, ⟨bl_⟩⟩
   ·rw [if_neg c4] at H
    have c4b0 : decide (x4_1 < (l0.length : Int)) = false := decide_eq_false c4
    clear c4
    obtain rfl := Option.some.inj H
    go_wp2
    repeat (go_quiet (fail); try go_wp2)
    go_ret
    exact ⟨_, eq_, by (with_reducible repeat (first | apply Kd.R_alloc | apply Kd.R_drewN | apply Kd.R_drew)); exact HO_3.out, bl_⟩
def spec_l01In.f (a0 : Int) (a1 : Int) (a2 : Int) : Option (Bool) := if a0 ≥ a1 then (some (decide (a0 ≤ a2))) else (some false)
set_option maxHeartbeats 8000000 in
set_option maxRecDepth 100000 in
theorem spec_l01In.calls (a0 : Int) (a1 : Int) (a2 : Int) (r : Bool) (w : World) (h : spec_l01In.f a0 a1 a2 = some r) :
  Calls Try.prog 52 #[.int .i64 a0, .int .i64 a1, .int .i64 a2] w fun e w' => e = .returned (.bool r) ∧ Drawn0 w w' := by
 have H : (if a0 ≥ a1 then (some (decide (a0 ≤ a2))) else (some false)) = some r := h
 clear h
 by_cases c4 : a0 ≥ a1
 ·rw [if_pos c4] at H
  have c4b0 : decide (a1 ≤ a0) = true := decide_eq_true c4
  clear c4
  obtain rfl := Option.some.inj H
  go_enter Try.func52, Try.ntmps52
  go_wp2
  go_ret
  exact ⟨by first | rfl | (simp; done) | (simp [*]; done), by repeat (first | exact Drawn0.refl _ | apply Drawn0.step)⟩
 ·rw [if_neg c4] at H
  have c4b0 : decide (a1 ≤ a0) = false := decide_eq_false c4
  clear c4
  obtain rfl := Option.some.inj H
  go_enter Try.func52, Try.ntmps52
  go_wp2
  go_ret
  exact ⟨by first | rfl | (simp; done) | (simp [*]; done), by repeat (first | exact Drawn0.refl _ | apply Drawn0.step)⟩
def spec_RoleOk.f (a0_0 : Int) (a0_1 : Int) : Option (Bool) := (spec_l01In.f a0_0 0 5).bind fun t142 => (if t142 = true then ((spec_l01In.f a0_1 0 3).bind fun t143 => (some t143)) else (some false))
set_option maxHeartbeats 8000000 in
set_option maxRecDepth 100000 in
theorem spec_RoleOk.calls (a0_0 : Int) (a0_1 : Int) (r : Bool) (w : World) (h : spec_RoleOk.f a0_0 a0_1 = some r) :
  Calls Try.prog 67 #[.agg #[.int .i64 a0_0, .int .i64 a0_1]] w fun e w' => e = .returned (.bool r) ∧ Below w.heap.size w w' := by
 have hu55 := Try.underlying55
 have HB := aa_ (Below.refl w.heap.size w)
 have H : ((spec_l01In.f a0_0 0 5).bind fun t142 => (if t142 = true then ((spec_l01In.f a0_1 0 3).bind fun t143 => (some t143)) else (some false))) = some r := h
 clear h
 obtain ⟨t142, A2, H⟩ := bindE_ H
 by_cases c3 : t142 = true
 ·subst c3
  replace H := ite_t_ H
  obtain ⟨t143, A4, H⟩ := bindE_ H
  obtain rfl := Option.some.inj H
  go_enter Try.func67, Try.ntmps67
  go_wp2_with (first | ((with_reducible refine gD_ 1 rfl ?_); refine bx_ (N := 1) (cs := #[.int .i64 a0_0, .int .i64 a0_1]) (t := 55) ?_; intro gb141 hg w5 hbox hb; have BK141 := aa_ (hbox); have GW141 := gs_ hg; have GE141 := gs_ hg; replace HB := hbs_ hb; clear hb hbox hg; obtain ⟨hcz6, hfz6⟩ := bcf_ BK141) | ((with_reducible refine gC_ 52 rfl ?_); refine goesC_ (some 5) Try.func52 #[.int .i64 a0_0, .int .i64 0, .int .i64 5] ?_; (with_reducible refine (spec_l01In.calls a0_0 0 5 true _ A2.out).mono ?_); rintro e w' ⟨rfl, ⟨nd, rfl⟩⟩; refine ⟨_, rfl, ?_⟩) | (go_at_call 52; (with_reducible refine (spec_l01In.calls a0_1 0 3 t143 _ A4.out).mono ?_); rintro e w' ⟨rfl, ⟨nd, rfl⟩⟩))
  go_ret
  exact ⟨eq_, bl_⟩
 ·replace c3 := Bool.eq_false_iff.mpr c3
  subst c3
  replace H := ite_f_ H
  obtain rfl := Option.some.inj H
  go_enter Try.func67, Try.ntmps67
  go_wp2_with (first | ((with_reducible refine gD_ 1 rfl ?_); refine bx_ (N := 1) (cs := #[.int .i64 a0_0, .int .i64 a0_1]) (t := 55) ?_; intro gb141 hg w7 hbox hb; have BK141 := aa_ (hbox); have GW141 := gs_ hg; have GE141 := gs_ hg; replace HB := hbs_ hb; clear hb hbox hg; obtain ⟨hcz8, hfz8⟩ := bcf_ BK141) | ((with_reducible refine gC_ 52 rfl ?_); refine goesC_ (some 5) Try.func52 #[.int .i64 a0_0, .int .i64 0, .int .i64 5] ?_; (with_reducible refine (spec_l01In.calls a0_0 0 5 false _ A2.out).mono ?_); rintro e w' ⟨rfl, ⟨nd, rfl⟩⟩; refine ⟨_, rfl, ?_⟩))
  go_ret
  exact ⟨eq_, bl_⟩
def spec_CredOk.j0 : Nat → Bool → Int → Int → Int → Int → Int → Int → Int → Int → Int → Int → Option (Bool)
 | 0, _, _, _, _, _, _, _, _, _, _, _ => none
 | k + 1, x19, x145000, x145001, x145002, x145003, x145004, x145005, x145006, x145007, x145008, x145009 => if x19 = true then (some false) else (if x145000 = 1 then ((spec_l01In.f x145003 0 5).bind fun t149 => (if t149 = true then (if (x145004 == 0 && (x145005 == 0)) = true then (some (x145006 == 0 && (x145007 == 0))) else (some false)) else (some false))) else (if x145000 = 2 then (if x145003 = 0 then ((spec_RoleOk.f x145004 x145005).bind fun t150 => (if t150 = true then (some (x145006 == 0 && (x145007 == 0))) else (some false))) else (some false)) else (if x145000 = 3 then (if x145003 = 0 then ((spec_RoleOk.f x145004 x145005).bind fun t151 => (if t151 = true then ((spec_RoleOk.f x145006 x145007).bind fun t152 => (if t152 = true then (some (x145006 == 0)) else (some false))) else (some false))) else (some false)) else (if x145000 = 4 then (if x145003 = 0 then ((spec_RoleOk.f x145004 x145005).bind fun t153 => (if t153 = true then ((spec_RoleOk.f x145006 x145007).bind fun t154 => (some t154)) else (some false))) else (some false)) else (some false)))))
def spec_CredOk.f (k : Nat) (a0_0 : Int) (a0_1 : Int) (a0_2 : Int) (a0_3 : Int) (a0_4 : Int) (a0_5 : Int) (a0_6 : Int) (a0_7 : Int) (a0_8 : Int) (a0_9 : Int) : Option (Bool) := (spec_RoleOk.f a0_1 a0_2).bind fun t145 => (if t145 = true then ((spec_l01In.f a0_8 1 9999).bind fun t146 => (if t146 = true then ((spec_l01In.f a0_9 0 99).bind fun t147 => (spec_CredOk.j0 k (!t147) a0_0 a0_1 a0_2 a0_3 a0_4 a0_5 a0_6 a0_7 a0_8 a0_9)) else (spec_CredOk.j0 k true a0_0 a0_1 a0_2 a0_3 a0_4 a0_5 a0_6 a0_7 a0_8 a0_9))) else (spec_CredOk.j0 k true a0_0 a0_1 a0_2 a0_3 a0_4 a0_5 a0_6 a0_7 a0_8 a0_9))
set_option maxHeartbeats 8000000 in
set_option maxRecDepth 100000 in
theorem spec_CredOk.calls (k : Nat) (a0_0 : Int) (a0_1 : Int) (a0_2 : Int) (a0_3 : Int) (a0_4 : Int) (a0_5 : Int) (a0_6 : Int) (a0_7 : Int) (a0_8 : Int) (a0_9 : Int) (r : Bool) (w : World) (h : spec_CredOk.f k a0_0 a0_1 a0_2 a0_3 a0_4 a0_5 a0_6 a0_7 a0_8 a0_9 = some r) :
  Calls Try.prog 54 #[.agg #[.int .i64 a0_0, .int .i64 a0_1, .int .i64 a0_2, .int .i64 a0_3, .int .i64 a0_4, .int .i64 a0_5, .int .i64 a0_6, .int .i64 a0_7, .int .i64 a0_8, .int .i64 a0_9]] w fun e w' => e = .returned (.bool r) ∧ Below w.heap.size w w' := by
 have hu61 := Try.underlying61
 have hu55 := Try.underlying55
 have HB := aa_ (Below.refl w.heap.size w)
 have H : ((spec_RoleOk.f a0_1 a0_2).bind fun t145 => (if t145 = true then ((spec_l01In.f a0_8 1 9999).bind fun t146 => (if t146 = true then ((spec_l01In.f a0_9 0 99).bind fun t147 => (spec_CredOk.j0 k (!t147) a0_0 a0_1 a0_2 a0_3 a0_4 a0_5 a0_6 a0_7 a0_8 a0_9)) else (spec_CredOk.j0 k true a0_0 a0_1 a0_2 a0_3 a0_4 a0_5 a0_6 a0_7 a0_8 a0_9))) else (spec_CredOk.j0 k true a0_0 a0_1 a0_2 a0_3 a0_4 a0_5 a0_6 a0_7 a0_8 a0_9))) = some r := h
 clear h
 have HC2 := aa_ H
 clear H
 go_enter Try.func54, Try.ntmps54
 go_upto_region 1 with (first | ((with_reducible refine gD_ 1 rfl ?_); refine bx_ (N := 1) (cs := #[.int .i64 a0_0, .int .i64 a0_1, .int .i64 a0_2, .int .i64 a0_3, .int .i64 a0_4, .int .i64 a0_5, .int .i64 a0_6, .int .i64 a0_7, .int .i64 a0_8, .int .i64 a0_9]) (t := 61) ?_; intro gb144 hg w3 hbox hb; have BK144 := aa_ (hbox); have GW144 := gs_ hg; have GE144 := gs_ hg; replace HB := hbs_ hb; clear hb hbox hg))
 (try simp only [Act.put, List.setIfInBounds_toArray, List.set_cons_zero, List.set_cons_succ])
 go_cut [19] (fun v19 wc => ∃ (kq : Nat) (x19_1 : Bool), v19 = .bool x19_1 ∧ Aside0 (spec_CredOk.j0 kq x19_1 a0_0 a0_1 a0_2 a0_3 a0_4 a0_5 a0_6 a0_7 a0_8 a0_9 = some r) ∧ Aside0 (kq ≤ k) ∧ Aside0 (wc.heap[gb144]? = some (.cells #[.int .i64 a0_0, .int .i64 a0_1, .int .i64 a0_2, .int .i64 a0_3, .int .i64 a0_4, .int .i64 a0_5, .int .i64 a0_6, .int .i64 a0_7, .int .i64 a0_8, .int .i64 a0_9] 61 (0, 0))) ∧ Aside0 (Below w.heap.size w wc))
 case first =>
  have H := HC2.out
  clear HC2
  obtain ⟨t145, A4, H⟩ := bindE_ H
  by_cases c5 : t145 = true
  ·subst c5
   replace H := ite_t_ H
   obtain ⟨t146, A6, H⟩ := bindE_ H
   by_cases c7 : t146 = true
   ·subst c7
    replace H := ite_t_ H
    obtain ⟨t147, A8, H⟩ := bindE_ H
    have H' := aa_ H
    clear H
    have hcz9 := blk_cell BK144.out
    have hfz9 := blk_frozen BK144.out
    go_wp2_with (first | ((with_reducible refine gC_ 67 rfl ?_); refine goesC_ (some 6) Try.func67 #[.agg #[.int .i64 a0_1, .int .i64 a0_2]] ?_; (with_reducible refine (spec_RoleOk.calls a0_1 a0_2 true _ A4.out).mono ?_); rintro e w10 ⟨rfl, hb⟩; refine ⟨_, rfl, ?_⟩; replace BK144 := bkb_ BK144 hb; replace HB := hbs_ hb; clear hb; obtain ⟨hcz11, hfz11⟩ := bcf_ BK144) | (go_at_call 52; (with_reducible refine (spec_l01In.calls a0_8 1 9999 true _ A6.out).mono ?_); rintro e w' ⟨rfl, ⟨nd, rfl⟩⟩) | (go_at_call 52; (with_reducible refine (spec_l01In.calls a0_9 0 99 t147 _ A8.out).mono ?_); rintro e w' ⟨rfl, ⟨nd, rfl⟩⟩))
    go_meet
    case rel => exact ⟨_, (!t147), rf_, H', ⟨by first | omega | exact Nat.le_refl _⟩, ⟨bk_ BK144⟩, ⟨bl_⟩⟩
   ·replace c7 := Bool.eq_false_iff.mpr c7
    subst c7
    replace H := ite_f_ H
    have H' := aa_ H
    clear H
    have hcz12 := blk_cell BK144.out
    have hfz12 := blk_frozen BK144.out
    go_wp2_with (first | ((with_reducible refine gC_ 67 rfl ?_); refine goesC_ (some 6) Try.func67 #[.agg #[.int .i64 a0_1, .int .i64 a0_2]] ?_; (with_reducible refine (spec_RoleOk.calls a0_1 a0_2 true _ A4.out).mono ?_); rintro e w13 ⟨rfl, hb⟩; refine ⟨_, rfl, ?_⟩; replace BK144 := bkb_ BK144 hb; replace HB := hbs_ hb; clear hb; obtain ⟨hcz14, hfz14⟩ := bcf_ BK144) | (go_at_call 52; (with_reducible refine (spec_l01In.calls a0_8 1 9999 false _ A6.out).mono ?_); rintro e w' ⟨rfl, ⟨nd, rfl⟩⟩))
    go_meet
    case rel => exact ⟨_, (true), rf_, H', ⟨by first | omega | exact Nat.le_refl _⟩, ⟨bk_ BK144⟩, ⟨bl_⟩⟩
  ·replace c5 := Bool.eq_false_iff.mpr c5
   subst c5
   replace H := ite_f_ H
   have H' := aa_ H
   clear H
   have hcz15 := blk_cell BK144.out
   have hfz15 := blk_frozen BK144.out
   go_wp2_with (first | ((with_reducible refine gC_ 67 rfl ?_); refine goesC_ (some 6) Try.func67 #[.agg #[.int .i64 a0_1, .int .i64 a0_2]] ?_; (with_reducible refine (spec_RoleOk.calls a0_1 a0_2 false _ A4.out).mono ?_); rintro e w16 ⟨rfl, hb⟩; refine ⟨_, rfl, ?_⟩; replace BK144 := bkb_ BK144 hb; replace HB := hbs_ hb; clear hb))
   go_meet
   case rel => exact ⟨_, (true), rf_, H', ⟨by first | omega | exact Nat.le_refl _⟩, ⟨bk_ BK144⟩, ⟨bl_⟩⟩
 case rest =>
  clear HC2
  try clear p2
  try clear c5
  try clear c6
  try clear c7
  try clear hcz11
  try clear hcz12
  try clear hcz14
  try clear hcz15
  try clear hcz9
  try clear hfz11
  try clear hfz12
  try clear hfz14
  try clear hfz15
  try clear hfz9
  obtain ⟨kq, x19_1, rfl, HA, HJ1, BK144, HB⟩ := hcut
  cases kq with
  | zero => exact absurd HA.out (by simp [spec_CredOk.j0])
  | succ kj1 =>
   have H := HA.out
   clear HA
   simp only [spec_CredOk.j0] at H
   by_cases c17 : x19_1 = true
   ·subst c17
    replace H := ite_t_ H
    obtain rfl := Option.some.inj H
    go_wp2
    go_ret
    exact ⟨eq_, bl_⟩
   ·replace c17 := Bool.eq_false_iff.mpr c17
    subst c17
    replace H := ite_f_ H
    have HC18 := aa_ H
    clear H
    go_upto_if 23 with (first | ((with_reducible refine gD_ 3 rfl ?_); refine bx_ (N := 3) (cs := #[.int .i64 0, .int .i64 0]) (t := 55) ?_; intro gb148 hg w19 hbox hb; have BK148 := aa_ (hbox); have GW148 := gs_ hg; have GE148 := gs_ hg; replace HB := hbs_ hb; have NB144_148 := nl_ hg BK144; have NB148_144 := nr_ hg BK144; replace BK144 := bkb_ BK144 hb; clear hb hbox hg; have hnb20 := NB148_144.out; have hnc20 := NB144_148.out; obtain ⟨hcz21, hfz21⟩ := bcf_ BK148; obtain ⟨hcz22, hfz22⟩ := bcf_ BK144))
    have n0_ : Aside0 (((w19.setCell ⟨gb148, 0, none⟩ (.int .i64 0)).setCell ⟨gb148, 1, none⟩ (.int .i64 0)).heap[gb144]? = some (.cells #[.int .i64 a0_0, .int .i64 a0_1, .int .i64 a0_2, .int .i64 a0_3, .int .i64 a0_4, .int .i64 a0_5, .int .i64 a0_6, .int .i64 a0_7, .int .i64 a0_8, .int .i64 a0_9] 61 (0, 0))) := ⟨bk_ BK144⟩
    have n1_ : Aside0 (((w19.setCell ⟨gb148, 0, none⟩ (.int .i64 0)).setCell ⟨gb148, 1, none⟩ (.int .i64 0)).heap[gb148]? = some (.cells #[.int .i64 0, .int .i64 0] 55 (0, 0))) := ⟨bk_ BK148⟩
    have n2_ : Aside0 (Below w.heap.size w ((w19.setCell ⟨gb148, 0, none⟩ (.int .i64 0)).setCell ⟨gb148, 1, none⟩ (.int .i64 0))) := ⟨bl_⟩
    (try clear BK144)
    (try clear BK148)
    (try clear HB)
    generalize ((w19.setCell ⟨gb148, 0, none⟩ (.int .i64 0)).setCell ⟨gb148, 1, none⟩ (.int .i64 0)) = w23 at n0_ n1_ n2_ ⊢
    have BK144 := n0_
    have BK148 := n1_
    have HB := n2_
    clear n0_ n1_ n2_
    (try simp only [Act.put, List.setIfInBounds_toArray, List.set_cons_zero, List.set_cons_succ])
    have H := HC18.out
    clear HC18
    by_cases c24 : a0_0 = 1
    ·rw [if_pos c24] at H
     have c24b0 : (a0_0 == 1) = true := beq_iff_eq.mpr c24
     have c24b1 : (a0_0 != 1) = false := bne_eq_false_iff_eq.mpr c24
     clear c24
     (first | rw [c24b0] | (simp only [i64_w, i32_w]; rw [c24b0]) | skip)
     obtain ⟨t149, A25, H⟩ := bindE_ H
     by_cases c26 : t149 = true
     ·subst c26
      replace H := ite_t_ H
      by_cases c27 : (a0_4 == 0 && (a0_5 == 0)) = true
      ·rw [if_pos c27] at H
       have c27b0 : (a0_4 == 0 && (a0_5 == 0)) = true := c27
       (try (have c27b1 : decide (a0_4 = 0 && (a0_5 == 0)) = true := by simpa using c27))
       (try (have c27b2 : (a0_4 == 0 && (a0_5 == 0)) = true := by simpa using c27))
       clear c27
       obtain rfl := Option.some.inj H
       have hnb28 := NB144_148.out
       have hnc28 := NB148_144.out
       have hcz29 := blk_cell BK144.out
       have hfz29 := blk_frozen BK144.out
       go_wp2_with (first | ((with_reducible refine gC_ 52 rfl ?_); refine goesC_ (some 27) Try.func52 #[.int .i64 a0_3, .int .i64 0, .int .i64 5] ?_; (with_reducible refine (spec_l01In.calls a0_3 0 5 true _ A25.out).mono ?_); rintro e w' ⟨rfl, ⟨nd, rfl⟩⟩; refine ⟨_, rfl, ?_⟩; obtain ⟨hcz30, hfz30⟩ := bcf_ BK148))
       go_ret
       exact ⟨eq_, bl_⟩
      ·rw [if_neg c27] at H
       have c27b0 : (a0_4 == 0 && (a0_5 == 0)) = false := by simpa using c27
       (try (have c27b1 : decide (a0_4 = 0 && (a0_5 == 0)) = false := by simpa using c27))
       (try (have c27b2 : (a0_4 == 0 && (a0_5 == 0)) = false := by simpa using c27))
       (try (have c27b3 : ¬ (a0_4 = 0 && (a0_5 == 0)) := by simpa using c27))
       clear c27
       obtain rfl := Option.some.inj H
       have hnb31 := NB144_148.out
       have hnc31 := NB148_144.out
       have hcz32 := blk_cell BK144.out
       have hfz32 := blk_frozen BK144.out
       go_wp2_with (first | ((with_reducible refine gC_ 52 rfl ?_); refine goesC_ (some 27) Try.func52 #[.int .i64 a0_3, .int .i64 0, .int .i64 5] ?_; (with_reducible refine (spec_l01In.calls a0_3 0 5 true _ A25.out).mono ?_); rintro e w' ⟨rfl, ⟨nd, rfl⟩⟩; refine ⟨_, rfl, ?_⟩; obtain ⟨hcz33, hfz33⟩ := bcf_ BK148))
       go_ret
       exact ⟨eq_, bl_⟩
     ·replace c26 := Bool.eq_false_iff.mpr c26
      subst c26
      replace H := ite_f_ H
      obtain rfl := Option.some.inj H
      have hnb34 := NB144_148.out
      have hnc34 := NB148_144.out
      have hcz35 := blk_cell BK144.out
      have hfz35 := blk_frozen BK144.out
      go_wp2_with (first | ((with_reducible refine gC_ 52 rfl ?_); refine goesC_ (some 27) Try.func52 #[.int .i64 a0_3, .int .i64 0, .int .i64 5] ?_; (with_reducible refine (spec_l01In.calls a0_3 0 5 false _ A25.out).mono ?_); rintro e w' ⟨rfl, ⟨nd, rfl⟩⟩; refine ⟨_, rfl, ?_⟩))
      go_ret
      exact ⟨eq_, bl_⟩
    ·rw [if_neg c24] at H
     have c24b0 : (a0_0 == 1) = false := beq_eq_false_iff_ne.mpr c24
     have c24b1 : (a0_0 != 1) = true := bne_iff_ne.mpr c24
     (first | rw [c24b0] | (simp only [i64_w, i32_w]; rw [c24b0]) | skip)
     by_cases c36 : a0_0 = 2
     ·rw [if_pos c36] at H
      have c36b0 : (a0_0 == 2) = true := beq_iff_eq.mpr c36
      have c36b1 : (a0_0 != 2) = false := bne_eq_false_iff_eq.mpr c36
      clear c36
      by_cases c37 : a0_3 = 0
      ·rw [if_pos c37] at H
       have c37b0 : (a0_3 == 0) = true := beq_iff_eq.mpr c37
       have c37b1 : (a0_3 != 0) = false := bne_eq_false_iff_eq.mpr c37
       clear c37
       obtain ⟨t150, A38, H⟩ := bindE_ H
       by_cases c39 : t150 = true
       ·subst c39
        replace H := ite_t_ H
        obtain rfl := Option.some.inj H
        have hnb40 := NB144_148.out
        have hnc40 := NB148_144.out
        have hcz41 := blk_cell BK144.out
        have hfz41 := blk_frozen BK144.out
        go_wp2_with (first | (go_at_call 67; (with_reducible refine (spec_RoleOk.calls a0_4 a0_5 true _ A38.out).mono ?_); rintro e w42 ⟨rfl, hb⟩; replace BK144 := bkb_ BK144 hb; replace BK148 := bkb_ BK148 hb; replace HB := hbs_ hb; clear hb; obtain ⟨hcz43, hfz43⟩ := bcf_ BK144; obtain ⟨hcz44, hfz44⟩ := bcf_ BK148))
        go_ret
        exact ⟨eq_, bl_⟩
       ·replace c39 := Bool.eq_false_iff.mpr c39
        subst c39
        replace H := ite_f_ H
        obtain rfl := Option.some.inj H
        have hnb45 := NB144_148.out
        have hnc45 := NB148_144.out
        have hcz46 := blk_cell BK144.out
        have hfz46 := blk_frozen BK144.out
        go_wp2_with (first | (go_at_call 67; (with_reducible refine (spec_RoleOk.calls a0_4 a0_5 false _ A38.out).mono ?_); rintro e w47 ⟨rfl, hb⟩; replace BK144 := bkb_ BK144 hb; replace BK148 := bkb_ BK148 hb; replace HB := hbs_ hb; clear hb))
        go_ret
        exact ⟨eq_, bl_⟩
      ·rw [if_neg c37] at H
       have c37b0 : (a0_3 == 0) = false := beq_eq_false_iff_ne.mpr c37
       have c37b1 : (a0_3 != 0) = true := bne_iff_ne.mpr c37
       obtain rfl := Option.some.inj H
       have hnb48 := NB144_148.out
       have hnc48 := NB148_144.out
       have hcz49 := blk_cell BK144.out
       have hfz49 := blk_frozen BK144.out
       go_wp2
       go_ret
       exact ⟨eq_, bl_⟩
     ·rw [if_neg c36] at H
      have c36b0 : (a0_0 == 2) = false := beq_eq_false_iff_ne.mpr c36
      have c36b1 : (a0_0 != 2) = true := bne_iff_ne.mpr c36
      by_cases c50 : a0_0 = 3
      ·rw [if_pos c50] at H
       have c50b0 : (a0_0 == 3) = true := beq_iff_eq.mpr c50
       have c50b1 : (a0_0 != 3) = false := bne_eq_false_iff_eq.mpr c50
       clear c50
       by_cases c51 : a0_3 = 0
       ·rw [if_pos c51] at H
        have c51b0 : (a0_3 == 0) = true := beq_iff_eq.mpr c51
        have c51b1 : (a0_3 != 0) = false := bne_eq_false_iff_eq.mpr c51
        clear c51
        obtain ⟨t151, A52, H⟩ := bindE_ H
        by_cases c53 : t151 = true
        ·subst c53
         replace H := ite_t_ H
         obtain ⟨t152, A54, H⟩ := bindE_ H
         by_cases c55 : t152 = true
         ·subst c55
          replace H := ite_t_ H
          obtain rfl := Option.some.inj H
          have hnb56 := NB144_148.out
          have hnc56 := NB148_144.out
          have hcz57 := blk_cell BK144.out
          have hfz57 := blk_frozen BK144.out
          go_wp2_with (first | (go_at_call 67; (with_reducible refine (spec_RoleOk.calls a0_4 a0_5 true _ A52.out).mono ?_); rintro e w58 ⟨rfl, hb⟩; replace BK144 := bkb_ BK144 hb; replace BK148 := bkb_ BK148 hb; replace HB := hbs_ hb; clear hb; obtain ⟨hcz59, hfz59⟩ := bcf_ BK144) | (go_at_call 67; (with_reducible refine (spec_RoleOk.calls a0_6 a0_7 true _ A54.out).mono ?_); rintro e w60 ⟨rfl, hb⟩; replace BK144 := bkb_ BK144 hb; replace BK148 := bkb_ BK148 hb; replace HB := hbs_ hb; clear hb; obtain ⟨hcz61, hfz61⟩ := bcf_ BK144))
          go_ret
          exact ⟨eq_, bl_⟩
         ·replace c55 := Bool.eq_false_iff.mpr c55
          subst c55
          replace H := ite_f_ H
          obtain rfl := Option.some.inj H
          have hnb62 := NB144_148.out
          have hnc62 := NB148_144.out
          have hcz63 := blk_cell BK144.out
          have hfz63 := blk_frozen BK144.out
          go_wp2_with (first | (go_at_call 67; (with_reducible refine (spec_RoleOk.calls a0_4 a0_5 true _ A52.out).mono ?_); rintro e w64 ⟨rfl, hb⟩; replace BK144 := bkb_ BK144 hb; replace BK148 := bkb_ BK148 hb; replace HB := hbs_ hb; clear hb; obtain ⟨hcz65, hfz65⟩ := bcf_ BK144) | (go_at_call 67; (with_reducible refine (spec_RoleOk.calls a0_6 a0_7 false _ A54.out).mono ?_); rintro e w66 ⟨rfl, hb⟩; replace BK144 := bkb_ BK144 hb; replace BK148 := bkb_ BK148 hb; replace HB := hbs_ hb; clear hb))
          go_ret
          exact ⟨eq_, bl_⟩
        ·replace c53 := Bool.eq_false_iff.mpr c53
         subst c53
         replace H := ite_f_ H
         obtain rfl := Option.some.inj H
         have hnb67 := NB144_148.out
         have hnc67 := NB148_144.out
         have hcz68 := blk_cell BK144.out
         have hfz68 := blk_frozen BK144.out
         go_wp2_with (first | (go_at_call 67; (with_reducible refine (spec_RoleOk.calls a0_4 a0_5 false _ A52.out).mono ?_); rintro e w69 ⟨rfl, hb⟩; replace BK144 := bkb_ BK144 hb; replace BK148 := bkb_ BK148 hb; replace HB := hbs_ hb; clear hb))
         go_ret
         exact ⟨eq_, bl_⟩
       ·rw [if_neg c51] at H
        have c51b0 : (a0_3 == 0) = false := beq_eq_false_iff_ne.mpr c51
        have c51b1 : (a0_3 != 0) = true := bne_iff_ne.mpr c51
        obtain rfl := Option.some.inj H
        have hnb70 := NB144_148.out
        have hnc70 := NB148_144.out
        have hcz71 := blk_cell BK144.out
        have hfz71 := blk_frozen BK144.out
        go_wp2
        go_ret
        exact ⟨eq_, bl_⟩
      ·rw [if_neg c50] at H
       have c50b0 : (a0_0 == 3) = false := beq_eq_false_iff_ne.mpr c50
       have c50b1 : (a0_0 != 3) = true := bne_iff_ne.mpr c50
       by_cases c72 : a0_0 = 4
       ·rw [if_pos c72] at H
        have c72b0 : (a0_0 == 4) = true := beq_iff_eq.mpr c72
        have c72b1 : (a0_0 != 4) = false := bne_eq_false_iff_eq.mpr c72
        clear c72
        by_cases c73 : a0_3 = 0
        ·rw [if_pos c73] at H
         have c73b0 : (a0_3 == 0) = true := beq_iff_eq.mpr c73
         have c73b1 : (a0_3 != 0) = false := bne_eq_false_iff_eq.mpr c73
         clear c73
         obtain ⟨t153, A74, H⟩ := bindE_ H
         by_cases c75 : t153 = true
         ·subst c75
          replace H := ite_t_ H
          obtain ⟨t154, A76, H⟩ := bindE_ H
          obtain rfl := Option.some.inj H
          have hnb77 := NB144_148.out
          have hnc77 := NB148_144.out
          have hcz78 := blk_cell BK144.out
          have hfz78 := blk_frozen BK144.out
          go_wp2_with (first | (go_at_call 67; (with_reducible refine (spec_RoleOk.calls a0_4 a0_5 true _ A74.out).mono ?_); rintro e w79 ⟨rfl, hb⟩; replace BK144 := bkb_ BK144 hb; replace BK148 := bkb_ BK148 hb; replace HB := hbs_ hb; clear hb; obtain ⟨hcz80, hfz80⟩ := bcf_ BK144) | (go_at_call 67; (with_reducible refine (spec_RoleOk.calls a0_6 a0_7 t154 _ A76.out).mono ?_); rintro e w81 ⟨rfl, hb⟩; replace BK144 := bkb_ BK144 hb; replace BK148 := bkb_ BK148 hb; replace HB := hbs_ hb; clear hb))
          go_ret
          exact ⟨eq_, bl_⟩
         ·replace c75 := Bool.eq_false_iff.mpr c75
          subst c75
          replace H := ite_f_ H
          obtain rfl := Option.some.inj H
          have hnb82 := NB144_148.out
          have hnc82 := NB148_144.out
          have hcz83 := blk_cell BK144.out
          have hfz83 := blk_frozen BK144.out
          go_wp2_with (first | (go_at_call 67; (with_reducible refine (spec_RoleOk.calls a0_4 a0_5 false _ A74.out).mono ?_); rintro e w84 ⟨rfl, hb⟩; replace BK144 := bkb_ BK144 hb; replace BK148 := bkb_ BK148 hb; replace HB := hbs_ hb; clear hb))
          go_ret
          exact ⟨eq_, bl_⟩
        ·rw [if_neg c73] at H
         have c73b0 : (a0_3 == 0) = false := beq_eq_false_iff_ne.mpr c73
         have c73b1 : (a0_3 != 0) = true := bne_iff_ne.mpr c73
         obtain rfl := Option.some.inj H
         have hnb85 := NB144_148.out
         have hnc85 := NB148_144.out
         have hcz86 := blk_cell BK144.out
         have hfz86 := blk_frozen BK144.out
         go_wp2
         go_ret
         exact ⟨eq_, bl_⟩
       ·rw [if_neg c72] at H
        have c72b0 : (a0_0 == 4) = false := beq_eq_false_iff_ne.mpr c72
        have c72b1 : (a0_0 != 4) = true := bne_iff_ne.mpr c72
        obtain rfl := Option.some.inj H
        go_wp2
        go_ret
        exact ⟨eq_, bl_⟩
def spec_l07Shown.l0 : Nat → List (S80) → Int → Int → Int → Int → Int → Option (Bool)
 | 0, _, _, _, _, _, _ => none
 | k + 1, x0, x1, x7, x156000, x156001, x156002 => if 0 ≤ x1 then (if x1 < (x0.length : Int) then (if x7 < (((rd_T80 x0 x1).f2).length : Int) then (if 0 ≤ x7 then ((spec_l01In.f (rd ((rd_T80 x0 x1).f2) x7) 0 (wrap64 (x1 - 1))).bind fun t159 => (if t159 = true then (if 0 ≤ (rd ((rd_T80 x0 x1).f2) x7) then (if (rd ((rd_T80 x0 x1).f2) x7) < (x0.length : Int) then (if ((((rd_T80 x0 (rd ((rd_T80 x0 x1).f2) x7)).f1.f0.f0) == x156000 && (((rd_T80 x0 (rd ((rd_T80 x0 x1).f2) x7)).f1.f0.f1) == x156001)) && (((rd_T80 x0 (rd ((rd_T80 x0 x1).f2) x7)).f1.f1) == x156002)) = true then (some true) else (spec_l07Shown.l0 k x0 x1 (wrap64 (x7 + 1)) x156000 x156001 x156002)) else (none)) else (none)) else (spec_l07Shown.l0 k x0 x1 (wrap64 (x7 + 1)) x156000 x156001 x156002))) else (none)) else (some false)) else (none)) else (none)
def spec_l07Shown.f (k : Nat) (l0 : List (S80)) (a1 : Int) (a2_0 : Int) (a2_1 : Int) (a2_2 : Int) : Option (Bool) := spec_l07Shown.l0 k l0 a1 0 a2_0 a2_1 a2_2
set_option maxHeartbeats 8000000 in
set_option maxRecDepth 100000 in
theorem spec_l07Shown.calls (k : Nat) (A0 : Option Addr) (c0 : Nat) (l0 : List (S80)) (a1 : Int) (a2_0 : Int) (a2_1 : Int) (a2_2 : Int) (r : Bool) (w : World) (hr0 : Kd.C k80 w A0 l0.length l0) (hc0 : l0.length ≤ c0) (h : spec_l07Shown.f k l0 a1 a2_0 a2_1 a2_2 = some r) :
  Calls Try.prog 66 #[.slice A0 l0.length c0, .int .i64 a1, .agg #[.int .i64 a2_0, .int .i64 a2_1, .int .i64 a2_2]] w fun e w' => e = .returned (.bool r) ∧ Below w.heap.size w w' := by
 have hu57 := Try.underlying57
 have HR0 := aa_ hr0
 have HC0 := aa_ hc0
 clear hr0 hc0
 have HB := aa_ (Below.refl w.heap.size w)
 have H : (spec_l07Shown.l0 k l0 a1 0 a2_0 a2_1 a2_2) = some r := h
 clear h
 have H' := aa_ H
 clear H
 go_enter Try.func66, Try.ntmps66
 go_wp2_with (first | ((with_reducible refine gD_ 5 rfl ?_); refine bx_ (N := 5) (cs := #[.int .i64 a2_0, .int .i64 a2_1, .int .i64 a2_2]) (t := 57) ?_; intro gb155 hg w4 hbox hb; have BK155 := aa_ (hbox); have GW155 := gs_ hg; have GE155 := gs_ hg; replace HB := hbs_ hb; clear hb hbox hg))
 repeat (go_quiet (first | ((with_reducible refine gD_ 5 rfl ?_); refine bx_ (N := 5) (cs := #[.int .i64 a2_0, .int .i64 a2_1, .int .i64 a2_2]) (t := 57) ?_; intro gb155 hg w4 hbox hb; have BK155 := aa_ (hbox); have GW155 := gs_ hg; have GE155 := gs_ hg; replace HB := hbs_ hb; clear hb hbox hg)); try go_wp2_with (first | ((with_reducible refine gD_ 5 rfl ?_); refine bx_ (N := 5) (cs := #[.int .i64 a2_0, .int .i64 a2_1, .int .i64 a2_2]) (t := 57) ?_; intro gb155 hg w4 hbox hb; have BK155 := aa_ (hbox); have GW155 := gs_ hg; have GE155 := gs_ hg; replace HB := hbs_ hb; clear hb hbox hg)))
 go_loopg [7] k (fun kq v7 w' => ∃ (x7_1 : Int), v7 = .int .i64 x7_1 ∧ Aside0 (spec_l07Shown.l0 kq l0 a1 x7_1 a2_0 a2_1 a2_2 = some r) ∧ Aside0 (kq ≤ k) ∧ Aside0 (w'.heap[gb155]? = some (.cells #[.int .i64 a2_0, .int .i64 a2_1, .int .i64 a2_2] 57 (0, 0))) ∧ Aside0 (Below w.heap.size w w'))
 case atStart => exact ⟨(0), rf_, H', ⟨Nat.le_refl _⟩, ⟨bk_ BK155⟩, ⟨bl_⟩⟩
 case round =>
  clear H'
  try clear p2
  obtain ⟨x7_1, rfl, HA, HK1, BK155, HB⟩ := hrel
  cases gk with
  | zero => exact absurd HA.out (by simp [spec_l07Shown.l0])
  | succ k1 =>
   have H := HA.out
   clear HA
   simp only [spec_l07Shown.l0] at H
   obtain ⟨c5b0, H⟩ := ifd_ H
   obtain ⟨c6b0, H⟩ := ifd_ H
   by_cases c7 : x7_1 < (((rd_T80 l0 a1).f2).length : Int)
   ·rw [if_pos c7] at H
    have c7b0 : decide (x7_1 < (((rd_T80 l0 a1).f2).length : Int)) = true := decide_eq_true c7
    clear c7
    obtain ⟨c8b0, H⟩ := ifd_ H
    obtain ⟨t159, A9, H⟩ := bindE_ H
    by_cases c10 : t159 = true
    ·subst c10
     replace H := ite_t_ H
     obtain ⟨c11b0, H⟩ := ifd_ H
     obtain ⟨c12b0, H⟩ := ifd_ H
     by_cases c13 : ((((rd_T80 l0 (rd ((rd_T80 l0 a1).f2) x7_1)).f1.f0.f0) == a2_0 && (((rd_T80 l0 (rd ((rd_T80 l0 a1).f2) x7_1)).f1.f0.f1) == a2_1)) && (((rd_T80 l0 (rd ((rd_T80 l0 a1).f2) x7_1)).f1.f1) == a2_2)) = true
     ·rw [if_pos c13] at H
      have c13b0 : ((((rd_T80 l0 (rd ((rd_T80 l0 a1).f2) x7_1)).f1.f0.f0) == a2_0 && (((rd_T80 l0 (rd ((rd_T80 l0 a1).f2) x7_1)).f1.f0.f1) == a2_1)) && (((rd_T80 l0 (rd ((rd_T80 l0 a1).f2) x7_1)).f1.f1) == a2_2)) = true := c13
      clear c13
      obtain rfl := Option.some.inj H
      have p156 : 0 ≤ (a1 : Int) := od_
      have q156 : a1 < (l0.length : Int) := od_
      obtain ⟨ad156, A156_13, c156_13, e156, hx156_0, hx156_1, hx156_2, hx156_3, hx156_4, hx156_5, hx156_6, hx156_7, hx156_8, hx156_9, hx156_10, hx156_11, hx156_12, hx156_13, hl156_13, hi156_13⟩ := at_T80 HR0.out a1 p156 q156
      cases e156
      replace hx156_0 := cb_ HB hx156_0
      replace hx156_1 := cb_ HB hx156_1
      replace hx156_2 := cb_ HB hx156_2
      replace hx156_3 := cb_ HB hx156_3
      replace hx156_4 := cb_ HB hx156_4
      replace hx156_5 := cb_ HB hx156_5
      replace hx156_6 := cb_ HB hx156_6
      replace hx156_7 := cb_ HB hx156_7
      replace hx156_8 := cb_ HB hx156_8
      replace hx156_9 := cb_ HB hx156_9
      replace hx156_10 := cb_ HB hx156_10
      replace hx156_11 := cb_ HB hx156_11
      replace hx156_12 := cb_ HB hx156_12
      replace hx156_13 := cb_ HB hx156_13
      have HR156_13 := aa_ hi156_13
      have HC156_13 := aa_ hl156_13
      clear hi156_13 hl156_13
      replace p156 := eq_true p156
      replace q156 := eq_true q156
      have p157 : 0 ≤ (a1 : Int) := od_
      have q157 : a1 < (l0.length : Int) := od_
      obtain ⟨ad157, A157_13, c157_13, e157, hx157_0, hx157_1, hx157_2, hx157_3, hx157_4, hx157_5, hx157_6, hx157_7, hx157_8, hx157_9, hx157_10, hx157_11, hx157_12, hx157_13, hl157_13, hi157_13⟩ := at_T80 HR0.out a1 p157 q157
      obtain rfl : ad156 = ad157 := (by injection e157)
      replace hx157_0 := cb_ HB hx157_0
      replace hx157_1 := cb_ HB hx157_1
      replace hx157_2 := cb_ HB hx157_2
      replace hx157_3 := cb_ HB hx157_3
      replace hx157_4 := cb_ HB hx157_4
      replace hx157_5 := cb_ HB hx157_5
      replace hx157_6 := cb_ HB hx157_6
      replace hx157_7 := cb_ HB hx157_7
      replace hx157_8 := cb_ HB hx157_8
      replace hx157_9 := cb_ HB hx157_9
      replace hx157_10 := cb_ HB hx157_10
      replace hx157_11 := cb_ HB hx157_11
      replace hx157_12 := cb_ HB hx157_12
      replace hx157_13 := cb_ HB hx157_13
      have HR157_13 := aa_ hi157_13
      have HC157_13 := aa_ hl157_13
      clear hi157_13 hl157_13
      replace p157 := eq_true p157
      replace q157 := eq_true q157
      have ea_ := Option.some.inj (hx156_13.symm.trans hx157_13)
      injection ea_ with ea_ en_ ec_
      subst ea_
      subst ec_
      clear en_
      have p158 : 0 ≤ (x7_1 : Int) := od_
      have q158 : x7_1 < (((rd_T80 l0 a1).f2).length : Int) := od_
      obtain ⟨ad158, e158, hx158_0⟩ := Kd.at_int (Kd.C_below HR157_13.out HB.out) x7_1 p158 q158
      cases e158
      replace p158 := eq_true p158
      replace q158 := eq_true q158
      have p160 : 0 ≤ ((rd ((rd_T80 l0 a1).f2) x7_1) : Int) := od_
      have q160 : (rd ((rd_T80 l0 a1).f2) x7_1) < (l0.length : Int) := od_
      obtain ⟨ad160, A160_13, c160_13, e160, hx160_0, hx160_1, hx160_2, hx160_3, hx160_4, hx160_5, hx160_6, hx160_7, hx160_8, hx160_9, hx160_10, hx160_11, hx160_12, hx160_13, hl160_13, hi160_13⟩ := at_T80 HR0.out (rd ((rd_T80 l0 a1).f2) x7_1) p160 q160
      obtain rfl : ad156 = ad160 := (by injection e160)
      replace hx160_0 := cb_ HB hx160_0
      replace hx160_1 := cb_ HB hx160_1
      replace hx160_2 := cb_ HB hx160_2
      replace hx160_3 := cb_ HB hx160_3
      replace hx160_4 := cb_ HB hx160_4
      replace hx160_5 := cb_ HB hx160_5
      replace hx160_6 := cb_ HB hx160_6
      replace hx160_7 := cb_ HB hx160_7
      replace hx160_8 := cb_ HB hx160_8
      replace hx160_9 := cb_ HB hx160_9
      replace hx160_10 := cb_ HB hx160_10
      replace hx160_11 := cb_ HB hx160_11
      replace hx160_12 := cb_ HB hx160_12
      replace hx160_13 := cb_ HB hx160_13
      have HR160_13 := aa_ hi160_13
      have HC160_13 := aa_ hl160_13
      clear hi160_13 hl160_13
      replace p160 := eq_true p160
      replace q160 := eq_true q160
      have hcz14 := blk_cell BK155.out
      have hfz14 := blk_frozen BK155.out
      go_wp2_with (first | (go_at_call 52; (with_reducible refine (spec_l01In.calls (rd ((rd_T80 l0 a1).f2) x7_1) 0 (wrap64 (a1 - 1)) true _ A9.out).mono ?_); rintro e w' ⟨rfl, ⟨nd, rfl⟩⟩; (try first | exact ⟨rfl, _, World.drewN_drewN _ _ _⟩ | exact ⟨rfl, _, Eq.trans (World.drewN_drewN _ _ _) (congrArg (World.drewN _) (Nat.add_assoc _ _ _))⟩)))
      repeat (go_quiet (first | (go_at_call 52; (with_reducible refine (spec_l01In.calls (rd ((rd_T80 l0 a1).f2) x7_1) 0 (wrap64 (a1 - 1)) true _ A9.out).mono ?_); rintro e w' ⟨rfl, ⟨nd, rfl⟩⟩; (try first | exact ⟨rfl, _, World.drewN_drewN _ _ _⟩ | exact ⟨rfl, _, Eq.trans (World.drewN_drewN _ _ _) (congrArg (World.drewN _) (Nat.add_assoc _ _ _))⟩))); try go_wp2_with (first | (go_at_call 52; (with_reducible refine (spec_l01In.calls (rd ((rd_T80 l0 a1).f2) x7_1) 0 (wrap64 (a1 - 1)) true _ A9.out).mono ?_); rintro e w' ⟨rfl, ⟨nd, rfl⟩⟩; (try first | exact ⟨rfl, _, World.drewN_drewN _ _ _⟩ | exact ⟨rfl, _, Eq.trans (World.drewN_drewN _ _ _) (congrArg (World.drewN _) (Nat.add_assoc _ _ _))⟩))))
      go_ret
      exact ⟨eq_, bl_⟩
     ·rw [if_neg c13] at H
      have c13b0 : ((((rd_T80 l0 (rd ((rd_T80 l0 a1).f2) x7_1)).f1.f0.f0) == a2_0 && (((rd_T80 l0 (rd ((rd_T80 l0 a1).f2) x7_1)).f1.f0.f1) == a2_1)) && (((rd_T80 l0 (rd ((rd_T80 l0 a1).f2) x7_1)).f1.f1) == a2_2)) = false := by simpa using c13
      clear c13
      have H' := aa_ H
      clear H
      have p156 : 0 ≤ (a1 : Int) := od_
      have q156 : a1 < (l0.length : Int) := od_
      obtain ⟨ad156, A156_13, c156_13, e156, hx156_0, hx156_1, hx156_2, hx156_3, hx156_4, hx156_5, hx156_6, hx156_7, hx156_8, hx156_9, hx156_10, hx156_11, hx156_12, hx156_13, hl156_13, hi156_13⟩ := at_T80 HR0.out a1 p156 q156
      cases e156
      replace hx156_0 := cb_ HB hx156_0
      replace hx156_1 := cb_ HB hx156_1
      replace hx156_2 := cb_ HB hx156_2
      replace hx156_3 := cb_ HB hx156_3
      replace hx156_4 := cb_ HB hx156_4
      replace hx156_5 := cb_ HB hx156_5
      replace hx156_6 := cb_ HB hx156_6
      replace hx156_7 := cb_ HB hx156_7
      replace hx156_8 := cb_ HB hx156_8
      replace hx156_9 := cb_ HB hx156_9
      replace hx156_10 := cb_ HB hx156_10
      replace hx156_11 := cb_ HB hx156_11
      replace hx156_12 := cb_ HB hx156_12
      replace hx156_13 := cb_ HB hx156_13
      have HR156_13 := aa_ hi156_13
      have HC156_13 := aa_ hl156_13
      clear hi156_13 hl156_13
      replace p156 := eq_true p156
      replace q156 := eq_true q156
      have p157 : 0 ≤ (a1 : Int) := od_
      have q157 : a1 < (l0.length : Int) := od_
      obtain ⟨ad157, A157_13, c157_13, e157, hx157_0, hx157_1, hx157_2, hx157_3, hx157_4, hx157_5, hx157_6, hx157_7, hx157_8, hx157_9, hx157_10, hx157_11, hx157_12, hx157_13, hl157_13, hi157_13⟩ := at_T80 HR0.out a1 p157 q157
      obtain rfl : ad156 = ad157 := (by injection e157)
      replace hx157_0 := cb_ HB hx157_0
      replace hx157_1 := cb_ HB hx157_1
      replace hx157_2 := cb_ HB hx157_2
      replace hx157_3 := cb_ HB hx157_3
      replace hx157_4 := cb_ HB hx157_4
      replace hx157_5 := cb_ HB hx157_5
      replace hx157_6 := cb_ HB hx157_6
      replace hx157_7 := cb_ HB hx157_7
      replace hx157_8 := cb_ HB hx157_8
      replace hx157_9 := cb_ HB hx157_9
      replace hx157_10 := cb_ HB hx157_10
      replace hx157_11 := cb_ HB hx157_11
      replace hx157_12 := cb_ HB hx157_12
      replace hx157_13 := cb_ HB hx157_13
      have HR157_13 := aa_ hi157_13
      have HC157_13 := aa_ hl157_13
      clear hi157_13 hl157_13
      replace p157 := eq_true p157
      replace q157 := eq_true q157
      have ea_ := Option.some.inj (hx156_13.symm.trans hx157_13)
      injection ea_ with ea_ en_ ec_
      subst ea_
      subst ec_
      clear en_
      have p158 : 0 ≤ (x7_1 : Int) := od_
      have q158 : x7_1 < (((rd_T80 l0 a1).f2).length : Int) := od_
      obtain ⟨ad158, e158, hx158_0⟩ := Kd.at_int (Kd.C_below HR157_13.out HB.out) x7_1 p158 q158
      cases e158
      replace p158 := eq_true p158
      replace q158 := eq_true q158
      have p160 : 0 ≤ ((rd ((rd_T80 l0 a1).f2) x7_1) : Int) := od_
      have q160 : (rd ((rd_T80 l0 a1).f2) x7_1) < (l0.length : Int) := od_
      obtain ⟨ad160, A160_13, c160_13, e160, hx160_0, hx160_1, hx160_2, hx160_3, hx160_4, hx160_5, hx160_6, hx160_7, hx160_8, hx160_9, hx160_10, hx160_11, hx160_12, hx160_13, hl160_13, hi160_13⟩ := at_T80 HR0.out (rd ((rd_T80 l0 a1).f2) x7_1) p160 q160
      obtain rfl : ad156 = ad160 := (by injection e160)
      replace hx160_0 := cb_ HB hx160_0
      replace hx160_1 := cb_ HB hx160_1
      replace hx160_2 := cb_ HB hx160_2
      replace hx160_3 := cb_ HB hx160_3
      replace hx160_4 := cb_ HB hx160_4
      replace hx160_5 := cb_ HB hx160_5
      replace hx160_6 := cb_ HB hx160_6
      replace hx160_7 := cb_ HB hx160_7
      replace hx160_8 := cb_ HB hx160_8
      replace hx160_9 := cb_ HB hx160_9
      replace hx160_10 := cb_ HB hx160_10
      replace hx160_11 := cb_ HB hx160_11
      replace hx160_12 := cb_ HB hx160_12
      replace hx160_13 := cb_ HB hx160_13
      have HR160_13 := aa_ hi160_13
      have HC160_13 := aa_ hl160_13
      clear hi160_13 hl160_13
      replace p160 := eq_true p160
      replace q160 := eq_true q160
      have hcz15 := blk_cell BK155.out
      have hfz15 := blk_frozen BK155.out
      go_wp2_with (first | (go_at_call 52; (with_reducible refine (spec_l01In.calls (rd ((rd_T80 l0 a1).f2) x7_1) 0 (wrap64 (a1 - 1)) true _ A9.out).mono ?_); rintro e w' ⟨rfl, ⟨nd, rfl⟩⟩; (try first | exact ⟨rfl, _, World.drewN_drewN _ _ _⟩ | exact ⟨rfl, _, Eq.trans (World.drewN_drewN _ _ _) (congrArg (World.drewN _) (Nat.add_assoc _ _ _))⟩)))
      repeat (go_quiet (first | (go_at_call 52; (with_reducible refine (spec_l01In.calls (rd ((rd_T80 l0 a1).f2) x7_1) 0 (wrap64 (a1 - 1)) true _ A9.out).mono ?_); rintro e w' ⟨rfl, ⟨nd, rfl⟩⟩; (try first | exact ⟨rfl, _, World.drewN_drewN _ _ _⟩ | exact ⟨rfl, _, Eq.trans (World.drewN_drewN _ _ _) (congrArg (World.drewN _) (Nat.add_assoc _ _ _))⟩))); try go_wp2_with (first | (go_at_call 52; (with_reducible refine (spec_l01In.calls (rd ((rd_T80 l0 a1).f2) x7_1) 0 (wrap64 (a1 - 1)) true _ A9.out).mono ?_); rintro e w' ⟨rfl, ⟨nd, rfl⟩⟩; (try first | exact ⟨rfl, _, World.drewN_drewN _ _ _⟩ | exact ⟨rfl, _, Eq.trans (World.drewN_drewN _ _ _) (congrArg (World.drewN _) (Nat.add_assoc _ _ _))⟩))))
      go_roundg k1
      case measure => have := HK1.out; omega
      case rel => exact ⟨(wrap64 (x7_1 + 1)), rf_, H', ⟨by have := HK1.out; omega⟩, ⟨bk_ BK155⟩, ⟨bl_⟩⟩
    ·replace c10 := Bool.eq_false_iff.mpr c10
     subst c10
     replace H := ite_f_ H
     have H' := aa_ H
     clear H
     have p156 : 0 ≤ (a1 : Int) := od_
     have q156 : a1 < (l0.length : Int) := od_
     obtain ⟨ad156, A156_13, c156_13, e156, hx156_0, hx156_1, hx156_2, hx156_3, hx156_4, hx156_5, hx156_6, hx156_7, hx156_8, hx156_9, hx156_10, hx156_11, hx156_12, hx156_13, hl156_13, hi156_13⟩ := at_T80 HR0.out a1 p156 q156
     cases e156
     replace hx156_0 := cb_ HB hx156_0
     replace hx156_1 := cb_ HB hx156_1
     replace hx156_2 := cb_ HB hx156_2
     replace hx156_3 := cb_ HB hx156_3
     replace hx156_4 := cb_ HB hx156_4
     replace hx156_5 := cb_ HB hx156_5
     replace hx156_6 := cb_ HB hx156_6
     replace hx156_7 := cb_ HB hx156_7
     replace hx156_8 := cb_ HB hx156_8
     replace hx156_9 := cb_ HB hx156_9
     replace hx156_10 := cb_ HB hx156_10
     replace hx156_11 := cb_ HB hx156_11
     replace hx156_12 := cb_ HB hx156_12
     replace hx156_13 := cb_ HB hx156_13
     have HR156_13 := aa_ hi156_13
     have HC156_13 := aa_ hl156_13
     clear hi156_13 hl156_13
     replace p156 := eq_true p156
     replace q156 := eq_true q156
     have p157 : 0 ≤ (a1 : Int) := od_
     have q157 : a1 < (l0.length : Int) := od_
     obtain ⟨ad157, A157_13, c157_13, e157, hx157_0, hx157_1, hx157_2, hx157_3, hx157_4, hx157_5, hx157_6, hx157_7, hx157_8, hx157_9, hx157_10, hx157_11, hx157_12, hx157_13, hl157_13, hi157_13⟩ := at_T80 HR0.out a1 p157 q157
     obtain rfl : ad156 = ad157 := (by injection e157)
     replace hx157_0 := cb_ HB hx157_0
     replace hx157_1 := cb_ HB hx157_1
     replace hx157_2 := cb_ HB hx157_2
     replace hx157_3 := cb_ HB hx157_3
     replace hx157_4 := cb_ HB hx157_4
     replace hx157_5 := cb_ HB hx157_5
     replace hx157_6 := cb_ HB hx157_6
     replace hx157_7 := cb_ HB hx157_7
     replace hx157_8 := cb_ HB hx157_8
     replace hx157_9 := cb_ HB hx157_9
     replace hx157_10 := cb_ HB hx157_10
     replace hx157_11 := cb_ HB hx157_11
     replace hx157_12 := cb_ HB hx157_12
     replace hx157_13 := cb_ HB hx157_13
     have HR157_13 := aa_ hi157_13
     have HC157_13 := aa_ hl157_13
     clear hi157_13 hl157_13
     replace p157 := eq_true p157
     replace q157 := eq_true q157
     have ea_ := Option.some.inj (hx156_13.symm.trans hx157_13)
     injection ea_ with ea_ en_ ec_
     subst ea_
     subst ec_
     clear en_
     have p158 : 0 ≤ (x7_1 : Int) := od_
     have q158 : x7_1 < (((rd_T80 l0 a1).f2).length : Int) := od_
     obtain ⟨ad158, e158, hx158_0⟩ := Kd.at_int (Kd.C_below HR157_13.out HB.out) x7_1 p158 q158
     cases e158
     replace p158 := eq_true p158
     replace q158 := eq_true q158
     go_wp2_with (first | (go_at_call 52; (with_reducible refine (spec_l01In.calls (rd ((rd_T80 l0 a1).f2) x7_1) 0 (wrap64 (a1 - 1)) false _ A9.out).mono ?_); rintro e w' ⟨rfl, ⟨nd, rfl⟩⟩; (try first | exact ⟨rfl, _, World.drewN_drewN _ _ _⟩ | exact ⟨rfl, _, Eq.trans (World.drewN_drewN _ _ _) (congrArg (World.drewN _) (Nat.add_assoc _ _ _))⟩)))
     repeat (go_quiet (first | (go_at_call 52; (with_reducible refine (spec_l01In.calls (rd ((rd_T80 l0 a1).f2) x7_1) 0 (wrap64 (a1 - 1)) false _ A9.out).mono ?_); rintro e w' ⟨rfl, ⟨nd, rfl⟩⟩; (try first | exact ⟨rfl, _, World.drewN_drewN _ _ _⟩ | exact ⟨rfl, _, Eq.trans (World.drewN_drewN _ _ _) (congrArg (World.drewN _) (Nat.add_assoc _ _ _))⟩))); try go_wp2_with (first | (go_at_call 52; (with_reducible refine (spec_l01In.calls (rd ((rd_T80 l0 a1).f2) x7_1) 0 (wrap64 (a1 - 1)) false _ A9.out).mono ?_); rintro e w' ⟨rfl, ⟨nd, rfl⟩⟩; (try first | exact ⟨rfl, _, World.drewN_drewN _ _ _⟩ | exact ⟨rfl, _, Eq.trans (World.drewN_drewN _ _ _) (congrArg (World.drewN _) (Nat.add_assoc _ _ _))⟩))))
     go_roundg k1
     case measure => have := HK1.out; omega
     case rel => exact ⟨(wrap64 (x7_1 + 1)), rf_, H', ⟨by have := HK1.out; omega⟩, ⟨bk_ BK155⟩, ⟨bl_⟩⟩
   ·rw [if_neg c7] at H
    have c7b0 : decide (x7_1 < (((rd_T80 l0 a1).f2).length : Int)) = false := decide_eq_false c7
    clear c7
    obtain rfl := Option.some.inj H
    have p156 : 0 ≤ (a1 : Int) := od_
    have q156 : a1 < (l0.length : Int) := od_
    obtain ⟨ad156, A156_13, c156_13, e156, hx156_0, hx156_1, hx156_2, hx156_3, hx156_4, hx156_5, hx156_6, hx156_7, hx156_8, hx156_9, hx156_10, hx156_11, hx156_12, hx156_13, hl156_13, hi156_13⟩ := at_T80 HR0.out a1 p156 q156
    cases e156
    replace hx156_0 := cb_ HB hx156_0
    replace hx156_1 := cb_ HB hx156_1
    replace hx156_2 := cb_ HB hx156_2
    replace hx156_3 := cb_ HB hx156_3
    replace hx156_4 := cb_ HB hx156_4
    replace hx156_5 := cb_ HB hx156_5
    replace hx156_6 := cb_ HB hx156_6
    replace hx156_7 := cb_ HB hx156_7
    replace hx156_8 := cb_ HB hx156_8
    replace hx156_9 := cb_ HB hx156_9
    replace hx156_10 := cb_ HB hx156_10
    replace hx156_11 := cb_ HB hx156_11
    replace hx156_12 := cb_ HB hx156_12
    replace hx156_13 := cb_ HB hx156_13
    have HR156_13 := aa_ hi156_13
    have HC156_13 := aa_ hl156_13
    clear hi156_13 hl156_13
    replace p156 := eq_true p156
    replace q156 := eq_true q156
    go_wp2
    repeat (go_quiet (fail); try go_wp2)
    go_ret
    exact ⟨eq_, bl_⟩
end Go.Proofs.Ytcnjbkfnijnpnaa.PA
