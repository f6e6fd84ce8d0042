import Derived.Test.YteofimccoadmeaaGreatKWPAx2
import Derived.Test.YteofimccoadmeaaGreatKWPAx3
import Derived.Test.YteofimccoadmeaaGreatKWPAx4
-- printed by wip/tools
namespace Go.Proofs.YteofimccoadmeaaGreat.PA
open Go.RowKit Go.Proofs.YteofimccoadmeaaGreatW.PrintWords Go.Proofs.YteofimccoadmeaaGreatW.PrintLast Go.Proofs.YteofimccoadmeaaGreatW.PrintMore
attribute [local go_sem] max2_int min2_int max_two min_two max_three min_three max_four min_four
set_option linter.unusedVariables false
set_option linter.unusedSimpArgs false
attribute [local go_sem high] eqA77 eqA79 eqA83
mutual
def spec_CredsIn.l0 : Nat → List (S111) → List (S83) → Int → Option ((List (S83)))
 | 0, _, _, _ => none
 | k + 1, x0, x3, x4 => if x4 < (x0.length : Int) then (spec_CredsIn.l1 k x0 x3 x4 false 0) else (some x3)
def spec_CredsIn.l1 : Nat → List (S111) → List (S83) → Int → Bool → Int → Option ((List (S83)))
 | 0, _, _, _, _, _ => none
 | k + 1, x0, x3, x4, x5, x6 => if x6 < (x3.length : Int) then (if x5 = true then (spec_CredsIn.l1 k x0 x3 x4 true (wrap64 (x6 + 1))) else (if 0 ≤ x6 then (if 0 ≤ x4 then (if x4 < (x0.length : Int) then (spec_CredsIn.l1 k x0 x3 x4 (((rd_T83 x3 x6).f0) == ((rd_T111 x0 x4).f0.f0) && ((((rd_T83 x3 x6).f1.f0) == ((rd_T111 x0 x4).f0.f1.f0) && (((rd_T83 x3 x6).f1.f1) == ((rd_T111 x0 x4).f0.f1.f1))) && (((rd_T83 x3 x6).f2) == ((rd_T111 x0 x4).f0.f2) && ((((rd_T83 x3 x6).f3.f0) == ((rd_T111 x0 x4).f0.f3.f0) && (((rd_T83 x3 x6).f3.f1) == ((rd_T111 x0 x4).f0.f3.f1))) && ((((rd_T83 x3 x6).f4.f0) == ((rd_T111 x0 x4).f0.f4.f0) && (((rd_T83 x3 x6).f4.f1) == ((rd_T111 x0 x4).f0.f4.f1))) && (((rd_T83 x3 x6).f5) == ((rd_T111 x0 x4).f0.f5) && (((rd_T83 x3 x6).f6) == ((rd_T111 x0 x4).f0.f6)))))))) (wrap64 (x6 + 1))) else (none)) else (none)) else (none))) else (if x5 = true then (spec_CredsIn.l0 k x0 x3 (wrap64 (x4 + 1))) else (if 0 ≤ x4 then (if x4 < (x0.length : Int) then (if x3.length < 1759218604441 then (spec_CredsIn.l0 k x0 (x3 ++ [(⟨(rd_T111 x0 x4).f0.f0, (⟨(rd_T111 x0 x4).f0.f1.f0, (rd_T111 x0 x4).f0.f1.f1⟩ : S77), (rd_T111 x0 x4).f0.f2, (⟨(rd_T111 x0 x4).f0.f3.f0, (rd_T111 x0 x4).f0.f3.f1⟩ : S77), (⟨(rd_T111 x0 x4).f0.f4.f0, (rd_T111 x0 x4).f0.f4.f1⟩ : S77), (rd_T111 x0 x4).f0.f5, (rd_T111 x0 x4).f0.f6⟩ : S83)]) (wrap64 (x4 + 1))) else (none)) else (none)) else (none)))
end
def spec_CredsIn.f (k : Nat) (l0 : List (S111)) : Option ((List (S83))) := spec_CredsIn.l0 k l0 (([] : List (S83))) 0
set_option maxHeartbeats 8000000 in
set_option maxRecDepth 100000 in
theorem spec_CredsIn.calls (k : Nat) (A0 : Option Addr) (c0 : Nat) (l0 : List (S111)) (r : List (S83)) (w : World) (hr0 : Kd.C k111 w A0 l0.length l0) (hc0 : l0.length ≤ c0) (h : spec_CredsIn.f k l0 = some r) :
  Calls Tryz.prog 33 #[.slice A0 l0.length c0] w fun e w' => ∃ v0_ : Value, e = .returned (v0_) ∧ Kd.R k83 83 w' w.heap.size (fun _ => True) v0_ r ∧ Below w.heap.size w w' := by
 have hu83 := Tryz.underlying83
 have HR0 := aa_ hr0
 have HC0 := aa_ hc0
 clear hr0 hc0
 have HB := aa_ (Below.refl w.heap.size w)
 have H : (spec_CredsIn.l0 k l0 (([] : List (S83))) 0) = some r := h
 clear h
 obtain ⟨y168, hy168⟩ : ∃ y_ : List (S83), y_ = (([] : List (S83))) := ⟨_, rfl⟩
 replace H : (spec_CredsIn.l0 k l0 y168 0) = some r := rh_ hy168 H
 have Ny168 := aa_ hy168
 clear hy168
 have H' := aa_ H
 clear H
 go_enter Tryz.func33, Tryz.ntmps33
 go_wp2_with (first | ((with_reducible refine gD_ 7 rfl ?_); refine Kd.R_lit k83 _ 83 ?hg (N := 7) ?hd (xs := ([] : List (S83))) (inner := []) (ok := fun _ => True) (okp := fun _ => True) ?hr ?hp (fun _ hk => hk) trivial (Below.refl _ _) (Nat.le_refl _) (by simp) ?_; (case hd => rfl); (case hg => rfl); (case hr => first | (go_simp; done) | (go_simp; rfl)); (case hp => exact (Reps.none _ _)); intro v169 w2 ho3 hb hg_ hnew_; clear hg_ hnew_; (first | rw [← Ny168.out] at ho3 | (simp only [Int.reduceToNat] at ho3; rw [← Ny168.out] at ho3)); have HO170 := aa_ (Kd.R_lower ho3 bls_); replace HB := hbs_ hb; clear hb ho3))
 repeat (go_quiet (first | ((with_reducible refine gD_ 7 rfl ?_); refine Kd.R_lit k83 _ 83 ?hg (N := 7) ?hd (xs := ([] : List (S83))) (inner := []) (ok := fun _ => True) (okp := fun _ => True) ?hr ?hp (fun _ hk => hk) trivial (Below.refl _ _) (Nat.le_refl _) (by simp) ?_; (case hd => rfl); (case hg => rfl); (case hr => first | (go_simp; done) | (go_simp; rfl)); (case hp => exact (Reps.none _ _)); intro v169 w2 ho3 hb hg_ hnew_; clear hg_ hnew_; (first | rw [← Ny168.out] at ho3 | (simp only [Int.reduceToNat] at ho3; rw [← Ny168.out] at ho3)); have HO170 := aa_ (Kd.R_lower ho3 bls_); replace HB := hbs_ hb; clear hb ho3)); try go_wp2_with (first | ((with_reducible refine gD_ 7 rfl ?_); refine Kd.R_lit k83 _ 83 ?hg (N := 7) ?hd (xs := ([] : List (S83))) (inner := []) (ok := fun _ => True) (okp := fun _ => True) ?hr ?hp (fun _ hk => hk) trivial (Below.refl _ _) (Nat.le_refl _) (by simp) ?_; (case hd => rfl); (case hg => rfl); (case hr => first | (go_simp; done) | (go_simp; rfl)); (case hp => exact (Reps.none _ _)); intro v169 w2 ho3 hb hg_ hnew_; clear hg_ hnew_; (first | rw [← Ny168.out] at ho3 | (simp only [Int.reduceToNat] at ho3; rw [← Ny168.out] at ho3)); have HO170 := aa_ (Kd.R_lower ho3 bls_); replace HB := hbs_ hb; clear hb ho3)))
 go_loopg [3, 4] k (fun kq v3 v4 w' => ∃ (x3_1 : List (S83)) (x4_1 : Int), v4 = .int .i64 x4_1 ∧ Aside0 (spec_CredsIn.l0 kq l0 x3_1 x4_1 = some r) ∧ Aside0 (kq ≤ k) ∧ Aside0 (Kd.R k83 83 w' w.heap.size (fun _ => True) v3 x3_1) ∧ Aside0 (Below w.heap.size w w'))
 case atStart => exact ⟨(y168), (0), rf_, H', ⟨Nat.le_refl _⟩, ⟨rr_ HO170⟩, ⟨bl_⟩⟩
 case round =>
  clear H'
  try clear p2
  obtain ⟨x3_1, x4_1, rfl, HA, HK1, HO_3, HB⟩ := hrel
  cases gk with
  | zero => exact absurd HA.out (by simp [spec_CredsIn.l0])
  | succ k1 =>
   have H := HA.out
   clear HA
   simp only [spec_CredsIn.l0] at H
   by_cases c4 : x4_1 < (l0.length : Int)
   ·rw [if_pos c4] at H
    have c4b0 : decide (x4_1 < (l0.length : Int)) = true := decide_eq_true c4
    clear c4
    have H' := aa_ H
    clear H
    go_wp2
    repeat (go_quiet (fail); try go_wp2)
    go_loopg [5, 6] k1 (fun kq v5 v6 w' => ∃ (x5_2 : Bool) (x6_2 : Int), v5 = .bool x5_2 ∧ v6 = .int .i64 x6_2 ∧ Aside0 (spec_CredsIn.l1 kq l0 x3_1 x4_1 x5_2 x6_2 = some r) ∧ Aside0 (kq ≤ k1) ∧ Aside0 (Kd.R k83 83 w' w.heap.size (fun _ => True) u3 x3_1) ∧ Aside0 (Below w.heap.size w w'))
    case atStart => exact ⟨(false), (0), rf_, rf_, H', ⟨Nat.le_refl _⟩, ⟨rr_ HO_3⟩, ⟨bl_⟩⟩
    case round =>
     clear H'
     try clear p2
     try clear c4b0
     try clear p2
     obtain ⟨x5_2, x6_2, rfl, rfl, HA, HK2, HO_3, HB⟩ := hrel
     cases gk with
     | zero => exact absurd HA.out (by simp [spec_CredsIn.l1])
     | succ k2 =>
      have H := HA.out
      clear HA
      simp only [spec_CredsIn.l1] at H
      by_cases c5 : x6_2 < (x3_1.length : Int)
      ·rw [if_pos c5] at H
       have c5b0 : decide (x6_2 < (x3_1.length : Int)) = true := decide_eq_true c5
       clear c5
       by_cases c6 : x5_2 = true
       ·subst c6
        replace H := ite_t_ H
        have H' := aa_ H
        clear H
        obtain ⟨Ao7, co7, eo7⟩ := Kd.R_slice HO_3.out
        subst eo7
        go_wp2
        repeat (go_quiet (fail); try go_wp2)
        go_roundg k2
        case measure => have := HK1.out; have := HK2.out; omega
        case rel => exact ⟨(true), (wrap64 (x6_2 + 1)), rf_, rf_, H', ⟨by have := HK1.out; have := HK2.out; omega⟩, ⟨rr_ HO_3⟩, ⟨bl_⟩⟩
       ·replace c6 := Bool.eq_false_iff.mpr c6
        subst c6
        replace H := ite_f_ H
        obtain ⟨c8b0, H⟩ := ifd_ H
        obtain ⟨c9b0, H⟩ := ifd_ H
        obtain ⟨c10b0, H⟩ := ifd_ H
        have H' := aa_ H
        clear H
        obtain ⟨Ao11, co11, eo11⟩ := Kd.R_slice HO_3.out
        subst eo11
        have p171 : 0 ≤ (x6_2 : Int) := od_
        have q171 : x6_2 < (x3_1.length : Int) := od_
        obtain ⟨ad171, e171, hx171_0, hx171_1, hx171_2, hx171_3, hx171_4, hx171_5, hx171_6, hx171_7, hx171_8, hx171_9⟩ := at_T83 (Kd.R_reads' HO_3.out).2.2 x6_2 p171 q171
        cases e171
        replace p171 := eq_true p171
        replace q171 := eq_true q171
        have p172 : 0 ≤ (x4_1 : Int) := od_
        have q172 : x4_1 < (l0.length : Int) := od_
        obtain ⟨ad172, A172_13, c172_13, e172, hx172_0, hx172_1, hx172_2, hx172_3, hx172_4, hx172_5, hx172_6, hx172_7, hx172_8, hx172_9, hx172_10, hx172_11, hx172_12, hx172_13, hl172_13, hi172_13⟩ := at_T111 HR0.out x4_1 p172 q172
        cases e172
        replace hx172_0 := cb_ HB hx172_0
        replace hx172_1 := cb_ HB hx172_1
        replace hx172_2 := cb_ HB hx172_2
        replace hx172_3 := cb_ HB hx172_3
        replace hx172_4 := cb_ HB hx172_4
        replace hx172_5 := cb_ HB hx172_5
        replace hx172_6 := cb_ HB hx172_6
        replace hx172_7 := cb_ HB hx172_7
        replace hx172_8 := cb_ HB hx172_8
        replace hx172_9 := cb_ HB hx172_9
        replace hx172_10 := cb_ HB hx172_10
        replace hx172_11 := cb_ HB hx172_11
        replace hx172_12 := cb_ HB hx172_12
        replace hx172_13 := cb_ HB hx172_13
        have HR172_13 := aa_ hi172_13
        have HC172_13 := aa_ hl172_13
        clear hi172_13 hl172_13
        replace p172 := eq_true p172
        replace q172 := eq_true q172
        go_wp2
        repeat (go_quiet (fail); try go_wp2)
        go_roundg k2
        case measure => have := HK1.out; have := HK2.out; omega
        case rel => exact ⟨((((rd_T83 x3_1 x6_2).f0) == ((rd_T111 l0 x4_1).f0.f0) && ((((rd_T83 x3_1 x6_2).f1.f0) == ((rd_T111 l0 x4_1).f0.f1.f0) && (((rd_T83 x3_1 x6_2).f1.f1) == ((rd_T111 l0 x4_1).f0.f1.f1))) && (((rd_T83 x3_1 x6_2).f2) == ((rd_T111 l0 x4_1).f0.f2) && ((((rd_T83 x3_1 x6_2).f3.f0) == ((rd_T111 l0 x4_1).f0.f3.f0) && (((rd_T83 x3_1 x6_2).f3.f1) == ((rd_T111 l0 x4_1).f0.f3.f1))) && ((((rd_T83 x3_1 x6_2).f4.f0) == ((rd_T111 l0 x4_1).f0.f4.f0) && (((rd_T83 x3_1 x6_2).f4.f1) == ((rd_T111 l0 x4_1).f0.f4.f1))) && (((rd_T83 x3_1 x6_2).f5) == ((rd_T111 l0 x4_1).f0.f5) && (((rd_T83 x3_1 x6_2).f6) == ((rd_T111 l0 x4_1).f0.f6))))))))), (wrap64 (x6_2 + 1)), rf_, rf_, H', ⟨by have := HK1.out; have := HK2.out; omega⟩, ⟨rr_ HO_3⟩, ⟨bl_⟩⟩
      ·rw [if_neg c5] at H
       have c5b0 : decide (x6_2 < (x3_1.length : Int)) = false := decide_eq_false c5
       clear c5
       by_cases c12 : x5_2 = true
       ·subst c12
        replace H := ite_t_ H
        have H' := aa_ H
        clear H
        obtain ⟨Ao13, co13, eo13⟩ := Kd.R_slice HO_3.out
        subst eo13
        go_wp2
        repeat (go_quiet (fail); try go_wp2)
        go_roundg k2
        case measure => have := HK1.out; have := HK2.out; omega
        case rel => exact ⟨(x3_1), (wrap64 (x4_1 + 1)), rf_, H', ⟨by have := HK1.out; have := HK2.out; omega⟩, ⟨rr_ HO_3⟩, ⟨bl_⟩⟩
       ·replace c12 := Bool.eq_false_iff.mpr c12
        subst c12
        replace H := ite_f_ H
        obtain ⟨c14b0, H⟩ := ifd_ H
        obtain ⟨c15b0, H⟩ := ifd_ H
        obtain ⟨c16, H⟩ := ifn_ H
        have LMc16 := aa_ c16
        clear c16
        obtain ⟨y174, hy174⟩ : ∃ y_ : List (S83), y_ = (x3_1 ++ [(⟨(rd_T111 l0 x4_1).f0.f0, (⟨(rd_T111 l0 x4_1).f0.f1.f0, (rd_T111 l0 x4_1).f0.f1.f1⟩ : S77), (rd_T111 l0 x4_1).f0.f2, (⟨(rd_T111 l0 x4_1).f0.f3.f0, (rd_T111 l0 x4_1).f0.f3.f1⟩ : S77), (⟨(rd_T111 l0 x4_1).f0.f4.f0, (rd_T111 l0 x4_1).f0.f4.f1⟩ : S77), (rd_T111 l0 x4_1).f0.f5, (rd_T111 l0 x4_1).f0.f6⟩ : S83)]) := ⟨_, rfl⟩
        replace H : (spec_CredsIn.l0 k2 l0 y174 (wrap64 (x4_1 + 1))) = some r := rh_ hy174 H
        have Ny174 := aa_ hy174
        clear hy174
        have H' := aa_ H
        clear H
        obtain ⟨Ao17, co17, eo17⟩ := Kd.R_slice HO_3.out
        subst eo17
        have p173 : 0 ≤ (x4_1 : Int) := od_
        have q173 : x4_1 < (l0.length : Int) := od_
        obtain ⟨ad173, A173_13, c173_13, e173, hx173_0, hx173_1, hx173_2, hx173_3, hx173_4, hx173_5, hx173_6, hx173_7, hx173_8, hx173_9, hx173_10, hx173_11, hx173_12, hx173_13, hl173_13, hi173_13⟩ := at_T111 HR0.out x4_1 p173 q173
        cases e173
        replace hx173_0 := cb_ HB hx173_0
        replace hx173_1 := cb_ HB hx173_1
        replace hx173_2 := cb_ HB hx173_2
        replace hx173_3 := cb_ HB hx173_3
        replace hx173_4 := cb_ HB hx173_4
        replace hx173_5 := cb_ HB hx173_5
        replace hx173_6 := cb_ HB hx173_6
        replace hx173_7 := cb_ HB hx173_7
        replace hx173_8 := cb_ HB hx173_8
        replace hx173_9 := cb_ HB hx173_9
        replace hx173_10 := cb_ HB hx173_10
        replace hx173_11 := cb_ HB hx173_11
        replace hx173_12 := cb_ HB hx173_12
        replace hx173_13 := cb_ HB hx173_13
        have HR173_13 := aa_ hi173_13
        have HC173_13 := aa_ hl173_13
        clear hi173_13 hl173_13
        replace p173 := eq_true p173
        replace q173 := eq_true q173
        go_wp2_with (first | ((with_reducible refine gate_builtin (b := .append) (xs := #[.tmp 35, .tmp 41]) rfl ?_); at_builtin; refine Kd.R_append k83 (w0 := w) w.heap.size rfl (.tmp 35) (.tmp 41) 36 83 (.agg #[(.int .i64 0), (.int .i64 0), (.int .i64 0), (.int .i64 0), (.int .i64 0), (.int .i64 0), (.int .i64 0), (.int .i64 0), (.int .i64 0), (.int .i64 0)]) 80 rfl Tryz.underlying36 info83 rfl (by decide) (by omega) (.slice Ao17 x3_1.length co17) x3_1 (⟨(rd_T111 l0 x4_1).f0.f0, (⟨(rd_T111 l0 x4_1).f0.f1.f0, (rd_T111 l0 x4_1).f0.f1.f1⟩ : S77), (rd_T111 l0 x4_1).f0.f2, (⟨(rd_T111 l0 x4_1).f0.f3.f0, (rd_T111 l0 x4_1).f0.f3.f1⟩ : S77), (⟨(rd_T111 l0 x4_1).f0.f4.f0, (rd_T111 l0 x4_1).f0.f4.f1⟩ : S77), (rd_T111 l0 x4_1).f0.f5, (rd_T111 l0 x4_1).f0.f6⟩ : S83) [.int .i64 ((rd_T111 l0 x4_1).f0.f0), .int .i64 ((rd_T111 l0 x4_1).f0.f1.f0), .int .i64 ((rd_T111 l0 x4_1).f0.f1.f1), .int .i64 ((rd_T111 l0 x4_1).f0.f2), .int .i64 ((rd_T111 l0 x4_1).f0.f3.f0), .int .i64 ((rd_T111 l0 x4_1).f0.f3.f1), .int .i64 ((rd_T111 l0 x4_1).f0.f4.f0), .int .i64 ((rd_T111 l0 x4_1).f0.f4.f1), .int .i64 ((rd_T111 l0 x4_1).f0.f5), .int .i64 ((rd_T111 l0 x4_1).f0.f6)] (fun _ => True) (fun _ => False) rfl rfl ?aP (fun _ hk => hk.elim) ?aF ?aO ?aB ?aS ?aL ?_; (case aP => exact k83_mkM _ _ _ (⟨(rd_T111 l0 x4_1).f0.f0, (⟨(rd_T111 l0 x4_1).f0.f1.f0, (rd_T111 l0 x4_1).f0.f1.f1⟩ : S77), (rd_T111 l0 x4_1).f0.f2, (⟨(rd_T111 l0 x4_1).f0.f3.f0, (rd_T111 l0 x4_1).f0.f3.f1⟩ : S77), (⟨(rd_T111 l0 x4_1).f0.f4.f0, (rd_T111 l0 x4_1).f0.f4.f1⟩ : S77), (rd_T111 l0 x4_1).f0.f5, (rd_T111 l0 x4_1).f0.f6⟩ : S83)); (case aB => exact bl_); (case aF => exact (fun _ _ => trivial)); (case aO => exact (rr_ HO_3)); (case aS => exact bls_); (case aL => have := LMc16.out; omega); intro v175 w18 ho hb hg hat; rw [← Ny174.out] at ho; replace HB := aa_ (hb); have HO176 := aa_ (ho); clear HO_3; clear ho hb hg hat))
        repeat (go_quiet (first | ((with_reducible refine gate_builtin (b := .append) (xs := #[.tmp 35, .tmp 41]) rfl ?_); at_builtin; refine Kd.R_append k83 (w0 := w) w.heap.size rfl (.tmp 35) (.tmp 41) 36 83 (.agg #[(.int .i64 0), (.int .i64 0), (.int .i64 0), (.int .i64 0), (.int .i64 0), (.int .i64 0), (.int .i64 0), (.int .i64 0), (.int .i64 0), (.int .i64 0)]) 80 rfl Tryz.underlying36 info83 rfl (by decide) (by omega) (.slice Ao17 x3_1.length co17) x3_1 (⟨(rd_T111 l0 x4_1).f0.f0, (⟨(rd_T111 l0 x4_1).f0.f1.f0, (rd_T111 l0 x4_1).f0.f1.f1⟩ : S77), (rd_T111 l0 x4_1).f0.f2, (⟨(rd_T111 l0 x4_1).f0.f3.f0, (rd_T111 l0 x4_1).f0.f3.f1⟩ : S77), (⟨(rd_T111 l0 x4_1).f0.f4.f0, (rd_T111 l0 x4_1).f0.f4.f1⟩ : S77), (rd_T111 l0 x4_1).f0.f5, (rd_T111 l0 x4_1).f0.f6⟩ : S83) [.int .i64 ((rd_T111 l0 x4_1).f0.f0), .int .i64 ((rd_T111 l0 x4_1).f0.f1.f0), .int .i64 ((rd_T111 l0 x4_1).f0.f1.f1), .int .i64 ((rd_T111 l0 x4_1).f0.f2), .int .i64 ((rd_T111 l0 x4_1).f0.f3.f0), .int .i64 ((rd_T111 l0 x4_1).f0.f3.f1), .int .i64 ((rd_T111 l0 x4_1).f0.f4.f0), .int .i64 ((rd_T111 l0 x4_1).f0.f4.f1), .int .i64 ((rd_T111 l0 x4_1).f0.f5), .int .i64 ((rd_T111 l0 x4_1).f0.f6)] (fun _ => True) (fun _ => False) rfl rfl ?aP (fun _ hk => hk.elim) ?aF ?aO ?aB ?aS ?aL ?_; (case aP => exact k83_mkM _ _ _ (⟨(rd_T111 l0 x4_1).f0.f0, (⟨(rd_T111 l0 x4_1).f0.f1.f0, (rd_T111 l0 x4_1).f0.f1.f1⟩ : S77), (rd_T111 l0 x4_1).f0.f2, (⟨(rd_T111 l0 x4_1).f0.f3.f0, (rd_T111 l0 x4_1).f0.f3.f1⟩ : S77), (⟨(rd_T111 l0 x4_1).f0.f4.f0, (rd_T111 l0 x4_1).f0.f4.f1⟩ : S77), (rd_T111 l0 x4_1).f0.f5, (rd_T111 l0 x4_1).f0.f6⟩ : S83)); (case aB => exact bl_); (case aF => exact (fun _ _ => trivial)); (case aO => exact (rr_ HO_3)); (case aS => exact bls_); (case aL => have := LMc16.out; omega); intro v175 w18 ho hb hg hat; rw [← Ny174.out] at ho; replace HB := aa_ (hb); have HO176 := aa_ (ho); clear HO_3; clear ho hb hg hat)); try go_wp2_with (first | ((with_reducible refine gate_builtin (b := .append) (xs := #[.tmp 35, .tmp 41]) rfl ?_); at_builtin; refine Kd.R_append k83 (w0 := w) w.heap.size rfl (.tmp 35) (.tmp 41) 36 83 (.agg #[(.int .i64 0), (.int .i64 0), (.int .i64 0), (.int .i64 0), (.int .i64 0), (.int .i64 0), (.int .i64 0), (.int .i64 0), (.int .i64 0), (.int .i64 0)]) 80 rfl Tryz.underlying36 info83 rfl (by decide) (by omega) (.slice Ao17 x3_1.length co17) x3_1 (⟨(rd_T111 l0 x4_1).f0.f0, (⟨(rd_T111 l0 x4_1).f0.f1.f0, (rd_T111 l0 x4_1).f0.f1.f1⟩ : S77), (rd_T111 l0 x4_1).f0.f2, (⟨(rd_T111 l0 x4_1).f0.f3.f0, (rd_T111 l0 x4_1).f0.f3.f1⟩ : S77), (⟨(rd_T111 l0 x4_1).f0.f4.f0, (rd_T111 l0 x4_1).f0.f4.f1⟩ : S77), (rd_T111 l0 x4_1).f0.f5, (rd_T111 l0 x4_1).f0.f6⟩ : S83) [.int .i64 ((rd_T111 l0 x4_1).f0.f0), .int .i64 ((rd_T111 l0 x4_1).f0.f1.f0), .int .i64 ((rd_T111 l0 x4_1).f0.f1.f1), .int .i64 ((rd_T111 l0 x4_1).f0.f2), .int .i64 ((rd_T111 l0 x4_1).f0.f3.f0), .int .i64 ((rd_T111 l0 x4_1).f0.f3.f1), .int .i64 ((rd_T111 l0 x4_1).f0.f4.f0), .int .i64 ((rd_T111 l0 x4_1).f0.f4.f1), .int .i64 ((rd_T111 l0 x4_1).f0.f5), .int .i64 ((rd_T111 l0 x4_1).f0.f6)] (fun _ => True) (fun _ => False) rfl rfl ?aP (fun _ hk => hk.elim) ?aF ?aO ?aB ?aS ?aL ?_; (case aP => exact k83_mkM _ _ _ (⟨(rd_T111 l0 x4_1).f0.f0, (⟨(rd_T111 l0 x4_1).f0.f1.f0, (rd_T111 l0 x4_1).f0.f1.f1⟩ : S77), (rd_T111 l0 x4_1).f0.f2, (⟨(rd_T111 l0 x4_1).f0.f3.f0, (rd_T111 l0 x4_1).f0.f3.f1⟩ : S77), (⟨(rd_T111 l0 x4_1).f0.f4.f0, (rd_T111 l0 x4_1).f0.f4.f1⟩ : S77), (rd_T111 l0 x4_1).f0.f5, (rd_T111 l0 x4_1).f0.f6⟩ : S83)); (case aB => exact bl_); (case aF => exact (fun _ _ => trivial)); (case aO => exact (rr_ HO_3)); (case aS => exact bls_); (case aL => have := LMc16.out; omega); intro v175 w18 ho hb hg hat; rw [← Ny174.out] at ho; replace HB := aa_ (hb); have HO176 := aa_ (ho); clear HO_3; clear ho hb hg hat)))
        go_roundg k2
        case measure => have := HK1.out; have := HK2.out; omega
        case rel => exact ⟨(y174), (wrap64 (x4_1 + 1)), rf_, H', ⟨by have := HK1.out; have := HK2.out; omega⟩, ⟨rr_ HO176⟩, ⟨bl_⟩⟩
   ·rw [if_neg c4] at H
    have c4b0 : decide (x4_1 < (l0.length : Int)) = false := decide_eq_false c4
    clear c4
    obtain rfl := Option.some.inj H
    go_wp2
    repeat (go_quiet (fail); try go_wp2)
    go_ret
    exact ⟨_, eq_, by (with_reducible repeat (first | apply Kd.R_alloc | apply Kd.R_drewN | apply Kd.R_drew)); exact HO_3.out, bl_⟩
def spec_RoleOk.f (a0_0 : Int) (a0_1 : Int) : Option (Bool) := (spec_l01In.f a0_0 0 5).bind fun t178 => (if t178 = true then ((spec_l01In.f a0_1 0 3).bind fun t179 => (some t179)) else (some false))
set_option maxHeartbeats 8000000 in
set_option maxRecDepth 100000 in
theorem spec_RoleOk.calls (a0_0 : Int) (a0_1 : Int) (r : Bool) (w : World) (h : spec_RoleOk.f a0_0 a0_1 = some r) :
  Calls Tryz.prog 94 #[.agg #[.int .i64 a0_0, .int .i64 a0_1]] w fun e w' => e = .returned (.bool r) ∧ Below w.heap.size w w' := by
 have hu77 := Tryz.underlying77
 have HB := aa_ (Below.refl w.heap.size w)
 have H : ((spec_l01In.f a0_0 0 5).bind fun t178 => (if t178 = true then ((spec_l01In.f a0_1 0 3).bind fun t179 => (some t179)) else (some false))) = some r := h
 clear h
 obtain ⟨t178, A2, H⟩ := bindE_ H
 by_cases c3 : t178 = true
 ·subst c3
  replace H := ite_t_ H
  obtain ⟨t179, A4, H⟩ := bindE_ H
  obtain rfl := Option.some.inj H
  go_enter Tryz.func94, Tryz.ntmps94
  go_wp2_with (first | ((with_reducible refine gD_ 1 rfl ?_); refine bx_ (N := 1) (cs := #[.int .i64 a0_0, .int .i64 a0_1]) (t := 77) ?_; intro gb177 hg w5 hbox hb; have BK177 := aa_ (hbox); have GW177 := gs_ hg; have GE177 := gs_ hg; replace HB := hbs_ hb; clear hb hbox hg; obtain ⟨hcz6, hfz6⟩ := bcf_ BK177) | ((with_reducible refine gC_ 30 rfl ?_); refine goesC_ (some 5) Tryz.func30 #[.int .i64 a0_0, .int .i64 0, .int .i64 5] ?_; (with_reducible refine (spec_l01In.calls a0_0 0 5 true _ A2.out).mono ?_); rintro e w' ⟨rfl, ⟨nd, rfl⟩⟩; refine ⟨_, rfl, ?_⟩) | (go_at_call 30; (with_reducible refine (spec_l01In.calls a0_1 0 3 t179 _ A4.out).mono ?_); rintro e w' ⟨rfl, ⟨nd, rfl⟩⟩))
  go_ret
  exact ⟨eq_, bl_⟩
 ·replace c3 := Bool.eq_false_iff.mpr c3
  subst c3
  replace H := ite_f_ H
  obtain rfl := Option.some.inj H
  go_enter Tryz.func94, Tryz.ntmps94
  go_wp2_with (first | ((with_reducible refine gD_ 1 rfl ?_); refine bx_ (N := 1) (cs := #[.int .i64 a0_0, .int .i64 a0_1]) (t := 77) ?_; intro gb177 hg w7 hbox hb; have BK177 := aa_ (hbox); have GW177 := gs_ hg; have GE177 := gs_ hg; replace HB := hbs_ hb; clear hb hbox hg; obtain ⟨hcz8, hfz8⟩ := bcf_ BK177) | ((with_reducible refine gC_ 30 rfl ?_); refine goesC_ (some 5) Tryz.func30 #[.int .i64 a0_0, .int .i64 0, .int .i64 5] ?_; (with_reducible refine (spec_l01In.calls a0_0 0 5 false _ A2.out).mono ?_); rintro e w' ⟨rfl, ⟨nd, rfl⟩⟩; refine ⟨_, rfl, ?_⟩))
  go_ret
  exact ⟨eq_, bl_⟩
def spec_CredOk.j0 : Nat → Bool → Int → Int → Int → Int → Int → Int → Int → Int → Int → Int → Option (Bool)
 | 0, _, _, _, _, _, _, _, _, _, _, _ => none
 | k + 1, x19, x181000, x181001, x181002, x181003, x181004, x181005, x181006, x181007, x181008, x181009 => if x19 = true then (some false) else (if x181000 = 1 then ((spec_l01In.f x181003 0 5).bind fun t185 => (if t185 = true then (if (x181004 == 0 && (x181005 == 0)) = true then (some (x181006 == 0 && (x181007 == 0))) else (some false)) else (some false))) else (if x181000 = 2 then (if x181003 = 0 then ((spec_RoleOk.f x181004 x181005).bind fun t186 => (if t186 = true then (some (x181006 == 0 && (x181007 == 0))) else (some false))) else (some false)) else (if x181000 = 3 then (if x181003 = 0 then ((spec_RoleOk.f x181004 x181005).bind fun t187 => (if t187 = true then ((spec_RoleOk.f x181006 x181007).bind fun t188 => (if t188 = true then (some (x181006 == 0)) else (some false))) else (some false))) else (some false)) else (if x181000 = 4 then (if x181003 = 0 then ((spec_RoleOk.f x181004 x181005).bind fun t189 => (if t189 = true then ((spec_RoleOk.f x181006 x181007).bind fun t190 => (some t190)) else (some false))) else (some false)) else (some false)))))
def spec_CredOk.f (k : Nat) (a0_0 : Int) (a0_1 : Int) (a0_2 : Int) (a0_3 : Int) (a0_4 : Int) (a0_5 : Int) (a0_6 : Int) (a0_7 : Int) (a0_8 : Int) (a0_9 : Int) : Option (Bool) := (spec_RoleOk.f a0_1 a0_2).bind fun t181 => (if t181 = true then ((spec_l01In.f a0_8 1 9999).bind fun t182 => (if t182 = true then ((spec_l01In.f a0_9 0 99).bind fun t183 => (spec_CredOk.j0 k (!t183) a0_0 a0_1 a0_2 a0_3 a0_4 a0_5 a0_6 a0_7 a0_8 a0_9)) else (spec_CredOk.j0 k true a0_0 a0_1 a0_2 a0_3 a0_4 a0_5 a0_6 a0_7 a0_8 a0_9))) else (spec_CredOk.j0 k true a0_0 a0_1 a0_2 a0_3 a0_4 a0_5 a0_6 a0_7 a0_8 a0_9))
set_option maxHeartbeats 8000000 in
set_option maxRecDepth 100000 in
theorem spec_CredOk.calls (k : Nat) (a0_0 : Int) (a0_1 : Int) (a0_2 : Int) (a0_3 : Int) (a0_4 : Int) (a0_5 : Int) (a0_6 : Int) (a0_7 : Int) (a0_8 : Int) (a0_9 : Int) (r : Bool) (w : World) (h : spec_CredOk.f k a0_0 a0_1 a0_2 a0_3 a0_4 a0_5 a0_6 a0_7 a0_8 a0_9 = some r) :
  Calls Tryz.prog 83 #[.agg #[.int .i64 a0_0, .int .i64 a0_1, .int .i64 a0_2, .int .i64 a0_3, .int .i64 a0_4, .int .i64 a0_5, .int .i64 a0_6, .int .i64 a0_7, .int .i64 a0_8, .int .i64 a0_9]] w fun e w' => e = .returned (.bool r) ∧ Below w.heap.size w w' := by
 have hu83 := Tryz.underlying83
 have hu77 := Tryz.underlying77
 have HB := aa_ (Below.refl w.heap.size w)
 have H : ((spec_RoleOk.f a0_1 a0_2).bind fun t181 => (if t181 = true then ((spec_l01In.f a0_8 1 9999).bind fun t182 => (if t182 = true then ((spec_l01In.f a0_9 0 99).bind fun t183 => (spec_CredOk.j0 k (!t183) a0_0 a0_1 a0_2 a0_3 a0_4 a0_5 a0_6 a0_7 a0_8 a0_9)) else (spec_CredOk.j0 k true a0_0 a0_1 a0_2 a0_3 a0_4 a0_5 a0_6 a0_7 a0_8 a0_9))) else (spec_CredOk.j0 k true a0_0 a0_1 a0_2 a0_3 a0_4 a0_5 a0_6 a0_7 a0_8 a0_9))) = some r := h
 clear h
 have HC2 := aa_ H
 clear H
 go_enter Tryz.func83, Tryz.ntmps83
 go_upto_region 1 with (first | ((with_reducible refine gD_ 1 rfl ?_); refine bx_ (N := 1) (cs := #[.int .i64 a0_0, .int .i64 a0_1, .int .i64 a0_2, .int .i64 a0_3, .int .i64 a0_4, .int .i64 a0_5, .int .i64 a0_6, .int .i64 a0_7, .int .i64 a0_8, .int .i64 a0_9]) (t := 83) ?_; intro gb180 hg w3 hbox hb; have BK180 := aa_ (hbox); have GW180 := gs_ hg; have GE180 := gs_ hg; replace HB := hbs_ hb; clear hb hbox hg))
 (try simp only [Act.put, sb_, sz_, ss_])
 go_cut [19] (fun v19 wc => ∃ (kq : Nat) (x19_1 : Bool), v19 = .bool x19_1 ∧ Aside0 (spec_CredOk.j0 kq x19_1 a0_0 a0_1 a0_2 a0_3 a0_4 a0_5 a0_6 a0_7 a0_8 a0_9 = some r) ∧ Aside0 (kq ≤ k) ∧ Aside0 (wc.heap[gb180]? = some (.cells #[.int .i64 a0_0, .int .i64 a0_1, .int .i64 a0_2, .int .i64 a0_3, .int .i64 a0_4, .int .i64 a0_5, .int .i64 a0_6, .int .i64 a0_7, .int .i64 a0_8, .int .i64 a0_9] 83 (0, 0))) ∧ Aside0 (Below w.heap.size w wc))
 case first =>
  have H := HC2.out
  clear HC2
  obtain ⟨t181, A4, H⟩ := bindE_ H
  by_cases c5 : t181 = true
  ·subst c5
   replace H := ite_t_ H
   obtain ⟨t182, A6, H⟩ := bindE_ H
   by_cases c7 : t182 = true
   ·subst c7
    replace H := ite_t_ H
    obtain ⟨t183, A8, H⟩ := bindE_ H
    have H' := aa_ H
    clear H
    have hcz9 := blk_cell BK180.out
    have hfz9 := blk_frozen BK180.out
    go_wp2_with (first | ((with_reducible refine gC_ 94 rfl ?_); refine goesC_ (some 6) Tryz.func94 #[.agg #[.int .i64 a0_1, .int .i64 a0_2]] ?_; (with_reducible refine (spec_RoleOk.calls a0_1 a0_2 true _ A4.out).mono ?_); rintro e w10 ⟨rfl, hb⟩; refine ⟨_, rfl, ?_⟩; replace BK180 := bkb_ BK180 hb; replace HB := hbs_ hb; clear hb; obtain ⟨hcz11, hfz11⟩ := bcf_ BK180) | (go_at_call 30; (with_reducible refine (spec_l01In.calls a0_8 1 9999 true _ A6.out).mono ?_); rintro e w' ⟨rfl, ⟨nd, rfl⟩⟩) | (go_at_call 30; (with_reducible refine (spec_l01In.calls a0_9 0 99 t183 _ A8.out).mono ?_); rintro e w' ⟨rfl, ⟨nd, rfl⟩⟩))
    go_meet
    case rel => exact ⟨_, (!t183), rf_, H', ⟨by first | omega | exact Nat.le_refl _⟩, ⟨bk_ BK180⟩, ⟨bl_⟩⟩
   ·replace c7 := Bool.eq_false_iff.mpr c7
    subst c7
    replace H := ite_f_ H
    have H' := aa_ H
    clear H
    have hcz12 := blk_cell BK180.out
    have hfz12 := blk_frozen BK180.out
    go_wp2_with (first | ((with_reducible refine gC_ 94 rfl ?_); refine goesC_ (some 6) Tryz.func94 #[.agg #[.int .i64 a0_1, .int .i64 a0_2]] ?_; (with_reducible refine (spec_RoleOk.calls a0_1 a0_2 true _ A4.out).mono ?_); rintro e w13 ⟨rfl, hb⟩; refine ⟨_, rfl, ?_⟩; replace BK180 := bkb_ BK180 hb; replace HB := hbs_ hb; clear hb; obtain ⟨hcz14, hfz14⟩ := bcf_ BK180) | (go_at_call 30; (with_reducible refine (spec_l01In.calls a0_8 1 9999 false _ A6.out).mono ?_); rintro e w' ⟨rfl, ⟨nd, rfl⟩⟩))
    go_meet
    case rel => exact ⟨_, (true), rf_, H', ⟨by first | omega | exact Nat.le_refl _⟩, ⟨bk_ BK180⟩, ⟨bl_⟩⟩
  ·replace c5 := Bool.eq_false_iff.mpr c5
   subst c5
   replace H := ite_f_ H
   have H' := aa_ H
   clear H
   have hcz15 := blk_cell BK180.out
   have hfz15 := blk_frozen BK180.out
   go_wp2_with (first | ((with_reducible refine gC_ 94 rfl ?_); refine goesC_ (some 6) Tryz.func94 #[.agg #[.int .i64 a0_1, .int .i64 a0_2]] ?_; (with_reducible refine (spec_RoleOk.calls a0_1 a0_2 false _ A4.out).mono ?_); rintro e w16 ⟨rfl, hb⟩; refine ⟨_, rfl, ?_⟩; replace BK180 := bkb_ BK180 hb; replace HB := hbs_ hb; clear hb))
   go_meet
   case rel => exact ⟨_, (true), rf_, H', ⟨by first | omega | exact Nat.le_refl _⟩, ⟨bk_ BK180⟩, ⟨bl_⟩⟩
 case rest =>
  clear HC2
  try clear p2
  try clear hcz11
  try clear hcz12
  try clear hcz14
  try clear hcz15
  try clear hcz9
  try clear hfz11
  try clear hfz12
  try clear hfz14
  try clear hfz15
  try clear hfz9
  obtain ⟨kq, x19_1, rfl, HA, HJ1, BK180, HB⟩ := hcut
  cases kq with
  | zero => exact absurd HA.out (by simp [spec_CredOk.j0])
  | succ kj1 =>
   have H := HA.out
   clear HA
   simp only [spec_CredOk.j0] at H
   by_cases c17 : x19_1 = true
   ·subst c17
    replace H := ite_t_ H
    obtain rfl := Option.some.inj H
    go_wp2
    go_ret
    exact ⟨eq_, bl_⟩
   ·replace c17 := Bool.eq_false_iff.mpr c17
    subst c17
    replace H := ite_f_ H
    have HC18 := aa_ H
    clear H
    go_upto_if 23 with (first | ((with_reducible refine gD_ 3 rfl ?_); refine bx_ (N := 3) (cs := #[.int .i64 0, .int .i64 0]) (t := 77) ?_; intro gb184 hg w19 hbox hb; have BK184 := aa_ (hbox); have GW184 := gs_ hg; have GE184 := gs_ hg; replace HB := hbs_ hb; have NB180_184 := nl_ hg BK180; have NB184_180 := nr_ hg BK180; replace BK180 := bkb_ BK180 hb; clear hb hbox hg; have hnb20 := NB184_180.out; have hnc20 := NB180_184.out; obtain ⟨hcz21, hfz21⟩ := bcf_ BK184; obtain ⟨hcz22, hfz22⟩ := bcf_ BK180))
    have n0_ : Aside0 (((w19.setCell ⟨gb184, 0, none⟩ (.int .i64 0)).setCell ⟨gb184, 1, none⟩ (.int .i64 0)).heap[gb180]? = some (.cells #[.int .i64 a0_0, .int .i64 a0_1, .int .i64 a0_2, .int .i64 a0_3, .int .i64 a0_4, .int .i64 a0_5, .int .i64 a0_6, .int .i64 a0_7, .int .i64 a0_8, .int .i64 a0_9] 83 (0, 0))) := ⟨bk_ BK180⟩
    have n1_ : Aside0 (((w19.setCell ⟨gb184, 0, none⟩ (.int .i64 0)).setCell ⟨gb184, 1, none⟩ (.int .i64 0)).heap[gb184]? = some (.cells #[.int .i64 0, .int .i64 0] 77 (0, 0))) := ⟨bk_ BK184⟩
    have n2_ : Aside0 (Below w.heap.size w ((w19.setCell ⟨gb184, 0, none⟩ (.int .i64 0)).setCell ⟨gb184, 1, none⟩ (.int .i64 0))) := ⟨bl_⟩
    (try clear BK180)
    (try clear BK184)
    (try clear HB)
    generalize ((w19.setCell ⟨gb184, 0, none⟩ (.int .i64 0)).setCell ⟨gb184, 1, none⟩ (.int .i64 0)) = w23 at n0_ n1_ n2_ ⊢
    have BK180 := n0_
    have BK184 := n1_
    have HB := n2_
    clear n0_ n1_ n2_
    (try simp only [Act.put, sb_, sz_, ss_])
    have H := HC18.out
    clear HC18
    by_cases c24 : a0_0 = 1
    ·rw [if_pos c24] at H
     have c24b0 : (a0_0 == 1) = true := beq_iff_eq.mpr c24
     have c24b1 : (a0_0 != 1) = false := bne_eq_false_iff_eq.mpr c24
     clear c24
     (first | rw [c24b0] | (simp only [i64_w, i32_w]; rw [c24b0]) | skip)
     obtain ⟨t185, A25, H⟩ := bindE_ H
     by_cases c26 : t185 = true
     ·subst c26
      replace H := ite_t_ H
      by_cases c27 : (a0_4 == 0 && (a0_5 == 0)) = true
      ·rw [if_pos c27] at H
       have c27b0 : (a0_4 == 0 && (a0_5 == 0)) = true := c27
       (try (have c27b1 : decide (a0_4 = 0 && (a0_5 == 0)) = true := by simpa using c27))
       (try (have c27b2 : (a0_4 == 0 && (a0_5 == 0)) = true := by simpa using c27))
       clear c27
       obtain rfl := Option.some.inj H
       have hnb28 := NB180_184.out
       have hnc28 := NB184_180.out
       have hcz29 := blk_cell BK180.out
       have hfz29 := blk_frozen BK180.out
       go_wp2_with (first | ((with_reducible refine gC_ 30 rfl ?_); refine goesC_ (some 27) Tryz.func30 #[.int .i64 a0_3, .int .i64 0, .int .i64 5] ?_; (with_reducible refine (spec_l01In.calls a0_3 0 5 true _ A25.out).mono ?_); rintro e w' ⟨rfl, ⟨nd, rfl⟩⟩; refine ⟨_, rfl, ?_⟩; obtain ⟨hcz30, hfz30⟩ := bcf_ BK184))
       go_ret
       exact ⟨eq_, bl_⟩
      ·rw [if_neg c27] at H
       have c27b0 : (a0_4 == 0 && (a0_5 == 0)) = false := by simpa using c27
       (try (have c27b1 : decide (a0_4 = 0 && (a0_5 == 0)) = false := by simpa using c27))
       (try (have c27b2 : (a0_4 == 0 && (a0_5 == 0)) = false := by simpa using c27))
       (try (have c27b3 : ¬ (a0_4 = 0 && (a0_5 == 0)) := by simpa using c27))
       clear c27
       obtain rfl := Option.some.inj H
       have hnb31 := NB180_184.out
       have hnc31 := NB184_180.out
       have hcz32 := blk_cell BK180.out
       have hfz32 := blk_frozen BK180.out
       go_wp2_with (first | ((with_reducible refine gC_ 30 rfl ?_); refine goesC_ (some 27) Tryz.func30 #[.int .i64 a0_3, .int .i64 0, .int .i64 5] ?_; (with_reducible refine (spec_l01In.calls a0_3 0 5 true _ A25.out).mono ?_); rintro e w' ⟨rfl, ⟨nd, rfl⟩⟩; refine ⟨_, rfl, ?_⟩; obtain ⟨hcz33, hfz33⟩ := bcf_ BK184))
       go_ret
       exact ⟨eq_, bl_⟩
     ·replace c26 := Bool.eq_false_iff.mpr c26
      subst c26
      replace H := ite_f_ H
      obtain rfl := Option.some.inj H
      have hnb34 := NB180_184.out
      have hnc34 := NB184_180.out
      have hcz35 := blk_cell BK180.out
      have hfz35 := blk_frozen BK180.out
      go_wp2_with (first | ((with_reducible refine gC_ 30 rfl ?_); refine goesC_ (some 27) Tryz.func30 #[.int .i64 a0_3, .int .i64 0, .int .i64 5] ?_; (with_reducible refine (spec_l01In.calls a0_3 0 5 false _ A25.out).mono ?_); rintro e w' ⟨rfl, ⟨nd, rfl⟩⟩; refine ⟨_, rfl, ?_⟩))
      go_ret
      exact ⟨eq_, bl_⟩
    ·rw [if_neg c24] at H
     have c24b0 : (a0_0 == 1) = false := beq_eq_false_iff_ne.mpr c24
     have c24b1 : (a0_0 != 1) = true := bne_iff_ne.mpr c24
     (first | rw [c24b0] | (simp only [i64_w, i32_w]; rw [c24b0]) | skip)
     by_cases c36 : a0_0 = 2
     ·rw [if_pos c36] at H
      have c36b0 : (a0_0 == 2) = true := beq_iff_eq.mpr c36
      have c36b1 : (a0_0 != 2) = false := bne_eq_false_iff_eq.mpr c36
      clear c36
      by_cases c37 : a0_3 = 0
      ·rw [if_pos c37] at H
       have c37b0 : (a0_3 == 0) = true := beq_iff_eq.mpr c37
       have c37b1 : (a0_3 != 0) = false := bne_eq_false_iff_eq.mpr c37
       clear c37
       obtain ⟨t186, A38, H⟩ := bindE_ H
       by_cases c39 : t186 = true
       ·subst c39
        replace H := ite_t_ H
        obtain rfl := Option.some.inj H
        have hnb40 := NB180_184.out
        have hnc40 := NB184_180.out
        have hcz41 := blk_cell BK180.out
        have hfz41 := blk_frozen BK180.out
        go_wp2_with (first | (go_at_call 94; (with_reducible refine (spec_RoleOk.calls a0_4 a0_5 true _ A38.out).mono ?_); rintro e w42 ⟨rfl, hb⟩; replace BK180 := bkb_ BK180 hb; replace BK184 := bkb_ BK184 hb; replace HB := hbs_ hb; clear hb; obtain ⟨hcz43, hfz43⟩ := bcf_ BK180; obtain ⟨hcz44, hfz44⟩ := bcf_ BK184))
        go_ret
        exact ⟨eq_, bl_⟩
       ·replace c39 := Bool.eq_false_iff.mpr c39
        subst c39
        replace H := ite_f_ H
        obtain rfl := Option.some.inj H
        have hnb45 := NB180_184.out
        have hnc45 := NB184_180.out
        have hcz46 := blk_cell BK180.out
        have hfz46 := blk_frozen BK180.out
        go_wp2_with (first | (go_at_call 94; (with_reducible refine (spec_RoleOk.calls a0_4 a0_5 false _ A38.out).mono ?_); rintro e w47 ⟨rfl, hb⟩; replace BK180 := bkb_ BK180 hb; replace BK184 := bkb_ BK184 hb; replace HB := hbs_ hb; clear hb))
        go_ret
        exact ⟨eq_, bl_⟩
      ·rw [if_neg c37] at H
       have c37b0 : (a0_3 == 0) = false := beq_eq_false_iff_ne.mpr c37
       have c37b1 : (a0_3 != 0) = true := bne_iff_ne.mpr c37
       obtain rfl := Option.some.inj H
       have hnb48 := NB180_184.out
       have hnc48 := NB184_180.out
       have hcz49 := blk_cell BK180.out
       have hfz49 := blk_frozen BK180.out
       go_wp2
       go_ret
       exact ⟨eq_, bl_⟩
     ·rw [if_neg c36] at H
      have c36b0 : (a0_0 == 2) = false := beq_eq_false_iff_ne.mpr c36
      have c36b1 : (a0_0 != 2) = true := bne_iff_ne.mpr c36
      by_cases c50 : a0_0 = 3
      ·rw [if_pos c50] at H
       have c50b0 : (a0_0 == 3) = true := beq_iff_eq.mpr c50
       have c50b1 : (a0_0 != 3) = false := bne_eq_false_iff_eq.mpr c50
       clear c50
       by_cases c51 : a0_3 = 0
       ·rw [if_pos c51] at H
        have c51b0 : (a0_3 == 0) = true := beq_iff_eq.mpr c51
        have c51b1 : (a0_3 != 0) = false := bne_eq_false_iff_eq.mpr c51
        clear c51
        obtain ⟨t187, A52, H⟩ := bindE_ H
        by_cases c53 : t187 = true
        ·subst c53
         replace H := ite_t_ H
         obtain ⟨t188, A54, H⟩ := bindE_ H
         by_cases c55 : t188 = true
         ·subst c55
          replace H := ite_t_ H
          obtain rfl := Option.some.inj H
          have hnb56 := NB180_184.out
          have hnc56 := NB184_180.out
          have hcz57 := blk_cell BK180.out
          have hfz57 := blk_frozen BK180.out
          go_wp2_with (first | (go_at_call 94; (with_reducible refine (spec_RoleOk.calls a0_4 a0_5 true _ A52.out).mono ?_); rintro e w58 ⟨rfl, hb⟩; replace BK180 := bkb_ BK180 hb; replace BK184 := bkb_ BK184 hb; replace HB := hbs_ hb; clear hb; obtain ⟨hcz59, hfz59⟩ := bcf_ BK180) | (go_at_call 94; (with_reducible refine (spec_RoleOk.calls a0_6 a0_7 true _ A54.out).mono ?_); rintro e w60 ⟨rfl, hb⟩; replace BK180 := bkb_ BK180 hb; replace BK184 := bkb_ BK184 hb; replace HB := hbs_ hb; clear hb; obtain ⟨hcz61, hfz61⟩ := bcf_ BK180))
          go_ret
          exact ⟨eq_, bl_⟩
         ·replace c55 := Bool.eq_false_iff.mpr c55
          subst c55
          replace H := ite_f_ H
          obtain rfl := Option.some.inj H
          have hnb62 := NB180_184.out
          have hnc62 := NB184_180.out
          have hcz63 := blk_cell BK180.out
          have hfz63 := blk_frozen BK180.out
          go_wp2_with (first | (go_at_call 94; (with_reducible refine (spec_RoleOk.calls a0_4 a0_5 true _ A52.out).mono ?_); rintro e w64 ⟨rfl, hb⟩; replace BK180 := bkb_ BK180 hb; replace BK184 := bkb_ BK184 hb; replace HB := hbs_ hb; clear hb; obtain ⟨hcz65, hfz65⟩ := bcf_ BK180) | (go_at_call 94; (with_reducible refine (spec_RoleOk.calls a0_6 a0_7 false _ A54.out).mono ?_); rintro e w66 ⟨rfl, hb⟩; replace BK180 := bkb_ BK180 hb; replace BK184 := bkb_ BK184 hb; replace HB := hbs_ hb; clear hb))
          go_ret
          exact ⟨eq_, bl_⟩
        ·replace c53 := Bool.eq_false_iff.mpr c53
         subst c53
         replace H := ite_f_ H
         obtain rfl := Option.some.inj H
         have hnb67 := NB180_184.out
         have hnc67 := NB184_180.out
         have hcz68 := blk_cell BK180.out
         have hfz68 := blk_frozen BK180.out
         go_wp2_with (first | (go_at_call 94; (with_reducible refine (spec_RoleOk.calls a0_4 a0_5 false _ A52.out).mono ?_); rintro e w69 ⟨rfl, hb⟩; replace BK180 := bkb_ BK180 hb; replace BK184 := bkb_ BK184 hb; replace HB := hbs_ hb; clear hb))
         go_ret
         exact ⟨eq_, bl_⟩
       ·rw [if_neg c51] at H
        have c51b0 : (a0_3 == 0) = false := beq_eq_false_iff_ne.mpr c51
        have c51b1 : (a0_3 != 0) = true := bne_iff_ne.mpr c51
        obtain rfl := Option.some.inj H
        have hnb70 := NB180_184.out
        have hnc70 := NB184_180.out
        have hcz71 := blk_cell BK180.out
        have hfz71 := blk_frozen BK180.out
        go_wp2
        go_ret
        exact ⟨eq_, bl_⟩
      ·rw [if_neg c50] at H
       have c50b0 : (a0_0 == 3) = false := beq_eq_false_iff_ne.mpr c50
       have c50b1 : (a0_0 != 3) = true := bne_iff_ne.mpr c50
       by_cases c72 : a0_0 = 4
       ·rw [if_pos c72] at H
        have c72b0 : (a0_0 == 4) = true := beq_iff_eq.mpr c72
        have c72b1 : (a0_0 != 4) = false := bne_eq_false_iff_eq.mpr c72
        clear c72
        by_cases c73 : a0_3 = 0
        ·rw [if_pos c73] at H
         have c73b0 : (a0_3 == 0) = true := beq_iff_eq.mpr c73
         have c73b1 : (a0_3 != 0) = false := bne_eq_false_iff_eq.mpr c73
         clear c73
         obtain ⟨t189, A74, H⟩ := bindE_ H
         by_cases c75 : t189 = true
         ·subst c75
          replace H := ite_t_ H
          obtain ⟨t190, A76, H⟩ := bindE_ H
          obtain rfl := Option.some.inj H
          have hnb77 := NB180_184.out
          have hnc77 := NB184_180.out
          have hcz78 := blk_cell BK180.out
          have hfz78 := blk_frozen BK180.out
          go_wp2_with (first | (go_at_call 94; (with_reducible refine (spec_RoleOk.calls a0_4 a0_5 true _ A74.out).mono ?_); rintro e w79 ⟨rfl, hb⟩; replace BK180 := bkb_ BK180 hb; replace BK184 := bkb_ BK184 hb; replace HB := hbs_ hb; clear hb; obtain ⟨hcz80, hfz80⟩ := bcf_ BK180) | (go_at_call 94; (with_reducible refine (spec_RoleOk.calls a0_6 a0_7 t190 _ A76.out).mono ?_); rintro e w81 ⟨rfl, hb⟩; replace BK180 := bkb_ BK180 hb; replace BK184 := bkb_ BK184 hb; replace HB := hbs_ hb; clear hb))
          go_ret
          exact ⟨eq_, bl_⟩
         ·replace c75 := Bool.eq_false_iff.mpr c75
          subst c75
          replace H := ite_f_ H
          obtain rfl := Option.some.inj H
          have hnb82 := NB180_184.out
          have hnc82 := NB184_180.out
          have hcz83 := blk_cell BK180.out
          have hfz83 := blk_frozen BK180.out
          go_wp2_with (first | (go_at_call 94; (with_reducible refine (spec_RoleOk.calls a0_4 a0_5 false _ A74.out).mono ?_); rintro e w84 ⟨rfl, hb⟩; replace BK180 := bkb_ BK180 hb; replace BK184 := bkb_ BK184 hb; replace HB := hbs_ hb; clear hb))
          go_ret
          exact ⟨eq_, bl_⟩
        ·rw [if_neg c73] at H
         have c73b0 : (a0_3 == 0) = false := beq_eq_false_iff_ne.mpr c73
         have c73b1 : (a0_3 != 0) = true := bne_iff_ne.mpr c73
         obtain rfl := Option.some.inj H
         have hnb85 := NB180_184.out
         have hnc85 := NB184_180.out
         have hcz86 := blk_cell BK180.out
         have hfz86 := blk_frozen BK180.out
         go_wp2
         go_ret
         exact ⟨eq_, bl_⟩
       ·rw [if_neg c72] at H
        have c72b0 : (a0_0 == 4) = false := beq_eq_false_iff_ne.mpr c72
        have c72b1 : (a0_0 != 4) = true := bne_iff_ne.mpr c72
        obtain rfl := Option.some.inj H
        go_wp2
        go_ret
        exact ⟨eq_, bl_⟩
def spec_l07Shown.l0 : Nat → List (S111) → Int → Int → Int → Int → Int → Option (Bool)
 | 0, _, _, _, _, _, _ => none
 | k + 1, x0, x1, x7, x192000, x192001, x192002 => if 0 ≤ x1 then (if x1 < (x0.length : Int) then (if x7 < (((rd_T111 x0 x1).f2).length : Int) then (if 0 ≤ x7 then ((spec_l01In.f (rd ((rd_T111 x0 x1).f2) x7) 0 (wrap64 (x1 - 1))).bind fun t195 => (if t195 = true then (if 0 ≤ (rd ((rd_T111 x0 x1).f2) x7) then (if (rd ((rd_T111 x0 x1).f2) x7) < (x0.length : Int) then (if ((((rd_T111 x0 (rd ((rd_T111 x0 x1).f2) x7)).f1.f0.f0) == x192000 && (((rd_T111 x0 (rd ((rd_T111 x0 x1).f2) x7)).f1.f0.f1) == x192001)) && (((rd_T111 x0 (rd ((rd_T111 x0 x1).f2) x7)).f1.f1) == x192002)) = true then (some true) else (spec_l07Shown.l0 k x0 x1 (wrap64 (x7 + 1)) x192000 x192001 x192002)) else (none)) else (none)) else (spec_l07Shown.l0 k x0 x1 (wrap64 (x7 + 1)) x192000 x192001 x192002))) else (none)) else (some false)) else (none)) else (none)
def spec_l07Shown.f (k : Nat) (l0 : List (S111)) (a1 : Int) (a2_0 : Int) (a2_1 : Int) (a2_2 : Int) : Option (Bool) := spec_l07Shown.l0 k l0 a1 0 a2_0 a2_1 a2_2
set_option maxHeartbeats 8000000 in
set_option maxRecDepth 100000 in
theorem spec_l07Shown.calls (k : Nat) (A0 : Option Addr) (c0 : Nat) (l0 : List (S111)) (a1 : Int) (a2_0 : Int) (a2_1 : Int) (a2_2 : Int) (r : Bool) (w : World) (hr0 : Kd.C k111 w A0 l0.length l0) (hc0 : l0.length ≤ c0) (h : spec_l07Shown.f k l0 a1 a2_0 a2_1 a2_2 = some r) :
  Calls Tryz.prog 93 #[.slice A0 l0.length c0, .int .i64 a1, .agg #[.int .i64 a2_0, .int .i64 a2_1, .int .i64 a2_2]] w fun e w' => e = .returned (.bool r) ∧ Below w.heap.size w w' := by
 have hu79 := Tryz.underlying79
 have HR0 := aa_ hr0
 have HC0 := aa_ hc0
 clear hr0 hc0
 have HB := aa_ (Below.refl w.heap.size w)
 have H : (spec_l07Shown.l0 k l0 a1 0 a2_0 a2_1 a2_2) = some r := h
 clear h
 have H' := aa_ H
 clear H
 go_enter Tryz.func93, Tryz.ntmps93
 go_wp2_with (first | ((with_reducible refine gD_ 5 rfl ?_); refine bx_ (N := 5) (cs := #[.int .i64 a2_0, .int .i64 a2_1, .int .i64 a2_2]) (t := 79) ?_; intro gb191 hg w4 hbox hb; have BK191 := aa_ (hbox); have GW191 := gs_ hg; have GE191 := gs_ hg; replace HB := hbs_ hb; clear hb hbox hg))
 repeat (go_quiet (first | ((with_reducible refine gD_ 5 rfl ?_); refine bx_ (N := 5) (cs := #[.int .i64 a2_0, .int .i64 a2_1, .int .i64 a2_2]) (t := 79) ?_; intro gb191 hg w4 hbox hb; have BK191 := aa_ (hbox); have GW191 := gs_ hg; have GE191 := gs_ hg; replace HB := hbs_ hb; clear hb hbox hg)); try go_wp2_with (first | ((with_reducible refine gD_ 5 rfl ?_); refine bx_ (N := 5) (cs := #[.int .i64 a2_0, .int .i64 a2_1, .int .i64 a2_2]) (t := 79) ?_; intro gb191 hg w4 hbox hb; have BK191 := aa_ (hbox); have GW191 := gs_ hg; have GE191 := gs_ hg; replace HB := hbs_ hb; clear hb hbox hg)))
 go_loopg [7] k (fun kq v7 w' => ∃ (x7_1 : Int), v7 = .int .i64 x7_1 ∧ Aside0 (spec_l07Shown.l0 kq l0 a1 x7_1 a2_0 a2_1 a2_2 = some r) ∧ Aside0 (kq ≤ k) ∧ Aside0 (w'.heap[gb191]? = some (.cells #[.int .i64 a2_0, .int .i64 a2_1, .int .i64 a2_2] 79 (0, 0))) ∧ Aside0 (Below w.heap.size w w'))
 case atStart => exact ⟨(0), rf_, H', ⟨Nat.le_refl _⟩, ⟨bk_ BK191⟩, ⟨bl_⟩⟩
 case round =>
  clear H'
  try clear p2
  obtain ⟨x7_1, rfl, HA, HK1, BK191, HB⟩ := hrel
  cases gk with
  | zero => exact absurd HA.out (by simp [spec_l07Shown.l0])
  | succ k1 =>
   have H := HA.out
   clear HA
   simp only [spec_l07Shown.l0] at H
   obtain ⟨c5b0, H⟩ := ifd_ H
   obtain ⟨c6b0, H⟩ := ifd_ H
   by_cases c7 : x7_1 < (((rd_T111 l0 a1).f2).length : Int)
   ·rw [if_pos c7] at H
    have c7b0 : decide (x7_1 < (((rd_T111 l0 a1).f2).length : Int)) = true := decide_eq_true c7
    clear c7
    obtain ⟨c8b0, H⟩ := ifd_ H
    obtain ⟨t195, A9, H⟩ := bindE_ H
    by_cases c10 : t195 = true
    ·subst c10
     replace H := ite_t_ H
     obtain ⟨c11b0, H⟩ := ifd_ H
     obtain ⟨c12b0, H⟩ := ifd_ H
     by_cases c13 : ((((rd_T111 l0 (rd ((rd_T111 l0 a1).f2) x7_1)).f1.f0.f0) == a2_0 && (((rd_T111 l0 (rd ((rd_T111 l0 a1).f2) x7_1)).f1.f0.f1) == a2_1)) && (((rd_T111 l0 (rd ((rd_T111 l0 a1).f2) x7_1)).f1.f1) == a2_2)) = true
     ·rw [if_pos c13] at H
      have c13b0 : ((((rd_T111 l0 (rd ((rd_T111 l0 a1).f2) x7_1)).f1.f0.f0) == a2_0 && (((rd_T111 l0 (rd ((rd_T111 l0 a1).f2) x7_1)).f1.f0.f1) == a2_1)) && (((rd_T111 l0 (rd ((rd_T111 l0 a1).f2) x7_1)).f1.f1) == a2_2)) = true := c13
      clear c13
      obtain rfl := Option.some.inj H
      have p192 : 0 ≤ (a1 : Int) := od_
      have q192 : a1 < (l0.length : Int) := od_
      obtain ⟨ad192, A192_13, c192_13, e192, hx192_0, hx192_1, hx192_2, hx192_3, hx192_4, hx192_5, hx192_6, hx192_7, hx192_8, hx192_9, hx192_10, hx192_11, hx192_12, hx192_13, hl192_13, hi192_13⟩ := at_T111 HR0.out a1 p192 q192
      cases e192
      replace hx192_0 := cb_ HB hx192_0
      replace hx192_1 := cb_ HB hx192_1
      replace hx192_2 := cb_ HB hx192_2
      replace hx192_3 := cb_ HB hx192_3
      replace hx192_4 := cb_ HB hx192_4
      replace hx192_5 := cb_ HB hx192_5
      replace hx192_6 := cb_ HB hx192_6
      replace hx192_7 := cb_ HB hx192_7
      replace hx192_8 := cb_ HB hx192_8
      replace hx192_9 := cb_ HB hx192_9
      replace hx192_10 := cb_ HB hx192_10
      replace hx192_11 := cb_ HB hx192_11
      replace hx192_12 := cb_ HB hx192_12
      replace hx192_13 := cb_ HB hx192_13
      have HR192_13 := aa_ hi192_13
      have HC192_13 := aa_ hl192_13
      clear hi192_13 hl192_13
      replace p192 := eq_true p192
      replace q192 := eq_true q192
      have p193 : 0 ≤ (a1 : Int) := od_
      have q193 : a1 < (l0.length : Int) := od_
      obtain ⟨ad193, A193_13, c193_13, e193, hx193_0, hx193_1, hx193_2, hx193_3, hx193_4, hx193_5, hx193_6, hx193_7, hx193_8, hx193_9, hx193_10, hx193_11, hx193_12, hx193_13, hl193_13, hi193_13⟩ := at_T111 HR0.out a1 p193 q193
      obtain rfl : ad192 = ad193 := (by injection e193)
      replace hx193_0 := cb_ HB hx193_0
      replace hx193_1 := cb_ HB hx193_1
      replace hx193_2 := cb_ HB hx193_2
      replace hx193_3 := cb_ HB hx193_3
      replace hx193_4 := cb_ HB hx193_4
      replace hx193_5 := cb_ HB hx193_5
      replace hx193_6 := cb_ HB hx193_6
      replace hx193_7 := cb_ HB hx193_7
      replace hx193_8 := cb_ HB hx193_8
      replace hx193_9 := cb_ HB hx193_9
      replace hx193_10 := cb_ HB hx193_10
      replace hx193_11 := cb_ HB hx193_11
      replace hx193_12 := cb_ HB hx193_12
      replace hx193_13 := cb_ HB hx193_13
      have HR193_13 := aa_ hi193_13
      have HC193_13 := aa_ hl193_13
      clear hi193_13 hl193_13
      replace p193 := eq_true p193
      replace q193 := eq_true q193
      have ea_ := Option.some.inj (hx192_13.symm.trans hx193_13)
      injection ea_ with ea_ en_ ec_
      subst ea_
      subst ec_
      clear en_
      have p194 : 0 ≤ (x7_1 : Int) := od_
      have q194 : x7_1 < (((rd_T111 l0 a1).f2).length : Int) := od_
      obtain ⟨ad194, e194, hx194_0⟩ := Kd.at_int (Kd.C_below HR193_13.out HB.out) x7_1 p194 q194
      cases e194
      replace p194 := eq_true p194
      replace q194 := eq_true q194
      have p196 : 0 ≤ ((rd ((rd_T111 l0 a1).f2) x7_1) : Int) := od_
      have q196 : (rd ((rd_T111 l0 a1).f2) x7_1) < (l0.length : Int) := od_
      obtain ⟨ad196, A196_13, c196_13, e196, hx196_0, hx196_1, hx196_2, hx196_3, hx196_4, hx196_5, hx196_6, hx196_7, hx196_8, hx196_9, hx196_10, hx196_11, hx196_12, hx196_13, hl196_13, hi196_13⟩ := at_T111 HR0.out (rd ((rd_T111 l0 a1).f2) x7_1) p196 q196
      obtain rfl : ad192 = ad196 := (by injection e196)
      replace hx196_0 := cb_ HB hx196_0
      replace hx196_1 := cb_ HB hx196_1
      replace hx196_2 := cb_ HB hx196_2
      replace hx196_3 := cb_ HB hx196_3
      replace hx196_4 := cb_ HB hx196_4
      replace hx196_5 := cb_ HB hx196_5
      replace hx196_6 := cb_ HB hx196_6
      replace hx196_7 := cb_ HB hx196_7
      replace hx196_8 := cb_ HB hx196_8
      replace hx196_9 := cb_ HB hx196_9
      replace hx196_10 := cb_ HB hx196_10
      replace hx196_11 := cb_ HB hx196_11
      replace hx196_12 := cb_ HB hx196_12
      replace hx196_13 := cb_ HB hx196_13
      have HR196_13 := aa_ hi196_13
      have HC196_13 := aa_ hl196_13
      clear hi196_13 hl196_13
      replace p196 := eq_true p196
      replace q196 := eq_true q196
      have hcz14 := blk_cell BK191.out
      have hfz14 := blk_frozen BK191.out
      go_wp2_with (first | (go_at_call 30; (with_reducible refine (spec_l01In.calls (rd ((rd_T111 l0 a1).f2) x7_1) 0 (wrap64 (a1 - 1)) true _ A9.out).mono ?_); rintro e w' ⟨rfl, ⟨nd, rfl⟩⟩; (try first | exact ⟨rfl, _, World.drewN_drewN _ _ _⟩ | exact ⟨rfl, _, Eq.trans (World.drewN_drewN _ _ _) (congrArg (World.drewN _) (Nat.add_assoc _ _ _))⟩)))
      repeat (go_quiet (first | (go_at_call 30; (with_reducible refine (spec_l01In.calls (rd ((rd_T111 l0 a1).f2) x7_1) 0 (wrap64 (a1 - 1)) true _ A9.out).mono ?_); rintro e w' ⟨rfl, ⟨nd, rfl⟩⟩; (try first | exact ⟨rfl, _, World.drewN_drewN _ _ _⟩ | exact ⟨rfl, _, Eq.trans (World.drewN_drewN _ _ _) (congrArg (World.drewN _) (Nat.add_assoc _ _ _))⟩))); try go_wp2_with (first | (go_at_call 30; (with_reducible refine (spec_l01In.calls (rd ((rd_T111 l0 a1).f2) x7_1) 0 (wrap64 (a1 - 1)) true _ A9.out).mono ?_); rintro e w' ⟨rfl, ⟨nd, rfl⟩⟩; (try first | exact ⟨rfl, _, World.drewN_drewN _ _ _⟩ | exact ⟨rfl, _, Eq.trans (World.drewN_drewN _ _ _) (congrArg (World.drewN _) (Nat.add_assoc _ _ _))⟩))))
      go_ret
      exact ⟨eq_, bl_⟩
     ·rw [if_neg c13] at H
      have c13b0 : ((((rd_T111 l0 (rd ((rd_T111 l0 a1).f2) x7_1)).f1.f0.f0) == a2_0 && (((rd_T111 l0 (rd ((rd_T111 l0 a1).f2) x7_1)).f1.f0.f1) == a2_1)) && (((rd_T111 l0 (rd ((rd_T111 l0 a1).f2) x7_1)).f1.f1) == a2_2)) = false := by simpa using c13
      clear c13
      have H' := aa_ H
      clear H
      have p192 : 0 ≤ (a1 : Int) := od_
      have q192 : a1 < (l0.length : Int) := od_
      obtain ⟨ad192, A192_13, c192_13, e192, hx192_0, hx192_1, hx192_2, hx192_3, hx192_4, hx192_5, hx192_6, hx192_7, hx192_8, hx192_9, hx192_10, hx192_11, hx192_12, hx192_13, hl192_13, hi192_13⟩ := at_T111 HR0.out a1 p192 q192
      cases e192
      replace hx192_0 := cb_ HB hx192_0
      replace hx192_1 := cb_ HB hx192_1
      replace hx192_2 := cb_ HB hx192_2
      replace hx192_3 := cb_ HB hx192_3
      replace hx192_4 := cb_ HB hx192_4
      replace hx192_5 := cb_ HB hx192_5
      replace hx192_6 := cb_ HB hx192_6
      replace hx192_7 := cb_ HB hx192_7
      replace hx192_8 := cb_ HB hx192_8
      replace hx192_9 := cb_ HB hx192_9
      replace hx192_10 := cb_ HB hx192_10
      replace hx192_11 := cb_ HB hx192_11
      replace hx192_12 := cb_ HB hx192_12
      replace hx192_13 := cb_ HB hx192_13
      have HR192_13 := aa_ hi192_13
      have HC192_13 := aa_ hl192_13
      clear hi192_13 hl192_13
      replace p192 := eq_true p192
      replace q192 := eq_true q192
      have p193 : 0 ≤ (a1 : Int) := od_
      have q193 : a1 < (l0.length : Int) := od_
      obtain ⟨ad193, A193_13, c193_13, e193, hx193_0, hx193_1, hx193_2, hx193_3, hx193_4, hx193_5, hx193_6, hx193_7, hx193_8, hx193_9, hx193_10, hx193_11, hx193_12, hx193_13, hl193_13, hi193_13⟩ := at_T111 HR0.out a1 p193 q193
      obtain rfl : ad192 = ad193 := (by injection e193)
      replace hx193_0 := cb_ HB hx193_0
      replace hx193_1 := cb_ HB hx193_1
      replace hx193_2 := cb_ HB hx193_2
      replace hx193_3 := cb_ HB hx193_3
      replace hx193_4 := cb_ HB hx193_4
      replace hx193_5 := cb_ HB hx193_5
      replace hx193_6 := cb_ HB hx193_6
      replace hx193_7 := cb_ HB hx193_7
      replace hx193_8 := cb_ HB hx193_8
      replace hx193_9 := cb_ HB hx193_9
      replace hx193_10 := cb_ HB hx193_10
      replace hx193_11 := cb_ HB hx193_11
      replace hx193_12 := cb_ HB hx193_12
      replace hx193_13 := cb_ HB hx193_13
      have HR193_13 := aa_ hi193_13
      have HC193_13 := aa_ hl193_13
      clear hi193_13 hl193_13
      replace p193 := eq_true p193
      replace q193 := eq_true q193
      have ea_ := Option.some.inj (hx192_13.symm.trans hx193_13)
      injection ea_ with ea_ en_ ec_
      subst ea_
      subst ec_
      clear en_
      have p194 : 0 ≤ (x7_1 : Int) := od_
      have q194 : x7_1 < (((rd_T111 l0 a1).f2).length : Int) := od_
      obtain ⟨ad194, e194, hx194_0⟩ := Kd.at_int (Kd.C_below HR193_13.out HB.out) x7_1 p194 q194
      cases e194
      replace p194 := eq_true p194
      replace q194 := eq_true q194
      have p196 : 0 ≤ ((rd ((rd_T111 l0 a1).f2) x7_1) : Int) := od_
      have q196 : (rd ((rd_T111 l0 a1).f2) x7_1) < (l0.length : Int) := od_
      obtain ⟨ad196, A196_13, c196_13, e196, hx196_0, hx196_1, hx196_2, hx196_3, hx196_4, hx196_5, hx196_6, hx196_7, hx196_8, hx196_9, hx196_10, hx196_11, hx196_12, hx196_13, hl196_13, hi196_13⟩ := at_T111 HR0.out (rd ((rd_T111 l0 a1).f2) x7_1) p196 q196
      obtain rfl : ad192 = ad196 := (by injection e196)
      replace hx196_0 := cb_ HB hx196_0
      replace hx196_1 := cb_ HB hx196_1
      replace hx196_2 := cb_ HB hx196_2
      replace hx196_3 := cb_ HB hx196_3
      replace hx196_4 := cb_ HB hx196_4
      replace hx196_5 := cb_ HB hx196_5
      replace hx196_6 := cb_ HB hx196_6
      replace hx196_7 := cb_ HB hx196_7
      replace hx196_8 := cb_ HB hx196_8
      replace hx196_9 := cb_ HB hx196_9
      replace hx196_10 := cb_ HB hx196_10
      replace hx196_11 := cb_ HB hx196_11
      replace hx196_12 := cb_ HB hx196_12
      replace hx196_13 := cb_ HB hx196_13
      have HR196_13 := aa_ hi196_13
      have HC196_13 := aa_ hl196_13
      clear hi196_13 hl196_13
      replace p196 := eq_true p196
      replace q196 := eq_true q196
      have hcz15 := blk_cell BK191.out
      have hfz15 := blk_frozen BK191.out
      go_wp2_with (first | (go_at_call 30; (with_reducible refine (spec_l01In.calls (rd ((rd_T111 l0 a1).f2) x7_1) 0 (wrap64 (a1 - 1)) true _ A9.out).mono ?_); rintro e w' ⟨rfl, ⟨nd, rfl⟩⟩; (try first | exact ⟨rfl, _, World.drewN_drewN _ _ _⟩ | exact ⟨rfl, _, Eq.trans (World.drewN_drewN _ _ _) (congrArg (World.drewN _) (Nat.add_assoc _ _ _))⟩)))
      repeat (go_quiet (first | (go_at_call 30; (with_reducible refine (spec_l01In.calls (rd ((rd_T111 l0 a1).f2) x7_1) 0 (wrap64 (a1 - 1)) true _ A9.out).mono ?_); rintro e w' ⟨rfl, ⟨nd, rfl⟩⟩; (try first | exact ⟨rfl, _, World.drewN_drewN _ _ _⟩ | exact ⟨rfl, _, Eq.trans (World.drewN_drewN _ _ _) (congrArg (World.drewN _) (Nat.add_assoc _ _ _))⟩))); try go_wp2_with (first | (go_at_call 30; (with_reducible refine (spec_l01In.calls (rd ((rd_T111 l0 a1).f2) x7_1) 0 (wrap64 (a1 - 1)) true _ A9.out).mono ?_); rintro e w' ⟨rfl, ⟨nd, rfl⟩⟩; (try first | exact ⟨rfl, _, World.drewN_drewN _ _ _⟩ | exact ⟨rfl, _, Eq.trans (World.drewN_drewN _ _ _) (congrArg (World.drewN _) (Nat.add_assoc _ _ _))⟩))))
      go_roundg k1
      case measure => have := HK1.out; omega
      case rel => exact ⟨(wrap64 (x7_1 + 1)), rf_, H', ⟨by have := HK1.out; omega⟩, ⟨bk_ BK191⟩, ⟨bl_⟩⟩
    ·replace c10 := Bool.eq_false_iff.mpr c10
     subst c10
     replace H := ite_f_ H
     have H' := aa_ H
     clear H
     have p192 : 0 ≤ (a1 : Int) := od_
     have q192 : a1 < (l0.length : Int) := od_
     obtain ⟨ad192, A192_13, c192_13, e192, hx192_0, hx192_1, hx192_2, hx192_3, hx192_4, hx192_5, hx192_6, hx192_7, hx192_8, hx192_9, hx192_10, hx192_11, hx192_12, hx192_13, hl192_13, hi192_13⟩ := at_T111 HR0.out a1 p192 q192
     cases e192
     replace hx192_0 := cb_ HB hx192_0
     replace hx192_1 := cb_ HB hx192_1
     replace hx192_2 := cb_ HB hx192_2
     replace hx192_3 := cb_ HB hx192_3
     replace hx192_4 := cb_ HB hx192_4
     replace hx192_5 := cb_ HB hx192_5
     replace hx192_6 := cb_ HB hx192_6
     replace hx192_7 := cb_ HB hx192_7
     replace hx192_8 := cb_ HB hx192_8
     replace hx192_9 := cb_ HB hx192_9
     replace hx192_10 := cb_ HB hx192_10
     replace hx192_11 := cb_ HB hx192_11
     replace hx192_12 := cb_ HB hx192_12
     replace hx192_13 := cb_ HB hx192_13
     have HR192_13 := aa_ hi192_13
     have HC192_13 := aa_ hl192_13
     clear hi192_13 hl192_13
     replace p192 := eq_true p192
     replace q192 := eq_true q192
     have p193 : 0 ≤ (a1 : Int) := od_
     have q193 : a1 < (l0.length : Int) := od_
     obtain ⟨ad193, A193_13, c193_13, e193, hx193_0, hx193_1, hx193_2, hx193_3, hx193_4, hx193_5, hx193_6, hx193_7, hx193_8, hx193_9, hx193_10, hx193_11, hx193_12, hx193_13, hl193_13, hi193_13⟩ := at_T111 HR0.out a1 p193 q193
     obtain rfl : ad192 = ad193 := (by injection e193)
     replace hx193_0 := cb_ HB hx193_0
     replace hx193_1 := cb_ HB hx193_1
     replace hx193_2 := cb_ HB hx193_2
     replace hx193_3 := cb_ HB hx193_3
     replace hx193_4 := cb_ HB hx193_4
     replace hx193_5 := cb_ HB hx193_5
     replace hx193_6 := cb_ HB hx193_6
     replace hx193_7 := cb_ HB hx193_7
     replace hx193_8 := cb_ HB hx193_8
     replace hx193_9 := cb_ HB hx193_9
     replace hx193_10 := cb_ HB hx193_10
     replace hx193_11 := cb_ HB hx193_11
     replace hx193_12 := cb_ HB hx193_12
     replace hx193_13 := cb_ HB hx193_13
     have HR193_13 := aa_ hi193_13
     have HC193_13 := aa_ hl193_13
     clear hi193_13 hl193_13
     replace p193 := eq_true p193
     replace q193 := eq_true q193
     have ea_ := Option.some.inj (hx192_13.symm.trans hx193_13)
     injection ea_ with ea_ en_ ec_
     subst ea_
     subst ec_
     clear en_
     have p194 : 0 ≤ (x7_1 : Int) := od_
     have q194 : x7_1 < (((rd_T111 l0 a1).f2).length : Int) := od_
     obtain ⟨ad194, e194, hx194_0⟩ := Kd.at_int (Kd.C_below HR193_13.out HB.out) x7_1 p194 q194
     cases e194
     replace p194 := eq_true p194
     replace q194 := eq_true q194
     go_wp2_with (first | (go_at_call 30; (with_reducible refine (spec_l01In.calls (rd ((rd_T111 l0 a1).f2) x7_1) 0 (wrap64 (a1 - 1)) false _ A9.out).mono ?_); rintro e w' ⟨rfl, ⟨nd, rfl⟩⟩; (try first | exact ⟨rfl, _, World.drewN_drewN _ _ _⟩ | exact ⟨rfl, _, Eq.trans (World.drewN_drewN _ _ _) (congrArg (World.drewN _) (Nat.add_assoc _ _ _))⟩)))
     repeat (go_quiet (first | (go_at_call 30; (with_reducible refine (spec_l01In.calls (rd ((rd_T111 l0 a1).f2) x7_1) 0 (wrap64 (a1 - 1)) false _ A9.out).mono ?_); rintro e w' ⟨rfl, ⟨nd, rfl⟩⟩; (try first | exact ⟨rfl, _, World.drewN_drewN _ _ _⟩ | exact ⟨rfl, _, Eq.trans (World.drewN_drewN _ _ _) (congrArg (World.drewN _) (Nat.add_assoc _ _ _))⟩))); try go_wp2_with (first | (go_at_call 30; (with_reducible refine (spec_l01In.calls (rd ((rd_T111 l0 a1).f2) x7_1) 0 (wrap64 (a1 - 1)) false _ A9.out).mono ?_); rintro e w' ⟨rfl, ⟨nd, rfl⟩⟩; (try first | exact ⟨rfl, _, World.drewN_drewN _ _ _⟩ | exact ⟨rfl, _, Eq.trans (World.drewN_drewN _ _ _) (congrArg (World.drewN _) (Nat.add_assoc _ _ _))⟩))))
     go_roundg k1
     case measure => have := HK1.out; omega
     case rel => exact ⟨(wrap64 (x7_1 + 1)), rf_, H', ⟨by have := HK1.out; omega⟩, ⟨bk_ BK191⟩, ⟨bl_⟩⟩
   ·rw [if_neg c7] at H
    have c7b0 : decide (x7_1 < (((rd_T111 l0 a1).f2).length : Int)) = false := decide_eq_false c7
    clear c7
    obtain rfl := Option.some.inj H
    have p192 : 0 ≤ (a1 : Int) := od_
    have q192 : a1 < (l0.length : Int) := od_
    obtain ⟨ad192, A192_13, c192_13, e192, hx192_0, hx192_1, hx192_2, hx192_3, hx192_4, hx192_5, hx192_6, hx192_7, hx192_8, hx192_9, hx192_10, hx192_11, hx192_12, hx192_13, hl192_13, hi192_13⟩ := at_T111 HR0.out a1 p192 q192
    cases e192
    replace hx192_0 := cb_ HB hx192_0
    replace hx192_1 := cb_ HB hx192_1
    replace hx192_2 := cb_ HB hx192_2
    replace hx192_3 := cb_ HB hx192_3
    replace hx192_4 := cb_ HB hx192_4
    replace hx192_5 := cb_ HB hx192_5
    replace hx192_6 := cb_ HB hx192_6
    replace hx192_7 := cb_ HB hx192_7
    replace hx192_8 := cb_ HB hx192_8
    replace hx192_9 := cb_ HB hx192_9
    replace hx192_10 := cb_ HB hx192_10
    replace hx192_11 := cb_ HB hx192_11
    replace hx192_12 := cb_ HB hx192_12
    replace hx192_13 := cb_ HB hx192_13
    have HR192_13 := aa_ hi192_13
    have HC192_13 := aa_ hl192_13
    clear hi192_13 hl192_13
    replace p192 := eq_true p192
    replace q192 := eq_true q192
    go_wp2
    repeat (go_quiet (fail); try go_wp2)
    go_ret
    exact ⟨eq_, bl_⟩
end Go.Proofs.YteofimccoadmeaaGreat.PA
