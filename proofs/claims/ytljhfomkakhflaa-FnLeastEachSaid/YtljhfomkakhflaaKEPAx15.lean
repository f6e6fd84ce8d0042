import Derived.Test.YtljhfomkakhflaaKEPAx0
-- printed by wip/tools
namespace Go.Proofs.Ytljhfomkakhflaa.PA
open Go.RowKit Go.Proofs.YtljhfomkakhflaaW.PrintWords Go.Proofs.YtljhfomkakhflaaW.PrintLast Go.Proofs.YtljhfomkakhflaaW.PrintMore
attribute [local go_sem] max2_int min2_int max_two min_two max_three min_three max_four min_four
set_option linter.unusedVariables false
set_option linter.unusedSimpArgs false
mutual
def impl_kept.l0 : Nat → List (S58) → List Int → Int → Option ((List (S58)))
 | 0, _, _, _ => none
 | k + 1, x0, x3, x4 => if x4 ≥ 0 then (if x4 < (wrap64 ((x0.length : Int) - 1)) then (if 0 ≤ x4 then (if x4 < (x3.length : Int) then (impl_kept.j1 k x0 x3 x4 ((rd x3 x4) == 0)) else (none)) else (none)) else (impl_kept.j1 k x0 x3 x4 false)) else (if 0 ≤ (x0.length : Int) then (if ((x0.length : Int) : Int).toNat ≤ 35184372088832 then (impl_kept.l2 k x3 (List.replicate ((x0.length : Int) : Int).toNat 0) (([] : List (S58))) x0 (x0.length : Int) 0) else (none)) else (none))
def impl_kept.j1 : Nat → List (S58) → List Int → Int → Bool → Option ((List (S58)))
 | 0, _, _, _, _ => none
 | k + 1, x0, x3, x4, x35 => if x35 = true then (impl_kept.l0 k x0 x3 (wrap64 (x4 - 1))) else (if 0 ≤ x4 then (if x4 < (x3.length : Int) then (if x4 < (x0.length : Int) then (impl_kept.l1 k x0 (x3.set (x4 : Int).toNat 1) x4 ((rd_T58 x0 x4).f2) (((rd_T58 x0 x4).f2).length : Int) 0) else (none)) else (none)) else (none))
def impl_kept.l1 : Nat → List (S58) → List Int → Int → List Int → Int → Int → Option ((List (S58)))
 | 0, _, _, _, _, _, _ => none
 | k + 1, x0, x3, x4, x43, x44, x45 => if x45 < x44 then (if 0 ≤ x45 then (if x45 < (x43.length : Int) then (if 0 ≤ (rd x43 x45) then (if (rd x43 x45) < (x3.length : Int) then (impl_kept.l1 k x0 (x3.set ((rd x43 x45) : Int).toNat 1) x4 x43 x44 (wrap64 (x45 + 1))) else (none)) else (none)) else (none)) else (none)) else (impl_kept.l0 k x0 x3 (wrap64 (x4 - 1)))
def impl_kept.l2 : Nat → List Int → List Int → List (S58) → List (S58) → Int → Int → Option ((List (S58)))
 | 0, _, _, _, _, _, _ => none
 | k + 1, x3, x7, x8, x57, x58, x59 => if x59 < x58 then (if 0 ≤ x59 then (if x59 < (x57.length : Int) then (if x59 < (x3.length : Int) then (if (rd x3 x59) = 0 then (impl_kept.l2 k x3 x7 x8 x57 x58 (wrap64 (x59 + 1))) else (if x59 < (x7.length : Int) then (impl_kept.l3 k x3 (x7.set (x59 : Int).toNat (x8.length : Int)) x8 x57 x58 x59 ((rd_T58 x57 x59).f2) (((rd_T58 x57 x59).f2).length : Int) 0 ((rd_T58 x57 x59).f0.f0) ((rd_T58 x57 x59).f0.f1.f0) ((rd_T58 x57 x59).f0.f1.f1) ((rd_T58 x57 x59).f0.f2) ((rd_T58 x57 x59).f0.f3.f0) ((rd_T58 x57 x59).f0.f3.f1) ((rd_T58 x57 x59).f0.f4.f0) ((rd_T58 x57 x59).f0.f4.f1) ((rd_T58 x57 x59).f0.f5) ((rd_T58 x57 x59).f0.f6) ((rd_T58 x57 x59).f1.f0.f0) ((rd_T58 x57 x59).f1.f0.f1) ((rd_T58 x57 x59).f1.f1) ([] : List Int)) else (none))) else (none)) else (none)) else (none)) else (some x8)
def impl_kept.l3 : Nat → List Int → List Int → List (S58) → List (S58) → Int → Int → List Int → Int → Int → Int → Int → Int → Int → Int → Int → Int → Int → Int → Int → Int → Int → Int → List Int → Option ((List (S58)))
 | 0, _, _, _, _, _, _, _, _, _, _, _, _, _, _, _, _, _, _, _, _, _, _, _ => none
 | k + 1, x3, x7, x8, x57, x58, x59, x80, x81, x82, x478000, x478001, x478002, x478003, x478004, x478005, x478006, x478007, x478008, x478009, x478010, x478011, x478012, x478013 => if x82 < x81 then (if 0 ≤ x82 then (if x82 < (x80.length : Int) then (if 0 ≤ (rd x80 x82) then (if (rd x80 x82) < (x7.length : Int) then (if x478013.length < 17592186044416 then (impl_kept.l3 k x3 x7 x8 x57 x58 x59 x80 x81 (wrap64 (x82 + 1)) x478000 x478001 x478002 x478003 x478004 x478005 x478006 x478007 x478008 x478009 x478010 x478011 x478012 (x478013 ++ [rd x7 (rd x80 x82)])) else (none)) else (none)) else (none)) else (none)) else (none)) else (if x8.length < 1099511627776 then (impl_kept.l2 k x3 x7 (x8 ++ [(⟨(⟨x478000, (⟨x478001, x478002⟩ : S26), x478003, (⟨x478004, x478005⟩ : S26), (⟨x478006, x478007⟩ : S26), x478008, x478009⟩ : S35), (⟨(⟨x478010, x478011⟩ : S26), x478012⟩ : S28), x478013⟩ : S58)]) x57 x58 (wrap64 (x59 + 1))) else (none))
end
def impl_kept.f (k : Nat) (l0 : List (S58)) : Option ((List (S58))) := if 0 ≤ (l0.length : Int) then (if ((l0.length : Int) : Int).toNat ≤ 35184372088832 then (impl_kept.l0 k l0 (List.replicate ((l0.length : Int) : Int).toNat 0) (wrap64 ((l0.length : Int) - 1))) else (none)) else (none)
def impl_kept.T23 : Bool × List (List Nat × List Nat) := (true, [([], []), ([0], [0]), ([], []), ([], []), ([2, 3], [2, 3]), ([4], [4]), ([5], [5]), ([1, 6], [1, 6]), ([0, 1, 2, 3, 4, 5, 6, 7], []), ([8, 7, 7, 0, 1, 2, 3, 4, 5, 6, 7], [7, 8])])
def impl_kept.B23 : List Nat := [0, 1, 0, 0, 12, 28, 60, 127, 255, 511]
theorem impl_kept.tab23 : rtab .any (opsOf Try.f27 23) = impl_kept.T23 := by kernel_rfl
theorem impl_kept.bits23 : waitsOk impl_kept.T23.2 impl_kept.B23 = true := by kernel_rfl
set_option maxHeartbeats 8000000 in
set_option maxRecDepth 100000 in
theorem impl_kept.calls (k : Nat) (A0 : Option Addr) (c0 : Nat) (l0 : List (S58)) (r : List (S58)) (w : World) (hr0 : Kd.C k58 w A0 l0.length l0) (hc0 : l0.length ≤ c0) (h : impl_kept.f k l0 = some r) :
  Calls Try.prog 27 #[.slice A0 l0.length c0] w fun e w' => ∃ v0_ : Value, e = .returned (v0_) ∧ Kd.S k58 58 w' w.heap.size (fun _ => True) v0_ r ∧ Below w.heap.size w w' := by
 have hu58 := Try.underlying58
 have hu35 := Try.underlying35
 have hu28 := Try.underlying28
 have HR0 := aa_ hr0
 have HC0 := aa_ hc0
 clear hr0 hc0
 have HB := aa_ (Below.refl w.heap.size w)
 have H : (if 0 ≤ (l0.length : Int) then (if ((l0.length : Int) : Int).toNat ≤ 35184372088832 then (impl_kept.l0 k l0 (List.replicate ((l0.length : Int) : Int).toNat 0) (wrap64 ((l0.length : Int) - 1))) else (none)) else (none)) = some r := h
 clear h
 obtain ⟨c2, H⟩ := ifn_ H
 have c2b0 := eq_true c2
 have c2b1 : decide (0 ≤ (l0.length : Int)) = true := decide_eq_true c2
 clear c2
 obtain ⟨c3, H⟩ := ifn_ H
 have c3b0 := eq_true c3
 have c3b1 : decide (((l0.length : Int) : Int).toNat ≤ 35184372088832) = true := decide_eq_true c3
 clear c3
 obtain ⟨y459, hy459⟩ : ∃ y_ : List Int, y_ = (List.replicate ((l0.length : Int) : Int).toNat 0) := ⟨_, rfl⟩
 replace H : (impl_kept.l0 k l0 y459 (wrap64 ((l0.length : Int) - 1))) = some r := rh_ hy459 H
 have Ny459 := aa_ hy459
 clear hy459
 have H' := aa_ H
 clear H
 go_enter Try.func27, Try.ntmps27
 go_wp2_with (first | ((with_reducible refine gD_ 16 rfl ?_); refine Kd.R_make (Kd.int .i64) _ 3 rfl (N := 16) rfl 53 _ _ rfl (l0.length : Int) rfl rfl Try.underlying53 (.int .i64 0) 8 info3 rfl (by decide) (by omega) 0 (ok := fun _ => True) (okp := fun _ => True) rfl (fun _ hk => hk) trivial (od_) (Nat.le_trans (Nat.mul_le_mul_right _ (od_ : (l0.length : Int).toNat ≤ 35184372088832)) (by omega)) (Below.refl _ _) (Nat.le_refl _) ?_; intro v460 w4 ho5 hb hg_ hnew_; clear hg_ hnew_; (first | rw [← Ny459.out] at ho5 | (simp only [Int.reduceToNat] at ho5; rw [← Ny459.out] at ho5)); have HO461 := aa_ (Kd.R_lower ho5 bls_); replace HB := hbs_ hb; clear hb ho5))
 go_loopg [4] k (fun kq v4 w' => ∃ (x3_1 : List Int) (x4_1 : Int), v4 = .int .i64 x4_1 ∧ Aside0 (impl_kept.l0 kq l0 x3_1 x4_1 = some r) ∧ Aside0 (kq ≤ k) ∧ Aside0 (Kd.R (Kd.int .i64) 3 w' w.heap.size (fun _ => True) v460 x3_1) ∧ Aside0 (Below w.heap.size w w'))
 case atStart => exact ⟨(y459), (wrap64 ((l0.length : Int) - 1)), rf_, H', ⟨Nat.le_refl _⟩, ⟨rr_ HO461⟩, ⟨bl_⟩⟩
 case round =>
  clear H'
  try clear c2b0
  try clear c2b1
  try clear p2
  try clear c3b0
  try clear c3b1
  obtain ⟨x3_1, x4_1, rfl, HA, HK1, HO_3, HB⟩ := hrel
  cases gk with
  | zero => exact absurd HA.out (by simp [impl_kept.l0])
  | succ k1 =>
   have H := HA.out
   clear HA
   simp only [impl_kept.l0] at H
   by_cases c6 : x4_1 ≥ 0
   ·rw [if_pos c6] at H
    have c6b0 : decide (0 ≤ x4_1) = true := decide_eq_true c6
    clear c6
    have HC7 := aa_ H
    clear H
    go_upto_region 5 with (fail)
    go_cut [35] (fun v35 wc => ∃ (kq : Nat) (x35_6 : Bool), v35 = .bool x35_6 ∧ Aside0 (impl_kept.j1 kq l0 x3_1 x4_1 x35_6 = some r) ∧ Aside0 (kq ≤ k1) ∧ Aside0 (Kd.R (Kd.int .i64) 3 wc w.heap.size (fun _ => True) v460 x3_1) ∧ Aside0 (Below w.heap.size w wc))
    case first =>
     have H := HC7.out
     clear HC7
     by_cases c8 : x4_1 < (wrap64 ((l0.length : Int) - 1))
     ·rw [if_pos c8] at H
      have c8b0 : decide (x4_1 < (wrap64 ((l0.length : Int) - 1))) = true := decide_eq_true c8
      clear c8
      (first | rw [c8b0] | (simp only [i64_w, i32_w]; rw [c8b0]) | (have cz_ := c8b0; simp only [Int.ofNat_lt, Int.ofNat_le, gt_iff_lt, ge_iff_le] at cz_; rw [cz_]; clear cz_) | skip)
      obtain ⟨c9b0, H⟩ := ifd_ H
      obtain ⟨c10b0, H⟩ := ifd_ H
      have H' := aa_ H
      clear H
      obtain ⟨Ao11, co11, eo11⟩ := Kd.R_slice HO_3.out
      subst eo11
      have p462 : 0 ≤ (x4_1 : Int) := od_
      have q462 : x4_1 < (x3_1.length : Int) := od_
      obtain ⟨ad462, e462, hx462_0⟩ := Kd.at_int (Kd.R_reads' HO_3.out).2.2 x4_1 p462 q462
      cases e462
      replace p462 := eq_true p462
      replace q462 := eq_true q462
      go_wp2
      go_meet
      case rel => exact ⟨_, (((rd x3_1 x4_1) == 0)), rf_, H', ⟨by have := HK1.out; first | omega | exact Nat.le_refl _⟩, ⟨rr_ HO_3⟩, ⟨bl_⟩⟩
     ·rw [if_neg c8] at H
      have c8b0 : decide (x4_1 < (wrap64 ((l0.length : Int) - 1))) = false := decide_eq_false c8
      clear c8
      (first | rw [c8b0] | (simp only [i64_w, i32_w]; rw [c8b0]) | (have cz_ := c8b0; simp only [Int.ofNat_lt, Int.ofNat_le, gt_iff_lt, ge_iff_le] at cz_; rw [cz_]; clear cz_) | skip)
      have H' := aa_ H
      clear H
      go_wp2
      go_meet
      case rel => exact ⟨_, (false), rf_, H', ⟨by have := HK1.out; first | omega | exact Nat.le_refl _⟩, ⟨rr_ HO_3⟩, ⟨bl_⟩⟩
    case rest =>
     clear HC7
     try clear c2b0
     try clear c2b1
     try clear p2
     try clear c3b0
     try clear c3b1
     try clear p4
     try clear q4
     try clear hx4
     try clear c6b0
     try clear p6
     try clear c8b0
     try clear c9b0
     try clear c10b0
     try clear hx462_0
     try clear p2
     try clear p462
     try clear q462
     obtain ⟨kq, x35_6, rfl, HA, HJ6, HO_3, HB⟩ := hcut
     cases kq with
     | zero => exact absurd HA.out (by simp [impl_kept.j1])
     | succ kj6 =>
      have H := HA.out
      clear HA
      simp only [impl_kept.j1] at H
      by_cases c12 : x35_6 = true
      ·subst c12
       replace H := ite_t_ H
       have H' := aa_ H
       clear H
       go_wp2
       go_roundg kj6
       case measure => have := HK1.out; have := HJ6.out; omega
       case rel => exact ⟨(x3_1), (wrap64 (x4_1 - 1)), rf_, H', ⟨by have := HK1.out; have := HJ6.out; omega⟩, ⟨rr_ HO_3⟩, ⟨bl_⟩⟩
      ·replace c12 := Bool.eq_false_iff.mpr c12
       subst c12
       replace H := ite_f_ H
       obtain ⟨c13b0, H⟩ := ifd_ H
       obtain ⟨c14b0, H⟩ := ifd_ H
       obtain ⟨y463, hy463⟩ : ∃ y_ : List Int, y_ = (x3_1.set (x4_1 : Int).toNat 1) := ⟨_, rfl⟩
       replace H : (if x4_1 < (l0.length : Int) then (impl_kept.l1 kj6 l0 y463 x4_1 ((rd_T58 l0 x4_1).f2) (((rd_T58 l0 x4_1).f2).length : Int) 0) else (none)) = some r := rh_ hy463 H
       have Ny463 := aa_ hy463
       clear hy463
       obtain ⟨c16b0, H⟩ := ifd_ H
       have H' := aa_ H
       clear H
       have p15 : 0 ≤ (x4_1 : Int) := od_
       have q15 : (x4_1 : Int) < ((x3_1.length : Int) : Int) := od_
       obtain ⟨go15, co15, eo15, gb15, gl15, cl15, HG15⟩ := Kd.R_form HO_3.out (by omega)
       (first | cases eo15 | (injection eo15 with ea_ en_ ec_; (first | subst ea_ | (injection ea_ with ea_; subst ea_)); subst ec_; clear en_))
       have GB15 := aa_ gb15
       have GG15 := aa_ HG15
       clear gb15 gl15 HG15
       obtain ⟨hx15_0, hf15_0⟩ := Kd.R_celln 0 HO_3.out (x4_1 : Int) p15 q15
       replace p15 := eq_true p15
       replace q15 := eq_true q15
       have HP17 := Kd.R_putg HO_3.out (x4_1 : Int) 1
       go_wp2_with (first | ((with_reducible refine gate_store (t := 3) (p := 38) rfl ?_); refine store_event (t := 3) (p := 38) (v := ?vo_w18) (w1 := (wc.setCell ⟨go15, (x4_1 : Int).toNat, none⟩ (.int .i64 1))) ?hg ?ho ?hn ?hr ?_; (case ho => rfl); (case hg => rfl); (case hn => rfl); (case hr => first | (go_simp; done) | (go_simp; rfl)); intro w18 hw; have hg : wc.grownBy w18 (some go15) := (by rw [hw]; exact HP17.2); have hp_ : Kd.R (Kd.int .i64) 3 w18 w.heap.size (fun _ => True) (.slice (some ⟨go15, 0, none⟩) x3_1.length co15) y463 := (by rw [hw, Ny463.out]; exact HP17.1); clear HP17; replace HO_3 := aa_ (hp_); replace HB := aa_ ((by rw [hw]; exact below_set (HB.out) GB15.out : Below w.heap.size w w18)); clear hg hw hp_; have p464 : 0 ≤ (x4_1 : Int) := od_; have q464 : x4_1 < (l0.length : Int) := od_; obtain ⟨ad464, A464_13, c464_13, e464, hx464_0, hx464_1, hx464_2, hx464_3, hx464_4, hx464_5, hx464_6, hx464_7, hx464_8, hx464_9, hx464_10, hx464_11, hx464_12, hx464_13, hl464_13, hi464_13⟩ := at_T58 HR0.out x4_1 p464 q464; cases e464; replace hx464_0 := cb_ HB hx464_0; replace hx464_1 := cb_ HB hx464_1; replace hx464_2 := cb_ HB hx464_2; replace hx464_3 := cb_ HB hx464_3; replace hx464_4 := cb_ HB hx464_4; replace hx464_5 := cb_ HB hx464_5; replace hx464_6 := cb_ HB hx464_6; replace hx464_7 := cb_ HB hx464_7; replace hx464_8 := cb_ HB hx464_8; replace hx464_9 := cb_ HB hx464_9; replace hx464_10 := cb_ HB hx464_10; replace hx464_11 := cb_ HB hx464_11; replace hx464_12 := cb_ HB hx464_12; replace hx464_13 := cb_ HB hx464_13; have HR464_13 := aa_ hi464_13; have HC464_13 := aa_ hl464_13; clear hi464_13 hl464_13; replace p464 := eq_true p464; replace q464 := eq_true q464))
       go_loopg [45] kj6 (fun kq v45 w' => ∃ (x3_3 : List Int) (x45_3 : Int), v45 = .int .i64 x45_3 ∧ Aside0 (impl_kept.l1 kq l0 x3_3 x4_1 ((rd_T58 l0 x4_1).f2) (((rd_T58 l0 x4_1).f2).length : Int) x45_3 = some r) ∧ Aside0 (kq ≤ kj6) ∧ Aside0 (Kd.R (Kd.int .i64) 3 w' w.heap.size (fun _ => True) (.slice (some ⟨go15, 0, none⟩) x3_1.length co15) x3_3) ∧ Aside0 (Below w.heap.size w w'))
       case atStart => exact ⟨(y463), (0), rf_, H', ⟨Nat.le_refl _⟩, ⟨rr_ HO_3⟩, ⟨bl_⟩⟩
       case round =>
        clear H'
        try clear p1
        try clear q1
        try clear hx1
        try clear hf1
        try clear c2b0
        try clear c2b1
        try clear p2
        try clear c3b0
        try clear c3b1
        try clear p4
        try clear q4
        try clear hx4
        try clear c6b0
        try clear p6
        try clear c8b0
        try clear c9b0
        try clear c10b0
        try clear c13b0
        try clear c14b0
        try clear p15
        try clear q15
        try clear hx15
        try clear hf15
        try clear c16b0
        try clear hx15_0
        try clear hx462_0
        try clear hx464_0
        try clear hx464_1
        try clear hx464_10
        try clear hx464_11
        try clear hx464_12
        try clear hx464_13
        try clear hx464_2
        try clear hx464_3
        try clear hx464_4
        try clear hx464_5
        try clear hx464_6
        try clear hx464_7
        try clear hx464_8
        try clear hx464_9
        try clear p15
        try clear p2
        try clear p4
        try clear p462
        try clear p464
        try clear p6
        try clear q15
        try clear q4
        try clear q462
        try clear q464
        obtain ⟨x3_3, x45_3, rfl, HA, HK3, HO_3, HB⟩ := hrel
        have hl3_3 := (Kd.R_reads' HO_3.out).1
        rw [hl3_3] at HO_3
        (try simp only [hl3_3])
        cases gk with
        | zero => exact absurd HA.out (by simp [impl_kept.l1])
        | succ k3 =>
         have H := HA.out
         clear HA
         simp only [impl_kept.l1] at H
         by_cases c19 : x45_3 < (((rd_T58 l0 x4_1).f2).length : Int)
         ·rw [if_pos c19] at H
          have c19b0 : decide (x45_3 < (((rd_T58 l0 x4_1).f2).length : Int)) = true := decide_eq_true c19
          clear c19
          obtain ⟨c20b0, H⟩ := ifd_ H
          obtain ⟨c21b0, H⟩ := ifd_ H
          obtain ⟨c22b0, H⟩ := ifd_ H
          obtain ⟨c23b0, H⟩ := ifd_ H
          obtain ⟨y466, hy466⟩ : ∃ y_ : List Int, y_ = (x3_3.set ((rd ((rd_T58 l0 x4_1).f2) x45_3) : Int).toNat 1) := ⟨_, rfl⟩
          replace H : (impl_kept.l1 k3 l0 y466 x4_1 ((rd_T58 l0 x4_1).f2) (((rd_T58 l0 x4_1).f2).length : Int) (wrap64 (x45_3 + 1))) = some r := rh_ hy466 H
          have Ny466 := aa_ hy466
          clear hy466
          have H' := aa_ H
          clear H
          have p465 : 0 ≤ (x45_3 : Int) := od_
          have q465 : x45_3 < (((rd_T58 l0 x4_1).f2).length : Int) := od_
          obtain ⟨ad465, e465, hx465_0⟩ := Kd.at_int (Kd.C_below HR464_13.out HB.out) x45_3 p465 q465
          cases e465
          replace p465 := eq_true p465
          replace q465 := eq_true q465
          have p24 : 0 ≤ ((rd ((rd_T58 l0 x4_1).f2) x45_3) : Int) := od_
          have q24 : ((rd ((rd_T58 l0 x4_1).f2) x45_3) : Int) < ((x3_3.length : Int) : Int) := od_
          obtain ⟨hx24_0, hf24_0⟩ := Kd.R_celln 0 HO_3.out ((rd ((rd_T58 l0 x4_1).f2) x45_3) : Int) p24 q24
          replace p24 := eq_true p24
          replace q24 := eq_true q24
          have HP25 := Kd.R_putg HO_3.out ((rd ((rd_T58 l0 x4_1).f2) x45_3) : Int) 1
          go_wp2_with (first | ((with_reducible refine gate_store (t := 3) (p := 51) rfl ?_); refine store_event (t := 3) (p := 51) (v := ?vo_w26) (w1 := (wr.setCell ⟨go15, ((rd ((rd_T58 l0 x4_1).f2) x45_3) : Int).toNat, none⟩ (.int .i64 1))) ?hg ?ho ?hn ?hr ?_; (case ho => rfl); (case hg => rfl); (case hn => rfl); (case hr => first | (go_simp; done) | (go_simp; rfl)); intro w26 hw; have hg : wr.grownBy w26 (some go15) := (by rw [hw]; exact HP25.2); have hp_ : Kd.R (Kd.int .i64) 3 w26 w.heap.size (fun _ => True) (.slice (some ⟨go15, 0, none⟩) x3_3.length co15) y466 := (by rw [hw, Ny466.out]; exact HP25.1); clear HP25; replace HO_3 := aa_ (hp_); replace HB := aa_ ((by rw [hw]; exact below_set (HB.out) GB15.out : Below w.heap.size w w26)); clear hg hw hp_))
          (try simp only [← hl3_3])
          go_roundg k3
          case measure => have := HK1.out; have := HJ6.out; have := HK3.out; omega
          case rel => exact ⟨(y466), (wrap64 (x45_3 + 1)), rf_, H', ⟨by have := HK1.out; have := HJ6.out; have := HK3.out; omega⟩, ⟨by (try simp only [hl3_3]); (with_reducible repeat (first | apply Kd.R_alloc | apply Kd.R_drewN | apply Kd.R_drew)); exact HO_3.out⟩, ⟨bl_⟩⟩
         ·rw [if_neg c19] at H
          have c19b0 : decide (x45_3 < (((rd_T58 l0 x4_1).f2).length : Int)) = false := decide_eq_false c19
          clear c19
          have H' := aa_ H
          clear H
          go_wp2
          (try simp only [← hl3_3])
          go_roundg k3
          case measure => have := HK1.out; have := HJ6.out; have := HK3.out; omega
          case rel => exact ⟨(x3_3), (wrap64 (x4_1 - 1)), rf_, H', ⟨by have := HK1.out; have := HJ6.out; have := HK3.out; omega⟩, ⟨by (try simp only [hl3_3]); (with_reducible repeat (first | apply Kd.R_alloc | apply Kd.R_drewN | apply Kd.R_drew)); exact HO_3.out⟩, ⟨bl_⟩⟩
   ·rw [if_neg c6] at H
    have c6b0 : decide (0 ≤ x4_1) = false := decide_eq_false c6
    clear c6
    obtain ⟨c27, H⟩ := ifn_ H
    have c27b0 := eq_true c27
    have c27b1 : decide (0 ≤ (l0.length : Int)) = true := decide_eq_true c27
    clear c27
    obtain ⟨c28, H⟩ := ifn_ H
    have c28b0 := eq_true c28
    have c28b1 : decide (((l0.length : Int) : Int).toNat ≤ 35184372088832) = true := decide_eq_true c28
    clear c28
    obtain ⟨y467, hy467⟩ : ∃ y_ : List Int, y_ = (List.replicate ((l0.length : Int) : Int).toNat 0) := ⟨_, rfl⟩
    replace H : (impl_kept.l2 k1 x3_1 y467 (([] : List (S58))) l0 (l0.length : Int) 0) = some r := rh_ hy467 H
    have Ny467 := aa_ hy467
    clear hy467
    obtain ⟨y470, hy470⟩ : ∃ y_ : List (S58), y_ = (([] : List (S58))) := ⟨_, rfl⟩
    replace H : (impl_kept.l2 k1 x3_1 y467 y470 l0 (l0.length : Int) 0) = some r := rh_ hy470 H
    have Ny470 := aa_ hy470
    clear hy470
    have H' := aa_ H
    clear H
    go_wp2_with (first | ((with_reducible refine gD_ 55 rfl ?_); refine Kd.R_make (Kd.int .i64) _ 3 rfl (N := 55) rfl 53 _ _ rfl (l0.length : Int) rfl rfl Try.underlying53 (.int .i64 0) 8 info3 rfl (by decide) (by omega) 0 (ok := fun _ => True) (okp := fun _ => True) rfl (fun _ hk => hk) trivial (od_) (Nat.le_trans (Nat.mul_le_mul_right _ (od_ : (l0.length : Int).toNat ≤ 35184372088832)) (by omega)) (Below.refl _ _) (Nat.le_refl _) ?_; intro v468 w29 ho30 hb hg_ hnew_; clear hg_ hnew_; (first | rw [← Ny467.out] at ho30 | (simp only [Int.reduceToNat] at ho30; rw [← Ny467.out] at ho30)); have HO469 := aa_ (Kd.R_lower (Kd.R_new' ho30 (Kd.R_lt (rr_ HO_3))) bls_); replace HO_3 := aa_ (Kd.R_elder' (rr_ HO_3) (Kd.R_base ho30) hb); replace HB := hbs_ hb; clear hb ho30) | ((with_reducible refine gD_ 56 rfl ?_); refine Kd.S_lit k58 _ 58 ?hg (N := 56) ?hd (xs := ([] : List (S58))) (inner := []) (ok := fun _ => True) (okp := fun _ => True) ?hr ?hp (fun _ hk => hk) trivial (Below.refl _ _) (Nat.le_refl _) (by simp) ?_; (case hd => rfl); (case hg => rfl); (case hr => first | (go_simp; done) | (go_simp; rfl)); (case hp => exact (Reps.none _ _)); intro v471 w31 ho32 hb hg_ hnew_; clear hg_ hnew_; (first | rw [← Ny470.out] at ho32 | (simp only [Int.reduceToNat] at ho32; rw [← Ny470.out] at ho32)); have HO472 := aa_ (Kd.S_lower (Kd.S_new' (Kd.S_new' ho32 (Kd.R_lt (rr_ HO_3))) (Kd.R_lt (rr_ HO469))) bls_); replace HO_3 := hob_ HO_3 hb; replace HO469 := hob_ HO469 hb; replace HB := hbs_ hb; clear hb ho32))
    go_loopg [8, 59] k1 (fun kq v8 v59 w' => ∃ (x7_2 : List Int) (x8_2 : List (S58)) (x59_2 : Int), v59 = .int .i64 x59_2 ∧ Aside0 (impl_kept.l2 kq x3_1 x7_2 x8_2 l0 (l0.length : Int) x59_2 = some r) ∧ Aside0 (kq ≤ k1) ∧ Aside0 (Kd.R (Kd.int .i64) 3 w' w.heap.size (fun k_ => some k_ ≠ (v468 : Value).ownBlock) v460 x3_1) ∧ Aside0 (Kd.R (Kd.int .i64) 3 w' w.heap.size (fun k_ => some k_ ≠ (v460 : Value).ownBlock) v468 x7_2) ∧ Aside0 (Kd.S k58 58 w' w.heap.size (fun k_ => some k_ ≠ (v460 : Value).ownBlock ∧ some k_ ≠ (v468 : Value).ownBlock) v8 x8_2) ∧ Aside0 (Below w.heap.size w w'))
    case atStart => exact ⟨(y467), (y470), (0), rf_, H', ⟨Nat.le_refl _⟩, ⟨by (with_reducible repeat (first | apply Kd.R_alloc | apply Kd.R_drewN | apply Kd.R_drew)); exact Kd.R_mono HO_3.out (fun _ hk => hk.2)⟩, ⟨by (with_reducible repeat (first | apply Kd.R_alloc | apply Kd.R_drewN | apply Kd.R_drew)); exact Kd.R_mono HO469.out (fun _ hk => hk.2)⟩, ⟨by (with_reducible repeat (first | apply Kd.S_alloc | apply Kd.S_drewN | apply Kd.S_drew)); exact Kd.S_mono HO472.out (fun _ hk => ⟨hk.1.2, hk.2⟩)⟩, ⟨bl_⟩⟩
    case round =>
     clear H'
     try clear p1
     try clear q1
     try clear hx1
     try clear hf1
     try clear c2b0
     try clear c2b1
     try clear p2
     try clear q2
     try clear hx2
     try clear hf2
     try clear c3b0
     try clear c3b1
     try clear p4
     try clear q4
     try clear hx4
     try clear c6b0
     try clear p6
     try clear c8b0
     try clear c9b0
     try clear c10b0
     try clear c13b0
     try clear c14b0
     try clear p15
     try clear q15
     try clear hx15
     try clear hf15
     try clear c16b0
     try clear c19b0
     try clear c20b0
     try clear c21b0
     try clear c22b0
     try clear c23b0
     try clear p24
     try clear q24
     try clear hx24
     try clear hf24
     try clear c27b0
     try clear c27b1
     try clear c28b0
     try clear c28b1
     try clear hx15_0
     try clear hx24_0
     try clear hx462_0
     try clear hx464_0
     try clear hx464_1
     try clear hx464_10
     try clear hx464_11
     try clear hx464_12
     try clear hx464_13
     try clear hx464_2
     try clear hx464_3
     try clear hx464_4
     try clear hx464_5
     try clear hx464_6
     try clear hx464_7
     try clear hx464_8
     try clear hx464_9
     try clear hx465_0
     try clear p1
     try clear p15
     try clear p2
     try clear p24
     try clear p4
     try clear p462
     try clear p464
     try clear p465
     try clear p6
     try clear q1
     try clear q15
     try clear q24
     try clear q4
     try clear q462
     try clear q464
     try clear q465
     obtain ⟨x7_2, x8_2, x59_2, rfl, HA, HK2, HO_3, HO_7, HO_8, HB⟩ := hrel
     cases gk with
     | zero => exact absurd HA.out (by simp [impl_kept.l2])
     | succ k2 =>
      have H := HA.out
      clear HA
      simp only [impl_kept.l2] at H
      by_cases c33 : x59_2 < (l0.length : Int)
      ·rw [if_pos c33] at H
       have c33b0 : decide (x59_2 < (l0.length : Int)) = true := decide_eq_true c33
       clear c33
       obtain ⟨c34b0, H⟩ := ifd_ H
       obtain ⟨c35b0, H⟩ := ifd_ H
       obtain ⟨c36b0, H⟩ := ifd_ H
       have HC37 := aa_ H
       clear H
       have p473 : 0 ≤ (x59_2 : Int) := od_
       have q473 : x59_2 < (l0.length : Int) := od_
       obtain ⟨ad473, A473_13, c473_13, e473, hx473_0, hx473_1, hx473_2, hx473_3, hx473_4, hx473_5, hx473_6, hx473_7, hx473_8, hx473_9, hx473_10, hx473_11, hx473_12, hx473_13, hl473_13, hi473_13⟩ := at_T58 HR0.out x59_2 p473 q473
       cases e473
       replace hx473_0 := cb_ HB hx473_0
       replace hx473_1 := cb_ HB hx473_1
       replace hx473_2 := cb_ HB hx473_2
       replace hx473_3 := cb_ HB hx473_3
       replace hx473_4 := cb_ HB hx473_4
       replace hx473_5 := cb_ HB hx473_5
       replace hx473_6 := cb_ HB hx473_6
       replace hx473_7 := cb_ HB hx473_7
       replace hx473_8 := cb_ HB hx473_8
       replace hx473_9 := cb_ HB hx473_9
       replace hx473_10 := cb_ HB hx473_10
       replace hx473_11 := cb_ HB hx473_11
       replace hx473_12 := cb_ HB hx473_12
       replace hx473_13 := cb_ HB hx473_13
       have HR473_13 := aa_ hi473_13
       have HC473_13 := aa_ hl473_13
       clear hi473_13 hl473_13
       replace p473 := eq_true p473
       replace q473 := eq_true q473
       go_upto_if 68 with (first | ((with_reducible refine gD_ 10 rfl ?_); refine bx_ (N := 10) (cs := #[.int .i64 0, .int .i64 0, .int .i64 0, .int .i64 0, .int .i64 0, .int .i64 0, .int .i64 0, .int .i64 0, .int .i64 0, .int .i64 0, .int .i64 0, .int .i64 0, .int .i64 0, .slice none 0 0]) (t := 58) ?_; intro gb474 hg w38 hbox hb; replace HO_3 := hob_ HO_3 hb; replace HO_7 := hob_ HO_7 hb; replace HO_8 := aa_ (Kd.S_below (Kd.S_elderB (rs_ HO_8) gb474 (Nat.le_of_eq hg.symm)) hb); have BK474 := aa_ (hbox); have GW474 := gs_ hg; have GE474 := gs_ hg; replace HB := hbs_ hb; clear hb hbox hg; obtain ⟨hcz39, hfz39⟩ := bcf_ BK474; obtain ⟨Ao40, co40, eo40⟩ := Kd.R_slice HO_3.out; subst eo40; have p475 : 0 ≤ (x59_2 : Int) := od_; have q475 : x59_2 < (x3_1.length : Int) := od_; obtain ⟨ad475, e475, hx475_0⟩ := Kd.at_int (Kd.R_reads' HO_3.out).2.2 x59_2 p475 q475; cases e475; have hn475_0 : ad475.block ≠ gb474 := Kd.own_blk (Kd.R_ne HO_3.out BK474.out (by decide)); have hn475_1 : ad475.block ≠ gb474 := Kd.own_blk (Kd.R_ne HO_3.out BK474.out (by decide)); have hn475_2 : ad475.block ≠ gb474 := Kd.own_blk (Kd.R_ne HO_3.out BK474.out (by decide)); have hn475_3 : ad475.block ≠ gb474 := Kd.own_blk (Kd.R_ne HO_3.out BK474.out (by decide)); have hn475_4 : ad475.block ≠ gb474 := Kd.own_blk (Kd.R_ne HO_3.out BK474.out (by decide)); have hn475_5 : ad475.block ≠ gb474 := Kd.own_blk (Kd.R_ne HO_3.out BK474.out (by decide)); have hn475_6 : ad475.block ≠ gb474 := Kd.own_blk (Kd.R_ne HO_3.out BK474.out (by decide)); have hn475_7 : ad475.block ≠ gb474 := Kd.own_blk (Kd.R_ne HO_3.out BK474.out (by decide)); have hn475_8 : ad475.block ≠ gb474 := Kd.own_blk (Kd.R_ne HO_3.out BK474.out (by decide)); have hn475_9 : ad475.block ≠ gb474 := Kd.own_blk (Kd.R_ne HO_3.out BK474.out (by decide)); have hn475_10 : ad475.block ≠ gb474 := Kd.own_blk (Kd.R_ne HO_3.out BK474.out (by decide)); have hn475_11 : ad475.block ≠ gb474 := Kd.own_blk (Kd.R_ne HO_3.out BK474.out (by decide)); have hn475_12 : ad475.block ≠ gb474 := Kd.own_blk (Kd.R_ne HO_3.out BK474.out (by decide)); have hn475_13 : ad475.block ≠ gb474 := Kd.own_blk (Kd.R_ne HO_3.out BK474.out (by decide)); replace hx475_0 := (cell_far (p := ⟨gb474, 0, none⟩) (by first | (rw [add_block]; exact hn475_0) | (show (Addr.add _ _).block ≠ _; rw [add_block]; exact hn475_0) | exact hn475_0) (.int .i64 ((rd_T58 l0 x59_2).f0.f0))).trans hx475_0; replace hx475_0 := (cell_far (p := ⟨gb474, 1, none⟩) (by first | (rw [add_block]; exact hn475_1) | (show (Addr.add _ _).block ≠ _; rw [add_block]; exact hn475_1) | exact hn475_1) (.int .i64 ((rd_T58 l0 x59_2).f0.f1.f0))).trans hx475_0; replace hx475_0 := (cell_far (p := ⟨gb474, 2, none⟩) (by first | (rw [add_block]; exact hn475_2) | (show (Addr.add _ _).block ≠ _; rw [add_block]; exact hn475_2) | exact hn475_2) (.int .i64 ((rd_T58 l0 x59_2).f0.f1.f1))).trans hx475_0; replace hx475_0 := (cell_far (p := ⟨gb474, 3, none⟩) (by first | (rw [add_block]; exact hn475_3) | (show (Addr.add _ _).block ≠ _; rw [add_block]; exact hn475_3) | exact hn475_3) (.int .i64 ((rd_T58 l0 x59_2).f0.f2))).trans hx475_0; replace hx475_0 := (cell_far (p := ⟨gb474, 4, none⟩) (by first | (rw [add_block]; exact hn475_4) | (show (Addr.add _ _).block ≠ _; rw [add_block]; exact hn475_4) | exact hn475_4) (.int .i64 ((rd_T58 l0 x59_2).f0.f3.f0))).trans hx475_0; replace hx475_0 := (cell_far (p := ⟨gb474, 5, none⟩) (by first | (rw [add_block]; exact hn475_5) | (show (Addr.add _ _).block ≠ _; rw [add_block]; exact hn475_5) | exact hn475_5) (.int .i64 ((rd_T58 l0 x59_2).f0.f3.f1))).trans hx475_0; replace hx475_0 := (cell_far (p := ⟨gb474, 6, none⟩) (by first | (rw [add_block]; exact hn475_6) | (show (Addr.add _ _).block ≠ _; rw [add_block]; exact hn475_6) | exact hn475_6) (.int .i64 ((rd_T58 l0 x59_2).f0.f4.f0))).trans hx475_0; replace hx475_0 := (cell_far (p := ⟨gb474, 7, none⟩) (by first | (rw [add_block]; exact hn475_7) | (show (Addr.add _ _).block ≠ _; rw [add_block]; exact hn475_7) | exact hn475_7) (.int .i64 ((rd_T58 l0 x59_2).f0.f4.f1))).trans hx475_0; replace hx475_0 := (cell_far (p := ⟨gb474, 8, none⟩) (by first | (rw [add_block]; exact hn475_8) | (show (Addr.add _ _).block ≠ _; rw [add_block]; exact hn475_8) | exact hn475_8) (.int .i64 ((rd_T58 l0 x59_2).f0.f5))).trans hx475_0; replace hx475_0 := (cell_far (p := ⟨gb474, 9, none⟩) (by first | (rw [add_block]; exact hn475_9) | (show (Addr.add _ _).block ≠ _; rw [add_block]; exact hn475_9) | exact hn475_9) (.int .i64 ((rd_T58 l0 x59_2).f0.f6))).trans hx475_0; replace hx475_0 := (cell_far (p := ⟨gb474, 10, none⟩) (by first | (rw [add_block]; exact hn475_10) | (show (Addr.add _ _).block ≠ _; rw [add_block]; exact hn475_10) | exact hn475_10) (.int .i64 ((rd_T58 l0 x59_2).f1.f0.f0))).trans hx475_0; replace hx475_0 := (cell_far (p := ⟨gb474, 11, none⟩) (by first | (rw [add_block]; exact hn475_11) | (show (Addr.add _ _).block ≠ _; rw [add_block]; exact hn475_11) | exact hn475_11) (.int .i64 ((rd_T58 l0 x59_2).f1.f0.f1))).trans hx475_0; replace hx475_0 := (cell_far (p := ⟨gb474, 12, none⟩) (by first | (rw [add_block]; exact hn475_12) | (show (Addr.add _ _).block ≠ _; rw [add_block]; exact hn475_12) | exact hn475_12) (.int .i64 ((rd_T58 l0 x59_2).f1.f1))).trans hx475_0; replace hx475_0 := (cell_far (p := ⟨gb474, 13, none⟩) (by first | (rw [add_block]; exact hn475_13) | (show (Addr.add _ _).block ≠ _; rw [add_block]; exact hn475_13) | exact hn475_13) (.slice A473_13 ((rd_T58 l0 x59_2).f2).length c473_13)).trans hx475_0; clear hn475_0; clear hn475_1; clear hn475_2; clear hn475_3; clear hn475_4; clear hn475_5; clear hn475_6; clear hn475_7; clear hn475_8; clear hn475_9; clear hn475_10; clear hn475_11; clear hn475_12; clear hn475_13; replace p475 := eq_true p475; replace q475 := eq_true q475))
       have n0_ : Aside0 (Kd.R (Kd.int .i64) 3 ((((((((((((((w38.setCell ⟨gb474, 0, none⟩ (.int .i64 ((rd_T58 l0 x59_2).f0.f0))).setCell ⟨gb474, 1, none⟩ (.int .i64 ((rd_T58 l0 x59_2).f0.f1.f0))).setCell ⟨gb474, 2, none⟩ (.int .i64 ((rd_T58 l0 x59_2).f0.f1.f1))).setCell ⟨gb474, 3, none⟩ (.int .i64 ((rd_T58 l0 x59_2).f0.f2))).setCell ⟨gb474, 4, none⟩ (.int .i64 ((rd_T58 l0 x59_2).f0.f3.f0))).setCell ⟨gb474, 5, none⟩ (.int .i64 ((rd_T58 l0 x59_2).f0.f3.f1))).setCell ⟨gb474, 6, none⟩ (.int .i64 ((rd_T58 l0 x59_2).f0.f4.f0))).setCell ⟨gb474, 7, none⟩ (.int .i64 ((rd_T58 l0 x59_2).f0.f4.f1))).setCell ⟨gb474, 8, none⟩ (.int .i64 ((rd_T58 l0 x59_2).f0.f5))).setCell ⟨gb474, 9, none⟩ (.int .i64 ((rd_T58 l0 x59_2).f0.f6))).setCell ⟨gb474, 10, none⟩ (.int .i64 ((rd_T58 l0 x59_2).f1.f0.f0))).setCell ⟨gb474, 11, none⟩ (.int .i64 ((rd_T58 l0 x59_2).f1.f0.f1))).setCell ⟨gb474, 12, none⟩ (.int .i64 ((rd_T58 l0 x59_2).f1.f1))).setCell ⟨gb474, 13, none⟩ (.slice A473_13 ((rd_T58 l0 x59_2).f2).length c473_13)) w.heap.size (fun k_ => some k_ ≠ (v468 : Value).ownBlock) (.slice (some ad475) x3_1.length co40) x3_1) := ⟨by (with_reducible repeat (first | apply Kd.R_alloc | apply Kd.R_drewN | apply Kd.R_drew)); exact Kd.R_mono (fr14_ (Kd.R_types HO_3.out BK474.out (by decide)) (fun _ hk => hk.2)) (fun _ hk => hk.1)⟩
       have n1_ : Aside0 (Kd.R (Kd.int .i64) 3 ((((((((((((((w38.setCell ⟨gb474, 0, none⟩ (.int .i64 ((rd_T58 l0 x59_2).f0.f0))).setCell ⟨gb474, 1, none⟩ (.int .i64 ((rd_T58 l0 x59_2).f0.f1.f0))).setCell ⟨gb474, 2, none⟩ (.int .i64 ((rd_T58 l0 x59_2).f0.f1.f1))).setCell ⟨gb474, 3, none⟩ (.int .i64 ((rd_T58 l0 x59_2).f0.f2))).setCell ⟨gb474, 4, none⟩ (.int .i64 ((rd_T58 l0 x59_2).f0.f3.f0))).setCell ⟨gb474, 5, none⟩ (.int .i64 ((rd_T58 l0 x59_2).f0.f3.f1))).setCell ⟨gb474, 6, none⟩ (.int .i64 ((rd_T58 l0 x59_2).f0.f4.f0))).setCell ⟨gb474, 7, none⟩ (.int .i64 ((rd_T58 l0 x59_2).f0.f4.f1))).setCell ⟨gb474, 8, none⟩ (.int .i64 ((rd_T58 l0 x59_2).f0.f5))).setCell ⟨gb474, 9, none⟩ (.int .i64 ((rd_T58 l0 x59_2).f0.f6))).setCell ⟨gb474, 10, none⟩ (.int .i64 ((rd_T58 l0 x59_2).f1.f0.f0))).setCell ⟨gb474, 11, none⟩ (.int .i64 ((rd_T58 l0 x59_2).f1.f0.f1))).setCell ⟨gb474, 12, none⟩ (.int .i64 ((rd_T58 l0 x59_2).f1.f1))).setCell ⟨gb474, 13, none⟩ (.slice A473_13 ((rd_T58 l0 x59_2).f2).length c473_13)) w.heap.size (fun k_ => some k_ ≠ (.slice (some ad475) x3_1.length co40 : Value).ownBlock) v468 x7_2) := ⟨by (with_reducible repeat (first | apply Kd.R_alloc | apply Kd.R_drewN | apply Kd.R_drew)); exact Kd.R_mono (fr14_ (Kd.R_types HO_7.out BK474.out (by decide)) (fun _ hk => hk.2)) (fun _ hk => hk.1)⟩
       have n2_ : Aside0 (Kd.S k58 58 ((((((((((((((w38.setCell ⟨gb474, 0, none⟩ (.int .i64 ((rd_T58 l0 x59_2).f0.f0))).setCell ⟨gb474, 1, none⟩ (.int .i64 ((rd_T58 l0 x59_2).f0.f1.f0))).setCell ⟨gb474, 2, none⟩ (.int .i64 ((rd_T58 l0 x59_2).f0.f1.f1))).setCell ⟨gb474, 3, none⟩ (.int .i64 ((rd_T58 l0 x59_2).f0.f2))).setCell ⟨gb474, 4, none⟩ (.int .i64 ((rd_T58 l0 x59_2).f0.f3.f0))).setCell ⟨gb474, 5, none⟩ (.int .i64 ((rd_T58 l0 x59_2).f0.f3.f1))).setCell ⟨gb474, 6, none⟩ (.int .i64 ((rd_T58 l0 x59_2).f0.f4.f0))).setCell ⟨gb474, 7, none⟩ (.int .i64 ((rd_T58 l0 x59_2).f0.f4.f1))).setCell ⟨gb474, 8, none⟩ (.int .i64 ((rd_T58 l0 x59_2).f0.f5))).setCell ⟨gb474, 9, none⟩ (.int .i64 ((rd_T58 l0 x59_2).f0.f6))).setCell ⟨gb474, 10, none⟩ (.int .i64 ((rd_T58 l0 x59_2).f1.f0.f0))).setCell ⟨gb474, 11, none⟩ (.int .i64 ((rd_T58 l0 x59_2).f1.f0.f1))).setCell ⟨gb474, 12, none⟩ (.int .i64 ((rd_T58 l0 x59_2).f1.f1))).setCell ⟨gb474, 13, none⟩ (.slice A473_13 ((rd_T58 l0 x59_2).f2).length c473_13)) w.heap.size (fun k_ => some k_ ≠ (.slice (some ad475) x3_1.length co40 : Value).ownBlock ∧ some k_ ≠ (v468 : Value).ownBlock ∧ k_ ≠ gb474) u8 x8_2) := ⟨by (with_reducible repeat (first | apply Kd.S_alloc | apply Kd.S_drewN | apply Kd.S_drew)); exact Kd.S_mono (fs14_ (Kd.S_mono HO_8.out (fun k_ hk => (⟨hk, hk.2⟩ : _ ∧ k_ ≠ gb474))) (fun _ hk => hk.2)) (fun _ hk => ⟨hk.1.1.1, ⟨hk.1.1.2, hk.1.2⟩⟩)⟩
       have n3_ : Aside0 (((((((((((((((w38.setCell ⟨gb474, 0, none⟩ (.int .i64 ((rd_T58 l0 x59_2).f0.f0))).setCell ⟨gb474, 1, none⟩ (.int .i64 ((rd_T58 l0 x59_2).f0.f1.f0))).setCell ⟨gb474, 2, none⟩ (.int .i64 ((rd_T58 l0 x59_2).f0.f1.f1))).setCell ⟨gb474, 3, none⟩ (.int .i64 ((rd_T58 l0 x59_2).f0.f2))).setCell ⟨gb474, 4, none⟩ (.int .i64 ((rd_T58 l0 x59_2).f0.f3.f0))).setCell ⟨gb474, 5, none⟩ (.int .i64 ((rd_T58 l0 x59_2).f0.f3.f1))).setCell ⟨gb474, 6, none⟩ (.int .i64 ((rd_T58 l0 x59_2).f0.f4.f0))).setCell ⟨gb474, 7, none⟩ (.int .i64 ((rd_T58 l0 x59_2).f0.f4.f1))).setCell ⟨gb474, 8, none⟩ (.int .i64 ((rd_T58 l0 x59_2).f0.f5))).setCell ⟨gb474, 9, none⟩ (.int .i64 ((rd_T58 l0 x59_2).f0.f6))).setCell ⟨gb474, 10, none⟩ (.int .i64 ((rd_T58 l0 x59_2).f1.f0.f0))).setCell ⟨gb474, 11, none⟩ (.int .i64 ((rd_T58 l0 x59_2).f1.f0.f1))).setCell ⟨gb474, 12, none⟩ (.int .i64 ((rd_T58 l0 x59_2).f1.f1))).setCell ⟨gb474, 13, none⟩ (.slice A473_13 ((rd_T58 l0 x59_2).f2).length c473_13)).heap[gb474]? = some (.cells #[.int .i64 ((rd_T58 l0 x59_2).f0.f0), .int .i64 ((rd_T58 l0 x59_2).f0.f1.f0), .int .i64 ((rd_T58 l0 x59_2).f0.f1.f1), .int .i64 ((rd_T58 l0 x59_2).f0.f2), .int .i64 ((rd_T58 l0 x59_2).f0.f3.f0), .int .i64 ((rd_T58 l0 x59_2).f0.f3.f1), .int .i64 ((rd_T58 l0 x59_2).f0.f4.f0), .int .i64 ((rd_T58 l0 x59_2).f0.f4.f1), .int .i64 ((rd_T58 l0 x59_2).f0.f5), .int .i64 ((rd_T58 l0 x59_2).f0.f6), .int .i64 ((rd_T58 l0 x59_2).f1.f0.f0), .int .i64 ((rd_T58 l0 x59_2).f1.f0.f1), .int .i64 ((rd_T58 l0 x59_2).f1.f1), .slice A473_13 ((rd_T58 l0 x59_2).f2).length c473_13] 58 (0, 0))) := ⟨bk_ BK474⟩
       have n4_ : Aside0 (Below w.heap.size w ((((((((((((((w38.setCell ⟨gb474, 0, none⟩ (.int .i64 ((rd_T58 l0 x59_2).f0.f0))).setCell ⟨gb474, 1, none⟩ (.int .i64 ((rd_T58 l0 x59_2).f0.f1.f0))).setCell ⟨gb474, 2, none⟩ (.int .i64 ((rd_T58 l0 x59_2).f0.f1.f1))).setCell ⟨gb474, 3, none⟩ (.int .i64 ((rd_T58 l0 x59_2).f0.f2))).setCell ⟨gb474, 4, none⟩ (.int .i64 ((rd_T58 l0 x59_2).f0.f3.f0))).setCell ⟨gb474, 5, none⟩ (.int .i64 ((rd_T58 l0 x59_2).f0.f3.f1))).setCell ⟨gb474, 6, none⟩ (.int .i64 ((rd_T58 l0 x59_2).f0.f4.f0))).setCell ⟨gb474, 7, none⟩ (.int .i64 ((rd_T58 l0 x59_2).f0.f4.f1))).setCell ⟨gb474, 8, none⟩ (.int .i64 ((rd_T58 l0 x59_2).f0.f5))).setCell ⟨gb474, 9, none⟩ (.int .i64 ((rd_T58 l0 x59_2).f0.f6))).setCell ⟨gb474, 10, none⟩ (.int .i64 ((rd_T58 l0 x59_2).f1.f0.f0))).setCell ⟨gb474, 11, none⟩ (.int .i64 ((rd_T58 l0 x59_2).f1.f0.f1))).setCell ⟨gb474, 12, none⟩ (.int .i64 ((rd_T58 l0 x59_2).f1.f1))).setCell ⟨gb474, 13, none⟩ (.slice A473_13 ((rd_T58 l0 x59_2).f2).length c473_13))) := ⟨bl_⟩
       (try clear HO_3)
       (try clear HO_7)
       (try clear HO_8)
       (try clear BK474)
       (try clear HB)
       generalize ((((((((((((((w38.setCell ⟨gb474, 0, none⟩ (.int .i64 ((rd_T58 l0 x59_2).f0.f0))).setCell ⟨gb474, 1, none⟩ (.int .i64 ((rd_T58 l0 x59_2).f0.f1.f0))).setCell ⟨gb474, 2, none⟩ (.int .i64 ((rd_T58 l0 x59_2).f0.f1.f1))).setCell ⟨gb474, 3, none⟩ (.int .i64 ((rd_T58 l0 x59_2).f0.f2))).setCell ⟨gb474, 4, none⟩ (.int .i64 ((rd_T58 l0 x59_2).f0.f3.f0))).setCell ⟨gb474, 5, none⟩ (.int .i64 ((rd_T58 l0 x59_2).f0.f3.f1))).setCell ⟨gb474, 6, none⟩ (.int .i64 ((rd_T58 l0 x59_2).f0.f4.f0))).setCell ⟨gb474, 7, none⟩ (.int .i64 ((rd_T58 l0 x59_2).f0.f4.f1))).setCell ⟨gb474, 8, none⟩ (.int .i64 ((rd_T58 l0 x59_2).f0.f5))).setCell ⟨gb474, 9, none⟩ (.int .i64 ((rd_T58 l0 x59_2).f0.f6))).setCell ⟨gb474, 10, none⟩ (.int .i64 ((rd_T58 l0 x59_2).f1.f0.f0))).setCell ⟨gb474, 11, none⟩ (.int .i64 ((rd_T58 l0 x59_2).f1.f0.f1))).setCell ⟨gb474, 12, none⟩ (.int .i64 ((rd_T58 l0 x59_2).f1.f1))).setCell ⟨gb474, 13, none⟩ (.slice A473_13 ((rd_T58 l0 x59_2).f2).length c473_13)) = w41 at n0_ n1_ n2_ n3_ n4_ ⊢
       have HO_3 := n0_
       have HO_7 := n1_
       have HO_8 := n2_
       have BK474 := n3_
       have HB := n4_
       clear n0_ n1_ n2_ n3_ n4_
       (try simp only [Act.put, sb_, sz_, ss_])
       have H := HC37.out
       clear HC37
       by_cases c42 : (rd x3_1 x59_2) = 0
       ·rw [if_pos c42] at H
        have c42b0 : ((rd x3_1 x59_2) == 0) = true := beq_iff_eq.mpr c42
        have c42b1 : ((rd x3_1 x59_2) != 0) = false := bne_eq_false_iff_eq.mpr c42
        clear c42
        (first | rw [c42b0] | (simp only [i64_w, i32_w]; rw [c42b0]) | skip)
        have H' := aa_ H
        clear H
        go_wp2
        go_roundg k2
        case measure => have := HK1.out; have := HK2.out; omega
        case rel => exact ⟨(x7_2), (x8_2), (wrap64 (x59_2 + 1)), rf_, H', ⟨by have := HK1.out; have := HK2.out; omega⟩, ⟨rr_ HO_3⟩, ⟨rr_ HO_7⟩, ⟨by (with_reducible repeat (first | apply Kd.S_alloc | apply Kd.S_drewN | apply Kd.S_drew)); exact Kd.S_mono HO_8.out (fun _ hk => ⟨hk.1, hk.2.1⟩)⟩, ⟨bl_⟩⟩
       ·rw [if_neg c42] at H
        have c42b0 : ((rd x3_1 x59_2) == 0) = false := beq_eq_false_iff_ne.mpr c42
        have c42b1 : ((rd x3_1 x59_2) != 0) = true := bne_iff_ne.mpr c42
        (first | rw [c42b0] | (simp only [i64_w, i32_w]; rw [c42b0]) | skip)
        obtain ⟨c43b0, H⟩ := ifd_ H
        obtain ⟨y476, hy476⟩ : ∃ y_ : List Int, y_ = (x7_2.set (x59_2 : Int).toNat (x8_2.length : Int)) := ⟨_, rfl⟩
        replace H : (impl_kept.l3 k2 x3_1 y476 x8_2 l0 (l0.length : Int) x59_2 ((rd_T58 l0 x59_2).f2) (((rd_T58 l0 x59_2).f2).length : Int) 0 ((rd_T58 l0 x59_2).f0.f0) ((rd_T58 l0 x59_2).f0.f1.f0) ((rd_T58 l0 x59_2).f0.f1.f1) ((rd_T58 l0 x59_2).f0.f2) ((rd_T58 l0 x59_2).f0.f3.f0) ((rd_T58 l0 x59_2).f0.f3.f1) ((rd_T58 l0 x59_2).f0.f4.f0) ((rd_T58 l0 x59_2).f0.f4.f1) ((rd_T58 l0 x59_2).f0.f5) ((rd_T58 l0 x59_2).f0.f6) ((rd_T58 l0 x59_2).f1.f0.f0) ((rd_T58 l0 x59_2).f1.f0.f1) ((rd_T58 l0 x59_2).f1.f1) ([] : List Int)) = some r := rh_ hy476 H
        have Ny476 := aa_ hy476
        clear hy476
        have H' := aa_ H
        clear H
        obtain ⟨Ao45, co45, eo45⟩ := Kd.S_slice HO_8.out
        subst eo45
        have p44 : 0 ≤ (x59_2 : Int) := od_
        have q44 : (x59_2 : Int) < ((x7_2.length : Int) : Int) := od_
        obtain ⟨go44, co44, eo44, gb44, gl44, cl44, HG44⟩ := Kd.R_form HO_7.out (by omega)
        (first | cases eo44 | (injection eo44 with ea_ en_ ec_; (first | subst ea_ | (injection ea_ with ea_; subst ea_)); subst ec_; clear en_))
        have GB44 := aa_ gb44
        have GG44 := aa_ HG44
        clear gb44 gl44 HG44
        obtain ⟨hx44_0, hf44_0⟩ := Kd.R_celln 0 HO_7.out (x59_2 : Int) p44 q44
        replace p44 := eq_true p44
        replace q44 := eq_true q44
        have HP46 := Kd.R_putg HO_7.out (x59_2 : Int) (x8_2.length : Int)
        go_wp2_with (first | ((with_reducible refine gate_store (t := 3) (p := 73) rfl ?_); refine store_event (t := 3) (p := 73) (v := ?vo_w47) (w1 := (w41.setCell ⟨go44, (x59_2 : Int).toNat, none⟩ (.int .i64 (x8_2.length : Int)))) ?hg ?ho ?hn ?hr ?_; (case ho => rfl); (case hg => rfl); (case hn => rfl); (case hr => first | (go_simp; done) | (go_simp; rfl)); intro w47 hw; have hg : w41.grownBy w47 (some go44) := (by rw [hw]; exact HP46.2); have hp_ : Kd.R (Kd.int .i64) 3 w47 w.heap.size (fun k_ => some k_ ≠ (.slice (some ad475) x3_1.length co40 : Value).ownBlock) (.slice (some ⟨go44, 0, none⟩) x7_2.length co44) y476 := (by rw [hw, Ny476.out]; exact HP46.1); clear HP46; replace HO_3 := aa_ (Kd.R_after (v := (.slice (some ⟨go44, 0, none⟩) x7_2.length co44)) (v1 := (.slice (some ⟨go44, 0, none⟩) x7_2.length co44)) (ok := (fun _ => True)) (by (with_reducible repeat (first | apply Kd.R_alloc | apply Kd.R_drewN | apply Kd.R_drew)); exact Kd.R_mono HO_3.out (fun _ hk => ⟨trivial, hk⟩)) hg (.inl rfl)); replace HO_8 := aa_ (Kd.S_after (v := (.slice (some ⟨go44, 0, none⟩) x7_2.length co44)) (v1 := (.slice (some ⟨go44, 0, none⟩) x7_2.length co44)) (ok := (fun k_ => some k_ ≠ (.slice (some ad475) x3_1.length co40 : Value).ownBlock ∧ k_ ≠ gb474)) (by (with_reducible repeat (first | apply Kd.S_alloc | apply Kd.S_drewN | apply Kd.S_drew)); exact Kd.S_mono HO_8.out (fun _ hk => ⟨⟨hk.1, hk.2.2⟩, hk.2.1⟩)) hg (.inl rfl)); replace BK474 := aa_ (blk_grown (g := gb474) (o := .cells #[.int .i64 ((rd_T58 l0 x59_2).f0.f0), .int .i64 ((rd_T58 l0 x59_2).f0.f1.f0), .int .i64 ((rd_T58 l0 x59_2).f0.f1.f1), .int .i64 ((rd_T58 l0 x59_2).f0.f2), .int .i64 ((rd_T58 l0 x59_2).f0.f3.f0), .int .i64 ((rd_T58 l0 x59_2).f0.f3.f1), .int .i64 ((rd_T58 l0 x59_2).f0.f4.f0), .int .i64 ((rd_T58 l0 x59_2).f0.f4.f1), .int .i64 ((rd_T58 l0 x59_2).f0.f5), .int .i64 ((rd_T58 l0 x59_2).f0.f6), .int .i64 ((rd_T58 l0 x59_2).f1.f0.f0), .int .i64 ((rd_T58 l0 x59_2).f1.f0.f1), .int .i64 ((rd_T58 l0 x59_2).f1.f1), .slice A473_13 ((rd_T58 l0 x59_2).f2).length c473_13] 58 (0, 0)) (bk_ BK474) hg (Kd.R_ne HO_7.out BK474.out (by decide))); replace HO_7 := aa_ (hp_); replace HB := aa_ ((by rw [hw]; exact below_set (HB.out) GB44.out : Below w.heap.size w w47)); clear hg hw hp_; obtain ⟨hcz48, hfz48⟩ := bcf_ BK474) | ((with_reducible refine gD_ 11 rfl ?_); refine bx_ (N := 11) (cs := #[.int .i64 0, .int .i64 0, .int .i64 0, .int .i64 0, .int .i64 0, .int .i64 0, .int .i64 0, .int .i64 0, .int .i64 0, .int .i64 0, .int .i64 0, .int .i64 0, .int .i64 0, .slice none 0 0]) (t := 58) ?_; intro gb477 hg w49 hbox hb; replace HO_3 := hob_ HO_3 hb; replace HO_7 := hob_ HO_7 hb; replace HO_8 := aa_ (Kd.S_below (Kd.S_elderB (rs_ HO_8) gb477 (Nat.le_of_eq hg.symm)) hb); have BK477 := aa_ (hbox); have GW477 := gs_ hg; have GE477 := gs_ hg; replace HB := hbs_ hb; have NB474_477 := nl_ hg BK474; have NB477_474 := nr_ hg BK474; replace BK474 := bkb_ BK474 hb; clear hb hbox hg; have hnb50 := NB477_474.out; have hnc50 := NB474_477.out; obtain ⟨hcz51, hfz51⟩ := bcf_ BK477; obtain ⟨hcz52, hfz52⟩ := bcf_ BK474))
        go_loopg [82] k2 (fun kq v82 w' => ∃ (x82_3 : Int) (x478013_3 : List Int) (u478013 : Value), v82 = .int .i64 x82_3 ∧ Aside0 (impl_kept.l3 kq x3_1 y476 x8_2 l0 (l0.length : Int) x59_2 ((rd_T58 l0 x59_2).f2) (((rd_T58 l0 x59_2).f2).length : Int) x82_3 ((rd_T58 l0 x59_2).f0.f0) ((rd_T58 l0 x59_2).f0.f1.f0) ((rd_T58 l0 x59_2).f0.f1.f1) ((rd_T58 l0 x59_2).f0.f2) ((rd_T58 l0 x59_2).f0.f3.f0) ((rd_T58 l0 x59_2).f0.f3.f1) ((rd_T58 l0 x59_2).f0.f4.f0) ((rd_T58 l0 x59_2).f0.f4.f1) ((rd_T58 l0 x59_2).f0.f5) ((rd_T58 l0 x59_2).f0.f6) ((rd_T58 l0 x59_2).f1.f0.f0) ((rd_T58 l0 x59_2).f1.f0.f1) ((rd_T58 l0 x59_2).f1.f1) x478013_3 = some r) ∧ Aside0 (kq ≤ k2) ∧ Aside0 (Kd.R (Kd.int .i64) 3 w' w.heap.size (fun k_ => some k_ ≠ ((.slice (some ⟨go44, 0, none⟩) x7_2.length co44) : Value).ownBlock ∧ some k_ ≠ (u478013 : Value).ownBlock) (.slice (some ad475) x3_1.length co40) x3_1) ∧ Aside0 (Kd.R (Kd.int .i64) 3 w' w.heap.size (fun k_ => some k_ ≠ ((.slice (some ad475) x3_1.length co40) : Value).ownBlock ∧ some k_ ≠ (u478013 : Value).ownBlock) (.slice (some ⟨go44, 0, none⟩) x7_2.length co44) y476) ∧ Aside0 (Kd.S k58 58 w' w.heap.size (fun k_ => some k_ ≠ ((.slice (some ad475) x3_1.length co40) : Value).ownBlock ∧ some k_ ≠ ((.slice (some ⟨go44, 0, none⟩) x7_2.length co44) : Value).ownBlock ∧ some k_ ≠ (u478013 : Value).ownBlock ∧ k_ ≠ gb474 ∧ k_ ≠ gb477) (.slice Ao45 x8_2.length co45) x8_2) ∧ Aside0 (Kd.R (Kd.int .i64) 3 w' w.heap.size (fun k_ => some k_ ≠ ((.slice (some ad475) x3_1.length co40) : Value).ownBlock ∧ some k_ ≠ ((.slice (some ⟨go44, 0, none⟩) x7_2.length co44) : Value).ownBlock) u478013 x478013_3) ∧ Aside0 (w'.heap[gb474]? = some (.cells #[.int .i64 ((rd_T58 l0 x59_2).f0.f0), .int .i64 ((rd_T58 l0 x59_2).f0.f1.f0), .int .i64 ((rd_T58 l0 x59_2).f0.f1.f1), .int .i64 ((rd_T58 l0 x59_2).f0.f2), .int .i64 ((rd_T58 l0 x59_2).f0.f3.f0), .int .i64 ((rd_T58 l0 x59_2).f0.f3.f1), .int .i64 ((rd_T58 l0 x59_2).f0.f4.f0), .int .i64 ((rd_T58 l0 x59_2).f0.f4.f1), .int .i64 ((rd_T58 l0 x59_2).f0.f5), .int .i64 ((rd_T58 l0 x59_2).f0.f6), .int .i64 ((rd_T58 l0 x59_2).f1.f0.f0), .int .i64 ((rd_T58 l0 x59_2).f1.f0.f1), .int .i64 ((rd_T58 l0 x59_2).f1.f1), (.slice A473_13 ((rd_T58 l0 x59_2).f2).length c473_13)] 58 (0, 0))) ∧ Aside0 (w'.heap[gb477]? = some (.cells #[.int .i64 ((rd_T58 l0 x59_2).f0.f0), .int .i64 ((rd_T58 l0 x59_2).f0.f1.f0), .int .i64 ((rd_T58 l0 x59_2).f0.f1.f1), .int .i64 ((rd_T58 l0 x59_2).f0.f2), .int .i64 ((rd_T58 l0 x59_2).f0.f3.f0), .int .i64 ((rd_T58 l0 x59_2).f0.f3.f1), .int .i64 ((rd_T58 l0 x59_2).f0.f4.f0), .int .i64 ((rd_T58 l0 x59_2).f0.f4.f1), .int .i64 ((rd_T58 l0 x59_2).f0.f5), .int .i64 ((rd_T58 l0 x59_2).f0.f6), .int .i64 ((rd_T58 l0 x59_2).f1.f0.f0), .int .i64 ((rd_T58 l0 x59_2).f1.f0.f1), .int .i64 ((rd_T58 l0 x59_2).f1.f1), u478013] 58 (0, 0))) ∧ Aside0 (Below w.heap.size w w'))
        case atStart => exact ⟨(0), (([] : List Int)), (.slice none 0 0), rf_, H', ⟨Nat.le_refl _⟩, ⟨by (with_reducible repeat (first | apply Kd.R_alloc | apply Kd.R_drewN | apply Kd.R_drew)); exact Kd.R_mono (fr14_ (Kd.R_types HO_3.out BK477.out (by decide)) (fun _ hk => hk.2)) (fun _ hk => ⟨hk.1.2, (by simp [Value.ownBlock])⟩)⟩, ⟨by (with_reducible repeat (first | apply Kd.R_alloc | apply Kd.R_drewN | apply Kd.R_drew)); exact Kd.R_mono (fr14_ (Kd.R_types HO_7.out BK477.out (by decide)) (fun _ hk => hk.2)) (fun _ hk => ⟨hk.1, (by simp [Value.ownBlock])⟩)⟩, ⟨by (with_reducible repeat (first | apply Kd.S_alloc | apply Kd.S_drewN | apply Kd.S_drew)); exact Kd.S_mono (fs14_ (Kd.S_mono HO_8.out (fun k_ hk => (⟨hk, hk.2⟩ : _ ∧ k_ ≠ gb477))) (fun _ hk => hk.2)) (fun _ hk => ⟨hk.1.1.1.1, ⟨hk.1.1.2, ⟨(by simp [Value.ownBlock]), ⟨hk.1.1.1.2, hk.1.2⟩⟩⟩⟩)⟩, ⟨by first | exact Kd.R_nil _ _ _ _ _ | exact Kd.N_nil _ _ _ _ _ | exact Kd.V_nil _ _ _ _ _ | exact Kd.Q_nil _ _ _ _ _ | exact Kd.S_nil _ _ _ _ _⟩, ⟨bk_ BK474⟩, ⟨bk_ BK477⟩, ⟨bl_⟩⟩
        case round =>
         clear H'
         try clear p1
         try clear q1
         try clear hx1
         try clear hf1
         try clear c2b0
         try clear c2b1
         try clear p2
         try clear q2
         try clear hx2
         try clear hf2
         try clear c3b0
         try clear c3b1
         try clear p4
         try clear q4
         try clear hx4
         try clear hf4
         try clear c6b0
         try clear p6
         try clear c8b0
         try clear c9b0
         try clear c10b0
         try clear c13b0
         try clear c14b0
         try clear p15
         try clear q15
         try clear hx15
         try clear hf15
         try clear c16b0
         try clear c19b0
         try clear c20b0
         try clear c21b0
         try clear c22b0
         try clear c23b0
         try clear p24
         try clear q24
         try clear hx24
         try clear hf24
         try clear c27b0
         try clear c27b1
         try clear c28b0
         try clear c28b1
         try clear c33b0
         try clear c34b0
         try clear c35b0
         try clear c36b0
         try clear c42b0
         try clear c42b1
         try clear c43b0
         try clear p44
         try clear q44
         try clear hx44
         try clear hf44
         try clear p46
         try clear q46
         try clear hx46
         try clear p47
         try clear q47
         try clear hx47
         try clear hcz39
         try clear hcz48
         try clear hcz51
         try clear hcz52
         try clear hfz39
         try clear hfz48
         try clear hfz51
         try clear hfz52
         try clear hx15_0
         try clear hx24_0
         try clear hx44_0
         try clear hx462_0
         try clear hx464_0
         try clear hx464_1
         try clear hx464_10
         try clear hx464_11
         try clear hx464_12
         try clear hx464_13
         try clear hx464_2
         try clear hx464_3
         try clear hx464_4
         try clear hx464_5
         try clear hx464_6
         try clear hx464_7
         try clear hx464_8
         try clear hx464_9
         try clear hx465_0
         try clear hx473_0
         try clear hx473_1
         try clear hx473_10
         try clear hx473_11
         try clear hx473_12
         try clear hx473_13
         try clear hx473_2
         try clear hx473_3
         try clear hx473_4
         try clear hx473_5
         try clear hx473_6
         try clear hx473_7
         try clear hx473_8
         try clear hx473_9
         try clear hx475_0
         try clear p1
         try clear p15
         try clear p2
         try clear p24
         try clear p4
         try clear p44
         try clear p462
         try clear p464
         try clear p465
         try clear p473
         try clear p475
         try clear p6
         try clear q1
         try clear q15
         try clear q2
         try clear q24
         try clear q4
         try clear q44
         try clear q462
         try clear q464
         try clear q465
         try clear q473
         try clear q475
         obtain ⟨x82_3, x478013_3, u478013, rfl, HA, HK3, HO_3, HO_7, HO_8, HO_478013, BK474, BK477, HB⟩ := hrel
         have hl7_3 := (Kd.R_reads' HO_7.out).1
         rw [hl7_3] at HO_7
         (try simp only [hl7_3])
         (try simp only [hl7_3] at BK474)
         (try simp only [hl7_3] at BK477)
         (try simp only [hl7_3] at HO_3)
         (try simp only [hl7_3] at HO_8)
         (try simp only [hl7_3] at HO_478013)
         cases gk with
         | zero => exact absurd HA.out (by simp [impl_kept.l3])
         | succ k3 =>
          have H := HA.out
          clear HA
          simp only [impl_kept.l3] at H
          by_cases c53 : x82_3 < (((rd_T58 l0 x59_2).f2).length : Int)
          ·rw [if_pos c53] at H
           have c53b0 : decide (x82_3 < (((rd_T58 l0 x59_2).f2).length : Int)) = true := decide_eq_true c53
           clear c53
           obtain ⟨c54b0, H⟩ := ifd_ H
           obtain ⟨c55b0, H⟩ := ifd_ H
           obtain ⟨c56b0, H⟩ := ifd_ H
           obtain ⟨c57b0, H⟩ := ifd_ H
           obtain ⟨c58, H⟩ := ifn_ H
           have LMc58 := aa_ c58
           clear c58
           obtain ⟨y480, hy480⟩ : ∃ y_ : List Int, y_ = (x478013_3 ++ [rd y476 (rd ((rd_T58 l0 x59_2).f2) x82_3)]) := ⟨_, rfl⟩
           replace H : (impl_kept.l3 k3 x3_1 y476 x8_2 l0 (l0.length : Int) x59_2 ((rd_T58 l0 x59_2).f2) (((rd_T58 l0 x59_2).f2).length : Int) (wrap64 (x82_3 + 1)) ((rd_T58 l0 x59_2).f0.f0) ((rd_T58 l0 x59_2).f0.f1.f0) ((rd_T58 l0 x59_2).f0.f1.f1) ((rd_T58 l0 x59_2).f0.f2) ((rd_T58 l0 x59_2).f0.f3.f0) ((rd_T58 l0 x59_2).f0.f3.f1) ((rd_T58 l0 x59_2).f0.f4.f0) ((rd_T58 l0 x59_2).f0.f4.f1) ((rd_T58 l0 x59_2).f0.f5) ((rd_T58 l0 x59_2).f0.f6) ((rd_T58 l0 x59_2).f1.f0.f0) ((rd_T58 l0 x59_2).f1.f0.f1) ((rd_T58 l0 x59_2).f1.f1) y480) = some r := rh_ hy480 H
           have Ny480 := aa_ hy480
           clear hy480
           have H' := aa_ H
           clear H
           have p478 : 0 ≤ (x82_3 : Int) := od_
           have q478 : x82_3 < (((rd_T58 l0 x59_2).f2).length : Int) := od_
           obtain ⟨ad478, e478, hx478_0⟩ := Kd.at_int (Kd.C_below HR473_13.out HB.out) x82_3 p478 q478
           cases e478
           replace p478 := eq_true p478
           replace q478 := eq_true q478
           try go_wp2
           replace HO_3 := aa_ (Kd.R_drew HO_3.out)
           replace HO_7 := aa_ (Kd.R_drew HO_7.out)
           replace HO_8 := aa_ (Kd.S_drew HO_8.out)
           replace HO_478013 := aa_ (Kd.R_drew HO_478013.out)
           replace BK474 := aa_ (blk_drew BK474.out)
           replace BK477 := aa_ (blk_drew BK477.out)
           replace HB := aa_ (below_drew1 HB.out)
           have p479 : 0 ≤ ((rd ((rd_T58 l0 x59_2).f2) x82_3) : Int) := od_
           have q479 : (rd ((rd_T58 l0 x59_2).f2) x82_3) < (y476.length : Int) := od_
           obtain ⟨ad479, e479, hx479_0⟩ := Kd.at_int (Kd.R_reads' HO_7.out).2.2 (rd ((rd_T58 l0 x59_2).f2) x82_3) p479 q479
           obtain rfl : (⟨go44, 0, none⟩ : Addr) = ad479 := (by injection e479)
           (first | simp only [add_plain] at hx479_0 | simp only [add_at] at hx479_0 | simp only [Addr.add, Nat.zero_add] at hx479_0 | skip)
           replace p479 := eq_true p479
           replace q479 := eq_true q479
           refine start_ (n := 10) (S := fun w' => w'.cell? ⟨gb477, 0, none⟩ = some (.int .i64 ((rd_T58 l0 x59_2).f0.f0)) ∧ w'.cell? ⟨gb477, 1, none⟩ = some (.int .i64 ((rd_T58 l0 x59_2).f0.f1.f0)) ∧ w'.cell? ⟨gb477, 2, none⟩ = some (.int .i64 ((rd_T58 l0 x59_2).f0.f1.f1)) ∧ w'.cell? ⟨gb477, 3, none⟩ = some (.int .i64 ((rd_T58 l0 x59_2).f0.f2)) ∧ w'.cell? ⟨gb477, 4, none⟩ = some (.int .i64 ((rd_T58 l0 x59_2).f0.f3.f0)) ∧ w'.cell? ⟨gb477, 5, none⟩ = some (.int .i64 ((rd_T58 l0 x59_2).f0.f3.f1)) ∧ w'.cell? ⟨gb477, 6, none⟩ = some (.int .i64 ((rd_T58 l0 x59_2).f0.f4.f0)) ∧ w'.cell? ⟨gb477, 7, none⟩ = some (.int .i64 ((rd_T58 l0 x59_2).f0.f4.f1)) ∧ w'.cell? ⟨gb477, 8, none⟩ = some (.int .i64 ((rd_T58 l0 x59_2).f0.f5)) ∧ w'.cell? ⟨gb477, 9, none⟩ = some (.int .i64 ((rd_T58 l0 x59_2).f0.f6)) ∧ w'.cell? ⟨gb477, 10, none⟩ = some (.int .i64 ((rd_T58 l0 x59_2).f1.f0.f0)) ∧ w'.cell? ⟨gb477, 11, none⟩ = some (.int .i64 ((rd_T58 l0 x59_2).f1.f0.f1)) ∧ w'.cell? ⟨gb477, 12, none⟩ = some (.int .i64 ((rd_T58 l0 x59_2).f1.f1)) ∧ w'.cell? ⟨gb477, 13, none⟩ = some (u478013) ∧ w'.cell? ⟨go44, ((rd ((rd_T58 l0 x59_2).f2) x82_3)).toNat, none⟩ = some (.int .i64 (rd y476 (rd ((rd_T58 l0 x59_2).f2) x82_3)))) (ds := [7, 9]) (ba_ 10 0) (by kernel_rfl) rfl rfl ⟨(blk_cell BK477.out 0).trans rfl, (blk_cell BK477.out 1).trans rfl, (blk_cell BK477.out 2).trans rfl, (blk_cell BK477.out 3).trans rfl, (blk_cell BK477.out 4).trans rfl, (blk_cell BK477.out 5).trans rfl, (blk_cell BK477.out 6).trans rfl, (blk_cell BK477.out 7).trans rfl, (blk_cell BK477.out 8).trans rfl, (blk_cell BK477.out 9).trans rfl, (blk_cell BK477.out 10).trans rfl, (blk_cell BK477.out 11).trans rfl, (blk_cell BK477.out 12).trans rfl, (blk_cell BK477.out 13).trans rfl, hx479_0⟩ (fun hHeld => ?_); refine with_tabW impl_kept.tab23 impl_kept.bits23 (fun HT_ HW_ => ?_)
           generalize wr.drew = w59 at HO_3 HO_7 HO_8 HO_478013 BK474 BK477 HB hx479_0 hHeld ⊢
           refine pz_ 0 86 (ba_ 10 1) (ao_ HT_) ?_
           refine pz_ 2 88 (ba_ 10 5) (ao_ HT_) ?_
           refine pz_ 3 89 (ba_ 10 13) (ao_ HT_) ?_
           refine pz_ 4 90 (ba_ 10 29) (ao_ HT_) ?_
           refine tz_ 1 87 (ba_ 10 31) (take_ofW HT_.out HW_.out (by kernel_rfl)) hHeld ?_
           refine tz_ 5 91 (ba_ 10 63) (take_ofW HT_.out HW_.out (by kernel_rfl)) hHeld ?_
           refine one_ (i := 6) (N := some 92) (ba_ 10 127) rfl rfl (one_of HT_.out (by kernel_rfl)) (by decide) (fun K hK => ?_)
           refine value_ (w1 := ?_) (v := ?_) (by rfl) rfl ?_ ?_
           rotate_left 2
           ·go_simp
            constructor
            ·rfl
            ·rfl
           refine hK.out _ _ ⟨(blk_cell (blk_alloc BK477.out _) 0).trans rfl, (blk_cell (blk_alloc BK477.out _) 1).trans rfl, (blk_cell (blk_alloc BK477.out _) 2).trans rfl, (blk_cell (blk_alloc BK477.out _) 3).trans rfl, (blk_cell (blk_alloc BK477.out _) 4).trans rfl, (blk_cell (blk_alloc BK477.out _) 5).trans rfl, (blk_cell (blk_alloc BK477.out _) 6).trans rfl, (blk_cell (blk_alloc BK477.out _) 7).trans rfl, (blk_cell (blk_alloc BK477.out _) 8).trans rfl, (blk_cell (blk_alloc BK477.out _) 9).trans rfl, (blk_cell (blk_alloc BK477.out _) 10).trans rfl, (blk_cell (blk_alloc BK477.out _) 11).trans rfl, (blk_cell (blk_alloc BK477.out _) 12).trans rfl, (blk_cell (blk_alloc BK477.out _) 13).trans rfl, (World.cell?_alloc_lt _ _ _ (World.block_lt_of_cell? _ _ (hHeld.2.2.2.2.2.2.2.2.2.2.2.2.2.2))).trans (hHeld.2.2.2.2.2.2.2.2.2.2.2.2.2.2)⟩ (fun hHeld => ?_)
           clear hK K
           refine norm_ (a' := ?_) ?_ ?_
           rotate_left
           ·show Act.put _ (some 92) _ = _
            simp only [Act.put, sb_, sz_, ss_, i64_w, i32_w]
            rfl
           refine last_ (i := 7) (N := some 93) (ba_ 10 255) rfl rfl (one_of HT_.out (by kernel_rfl)) (by decide) (fun K hK => ?_)
           refine Kd.R_append_step (Kd.int .i64) (w0 := w) w.heap.size (by rfl) (.tmp 87) (.tmp 92) 53 3 (.int .i64 0) 8 rfl Try.underlying53 info3 rfl (by decide) (by omega) u478013 x478013_3 (rd y476 (rd ((rd_T58 l0 x59_2).f2) x82_3)) [.int .i64 (rd y476 (rd ((rd_T58 l0 x59_2).f2) x82_3))] (fun k_ => some k_ ≠ (.slice (some ad475) x3_1.length co40 : Value).ownBlock ∧ some k_ ≠ (.slice (some ⟨go44, 0, none⟩) y476.length co44 : Value).ownBlock) (fun _ => False) rfl rfl ?aP (fun _ hk => hk.elim) ?aF ?aO ?aB ?aS ?aL ?_
           (case aP => exact rfl)
           (case aB => exact bl_)
           (case aF => exact (fun k_ hk => ⟨Kd.fresh' (Kd.R_lt (rr_ HO_3)) k_ hk, Kd.fresh' (Kd.R_lt (rr_ HO_7)) k_ hk⟩))
           (case aO => exact (rr_ HO_478013))
           (case aS => exact bls_)
           (case aL => have := LMc58.out; omega)
           intro v481 w60 ho hb hg hat
           rw [← Ny480.out] at ho
           replace HO_3 := aa_ (Kd.R_after (ok := (fun k_ => some k_ ≠ (.slice (some ⟨go44, 0, none⟩) y476.length co44 : Value).ownBlock)) (rr_ HO_3) hg hat)
           replace HO_7 := aa_ (Kd.R_after (ok := (fun k_ => some k_ ≠ (.slice (some ad475) x3_1.length co40 : Value).ownBlock)) (rr_ HO_7) hg hat)
           replace HO_8 := aa_ (Kd.S_after (ok := (fun k_ => some k_ ≠ (.slice (some ad475) x3_1.length co40 : Value).ownBlock ∧ some k_ ≠ (.slice (some ⟨go44, 0, none⟩) y476.length co44 : Value).ownBlock ∧ k_ ≠ gb474 ∧ k_ ≠ gb477)) (by (with_reducible repeat (first | apply Kd.S_alloc | apply Kd.S_drewN | apply Kd.S_drew)); exact Kd.S_mono HO_8.out (fun _ hk => ⟨⟨hk.1, ⟨hk.2.1, ⟨hk.2.2.2.1, hk.2.2.2.2⟩⟩⟩, hk.2.2.1⟩)) hg hat)
           replace BK474 := aa_ (blk_grown (g := gb474) (o := .cells #[.int .i64 ((rd_T58 l0 x59_2).f0.f0), .int .i64 ((rd_T58 l0 x59_2).f0.f1.f0), .int .i64 ((rd_T58 l0 x59_2).f0.f1.f1), .int .i64 ((rd_T58 l0 x59_2).f0.f2), .int .i64 ((rd_T58 l0 x59_2).f0.f3.f0), .int .i64 ((rd_T58 l0 x59_2).f0.f3.f1), .int .i64 ((rd_T58 l0 x59_2).f0.f4.f0), .int .i64 ((rd_T58 l0 x59_2).f0.f4.f1), .int .i64 ((rd_T58 l0 x59_2).f0.f5), .int .i64 ((rd_T58 l0 x59_2).f0.f6), .int .i64 ((rd_T58 l0 x59_2).f1.f0.f0), .int .i64 ((rd_T58 l0 x59_2).f1.f0.f1), .int .i64 ((rd_T58 l0 x59_2).f1.f1), .slice (some ad478) ((rd_T58 l0 x59_2).f2).length c473_13] 58 (0, 0)) (bk_ BK474) hg (Kd.R_ne HO_478013.out BK474.out (by decide)))
           replace BK477 := aa_ (blk_grown (g := gb477) (o := .cells #[.int .i64 ((rd_T58 l0 x59_2).f0.f0), .int .i64 ((rd_T58 l0 x59_2).f0.f1.f0), .int .i64 ((rd_T58 l0 x59_2).f0.f1.f1), .int .i64 ((rd_T58 l0 x59_2).f0.f2), .int .i64 ((rd_T58 l0 x59_2).f0.f3.f0), .int .i64 ((rd_T58 l0 x59_2).f0.f3.f1), .int .i64 ((rd_T58 l0 x59_2).f0.f4.f0), .int .i64 ((rd_T58 l0 x59_2).f0.f4.f1), .int .i64 ((rd_T58 l0 x59_2).f0.f5), .int .i64 ((rd_T58 l0 x59_2).f0.f6), .int .i64 ((rd_T58 l0 x59_2).f1.f0.f0), .int .i64 ((rd_T58 l0 x59_2).f1.f0.f1), .int .i64 ((rd_T58 l0 x59_2).f1.f1), u478013] 58 (0, 0)) (bk_ BK477) hg (Kd.R_ne HO_478013.out BK477.out (by decide)))
           replace HB := aa_ (hb)
           have HO482 := aa_ (ho)
           clear HO_478013
           clear ho hb hg hat
           obtain ⟨Ao61, co61, eo61⟩ := Kd.R_slice HO482.out
           (first | subst eo61 | (injection eo61 with f1_ f2_ f3_; have f4_ := f1_.symm; have f5_ := f3_.symm; clear f1_ f2_ f3_; subst f4_; subst f5_))
           refine hK.out _ _ ?_
           clear hK K
           refine norm_ (a' := ?_) ?_ ?_
           rotate_left
           ·show Act.put _ (some 93) _ = _
            simp only [Act.put, sb_, sz_, ss_, i64_w, i32_w]
            rfl
           refine pz_ 8 94 (ba_ 10 511) (ao_ HT_) ?_
           refine last_ (i := 9) (N := none) (ba_ 10 1023) rfl rfl (one_of HT_.out (by kernel_rfl)) (by decide) (fun K hK => ?_)
           have hs62 : w60.cell? ⟨gb477, 13, none⟩ = some (u478013) := (blk_cell BK477.out 13).trans rfl
           have hfs62 := blk_frozen BK477.out 13
           have hns62_0 := NB474_477.out
           have hms62_0 := NB477_474.out
           refine skip_ (w1 := ?_) (by rfl) rfl ?_ ?_
           rotate_left
           ·go_simp
            rfl
           refine hK.out _ _ ?_
           clear hK K
           refine done_ (done_of HT_.out (by kernel_rfl)) ?_
           try go_wp2
           (try simp only [← hl7_3])
           go_roundg k3
           case measure => have := HK1.out; have := HK2.out; have := HK3.out; omega
           case rel => exact ⟨(wrap64 (x82_3 + 1)), (y480), (.slice Ao61 y480.length co61), rf_, H', ⟨by have := HK1.out; have := HK2.out; have := HK3.out; omega⟩, ⟨by (try simp only [hl7_3]); (with_reducible repeat (first | apply Kd.R_alloc | apply Kd.R_drewN | apply Kd.R_drew)); exact Kd.R_mono (Kd.R_far (p := ⟨gb477, 13, none⟩) (Kd.R_types HO_3.out BK477.out (by decide)) (fun _ hk => hk.2) (.slice Ao61 y480.length co61)) (fun _ hk => ⟨hk.1.1, hk.1.2⟩)⟩, ⟨by (try simp only [hl7_3]); (with_reducible repeat (first | apply Kd.R_alloc | apply Kd.R_drewN | apply Kd.R_drew)); exact Kd.R_mono (Kd.R_far (p := ⟨gb477, 13, none⟩) (Kd.R_types HO_7.out BK477.out (by decide)) (fun _ hk => hk.2) (.slice Ao61 y480.length co61)) (fun _ hk => ⟨hk.1.1, hk.1.2⟩)⟩, ⟨by (try simp only [hl7_3]); (with_reducible repeat (first | apply Kd.S_alloc | apply Kd.S_drewN | apply Kd.S_drew)); exact Kd.S_mono (Kd.S_far (p := ⟨gb477, 13, none⟩) (Kd.S_mono HO_8.out (fun k_ hk => (⟨hk, hk.1.2.2.2⟩ : _ ∧ k_ ≠ gb477))) (fun _ hk => hk.2) (.slice Ao61 y480.length co61)) (fun _ hk => ⟨hk.1.1.1, ⟨hk.1.1.2.1, ⟨hk.1.2, ⟨hk.1.1.2.2.1, hk.1.1.2.2.2⟩⟩⟩⟩)⟩, ⟨by (try simp only [hl7_3]); (with_reducible repeat (first | apply Kd.R_alloc | apply Kd.R_drewN | apply Kd.R_drew)); exact Kd.R_mono (Kd.R_far (p := ⟨gb477, 13, none⟩) (Kd.R_types HO482.out BK477.out (by decide)) (fun _ hk => hk.2) (.slice Ao61 y480.length co61)) (fun _ hk => ⟨hk.1.1, hk.1.2⟩)⟩, ⟨by (try simp only [hl7_3]); (with_reducible repeat (first | refine blk_drewN ?_ _ | refine blk_drew ?_ | refine blk_alloc ?_ _)); refine blk_far ?_ NB474_477.out _; (with_reducible repeat (first | refine blk_drewN ?_ _ | refine blk_drew ?_ | refine blk_alloc ?_ _)); exact BK474.out⟩, ⟨by (try simp only [hl7_3]); (with_reducible repeat (first | refine blk_drewN ?_ _ | refine blk_drew ?_ | refine blk_alloc ?_ _)); refine blk_put (cs := #[.int .i64 ((rd_T58 l0 x59_2).f0.f0), .int .i64 ((rd_T58 l0 x59_2).f0.f1.f0), .int .i64 ((rd_T58 l0 x59_2).f0.f1.f1), .int .i64 ((rd_T58 l0 x59_2).f0.f2), .int .i64 ((rd_T58 l0 x59_2).f0.f3.f0), .int .i64 ((rd_T58 l0 x59_2).f0.f3.f1), .int .i64 ((rd_T58 l0 x59_2).f0.f4.f0), .int .i64 ((rd_T58 l0 x59_2).f0.f4.f1), .int .i64 ((rd_T58 l0 x59_2).f0.f5), .int .i64 ((rd_T58 l0 x59_2).f0.f6), .int .i64 ((rd_T58 l0 x59_2).f1.f0.f0), .int .i64 ((rd_T58 l0 x59_2).f1.f0.f1), .int .i64 ((rd_T58 l0 x59_2).f1.f1), u478013]) ?_ 13 _ rfl; (with_reducible repeat (first | refine blk_drewN ?_ _ | refine blk_drew ?_ | refine blk_alloc ?_ _)); exact BK477.out⟩, ⟨bl_⟩⟩
          ·rw [if_neg c53] at H
           have c53b0 : decide (x82_3 < (((rd_T58 l0 x59_2).f2).length : Int)) = false := decide_eq_false c53
           clear c53
           obtain ⟨c63, H⟩ := ifn_ H
           have LMc63 := aa_ c63
           clear c63
           obtain ⟨y483, hy483⟩ : ∃ y_ : List (S58), y_ = (x8_2 ++ [(⟨(⟨((rd_T58 l0 x59_2).f0.f0), (⟨((rd_T58 l0 x59_2).f0.f1.f0), ((rd_T58 l0 x59_2).f0.f1.f1)⟩ : S26), ((rd_T58 l0 x59_2).f0.f2), (⟨((rd_T58 l0 x59_2).f0.f3.f0), ((rd_T58 l0 x59_2).f0.f3.f1)⟩ : S26), (⟨((rd_T58 l0 x59_2).f0.f4.f0), ((rd_T58 l0 x59_2).f0.f4.f1)⟩ : S26), ((rd_T58 l0 x59_2).f0.f5), ((rd_T58 l0 x59_2).f0.f6)⟩ : S35), (⟨(⟨((rd_T58 l0 x59_2).f1.f0.f0), ((rd_T58 l0 x59_2).f1.f0.f1)⟩ : S26), ((rd_T58 l0 x59_2).f1.f1)⟩ : S28), x478013_3⟩ : S58)]) := ⟨_, rfl⟩
           replace H : (impl_kept.l2 k3 x3_1 y476 y483 l0 (l0.length : Int) (wrap64 (x59_2 + 1))) = some r := rh_ hy483 H
           have Ny483 := aa_ hy483
           clear hy483
           have H' := aa_ H
           clear H
           have hnb64 := NB477_474.out
           have hnc64 := NB474_477.out
           have hcz65 := blk_cell BK477.out
           have hfz65 := blk_frozen BK477.out
           obtain ⟨Ao67, co67, eo67⟩ := Kd.R_slice HO_478013.out
           subst eo67
           go_wp2_with (first | ((with_reducible refine gate_builtin (b := .append) (xs := #[.tmp 96, .tmp 98]) rfl ?_); at_builtin; refine Kd.S_append k58 (w0 := w) w.heap.size rfl (.tmp 96) (.tmp 98) 31 58 (.agg #[(.int .i64 0), (.int .i64 0), (.int .i64 0), (.int .i64 0), (.int .i64 0), (.int .i64 0), (.int .i64 0), (.int .i64 0), (.int .i64 0), (.int .i64 0), (.int .i64 0), (.int .i64 0), (.int .i64 0), (.slice none 0 0)]) 128 rfl Try.underlying31 info58 rfl (by decide) (by omega) (.slice Ao45 x8_2.length co45) x8_2 (⟨(⟨((rd_T58 l0 x59_2).f0.f0), (⟨((rd_T58 l0 x59_2).f0.f1.f0), ((rd_T58 l0 x59_2).f0.f1.f1)⟩ : S26), ((rd_T58 l0 x59_2).f0.f2), (⟨((rd_T58 l0 x59_2).f0.f3.f0), ((rd_T58 l0 x59_2).f0.f3.f1)⟩ : S26), (⟨((rd_T58 l0 x59_2).f0.f4.f0), ((rd_T58 l0 x59_2).f0.f4.f1)⟩ : S26), ((rd_T58 l0 x59_2).f0.f5), ((rd_T58 l0 x59_2).f0.f6)⟩ : S35), (⟨(⟨((rd_T58 l0 x59_2).f1.f0.f0), ((rd_T58 l0 x59_2).f1.f0.f1)⟩ : S26), ((rd_T58 l0 x59_2).f1.f1)⟩ : S28), x478013_3⟩ : S58) [.int .i64 ((rd_T58 l0 x59_2).f0.f0), .int .i64 ((rd_T58 l0 x59_2).f0.f1.f0), .int .i64 ((rd_T58 l0 x59_2).f0.f1.f1), .int .i64 ((rd_T58 l0 x59_2).f0.f2), .int .i64 ((rd_T58 l0 x59_2).f0.f3.f0), .int .i64 ((rd_T58 l0 x59_2).f0.f3.f1), .int .i64 ((rd_T58 l0 x59_2).f0.f4.f0), .int .i64 ((rd_T58 l0 x59_2).f0.f4.f1), .int .i64 ((rd_T58 l0 x59_2).f0.f5), .int .i64 ((rd_T58 l0 x59_2).f0.f6), .int .i64 ((rd_T58 l0 x59_2).f1.f0.f0), .int .i64 ((rd_T58 l0 x59_2).f1.f0.f1), .int .i64 ((rd_T58 l0 x59_2).f1.f1), .slice Ao67 x478013_3.length co67] (fun k_ => some k_ ≠ (.slice (some ad475) x3_1.length co40 : Value).ownBlock ∧ some k_ ≠ (.slice (some ⟨go44, 0, none⟩) y476.length co44 : Value).ownBlock ∧ k_ ≠ gb474 ∧ k_ ≠ gb477) (fun k_ => some k_ = (.slice Ao67 x478013_3.length co67 : Value).ownBlock) rfl rfl ?aP (fun k_ hk_ => ((Kd.R_mono (ok' := fun k_ => ((fun k_ => some k_ ≠ (.slice (some ad475) x3_1.length co40 : Value).ownBlock ∧ some k_ ≠ (.slice (some ⟨go44, 0, none⟩) y476.length co44 : Value).ownBlock ∧ k_ ≠ gb474 ∧ k_ ≠ gb477)) k_ ∧ some k_ ≠ (.slice Ao45 x8_2.length co45 : Value).ownBlock) (Kd.R_types (Kd.R_types (Kd.R_apart' (HO_478013.out) (Kd.S_typed HO_8.out) (by decide)) BK474.out (by decide)) BK477.out (by decide)) (fun k_ hk => ⟨⟨hk.1.1.1.1, ⟨hk.1.1.1.2, ⟨hk.1.2, hk.2⟩⟩⟩, hk.1.1.2⟩))).1 k_ hk_.symm) ?aF ?aO ?aB ?aS ?aL ?_; (case aP => exact k58_mkM _ _ _ (⟨(⟨((rd_T58 l0 x59_2).f0.f0), (⟨((rd_T58 l0 x59_2).f0.f1.f0), ((rd_T58 l0 x59_2).f0.f1.f1)⟩ : S26), ((rd_T58 l0 x59_2).f0.f2), (⟨((rd_T58 l0 x59_2).f0.f3.f0), ((rd_T58 l0 x59_2).f0.f3.f1)⟩ : S26), (⟨((rd_T58 l0 x59_2).f0.f4.f0), ((rd_T58 l0 x59_2).f0.f4.f1)⟩ : S26), ((rd_T58 l0 x59_2).f0.f5), ((rd_T58 l0 x59_2).f0.f6)⟩ : S35), (⟨(⟨((rd_T58 l0 x59_2).f1.f0.f0), ((rd_T58 l0 x59_2).f1.f0.f1)⟩ : S26), ((rd_T58 l0 x59_2).f1.f1)⟩ : S28), x478013_3⟩ : S58) (Kd.R_mono (Kd.R_tight rfl (Kd.R_mono (ok' := fun k_ => ((fun k_ => some k_ ≠ (.slice (some ad475) x3_1.length co40 : Value).ownBlock ∧ some k_ ≠ (.slice (some ⟨go44, 0, none⟩) y476.length co44 : Value).ownBlock ∧ k_ ≠ gb474 ∧ k_ ≠ gb477)) k_ ∧ some k_ ≠ (.slice Ao45 x8_2.length co45 : Value).ownBlock) (Kd.R_types (Kd.R_types (Kd.R_apart' (HO_478013.out) (Kd.S_typed HO_8.out) (by decide)) BK474.out (by decide)) BK477.out (by decide)) (fun k_ hk => ⟨⟨hk.1.1.1.1, ⟨hk.1.1.1.2, ⟨hk.1.2, hk.2⟩⟩⟩, hk.1.1.2⟩))) (fun _ h_ => h_))); (case aB => exact bl_); (case aF => exact (fun k_ hk => ⟨Kd.fresh' (Kd.R_lt (rr_ HO_3)) k_ hk, Kd.fresh' (Kd.R_lt (rr_ HO_7)) k_ hk, Kd.freshB (g := gb474) (o := .cells #[.int .i64 ((rd_T58 l0 x59_2).f0.f0), .int .i64 ((rd_T58 l0 x59_2).f0.f1.f0), .int .i64 ((rd_T58 l0 x59_2).f0.f1.f1), .int .i64 ((rd_T58 l0 x59_2).f0.f2), .int .i64 ((rd_T58 l0 x59_2).f0.f3.f0), .int .i64 ((rd_T58 l0 x59_2).f0.f3.f1), .int .i64 ((rd_T58 l0 x59_2).f0.f4.f0), .int .i64 ((rd_T58 l0 x59_2).f0.f4.f1), .int .i64 ((rd_T58 l0 x59_2).f0.f5), .int .i64 ((rd_T58 l0 x59_2).f0.f6), .int .i64 ((rd_T58 l0 x59_2).f1.f0.f0), .int .i64 ((rd_T58 l0 x59_2).f1.f0.f1), .int .i64 ((rd_T58 l0 x59_2).f1.f1), .slice A473_13 ((rd_T58 l0 x59_2).f2).length c473_13] 58 (0, 0)) (bk_ BK474) k_ hk, Kd.freshB (g := gb477) (o := .cells #[.int .i64 ((rd_T58 l0 x59_2).f0.f0), .int .i64 ((rd_T58 l0 x59_2).f0.f1.f0), .int .i64 ((rd_T58 l0 x59_2).f0.f1.f1), .int .i64 ((rd_T58 l0 x59_2).f0.f2), .int .i64 ((rd_T58 l0 x59_2).f0.f3.f0), .int .i64 ((rd_T58 l0 x59_2).f0.f3.f1), .int .i64 ((rd_T58 l0 x59_2).f0.f4.f0), .int .i64 ((rd_T58 l0 x59_2).f0.f4.f1), .int .i64 ((rd_T58 l0 x59_2).f0.f5), .int .i64 ((rd_T58 l0 x59_2).f0.f6), .int .i64 ((rd_T58 l0 x59_2).f1.f0.f0), .int .i64 ((rd_T58 l0 x59_2).f1.f0.f1), .int .i64 ((rd_T58 l0 x59_2).f1.f1), .slice Ao67 x478013_3.length co67] 58 (0, 0)) (bk_ BK477) k_ hk⟩)); (case aO => exact (by (with_reducible repeat (first | apply Kd.S_alloc | apply Kd.S_drewN | apply Kd.S_drew)); exact Kd.S_mono HO_8.out (fun k_ hk => ⟨⟨hk.1, ⟨hk.2.1, ⟨hk.2.2.2.1, hk.2.2.2.2⟩⟩⟩, fun e_ => hk.2.2.1 e_⟩))); (case aS => exact bls_); (case aL => have := LMc63.out; omega); intro v484 w66 ho hb hg hat; rw [← Ny483.out] at ho; replace HO_3 := aa_ (Kd.R_over' (rr_ HO_3) (Kd.S_typed (rs_ HO_8)) (by decide) hg); replace HO_7 := aa_ (Kd.R_over' (rr_ HO_7) (Kd.S_typed (rs_ HO_8)) (by decide) hg); replace BK474 := aa_ (blk_grown (g := gb474) (o := .cells #[.int .i64 ((rd_T58 l0 x59_2).f0.f0), .int .i64 ((rd_T58 l0 x59_2).f0.f1.f0), .int .i64 ((rd_T58 l0 x59_2).f0.f1.f1), .int .i64 ((rd_T58 l0 x59_2).f0.f2), .int .i64 ((rd_T58 l0 x59_2).f0.f3.f0), .int .i64 ((rd_T58 l0 x59_2).f0.f3.f1), .int .i64 ((rd_T58 l0 x59_2).f0.f4.f0), .int .i64 ((rd_T58 l0 x59_2).f0.f4.f1), .int .i64 ((rd_T58 l0 x59_2).f0.f5), .int .i64 ((rd_T58 l0 x59_2).f0.f6), .int .i64 ((rd_T58 l0 x59_2).f1.f0.f0), .int .i64 ((rd_T58 l0 x59_2).f1.f0.f1), .int .i64 ((rd_T58 l0 x59_2).f1.f1), .slice A473_13 ((rd_T58 l0 x59_2).f2).length c473_13] 58 (0, 0)) (bk_ BK474) hg (Kd.S_away HO_8.out (fun _ hk => hk.2.2.2.1))); replace BK477 := aa_ (blk_grown (g := gb477) (o := .cells #[.int .i64 ((rd_T58 l0 x59_2).f0.f0), .int .i64 ((rd_T58 l0 x59_2).f0.f1.f0), .int .i64 ((rd_T58 l0 x59_2).f0.f1.f1), .int .i64 ((rd_T58 l0 x59_2).f0.f2), .int .i64 ((rd_T58 l0 x59_2).f0.f3.f0), .int .i64 ((rd_T58 l0 x59_2).f0.f3.f1), .int .i64 ((rd_T58 l0 x59_2).f0.f4.f0), .int .i64 ((rd_T58 l0 x59_2).f0.f4.f1), .int .i64 ((rd_T58 l0 x59_2).f0.f5), .int .i64 ((rd_T58 l0 x59_2).f0.f6), .int .i64 ((rd_T58 l0 x59_2).f1.f0.f0), .int .i64 ((rd_T58 l0 x59_2).f1.f0.f1), .int .i64 ((rd_T58 l0 x59_2).f1.f1), .slice Ao67 x478013_3.length co67] 58 (0, 0)) (bk_ BK477) hg (Kd.S_away HO_8.out (fun _ hk => hk.2.2.2.2))); replace HB := aa_ (hb); have HO485 := aa_ (ho); clear HO_8; clear HO_478013; clear ho hb hg hat))
           (try simp only [← hl7_3])
           go_roundg k3
           case measure => have := HK1.out; have := HK2.out; have := HK3.out; omega
           case rel => exact ⟨(y476), (y483), (wrap64 (x59_2 + 1)), rf_, H', ⟨by have := HK1.out; have := HK2.out; have := HK3.out; omega⟩, ⟨by (try simp only [hl7_3]); (with_reducible repeat (first | apply Kd.R_alloc | apply Kd.R_drewN | apply Kd.R_drew)); exact Kd.R_mono HO_3.out (fun _ hk => hk.1)⟩, ⟨by (try simp only [hl7_3]); (with_reducible repeat (first | apply Kd.R_alloc | apply Kd.R_drewN | apply Kd.R_drew)); exact Kd.R_mono HO_7.out (fun _ hk => hk.1)⟩, ⟨by (try simp only [hl7_3]); (with_reducible repeat (first | apply Kd.S_alloc | apply Kd.S_drewN | apply Kd.S_drew)); exact Kd.S_mono HO485.out (fun _ hk => ⟨hk.1, hk.2.1⟩)⟩, ⟨bl_⟩⟩
      ·rw [if_neg c33] at H
       have c33b0 : decide (x59_2 < (l0.length : Int)) = false := decide_eq_false c33
       clear c33
       obtain rfl := Option.some.inj H
       go_wp2
       go_ret
       exact ⟨_, eq_, by (with_reducible repeat (first | apply Kd.S_alloc | apply Kd.S_drewN | apply Kd.S_drew)); exact Kd.S_mono HO_8.out (fun _ hk => trivial), bl_⟩
end Go.Proofs.Ytljhfomkakhflaa.PA
