import Derived.Test.YtkimdmdkldlhpaaKCPAx1
import Derived.Test.YtkimdmdkldlhpaaKCPAx4
-- printed by wip/tools
namespace Go.Proofs.Ytkimdmdkldlhpaa.PA
open Go.RowKit Go.Proofs.YtkimdmdkldlhpaaW.PrintWords Go.Proofs.YtkimdmdkldlhpaaW.PrintLast Go.Proofs.YtkimdmdkldlhpaaW.PrintMore
attribute [local go_sem] max2_int min2_int max_two min_two max_three min_three max_four min_four
set_option linter.unusedVariables false
set_option linter.unusedSimpArgs false
attribute [local go_sem high] eqA52
mutual
def spec_HoldersOf.l0 : Nat → Int → List Int → Int → List (S42) → Option (List Int)
 | 0, _, _, _, _ => none
 | k + 1, x5, x6, x7, x230000 => if 0 ≤ x5 then (if x5 < (x230000.length : Int) then (if x7 < (((rd_T42 x230000 x5).f3).length : Int) then (spec_HoldersOf.j1 k x5 x6 x7 (decide ((x6.length : Int) < 3)) x230000) else (spec_HoldersOf.j1 k x5 x6 x7 false x230000)) else (none)) else (none)
def spec_HoldersOf.j1 : Nat → Int → List Int → Int → Bool → List (S42) → Option (List Int)
 | 0, _, _, _, _, _ => none
 | k + 1, x5, x6, x7, x30, x230000 => if x30 = true then (if 0 ≤ x5 then (if x5 < (x230000.length : Int) then (if 0 ≤ x7 then (if x7 < (((rd_T42 x230000 x5).f3).length : Int) then ((spec_PeerAt.f k x230000 (rd ((rd_T42 x230000 x5).f3) x7)).bind fun t240 => (if t240 ≥ 0 then ((spec_l08Has.f k x6 (rd ((rd_T42 x230000 x5).f3) x7)).bind fun t241 => (if t241 = true then (spec_HoldersOf.l0 k x5 x6 (wrap64 (x7 + 1)) x230000) else (if x6.length < 17592186044416 then (spec_HoldersOf.l0 k x5 (x6 ++ [rd ((rd_T42 x230000 x5).f3) x7]) (wrap64 (x7 + 1)) x230000) else (none)))) else (spec_HoldersOf.l0 k x5 x6 (wrap64 (x7 + 1)) x230000))) else (none)) else (none)) else (none)) else (none)) else (some x6)
end
def spec_HoldersOf.f (k : Nat) (l0_0 : List (S42)) (a1 : Int) : Option (List Int) := (spec_PeerAt.f k l0_0 a1).bind fun t230 => (if t230 < 0 then (some (([] : List Int))) else (spec_HoldersOf.l0 k t230 (([a1] : List Int)) 0 l0_0))
set_option maxHeartbeats 8000000 in
set_option maxRecDepth 100000 in
theorem spec_HoldersOf.calls (k : Nat) (A0_0 : Option Addr) (c0_0 : Nat) (l0_0 : List (S42)) (a1 : Int) (r : List Int) (w : World) (hr0_0 : Kd.C k42 w A0_0 l0_0.length l0_0) (hc0_0 : l0_0.length ≤ c0_0) (h : spec_HoldersOf.f k l0_0 a1 = some r) :
  Calls Try.prog 13 #[.agg #[.slice A0_0 l0_0.length c0_0], .int .i64 a1] w fun e w' => ∃ v0_ : Value, e = .returned (v0_) ∧ Kd.R (Kd.int .i64) 3 w' w.heap.size (fun _ => True) v0_ r ∧ Below w.heap.size w w' := by
 have hu29 := Try.underlying29
 have HR0_0 := aa_ hr0_0
 have HC0_0 := aa_ hc0_0
 clear hr0_0 hc0_0
 have HB := aa_ (Below.refl w.heap.size w)
 have H : ((spec_PeerAt.f k l0_0 a1).bind fun t230 => (if t230 < 0 then (some (([] : List Int))) else (spec_HoldersOf.l0 k t230 (([a1] : List Int)) 0 l0_0))) = some r := h
 clear h
 obtain ⟨t230, A3, H⟩ := bindE_ H
 have HC4 := aa_ H
 clear H
 go_enter Try.func13, Try.ntmps13
 go_upto_if 13 with (first | ((with_reducible refine gD_ 2 rfl ?_); (try (refine gate_guard (by rfl) ?_; dsimp only)); refine bx_ (N := 2) (cs := #[.slice A0_0 l0_0.length c0_0]) (t := 29) ?_; intro gb229 hg w5 hbox hb; have BK229 := aa_ (hbox); have GW229 := gs_ hg; have GE229 := gs_ hg; replace HB := hbs_ hb; clear hb hbox hg; obtain ⟨hcz6, hfz6⟩ := bcf_ BK229) | ((with_reducible refine gC_ 32 rfl ?_); refine goesC_ (some 11) Try.func32 #[.agg #[.slice A0_0 l0_0.length c0_0], .int .i64 a1] ?_; (with_reducible refine (spec_PeerAt.calls k _ _ l0_0 a1 t230 _ ?side1 ?side2 A3.out).mono ?_); (case side1 => repeat (first | exact (Kd.C_below HR0_0.out HB.out) | (with_reducible refine Kd.C_alloc ?_ _) | (with_reducible refine Kd.C_drewN ?_ _) | (with_reducible refine Kd.C_drew ?_))); (case side2 => exact HC0_0.out); rintro e w7 ⟨rfl, hb⟩; refine ⟨_, rfl, ?_⟩; replace BK229 := bkb_ BK229 hb; replace HB := hbs_ hb; clear hb))
 (try simp only [Act.put, List.setIfInBounds_toArray, List.set_cons_zero, List.set_cons_succ])
 have H := HC4.out
 clear HC4
 by_cases c8 : t230 < 0
 ·rw [if_pos c8] at H
  have c8b0 : decide (t230 < 0) = true := decide_eq_true c8
  clear c8
  (first | rw [c8b0] | (simp only [i64_w, i32_w]; rw [c8b0]) | skip)
  obtain ⟨y231, hy231⟩ : ∃ y_ : List Int, y_ = (([] : List Int)) := ⟨_, rfl⟩
  replace H : (some y231) = some r := rh_ hy231 H
  have Ny231 := aa_ hy231
  clear hy231
  obtain rfl := Option.some.inj H
  go_wp2_with (first | ((with_reducible refine gD_ 14 rfl ?_); (try (refine gate_guard (by rfl) ?_; dsimp only)); refine Kd.R_lit (Kd.int .i64) _ 3 ?hg (N := 14) ?hd (xs := ([] : List Int)) (inner := []) (ok := fun _ => True) (okp := fun _ => True) ?hr ?hp (fun _ hk => hk) trivial (Below.refl _ _) (Nat.le_refl _) (by simp) ?_; (case hd => rfl); (case hg => rfl); (case hr => first | (go_simp; done) | (go_simp; rfl)); (case hp => exact (Reps.none _ _)); intro v232 w9 ho10 hb hg_ hnew_; clear hg_ hnew_; (first | rw [← Ny231.out] at ho10 | (simp only [Int.reduceToNat] at ho10; rw [← Ny231.out] at ho10)); have HO233 := aa_ (Kd.R_lower ho10 bls_); replace BK229 := bkb_ BK229 hb; replace HB := hbs_ hb; clear hb ho10))
  go_ret
  exact ⟨_, eq_, by (with_reducible repeat (first | apply Kd.R_alloc | apply Kd.R_drewN | apply Kd.R_drew)); exact HO233.out, bl_⟩
 ·rw [if_neg c8] at H
  have c8b0 : decide (t230 < 0) = false := decide_eq_false c8
  clear c8
  (first | rw [c8b0] | (simp only [i64_w, i32_w]; rw [c8b0]) | skip)
  obtain ⟨y234, hy234⟩ : ∃ y_ : List Int, y_ = (([a1] : List Int)) := ⟨_, rfl⟩
  replace H : (spec_HoldersOf.l0 k t230 y234 0 l0_0) = some r := rh_ hy234 H
  have Ny234 := aa_ hy234
  clear hy234
  have H' := aa_ H
  clear H
  go_wp2_with (first | ((with_reducible refine gD_ 16 rfl ?_); (try (refine gate_guard (by rfl) ?_; dsimp only)); refine Kd.R_lit (Kd.int .i64) _ 3 ?hg (N := 16) ?hd (xs := ([a1] : List Int)) (inner := [.int .i64 a1]) (ok := fun _ => True) (okp := fun _ => True) ?hr ?hp (fun _ hk => hk) trivial (Below.refl _ _) (Nat.le_refl _) (by simp) ?_; (case hd => rfl); (case hg => rfl); (case hr => first | (go_simp; done) | (go_simp; rfl)); (case hp => exact (Reps.one (show Kd.M (Kd.int .i64) _ _ _ a1 [.int .i64 a1] from rfl) (Reps.none _ _))); intro v235 w11 ho12 hb hg_ hnew_; clear hg_ hnew_; (first | rw [← Ny234.out] at ho12 | (simp only [Int.reduceToNat] at ho12; rw [← Ny234.out] at ho12)); have HO236 := aa_ (Kd.R_lower ho12 bls_); replace BK229 := bkb_ BK229 hb; replace HB := hbs_ hb; clear hb ho12))
  go_loopg [6, 7] k (fun kq v6 v7 w' => ∃ (x6_1 : List Int) (x7_1 : Int), v7 = .int .i64 x7_1 ∧ Aside0 (spec_HoldersOf.l0 kq t230 x6_1 x7_1 l0_0 = some r) ∧ Aside0 (kq ≤ k) ∧ Aside0 (Kd.R (Kd.int .i64) 3 w' w.heap.size (fun _ => True) v6 x6_1) ∧ Aside0 (w'.heap[gb229]? = some (.cells #[(.slice A0_0 l0_0.length c0_0)] 29 (0, 0))) ∧ Aside0 (Below w.heap.size w w'))
  case atStart => exact ⟨(y234), (0), rf_, H', ⟨Nat.le_refl _⟩, ⟨rr_ HO236⟩, ⟨bk_ BK229⟩, ⟨bl_⟩⟩
  case round =>
   clear H'
   try clear c1
   try clear p2
   try clear c3
   try clear c8
   try clear c8b0
   try clear hcz6
   try clear hfz6
   obtain ⟨x6_1, x7_1, rfl, HA, HK1, HO_6, BK229, HB⟩ := hrel
   cases gk with
   | zero => exact absurd HA.out (by simp [spec_HoldersOf.l0])
   | succ k1 =>
    have H := HA.out
    clear HA
    simp only [spec_HoldersOf.l0] at H
    have HC13 := aa_ H
    clear H
    go_upto_region 6 with (fail)
    go_cut [30] (fun v30 wc => ∃ (kq : Nat) (x30_12 : Bool), v30 = .bool x30_12 ∧ Aside0 (spec_HoldersOf.j1 kq t230 x6_1 x7_1 x30_12 l0_0 = some r) ∧ Aside0 (kq ≤ k1) ∧ Aside0 (Kd.R (Kd.int .i64) 3 wc w.heap.size (fun _ => True) u6 x6_1) ∧ Aside0 (wc.heap[gb229]? = some (.cells #[(.slice A0_0 l0_0.length c0_0)] 29 (0, 0))) ∧ Aside0 (Below w.heap.size w wc))
    case first =>
     have H := HC13.out
     clear HC13
     obtain ⟨c14b0, H⟩ := ifd_ H
     (first | rw [c14b0] | (simp only [i64_w, i32_w]; rw [c14b0]) | skip)
     obtain ⟨c15b0, H⟩ := ifd_ H
     by_cases c16 : x7_1 < (((rd_T42 l0_0 t230).f3).length : Int)
     ·rw [if_pos c16] at H
      have c16b0 : decide (x7_1 < (((rd_T42 l0_0 t230).f3).length : Int)) = true := decide_eq_true c16
      clear c16
      have H' := aa_ H
      clear H
      have hcz17 := blk_cell BK229.out
      have hfz17 := blk_frozen BK229.out
      have p237 : 0 ≤ (t230 : Int) := od_
      have q237 : t230 < (l0_0.length : Int) := od_
      obtain ⟨ad237, A237_3, c237_3, A237_4, c237_4, A237_5, c237_5, e237, hx237_0, hx237_1, hx237_2, hx237_3, hx237_4, hx237_5, hl237_3, hi237_3, hl237_4, hi237_4, hl237_5, hi237_5⟩ := at_T42 HR0_0.out t230 p237 q237
      cases e237
      replace hx237_0 := cb_ HB hx237_0
      replace hx237_1 := cb_ HB hx237_1
      replace hx237_2 := cb_ HB hx237_2
      replace hx237_3 := cb_ HB hx237_3
      replace hx237_4 := cb_ HB hx237_4
      replace hx237_5 := cb_ HB hx237_5
      have HR237_3 := aa_ hi237_3
      have HC237_3 := aa_ hl237_3
      clear hi237_3 hl237_3
      have HR237_4 := aa_ hi237_4
      have HC237_4 := aa_ hl237_4
      clear hi237_4 hl237_4
      have HR237_5 := aa_ hi237_5
      have HC237_5 := aa_ hl237_5
      clear hi237_5 hl237_5
      replace p237 := eq_true p237
      replace q237 := eq_true q237
      obtain ⟨Ao18, co18, eo18⟩ := Kd.R_slice HO_6.out
      subst eo18
      go_wp2
      go_meet
      case rel => exact ⟨_, (decide ((x6_1.length : Int) < 3)), rf_, H', ⟨by have := HK1.out; first | omega | exact Nat.le_refl _⟩, ⟨rr_ HO_6⟩, ⟨bk_ BK229⟩, ⟨bl_⟩⟩
     ·rw [if_neg c16] at H
      have c16b0 : decide (x7_1 < (((rd_T42 l0_0 t230).f3).length : Int)) = false := decide_eq_false c16
      clear c16
      have H' := aa_ H
      clear H
      have hcz19 := blk_cell BK229.out
      have hfz19 := blk_frozen BK229.out
      have p237 : 0 ≤ (t230 : Int) := od_
      have q237 : t230 < (l0_0.length : Int) := od_
      obtain ⟨ad237, A237_3, c237_3, A237_4, c237_4, A237_5, c237_5, e237, hx237_0, hx237_1, hx237_2, hx237_3, hx237_4, hx237_5, hl237_3, hi237_3, hl237_4, hi237_4, hl237_5, hi237_5⟩ := at_T42 HR0_0.out t230 p237 q237
      cases e237
      replace hx237_0 := cb_ HB hx237_0
      replace hx237_1 := cb_ HB hx237_1
      replace hx237_2 := cb_ HB hx237_2
      replace hx237_3 := cb_ HB hx237_3
      replace hx237_4 := cb_ HB hx237_4
      replace hx237_5 := cb_ HB hx237_5
      have HR237_3 := aa_ hi237_3
      have HC237_3 := aa_ hl237_3
      clear hi237_3 hl237_3
      have HR237_4 := aa_ hi237_4
      have HC237_4 := aa_ hl237_4
      clear hi237_4 hl237_4
      have HR237_5 := aa_ hi237_5
      have HC237_5 := aa_ hl237_5
      clear hi237_5 hl237_5
      replace p237 := eq_true p237
      replace q237 := eq_true q237
      go_wp2
      go_meet
      case rel => exact ⟨_, (false), rf_, H', ⟨by have := HK1.out; first | omega | exact Nat.le_refl _⟩, ⟨rr_ HO_6⟩, ⟨bk_ BK229⟩, ⟨bl_⟩⟩
    case rest =>
     clear HC13
     try clear c1
     try clear c2
     try clear p2
     try clear q2
     try clear hx2
     try clear c3
     try clear c8
     try clear c8b0
     try clear c13
     try clear c14
     try clear c14b0
     try clear c15
     try clear c15b0
     try clear c16
     try clear c16b0
     try clear hcz17
     try clear hcz19
     try clear hcz6
     try clear hfz17
     try clear hfz19
     try clear hfz6
     try clear hx237_0
     try clear hx237_1
     try clear hx237_2
     try clear hx237_3
     try clear hx237_4
     try clear hx237_5
     try clear p2
     try clear p237
     try clear q237
     obtain ⟨kq, x30_12, rfl, HA, HJ12, HO_6, BK229, HB⟩ := hcut
     cases kq with
     | zero => exact absurd HA.out (by simp [spec_HoldersOf.j1])
     | succ kj12 =>
      have H := HA.out
      clear HA
      simp only [spec_HoldersOf.j1] at H
      by_cases c20 : x30_12 = true
      ·subst c20
       replace H := ite_t_ H
       obtain ⟨c21b0, H⟩ := ifd_ H
       obtain ⟨c22b0, H⟩ := ifd_ H
       obtain ⟨c23b0, H⟩ := ifd_ H
       obtain ⟨c24b0, H⟩ := ifd_ H
       obtain ⟨t240, A25, H⟩ := bindE_ H
       by_cases c26 : t240 ≥ 0
       ·rw [if_pos c26] at H
        have c26b0 : decide (0 ≤ t240) = true := decide_eq_true c26
        clear c26
        obtain ⟨t241, A27, H⟩ := bindE_ H
        have HC28 := aa_ H
        clear H
        have hcz29 := blk_cell BK229.out
        have hfz29 := blk_frozen BK229.out
        have p238 : 0 ≤ (t230 : Int) := od_
        have q238 : t230 < (l0_0.length : Int) := od_
        obtain ⟨ad238, A238_3, c238_3, A238_4, c238_4, A238_5, c238_5, e238, hx238_0, hx238_1, hx238_2, hx238_3, hx238_4, hx238_5, hl238_3, hi238_3, hl238_4, hi238_4, hl238_5, hi238_5⟩ := at_T42 HR0_0.out t230 p238 q238
        cases e238
        replace hx238_0 := cb_ HB hx238_0
        replace hx238_1 := cb_ HB hx238_1
        replace hx238_2 := cb_ HB hx238_2
        replace hx238_3 := cb_ HB hx238_3
        replace hx238_4 := cb_ HB hx238_4
        replace hx238_5 := cb_ HB hx238_5
        have HR238_3 := aa_ hi238_3
        have HC238_3 := aa_ hl238_3
        clear hi238_3 hl238_3
        have HR238_4 := aa_ hi238_4
        have HC238_4 := aa_ hl238_4
        clear hi238_4 hl238_4
        have HR238_5 := aa_ hi238_5
        have HC238_5 := aa_ hl238_5
        clear hi238_5 hl238_5
        replace p238 := eq_true p238
        replace q238 := eq_true q238
        have p239 : 0 ≤ (x7_1 : Int) := od_
        have q239 : x7_1 < (((rd_T42 l0_0 t230).f3).length : Int) := od_
        obtain ⟨ad239, e239, hx239_0⟩ := Kd.at_int (Kd.C_below HR238_3.out HB.out) x7_1 p239 q239
        cases e239
        replace p239 := eq_true p239
        replace q239 := eq_true q239
        go_upto_if 51 with (first | ((with_reducible refine gC_ 32 rfl ?_); refine goesC_ (some 44) Try.func32 #[.agg #[.slice (some ad238) l0_0.length c0_0], .int .i64 (rd ((rd_T42 l0_0 t230).f3) x7_1)] ?_; (with_reducible refine (spec_PeerAt.calls kj12 _ _ l0_0 (rd ((rd_T42 l0_0 t230).f3) x7_1) t240 _ ?side1 ?side2 A25.out).mono ?_); (case side1 => repeat (first | exact (Kd.C_below HR0_0.out HB.out) | (with_reducible refine Kd.C_alloc ?_ _) | (with_reducible refine Kd.C_drewN ?_ _) | (with_reducible refine Kd.C_drew ?_))); (case side2 => exact HC0_0.out); rintro e w30 ⟨rfl, hb⟩; refine ⟨_, rfl, ?_⟩; replace HO_6 := hob_ HO_6 hb; replace BK229 := bkb_ BK229 hb; replace HB := hbs_ hb; clear hb; obtain ⟨Ao31, co31, eo31⟩ := Kd.R_slice HO_6.out; subst eo31) | (go_at_call 15; (with_reducible refine (spec_l08Has.calls kj12 _ _ x6_1 (rd ((rd_T42 l0_0 t230).f3) x7_1) t241 _ ?side1 ?side2 A27.out).mono ?_); (case side1 => repeat (first | exact (Kd.R_reads' HO_6.out).2.2 | (with_reducible refine Kd.C_alloc ?_ _) | (with_reducible refine Kd.C_drewN ?_ _) | (with_reducible refine Kd.C_drew ?_))); (case side2 => exact (Kd.R_reads' HO_6.out).2.1); rintro e w' ⟨rfl, ⟨nd, rfl⟩⟩))
        (try simp only [Act.put, List.setIfInBounds_toArray, List.set_cons_zero, List.set_cons_succ])
        have H := HC28.out
        clear HC28
        by_cases c32 : t241 = true
        ·subst c32
         replace H := ite_t_ H
         have H' := aa_ H
         clear H
         go_wp2
         go_roundg kj12
         case measure => have := HK1.out; have := HJ12.out; omega
         case rel => exact ⟨(x6_1), (wrap64 (x7_1 + 1)), rf_, H', ⟨by have := HK1.out; have := HJ12.out; omega⟩, ⟨rr_ HO_6⟩, ⟨bk_ BK229⟩, ⟨bl_⟩⟩
        ·replace c32 := Bool.eq_false_iff.mpr c32
         subst c32
         replace H := ite_f_ H
         obtain ⟨c33, H⟩ := ifn_ H
         have LMc33 := aa_ c33
         clear c33
         obtain ⟨y242, hy242⟩ : ∃ y_ : List Int, y_ = (x6_1 ++ [rd ((rd_T42 l0_0 t230).f3) x7_1]) := ⟨_, rfl⟩
         replace H : (spec_HoldersOf.l0 kj12 t230 y242 (wrap64 (x7_1 + 1)) l0_0) = some r := rh_ hy242 H
         have Ny242 := aa_ hy242
         clear hy242
         have H' := aa_ H
         clear H
         go_wp2_with (first | ((with_reducible refine gate_builtin (b := .append) (xs := #[.tmp 52, .tmp 54]) rfl ?_); (try (refine gate_guard (by rfl) ?_; dsimp only)); at_builtin; refine Kd.R_append (Kd.int .i64) (w0 := w) w.heap.size rfl (.tmp 52) (.tmp 54) 34 3 (.int .i64 0) 8 rfl Try.underlying34 info3 rfl (by decide) (by omega) (.slice Ao31 x6_1.length co31) x6_1 (rd ((rd_T42 l0_0 t230).f3) x7_1) [.int .i64 (rd ((rd_T42 l0_0 t230).f3) x7_1)] (fun _ => True) (fun _ => False) rfl rfl ?aP (fun _ hk => hk.elim) ?aF ?aO ?aB ?aS ?aL ?_; (case aP => exact rfl); (case aB => exact bl_); (case aF => exact (fun _ _ => trivial)); (case aO => exact (rr_ HO_6)); (case aS => exact bls_); (case aL => have := LMc33.out; omega); intro v243 w34 ho hb hg hat; rw [← Ny242.out] at ho; replace BK229 := aa_ (blk_grown (g := gb229) (o := .cells #[.slice (some ad238) l0_0.length c0_0] 29 (0, 0)) (bk_ BK229) hg (Kd.R_ne HO_6.out BK229.out (by decide))); replace HB := aa_ (hb); have HO244 := aa_ (ho); clear HO_6; clear ho hb hg hat))
         go_roundg kj12
         case measure => have := HK1.out; have := HJ12.out; omega
         case rel => exact ⟨(y242), (wrap64 (x7_1 + 1)), rf_, H', ⟨by have := HK1.out; have := HJ12.out; omega⟩, ⟨rr_ HO244⟩, ⟨bk_ BK229⟩, ⟨bl_⟩⟩
       ·rw [if_neg c26] at H
        have c26b0 : decide (0 ≤ t240) = false := decide_eq_false c26
        clear c26
        have H' := aa_ H
        clear H
        have hcz35 := blk_cell BK229.out
        have hfz35 := blk_frozen BK229.out
        have p238 : 0 ≤ (t230 : Int) := od_
        have q238 : t230 < (l0_0.length : Int) := od_
        obtain ⟨ad238, A238_3, c238_3, A238_4, c238_4, A238_5, c238_5, e238, hx238_0, hx238_1, hx238_2, hx238_3, hx238_4, hx238_5, hl238_3, hi238_3, hl238_4, hi238_4, hl238_5, hi238_5⟩ := at_T42 HR0_0.out t230 p238 q238
        cases e238
        replace hx238_0 := cb_ HB hx238_0
        replace hx238_1 := cb_ HB hx238_1
        replace hx238_2 := cb_ HB hx238_2
        replace hx238_3 := cb_ HB hx238_3
        replace hx238_4 := cb_ HB hx238_4
        replace hx238_5 := cb_ HB hx238_5
        have HR238_3 := aa_ hi238_3
        have HC238_3 := aa_ hl238_3
        clear hi238_3 hl238_3
        have HR238_4 := aa_ hi238_4
        have HC238_4 := aa_ hl238_4
        clear hi238_4 hl238_4
        have HR238_5 := aa_ hi238_5
        have HC238_5 := aa_ hl238_5
        clear hi238_5 hl238_5
        replace p238 := eq_true p238
        replace q238 := eq_true q238
        have p239 : 0 ≤ (x7_1 : Int) := od_
        have q239 : x7_1 < (((rd_T42 l0_0 t230).f3).length : Int) := od_
        obtain ⟨ad239, e239, hx239_0⟩ := Kd.at_int (Kd.C_below HR238_3.out HB.out) x7_1 p239 q239
        cases e239
        replace p239 := eq_true p239
        replace q239 := eq_true q239
        go_wp2_with (first | ((with_reducible refine gC_ 32 rfl ?_); refine goesC_ (some 44) Try.func32 #[.agg #[.slice (some ad238) l0_0.length c0_0], .int .i64 (rd ((rd_T42 l0_0 t230).f3) x7_1)] ?_; (with_reducible refine (spec_PeerAt.calls kj12 _ _ l0_0 (rd ((rd_T42 l0_0 t230).f3) x7_1) t240 _ ?side1 ?side2 A25.out).mono ?_); (case side1 => repeat (first | exact (Kd.C_below HR0_0.out HB.out) | (with_reducible refine Kd.C_alloc ?_ _) | (with_reducible refine Kd.C_drewN ?_ _) | (with_reducible refine Kd.C_drew ?_))); (case side2 => exact HC0_0.out); rintro e w36 ⟨rfl, hb⟩; refine ⟨_, rfl, ?_⟩; replace HO_6 := hob_ HO_6 hb; replace BK229 := bkb_ BK229 hb; replace HB := hbs_ hb; clear hb))
        go_roundg kj12
        case measure => have := HK1.out; have := HJ12.out; omega
        case rel => exact ⟨(x6_1), (wrap64 (x7_1 + 1)), rf_, H', ⟨by have := HK1.out; have := HJ12.out; omega⟩, ⟨rr_ HO_6⟩, ⟨bk_ BK229⟩, ⟨bl_⟩⟩
      ·replace c20 := Bool.eq_false_iff.mpr c20
       subst c20
       replace H := ite_f_ H
       obtain rfl := Option.some.inj H
       go_wp2
       go_ret
       exact ⟨_, eq_, by (with_reducible repeat (first | apply Kd.R_alloc | apply Kd.R_drewN | apply Kd.R_drew)); exact HO_6.out, bl_⟩
def spec_l08Mod.f (a0 : Int) : Option (Int) := if (Int.tmod a0 256) < 0 then (some (wrap64 ((Int.tmod a0 256) + 256))) else (some (Int.tmod a0 256))
set_option maxHeartbeats 8000000 in
set_option maxRecDepth 100000 in
theorem spec_l08Mod.calls (a0 : Int) (r : Int) (w : World) (h : spec_l08Mod.f a0 = some r) :
  Calls Try.prog 47 #[.int .i64 a0] w fun e w' => e = .returned (.int .i64 r) ∧ Drawn0 w w' := by
 have H : (if (Int.tmod a0 256) < 0 then (some (wrap64 ((Int.tmod a0 256) + 256))) else (some (Int.tmod a0 256))) = some r := h
 clear h
 by_cases c2 : (Int.tmod a0 256) < 0
 ·rw [if_pos c2] at H
  have c2b0 : decide ((Int.tmod a0 256) < 0) = true := decide_eq_true c2
  clear c2
  obtain rfl := Option.some.inj H
  go_enter Try.func47, Try.ntmps47
  go_wp2
  go_ret
  exact ⟨by first | rfl | (simp; done) | (simp [*]; done), by repeat (first | exact Drawn0.refl _ | apply Drawn0.step)⟩
 ·rw [if_neg c2] at H
  have c2b0 : decide ((Int.tmod a0 256) < 0) = false := decide_eq_false c2
  clear c2
  obtain rfl := Option.some.inj H
  go_enter Try.func47, Try.ntmps47
  go_wp2
  go_ret
  exact ⟨by first | rfl | (simp; done) | (simp [*]; done), by repeat (first | exact Drawn0.refl _ | apply Drawn0.step)⟩
def spec_Ahead.f (a0 : Int) (a1 : Int) : Option (Int) := (spec_l08Mod.f a1).bind fun t245 => ((spec_l08Mod.f a0).bind fun t246 => ((spec_l08Mod.f (wrap64 (t245 - t246))).bind fun t247 => (some t247)))
set_option maxHeartbeats 8000000 in
set_option maxRecDepth 100000 in
theorem spec_Ahead.calls (a0 : Int) (a1 : Int) (r : Int) (w : World) (h : spec_Ahead.f a0 a1 = some r) :
  Calls Try.prog 33 #[.int .i64 a0, .int .i64 a1] w fun e w' => e = .returned (.int .i64 r) ∧ Drawn0 w w' := by
 have H : ((spec_l08Mod.f a1).bind fun t245 => ((spec_l08Mod.f a0).bind fun t246 => ((spec_l08Mod.f (wrap64 (t245 - t246))).bind fun t247 => (some t247)))) = some r := h
 clear h
 obtain ⟨t245, A3, H⟩ := bindE_ H
 obtain ⟨t246, A4, H⟩ := bindE_ H
 obtain ⟨t247, A5, H⟩ := bindE_ H
 obtain rfl := Option.some.inj H
 go_enter Try.func33, Try.ntmps33
 go_wp2_with (first | ((with_reducible refine gC_ 47 rfl ?_); refine goesC_ (some 6) Try.func47 #[.int .i64 a1] ?_; (with_reducible refine (spec_l08Mod.calls a1 t245 _ A3.out).mono ?_); rintro e w' ⟨rfl, ⟨nd, rfl⟩⟩; refine ⟨_, rfl, ?_⟩) | ((with_reducible refine gC_ 47 rfl ?_); refine goesC_ (some 8) Try.func47 #[.int .i64 a0] ?_; (with_reducible refine (spec_l08Mod.calls a0 t246 _ A4.out).mono ?_); rintro e w' ⟨rfl, ⟨nd, rfl⟩⟩; refine ⟨_, rfl, ?_⟩) | ((with_reducible refine gC_ 47 rfl ?_); refine goesC_ (some 10) Try.func47 #[.int .i64 (wrap64 (t245 - t246))] ?_; (with_reducible refine (spec_l08Mod.calls (wrap64 (t245 - t246)) t247 _ A5.out).mono ?_); rintro e w' ⟨rfl, ⟨nd, rfl⟩⟩; refine ⟨_, rfl, ?_⟩))
 go_ret
 exact ⟨by first | rfl | (simp; done) | (simp [*]; done), by repeat (first | exact Drawn0.refl _ | apply Drawn0.step)⟩
def spec_OwnerOf.l0 : Nat → List Int → Int → Int → Int → Option (Int)
 | 0, _, _, _, _ => none
 | k + 1, x0, x1, x5, x6 => if x6 < (x0.length : Int) then (if x5 < 0 then (spec_OwnerOf.l0 k x0 x1 x6 (wrap64 (x6 + 1))) else (if 0 ≤ x6 then ((spec_Ahead.f x1 (rd x0 x6)).bind fun t250 => (if 0 ≤ x5 then (if x5 < (x0.length : Int) then ((spec_Ahead.f x1 (rd x0 x5)).bind fun t252 => (if t250 < t252 then (spec_OwnerOf.l0 k x0 x1 x6 (wrap64 (x6 + 1))) else (spec_OwnerOf.l0 k x0 x1 x5 (wrap64 (x6 + 1))))) else (none)) else (none))) else (none))) else (if x5 < 0 then (some (-1)) else (if 0 ≤ x5 then (if x5 < (x0.length : Int) then (some (rd x0 x5)) else (none)) else (none)))
def spec_OwnerOf.f (k : Nat) (l0 : List Int) (a1 : Int) : Option (Int) := spec_OwnerOf.l0 k l0 a1 (-1) 0
set_option maxHeartbeats 8000000 in
set_option maxRecDepth 100000 in
theorem spec_OwnerOf.calls (k : Nat) (A0 : Option Addr) (c0 : Nat) (l0 : List Int) (a1 : Int) (r : Int) (w : World) (hr0 : Kd.C (Kd.int .i64) w A0 l0.length l0) (hc0 : l0.length ≤ c0) (h : spec_OwnerOf.f k l0 a1 = some r) :
  Calls Try.prog 14 #[.slice A0 l0.length c0, .int .i64 a1] w fun e w' => e = .returned (.int .i64 r) ∧ Drawn0 w w' := by
 have HR0 := aa_ hr0
 have HC0 := aa_ hc0
 clear hr0 hc0
 have H : (spec_OwnerOf.l0 k l0 a1 (-1) 0) = some r := h
 clear h
 have H' := aa_ H
 clear H
 go_enter Try.func14, Try.ntmps14
 go_wp2
 repeat (go_quiet (fail); try go_wp2)
 go_loopg [5, 6] k (fun kq v5 v6 w' => ∃ (x5_1 : Int) (x6_1 : Int), v5 = .int .i64 x5_1 ∧ v6 = .int .i64 x6_1 ∧ Aside0 (spec_OwnerOf.l0 kq l0 a1 x5_1 x6_1 = some r) ∧ Aside0 (kq ≤ k) ∧ Drawn0 w w')
 case atStart => exact ⟨((-1)), (0), rf_, rf_, H', ⟨Nat.le_refl _⟩, by repeat (first | exact Drawn0.refl _ | apply Drawn0.step)⟩
 case round =>
  clear H'
  try clear c1
  try clear p2
  obtain ⟨x5_1, x6_1, rfl, rfl, HA, HK1, ⟨m1, rfl⟩⟩ := hrel
  cases gk with
  | zero => exact absurd HA.out (by simp [spec_OwnerOf.l0])
  | succ k1 =>
   have H := HA.out
   clear HA
   simp only [spec_OwnerOf.l0] at H
   by_cases c3 : x6_1 < (l0.length : Int)
   ·rw [if_pos c3] at H
    have c3b0 : decide (x6_1 < (l0.length : Int)) = true := decide_eq_true c3
    clear c3
    by_cases c4 : x5_1 < 0
    ·rw [if_pos c4] at H
     have c4b0 : decide (x5_1 < 0) = true := decide_eq_true c4
     clear c4
     have H' := aa_ H
     clear H
     go_wp2
     repeat (go_quiet (fail); try go_wp2)
     go_roundg k1
     case measure => have := HK1.out; omega
     case rel => exact ⟨(x6_1), (wrap64 (x6_1 + 1)), rf_, rf_, H', ⟨by have := HK1.out; omega⟩, by repeat (first | exact Drawn0.refl _ | apply Drawn0.step)⟩
    ·rw [if_neg c4] at H
     have c4b0 : decide (x5_1 < 0) = false := decide_eq_false c4
     clear c4
     obtain ⟨c5b0, H⟩ := ifd_ H
     obtain ⟨t250, A6, H⟩ := bindE_ H
     obtain ⟨c7b0, H⟩ := ifd_ H
     obtain ⟨c8b0, H⟩ := ifd_ H
     obtain ⟨t252, A9, H⟩ := bindE_ H
     have HC10 := aa_ H
     clear H
     have p249 : 0 ≤ (x6_1 : Int) := od_
     have q249 : x6_1 < (l0.length : Int) := od_
     obtain ⟨ad249, e249, hx249_0⟩ := Kd.at_int HR0.out x6_1 p249 q249
     cases e249
     replace p249 := eq_true p249
     replace q249 := eq_true q249
     go_upto_if 29 with (first | (go_at_call 33; (with_reducible refine (spec_Ahead.calls a1 (rd l0 x6_1) t250 _ A6.out).mono ?_); rintro e w' ⟨rfl, ⟨nd, rfl⟩⟩; (try first | exact ⟨rfl, _, World.drewN_drewN _ _ _⟩ | exact ⟨rfl, _, Eq.trans (World.drewN_drewN _ _ _) (congrArg (World.drewN _) (Nat.add_assoc _ _ _))⟩); have p251 : 0 ≤ (x5_1 : Int) := od_; have q251 : x5_1 < (l0.length : Int) := od_; obtain ⟨ad251, e251, hx251_0⟩ := Kd.at_int HR0.out x5_1 p251 q251; obtain rfl : ad249 = ad251 := (by injection e251); replace p251 := eq_true p251; replace q251 := eq_true q251) | (go_at_call 33; (with_reducible refine (spec_Ahead.calls a1 (rd l0 x5_1) t252 _ A9.out).mono ?_); rintro e w' ⟨rfl, ⟨nd, rfl⟩⟩; (try first | exact ⟨rfl, _, World.drewN_drewN _ _ _⟩ | exact ⟨rfl, _, Eq.trans (World.drewN_drewN _ _ _) (congrArg (World.drewN _) (Nat.add_assoc _ _ _))⟩)))
     repeat (go_quiet (first | (go_at_call 33; (with_reducible refine (spec_Ahead.calls a1 (rd l0 x6_1) t250 _ A6.out).mono ?_); rintro e w' ⟨rfl, ⟨nd, rfl⟩⟩; (try first | exact ⟨rfl, _, World.drewN_drewN _ _ _⟩ | exact ⟨rfl, _, Eq.trans (World.drewN_drewN _ _ _) (congrArg (World.drewN _) (Nat.add_assoc _ _ _))⟩); have p251 : 0 ≤ (x5_1 : Int) := od_; have q251 : x5_1 < (l0.length : Int) := od_; obtain ⟨ad251, e251, hx251_0⟩ := Kd.at_int HR0.out x5_1 p251 q251; obtain rfl : ad249 = ad251 := (by injection e251); replace p251 := eq_true p251; replace q251 := eq_true q251) | (go_at_call 33; (with_reducible refine (spec_Ahead.calls a1 (rd l0 x5_1) t252 _ A9.out).mono ?_); rintro e w' ⟨rfl, ⟨nd, rfl⟩⟩; (try first | exact ⟨rfl, _, World.drewN_drewN _ _ _⟩ | exact ⟨rfl, _, Eq.trans (World.drewN_drewN _ _ _) (congrArg (World.drewN _) (Nat.add_assoc _ _ _))⟩))); go_upto_if 29 with (first | (go_at_call 33; (with_reducible refine (spec_Ahead.calls a1 (rd l0 x6_1) t250 _ A6.out).mono ?_); rintro e w' ⟨rfl, ⟨nd, rfl⟩⟩; (try first | exact ⟨rfl, _, World.drewN_drewN _ _ _⟩ | exact ⟨rfl, _, Eq.trans (World.drewN_drewN _ _ _) (congrArg (World.drewN _) (Nat.add_assoc _ _ _))⟩); have p251 : 0 ≤ (x5_1 : Int) := od_; have q251 : x5_1 < (l0.length : Int) := od_; obtain ⟨ad251, e251, hx251_0⟩ := Kd.at_int HR0.out x5_1 p251 q251; obtain rfl : ad249 = ad251 := (by injection e251); replace p251 := eq_true p251; replace q251 := eq_true q251) | (go_at_call 33; (with_reducible refine (spec_Ahead.calls a1 (rd l0 x5_1) t252 _ A9.out).mono ?_); rintro e w' ⟨rfl, ⟨nd, rfl⟩⟩; (try first | exact ⟨rfl, _, World.drewN_drewN _ _ _⟩ | exact ⟨rfl, _, Eq.trans (World.drewN_drewN _ _ _) (congrArg (World.drewN _) (Nat.add_assoc _ _ _))⟩))))
     (try simp only [Act.put, List.setIfInBounds_toArray, List.set_cons_zero, List.set_cons_succ])
     have H := HC10.out
     clear HC10
     by_cases c11 : t250 < t252
     ·rw [if_pos c11] at H
      have c11b0 : decide (t250 < t252) = true := decide_eq_true c11
      clear c11
      (first | rw [c11b0] | (simp only [i64_w, i32_w]; rw [c11b0]) | skip)
      have H' := aa_ H
      clear H
      go_wp2
      repeat (go_quiet (fail); try go_wp2)
      go_roundg k1
      case measure => have := HK1.out; omega
      case rel => exact ⟨(x6_1), (wrap64 (x6_1 + 1)), rf_, rf_, H', ⟨by have := HK1.out; omega⟩, by repeat (first | exact Drawn0.refl _ | apply Drawn0.step)⟩
     ·rw [if_neg c11] at H
      have c11b0 : decide (t250 < t252) = false := decide_eq_false c11
      clear c11
      (first | rw [c11b0] | (simp only [i64_w, i32_w]; rw [c11b0]) | skip)
      have H' := aa_ H
      clear H
      go_wp2
      repeat (go_quiet (fail); try go_wp2)
      go_roundg k1
      case measure => have := HK1.out; omega
      case rel => exact ⟨(x5_1), (wrap64 (x6_1 + 1)), rf_, rf_, H', ⟨by have := HK1.out; omega⟩, by repeat (first | exact Drawn0.refl _ | apply Drawn0.step)⟩
   ·rw [if_neg c3] at H
    have c3b0 : decide (x6_1 < (l0.length : Int)) = false := decide_eq_false c3
    clear c3
    by_cases c12 : x5_1 < 0
    ·rw [if_pos c12] at H
     have c12b0 : decide (x5_1 < 0) = true := decide_eq_true c12
     clear c12
     obtain rfl := Option.some.inj H
     go_wp2
     repeat (go_quiet (fail); try go_wp2)
     go_ret
     exact ⟨by first | rfl | (simp; done) | (simp [*]; done), by repeat (first | exact Drawn0.refl _ | apply Drawn0.step)⟩
    ·rw [if_neg c12] at H
     have c12b0 : decide (x5_1 < 0) = false := decide_eq_false c12
     clear c12
     obtain ⟨c13b0, H⟩ := ifd_ H
     obtain ⟨c14b0, H⟩ := ifd_ H
     obtain rfl := Option.some.inj H
     have p248 : 0 ≤ (x5_1 : Int) := od_
     have q248 : x5_1 < (l0.length : Int) := od_
     obtain ⟨ad248, e248, hx248_0⟩ := Kd.at_int HR0.out x5_1 p248 q248
     cases e248
     replace p248 := eq_true p248
     replace q248 := eq_true q248
     go_wp2
     repeat (go_quiet (fail); try go_wp2)
     go_ret
     exact ⟨by first | rfl | (simp; done) | (simp [*]; done), by repeat (first | exact Drawn0.refl _ | apply Drawn0.step)⟩
def spec_l15Items.l0 : Nat → List (S52) → List (S52) → Int → Option (Bool)
 | 0, _, _, _ => none
 | k + 1, x0, x1, x5 => if x5 < (x0.length : Int) then (if 0 ≤ x5 then (if x5 < (x1.length : Int) then (if (!((((rd_T52 x0 x5).f0).toList) == (((rd_T52 x1 x5).f0).toList)) || (!(((rd_T52 x0 x5).f1) == ((rd_T52 x1 x5).f1)))) = true then (some false) else (spec_l15Items.l0 k x0 x1 (wrap64 (x5 + 1)))) else (none)) else (none)) else (some true)
def spec_l15Items.f (k : Nat) (l0 : List (S52)) (l1 : List (S52)) : Option (Bool) := if (l0.length : Int) = (l1.length : Int) then (spec_l15Items.l0 k l0 l1 0) else (some false)
set_option maxHeartbeats 8000000 in
set_option maxRecDepth 100000 in
theorem spec_l15Items.calls (k : Nat) (A0 : Option Addr) (c0 : Nat) (l0 : List (S52)) (A1 : Option Addr) (c1 : Nat) (l1 : List (S52)) (r : Bool) (w : World) (hr0 : Kd.C k52 w A0 l0.length l0) (hc0 : l0.length ≤ c0) (hr1 : Kd.C k52 w A1 l1.length l1) (hc1 : l1.length ≤ c1) (h : spec_l15Items.f k l0 l1 = some r) :
  Calls Try.prog 16 #[.slice A0 l0.length c0, .slice A1 l1.length c1] w fun e w' => e = .returned (.bool r) ∧ Drawn0 w w' := by
 have hu52 := Try.underlying52
 have HR0 := aa_ hr0
 have HC0 := aa_ hc0
 clear hr0 hc0
 have HR1 := aa_ hr1
 have HC1 := aa_ hc1
 clear hr1 hc1
 have H : (if (l0.length : Int) = (l1.length : Int) then (spec_l15Items.l0 k l0 l1 0) else (some false)) = some r := h
 clear h
 by_cases c3 : (l0.length : Int) = (l1.length : Int)
 ·rw [if_pos c3] at H
  have c3b0 : ((l0.length : Int) == (l1.length : Int)) = true := beq_iff_eq.mpr c3
  have c3b1 : ((l0.length : Int) != (l1.length : Int)) = false := bne_eq_false_iff_eq.mpr c3
  have c3b2 : (l0.length == l1.length) = true := by first | simpa using c3 | (simp at c3 ⊢; omega)
  clear c3
  have H' := aa_ H
  clear H
  go_enter Try.func16, Try.ntmps16
  go_wp2
  repeat (go_quiet (fail); try go_wp2)
  go_loopg [5] k (fun kq v5 w' => ∃ (x5_1 : Int), v5 = .int .i64 x5_1 ∧ Aside0 (spec_l15Items.l0 kq l0 l1 x5_1 = some r) ∧ Aside0 (kq ≤ k) ∧ Drawn0 w w')
  case atStart => exact ⟨(0), rf_, H', ⟨Nat.le_refl _⟩, by repeat (first | exact Drawn0.refl _ | apply Drawn0.step)⟩
  case round =>
   clear H'
   try clear c1
   try clear p2
   try clear c3
   try clear c3b0
   try clear c3b1
   try clear c3b2
   obtain ⟨x5_1, rfl, HA, HK1, ⟨m1, rfl⟩⟩ := hrel
   cases gk with
   | zero => exact absurd HA.out (by simp [spec_l15Items.l0])
   | succ k1 =>
    have H := HA.out
    clear HA
    simp only [spec_l15Items.l0] at H
    by_cases c4 : x5_1 < (l0.length : Int)
    ·rw [if_pos c4] at H
     have c4b0 : decide (x5_1 < (l0.length : Int)) = true := decide_eq_true c4
     clear c4
     obtain ⟨c5b0, H⟩ := ifd_ H
     obtain ⟨c6b0, H⟩ := ifd_ H
     by_cases c7 : (!((((rd_T52 l0 x5_1).f0).toList) == (((rd_T52 l1 x5_1).f0).toList)) || (!(((rd_T52 l0 x5_1).f1) == ((rd_T52 l1 x5_1).f1)))) = true
     ·rw [if_pos c7] at H
      have c7b0 : (!((((rd_T52 l0 x5_1).f0).toList) == (((rd_T52 l1 x5_1).f0).toList)) || (!(((rd_T52 l0 x5_1).f1) == ((rd_T52 l1 x5_1).f1)))) = true := c7
      clear c7
      obtain rfl := Option.some.inj H
      have p253 : 0 ≤ (x5_1 : Int) := od_
      have q253 : x5_1 < (l0.length : Int) := od_
      obtain ⟨ad253, e253, hx253_0, hx253_1⟩ := at_T52 HR0.out x5_1 p253 q253
      cases e253
      replace p253 := eq_true p253
      replace q253 := eq_true q253
      have p254 : 0 ≤ (x5_1 : Int) := od_
      have q254 : x5_1 < (l1.length : Int) := od_
      obtain ⟨ad254, e254, hx254_0, hx254_1⟩ := at_T52 HR1.out x5_1 p254 q254
      cases e254
      replace p254 := eq_true p254
      replace q254 := eq_true q254
      go_wp2
      repeat (go_quiet (fail); try go_wp2)
      go_ret
      exact ⟨by first | rfl | (simp; done) | (simp [*]; done), by repeat (first | exact Drawn0.refl _ | apply Drawn0.step)⟩
     ·rw [if_neg c7] at H
      have c7b0 : (!((((rd_T52 l0 x5_1).f0).toList) == (((rd_T52 l1 x5_1).f0).toList)) || (!(((rd_T52 l0 x5_1).f1) == ((rd_T52 l1 x5_1).f1)))) = false := by simpa using c7
      clear c7
      have H' := aa_ H
      clear H
      have p253 : 0 ≤ (x5_1 : Int) := od_
      have q253 : x5_1 < (l0.length : Int) := od_
      obtain ⟨ad253, e253, hx253_0, hx253_1⟩ := at_T52 HR0.out x5_1 p253 q253
      cases e253
      replace p253 := eq_true p253
      replace q253 := eq_true q253
      have p254 : 0 ≤ (x5_1 : Int) := od_
      have q254 : x5_1 < (l1.length : Int) := od_
      obtain ⟨ad254, e254, hx254_0, hx254_1⟩ := at_T52 HR1.out x5_1 p254 q254
      cases e254
      replace p254 := eq_true p254
      replace q254 := eq_true q254
      go_wp2
      repeat (go_quiet (fail); try go_wp2)
      go_roundg k1
      case measure => have := HK1.out; omega
      case rel => exact ⟨(wrap64 (x5_1 + 1)), rf_, H', ⟨by have := HK1.out; omega⟩, by repeat (first | exact Drawn0.refl _ | apply Drawn0.step)⟩
    ·rw [if_neg c4] at H
     have c4b0 : decide (x5_1 < (l0.length : Int)) = false := decide_eq_false c4
     clear c4
     obtain rfl := Option.some.inj H
     go_wp2
     repeat (go_quiet (fail); try go_wp2)
     go_ret
     exact ⟨by first | rfl | (simp; done) | (simp [*]; done), by repeat (first | exact Drawn0.refl _ | apply Drawn0.step)⟩
 ·rw [if_neg c3] at H
  have c3b0 : ((l0.length : Int) == (l1.length : Int)) = false := beq_eq_false_iff_ne.mpr c3
  have c3b1 : ((l0.length : Int) != (l1.length : Int)) = true := bne_iff_ne.mpr c3
  have c3b2 : (l0.length == l1.length) = false := by first | simpa using c3 | (simp at c3 ⊢; omega)
  obtain rfl := Option.some.inj H
  go_enter Try.func16, Try.ntmps16
  go_wp2
  repeat (go_quiet (fail); try go_wp2)
  go_ret
  exact ⟨by first | rfl | (simp; done) | (simp [*]; done), by repeat (first | exact Drawn0.refl _ | apply Drawn0.step)⟩
def spec_l15Has.l0 : Nat → Int → Int → Int → Bool → Int → List Int → List Int → List (S61) → Option (Bool)
 | 0, _, _, _, _, _, _, _, _ => none
 | k + 1, x1, x5, x256000, x256001, x256002, x256003, x256004, x256005 => if x5 < (x256005.length : Int) then (if 0 ≤ x5 then (if ((rd_T61 x256005 x5).f0) = x1 then (some true) else (spec_l15Has.l0 k x1 (wrap64 (x5 + 1)) x256000 x256001 x256002 x256003 x256004 x256005)) else (none)) else (some false)
def spec_l15Has.f (k : Nat) (a0_0 : Int) (a0_1 : Bool) (a0_2 : Int) (l0_3 : List Int) (l0_4 : List Int) (l0_5 : List (S61)) (a1 : Int) : Option (Bool) := spec_l15Has.l0 k a1 0 a0_0 a0_1 a0_2 l0_3 l0_4 l0_5
set_option maxHeartbeats 8000000 in
set_option maxRecDepth 100000 in
theorem spec_l15Has.calls (k : Nat) (a0_0 : Int) (a0_1 : Bool) (a0_2 : Int) (A0_3 : Option Addr) (c0_3 : Nat) (l0_3 : List Int) (A0_4 : Option Addr) (c0_4 : Nat) (l0_4 : List Int) (A0_5 : Option Addr) (c0_5 : Nat) (l0_5 : List (S61)) (a1 : Int) (r : Bool) (w : World) (hr0_3 : Kd.C (Kd.int .i64) w A0_3 l0_3.length l0_3) (hc0_3 : l0_3.length ≤ c0_3) (hr0_4 : Kd.C (Kd.int .i64) w A0_4 l0_4.length l0_4) (hc0_4 : l0_4.length ≤ c0_4) (hr0_5 : Kd.C k61 w A0_5 l0_5.length l0_5) (hc0_5 : l0_5.length ≤ c0_5) (h : spec_l15Has.f k a0_0 a0_1 a0_2 l0_3 l0_4 l0_5 a1 = some r) :
  Calls Try.prog 18 #[.agg #[.int .i64 a0_0, .bool a0_1, .int .i64 a0_2, .slice A0_3 l0_3.length c0_3, .slice A0_4 l0_4.length c0_4, .slice A0_5 l0_5.length c0_5], .int .i64 a1] w fun e w' => e = .returned (.bool r) ∧ Below w.heap.size w w' := by
 have hu42 := Try.underlying42
 have HR0_3 := aa_ hr0_3
 have HC0_3 := aa_ hc0_3
 clear hr0_3 hc0_3
 have HR0_4 := aa_ hr0_4
 have HC0_4 := aa_ hc0_4
 clear hr0_4 hc0_4
 have HR0_5 := aa_ hr0_5
 have HC0_5 := aa_ hc0_5
 clear hr0_5 hc0_5
 have HB := aa_ (Below.refl w.heap.size w)
 have H : (spec_l15Has.l0 k a1 0 a0_0 a0_1 a0_2 l0_3 l0_4 l0_5) = some r := h
 clear h
 have H' := aa_ H
 clear H
 go_enter Try.func18, Try.ntmps18
 go_wp2_with (first | ((with_reducible refine gD_ 2 rfl ?_); refine bx_ (N := 2) (cs := #[.int .i64 a0_0, .bool a0_1, .int .i64 a0_2, .slice A0_3 l0_3.length c0_3, .slice A0_4 l0_4.length c0_4, .slice A0_5 l0_5.length c0_5]) (t := 42) ?_; intro gb255 hg w3 hbox hb; have BK255 := aa_ (hbox); have GW255 := gs_ hg; have GE255 := gs_ hg; replace HB := hbs_ hb; clear hb hbox hg))
 go_loopg [5] k (fun kq v5 w' => ∃ (x5_1 : Int), v5 = .int .i64 x5_1 ∧ Aside0 (spec_l15Has.l0 kq a1 x5_1 a0_0 a0_1 a0_2 l0_3 l0_4 l0_5 = some r) ∧ Aside0 (kq ≤ k) ∧ Aside0 (w'.heap[gb255]? = some (.cells #[.int .i64 a0_0, .bool a0_1, .int .i64 a0_2, (.slice A0_3 l0_3.length c0_3), (.slice A0_4 l0_4.length c0_4), (.slice A0_5 l0_5.length c0_5)] 42 (0, 0))) ∧ Aside0 (Below w.heap.size w w'))
 case atStart => exact ⟨(0), rf_, H', ⟨Nat.le_refl _⟩, ⟨bk_ BK255⟩, ⟨bl_⟩⟩
 case round =>
  clear H'
  try clear c1
  try clear p2
  obtain ⟨x5_1, rfl, HA, HK1, BK255, HB⟩ := hrel
  cases gk with
  | zero => exact absurd HA.out (by simp [spec_l15Has.l0])
  | succ k1 =>
   have H := HA.out
   clear HA
   simp only [spec_l15Has.l0] at H
   by_cases c4 : x5_1 < (l0_5.length : Int)
   ·rw [if_pos c4] at H
    have c4b0 : decide (x5_1 < (l0_5.length : Int)) = true := decide_eq_true c4
    clear c4
    obtain ⟨c5b0, H⟩ := ifd_ H
    have HC6 := aa_ H
    clear H
    have hcz7 := blk_cell BK255.out
    have hfz7 := blk_frozen BK255.out
    have p256 : 0 ≤ (x5_1 : Int) := od_
    have q256 : x5_1 < (l0_5.length : Int) := od_
    obtain ⟨ad256, A256_1, c256_1, e256, hx256_0, hx256_1, hl256_1, hi256_1⟩ := at_T61 HR0_5.out x5_1 p256 q256
    cases e256
    replace hx256_0 := cb_ HB hx256_0
    replace hx256_1 := cb_ HB hx256_1
    have HR256_1 := aa_ hi256_1
    have HC256_1 := aa_ hl256_1
    clear hi256_1 hl256_1
    replace p256 := eq_true p256
    replace q256 := eq_true q256
    go_upto_if 20 with (fail)
    have H := HC6.out
    clear HC6
    by_cases c8 : ((rd_T61 l0_5 x5_1).f0) = a1
    ·rw [if_pos c8] at H
     have c8b0 : (((rd_T61 l0_5 x5_1).f0) == a1) = true := beq_iff_eq.mpr c8
     have c8b1 : (((rd_T61 l0_5 x5_1).f0) != a1) = false := bne_eq_false_iff_eq.mpr c8
     clear c8
     (first | rw [c8b0] | (simp only [i64_w, i32_w]; rw [c8b0]) | skip)
     obtain rfl := Option.some.inj H
     go_wp2
     go_ret
     exact ⟨eq_, bl_⟩
    ·rw [if_neg c8] at H
     have c8b0 : (((rd_T61 l0_5 x5_1).f0) == a1) = false := beq_eq_false_iff_ne.mpr c8
     have c8b1 : (((rd_T61 l0_5 x5_1).f0) != a1) = true := bne_iff_ne.mpr c8
     (first | rw [c8b0] | (simp only [i64_w, i32_w]; rw [c8b0]) | skip)
     have H' := aa_ H
     clear H
     go_wp2
     go_roundg k1
     case measure => have := HK1.out; omega
     case rel => exact ⟨(wrap64 (x5_1 + 1)), rf_, H', ⟨by have := HK1.out; omega⟩, ⟨bk_ BK255⟩, ⟨bl_⟩⟩
   ·rw [if_neg c4] at H
    have c4b0 : decide (x5_1 < (l0_5.length : Int)) = false := decide_eq_false c4
    clear c4
    obtain rfl := Option.some.inj H
    have hcz9 := blk_cell BK255.out
    have hfz9 := blk_frozen BK255.out
    go_wp2
    go_ret
    exact ⟨eq_, bl_⟩
end Go.Proofs.Ytkimdmdkldlhpaa.PA
