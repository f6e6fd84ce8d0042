import Derived.Test.YtcnjbkfnijnpnaaKSFh
import Derived.Test.YtcnjbkfnijnpnaaKSPAx12
-- printed by wip/tools
namespace Go.Proofs.Ytcnjbkfnijnpnaa.PA
open Go.RowKit Go.Proofs.YtcnjbkfnijnpnaaW.PrintWords Go.Proofs.YtcnjbkfnijnpnaaW.PrintLast Go.Proofs.YtcnjbkfnijnpnaaW.PrintMore
attribute [local go_sem] max2_int min2_int max_two min_two max_three min_three max_four min_four
set_option linter.unusedVariables false
set_option linter.unusedSimpArgs false
def impl_Alive.l0 : Nat → Int → List (S61) → List (S61) → Int → Int → Option ((List (S61)))
 | 0, _, _, _, _, _ => none
 | k + 1, x1, x5, x9, x10, x11 => if x11 < x10 then (if 0 ≤ x11 then (if x11 < (x9.length : Int) then ((impl_CredOk.f k ((rd_T61 x9 x11).f0) ((rd_T61 x9 x11).f1.f0) ((rd_T61 x9 x11).f1.f1) ((rd_T61 x9 x11).f2) ((rd_T61 x9 x11).f3.f0) ((rd_T61 x9 x11).f3.f1) ((rd_T61 x9 x11).f4.f0) ((rd_T61 x9 x11).f4.f1) ((rd_T61 x9 x11).f5) ((rd_T61 x9 x11).f6)).bind fun t467 => (if t467 = true then (if ((rd_T61 x9 x11).f5) ≥ x1 then (if x5.length < 1759218604441 then (impl_Alive.l0 k x1 (x5 ++ [(⟨(rd_T61 x9 x11).f0, (⟨(rd_T61 x9 x11).f1.f0, (rd_T61 x9 x11).f1.f1⟩ : S55), (rd_T61 x9 x11).f2, (⟨(rd_T61 x9 x11).f3.f0, (rd_T61 x9 x11).f3.f1⟩ : S55), (⟨(rd_T61 x9 x11).f4.f0, (rd_T61 x9 x11).f4.f1⟩ : S55), (rd_T61 x9 x11).f5, (rd_T61 x9 x11).f6⟩ : S61)]) x9 x10 (wrap64 (x11 + 1))) else (none)) else (impl_Alive.l0 k x1 x5 x9 x10 (wrap64 (x11 + 1)))) else (impl_Alive.l0 k x1 x5 x9 x10 (wrap64 (x11 + 1))))) else (none)) else (none)) else (some x5)
def impl_Alive.f (k : Nat) (l0 : List (S61)) (a1 : Int) : Option ((List (S61))) := impl_Alive.l0 k a1 (([] : List (S61))) l0 (l0.length : Int) 0
set_option maxHeartbeats 8000000 in
set_option maxRecDepth 100000 in
theorem impl_Alive.calls (k : Nat) (A0 : Option Addr) (c0 : Nat) (l0 : List (S61)) (a1 : Int) (r : List (S61)) (w : World) (hr0 : Kd.C k61 w A0 l0.length l0) (hc0 : l0.length ≤ c0) (h : impl_Alive.f k l0 a1 = some r) :
  Calls Try.prog 43 #[.slice A0 l0.length c0, .int .i64 a1] w fun e w' => ∃ v0_ : Value, e = .returned (v0_) ∧ Kd.R k61 61 w' w.heap.size (fun _ => True) v0_ r ∧ Below w.heap.size w w' := by
 have hu61 := Try.underlying61
 have HR0 := aa_ hr0
 have HC0 := aa_ hc0
 clear hr0 hc0
 have HB := aa_ (Below.refl w.heap.size w)
 have H : (impl_Alive.l0 k a1 (([] : List (S61))) l0 (l0.length : Int) 0) = some r := h
 clear h
 obtain ⟨y462, hy462⟩ : ∃ y_ : List (S61), y_ = (([] : List (S61))) := ⟨_, rfl⟩
 replace H : (impl_Alive.l0 k a1 y462 l0 (l0.length : Int) 0) = some r := rh_ hy462 H
 have Ny462 := aa_ hy462
 clear hy462
 have H' := aa_ H
 clear H
 go_enter Try.func43, Try.ntmps43
 go_wp2_with (first | ((with_reducible refine gD_ 8 rfl ?_); refine Kd.R_lit k61 _ 61 ?hg (N := 8) ?hd (xs := ([] : List (S61))) (inner := []) (ok := fun _ => True) (okp := fun _ => True) ?hr ?hp (fun _ hk => hk) trivial (Below.refl _ _) (Nat.le_refl _) (by simp) ?_; (case hd => rfl); (case hg => rfl); (case hr => first | (go_simp; done) | (go_simp; rfl)); (case hp => exact (Reps.none _ _)); intro v463 w3 ho4 hb hg_ hnew_; clear hg_ hnew_; (first | rw [← Ny462.out] at ho4 | (simp only [Int.reduceToNat] at ho4; rw [← Ny462.out] at ho4)); have HO464 := aa_ (Kd.R_lower ho4 bls_); replace HB := hbs_ hb; clear hb ho4))
 go_loopg [5, 11] k (fun kq v5 v11 w' => ∃ (x5_1 : List (S61)) (x11_1 : Int), v11 = .int .i64 x11_1 ∧ Aside0 (impl_Alive.l0 kq a1 x5_1 l0 (l0.length : Int) x11_1 = some r) ∧ Aside0 (kq ≤ k) ∧ Aside0 (Kd.R k61 61 w' w.heap.size (fun _ => True) v5 x5_1) ∧ Aside0 (Below w.heap.size w w'))
 case atStart => exact ⟨(y462), (0), rf_, H', ⟨Nat.le_refl _⟩, ⟨rr_ HO464⟩, ⟨bl_⟩⟩
 case round =>
  clear H'
  try clear p2
  try clear c4
  obtain ⟨x5_1, x11_1, rfl, HA, HK1, HO_5, HB⟩ := hrel
  cases gk with
  | zero => exact absurd HA.out (by simp [impl_Alive.l0])
  | succ k1 =>
   have H := HA.out
   clear HA
   simp only [impl_Alive.l0] at H
   by_cases c5 : x11_1 < (l0.length : Int)
   ·rw [if_pos c5] at H
    have c5b0 : decide (x11_1 < (l0.length : Int)) = true := decide_eq_true c5
    clear c5
    obtain ⟨c6b0, H⟩ := ifd_ H
    obtain ⟨c7b0, H⟩ := ifd_ H
    obtain ⟨t467, A8, H⟩ := bindE_ H
    by_cases c9 : t467 = true
    ·subst c9
     replace H := ite_t_ H
     have HC10 := aa_ H
     clear H
     have p465 : 0 ≤ (x11_1 : Int) := od_
     have q465 : x11_1 < (l0.length : Int) := od_
     obtain ⟨ad465, e465, hx465_0, hx465_1, hx465_2, hx465_3, hx465_4, hx465_5, hx465_6, hx465_7, hx465_8, hx465_9⟩ := at_T61 (Kd.C_below HR0.out HB.out) x11_1 p465 q465
     cases e465
     replace p465 := eq_true p465
     replace q465 := eq_true q465
     go_upto_if 22 with (first | ((with_reducible refine gD_ 7 rfl ?_); refine bx_ (N := 7) (cs := #[.int .i64 0, .int .i64 0, .int .i64 0, .int .i64 0, .int .i64 0, .int .i64 0, .int .i64 0, .int .i64 0, .int .i64 0, .int .i64 0]) (t := 61) ?_; intro gb466 hg w11 hbox hb; replace HO_5 := aa_ (Kd.R_below (Kd.R_elderB (rr_ HO_5) gb466 (Nat.le_of_eq hg.symm)) hb); have BK466 := aa_ (hbox); have GW466 := gs_ hg; have GE466 := gs_ hg; replace HB := hbs_ hb; clear hb hbox hg; obtain ⟨hcz12, hfz12⟩ := bcf_ BK466) | ((with_reducible refine gC_ 60 rfl ?_); refine goesC_ (some 16) Try.func60 #[.agg #[.int .i64 ((rd_T61 l0 x11_1).f0), .int .i64 ((rd_T61 l0 x11_1).f1.f0), .int .i64 ((rd_T61 l0 x11_1).f1.f1), .int .i64 ((rd_T61 l0 x11_1).f2), .int .i64 ((rd_T61 l0 x11_1).f3.f0), .int .i64 ((rd_T61 l0 x11_1).f3.f1), .int .i64 ((rd_T61 l0 x11_1).f4.f0), .int .i64 ((rd_T61 l0 x11_1).f4.f1), .int .i64 ((rd_T61 l0 x11_1).f5), .int .i64 ((rd_T61 l0 x11_1).f6)]] ?_; (with_reducible refine (impl_CredOk.calls k1 ((rd_T61 l0 x11_1).f0) ((rd_T61 l0 x11_1).f1.f0) ((rd_T61 l0 x11_1).f1.f1) ((rd_T61 l0 x11_1).f2) ((rd_T61 l0 x11_1).f3.f0) ((rd_T61 l0 x11_1).f3.f1) ((rd_T61 l0 x11_1).f4.f0) ((rd_T61 l0 x11_1).f4.f1) ((rd_T61 l0 x11_1).f5) ((rd_T61 l0 x11_1).f6) true _ A8.out).mono ?_); rintro e w13 ⟨rfl, hb⟩; refine ⟨_, rfl, ?_⟩; replace HO_5 := aa_ (Kd.R_below (by (with_reducible repeat (first | apply Kd.R_alloc | apply Kd.R_drewN | apply Kd.R_drew)); exact (Kd.R_mono (fr10_ (Kd.R_mono HO_5.out (fun k_ hk => (⟨hk, hk.2⟩ : _ ∧ k_ ≠ gb466))) (fun _ hk => hk.2)) (fun _ h_ => h_.1))) hb); replace BK466 := aa_ (blk_below (g := gb466) (o := .cells #[.int .i64 ((rd_T61 l0 x11_1).f0), .int .i64 ((rd_T61 l0 x11_1).f1.f0), .int .i64 ((rd_T61 l0 x11_1).f1.f1), .int .i64 ((rd_T61 l0 x11_1).f2), .int .i64 ((rd_T61 l0 x11_1).f3.f0), .int .i64 ((rd_T61 l0 x11_1).f3.f1), .int .i64 ((rd_T61 l0 x11_1).f4.f0), .int .i64 ((rd_T61 l0 x11_1).f4.f1), .int .i64 ((rd_T61 l0 x11_1).f5), .int .i64 ((rd_T61 l0 x11_1).f6)] 61 (0, 0)) (bk_ BK466) hb); replace HB := hbs_ hb; clear hb; obtain ⟨hcz14, hfz14⟩ := bcf_ BK466))
     (try simp only [Act.put, List.setIfInBounds_toArray, List.set_cons_zero, List.set_cons_succ])
     have H := HC10.out
     clear HC10
     by_cases c15 : ((rd_T61 l0 x11_1).f5) ≥ a1
     ·rw [if_pos c15] at H
      have c15b0 : decide (a1 ≤ ((rd_T61 l0 x11_1).f5)) = true := decide_eq_true c15
      clear c15
      (first | rw [c15b0] | (simp only [i64_w, i32_w]; rw [c15b0]) | skip)
      obtain ⟨c16, H⟩ := ifn_ H
      have LMc16 := aa_ c16
      clear c16
      obtain ⟨y468, hy468⟩ : ∃ y_ : List (S61), y_ = (x5_1 ++ [(⟨(rd_T61 l0 x11_1).f0, (⟨(rd_T61 l0 x11_1).f1.f0, (rd_T61 l0 x11_1).f1.f1⟩ : S55), (rd_T61 l0 x11_1).f2, (⟨(rd_T61 l0 x11_1).f3.f0, (rd_T61 l0 x11_1).f3.f1⟩ : S55), (⟨(rd_T61 l0 x11_1).f4.f0, (rd_T61 l0 x11_1).f4.f1⟩ : S55), (rd_T61 l0 x11_1).f5, (rd_T61 l0 x11_1).f6⟩ : S61)]) := ⟨_, rfl⟩
      replace H : (impl_Alive.l0 k1 a1 y468 l0 (l0.length : Int) (wrap64 (x11_1 + 1))) = some r := rh_ hy468 H
      have Ny468 := aa_ hy468
      clear hy468
      have H' := aa_ H
      clear H
      have hcz17 := blk_cell BK466.out
      have hfz17 := blk_frozen BK466.out
      go_wp2_with (first | ((with_reducible refine gate_builtin (b := .append) (xs := #[.tmp 23, .tmp 25]) rfl ?_); at_builtin; refine Kd.R_append k61 (w0 := w) w.heap.size rfl (.tmp 23) (.tmp 25) 36 61 (.agg #[(.int .i64 0), (.int .i64 0), (.int .i64 0), (.int .i64 0), (.int .i64 0), (.int .i64 0), (.int .i64 0), (.int .i64 0), (.int .i64 0), (.int .i64 0)]) 80 rfl Try.underlying36 info61 rfl (by decide) (by omega) u5 x5_1 (⟨(rd_T61 l0 x11_1).f0, (⟨(rd_T61 l0 x11_1).f1.f0, (rd_T61 l0 x11_1).f1.f1⟩ : S55), (rd_T61 l0 x11_1).f2, (⟨(rd_T61 l0 x11_1).f3.f0, (rd_T61 l0 x11_1).f3.f1⟩ : S55), (⟨(rd_T61 l0 x11_1).f4.f0, (rd_T61 l0 x11_1).f4.f1⟩ : S55), (rd_T61 l0 x11_1).f5, (rd_T61 l0 x11_1).f6⟩ : S61) [.int .i64 ((rd_T61 l0 x11_1).f0), .int .i64 ((rd_T61 l0 x11_1).f1.f0), .int .i64 ((rd_T61 l0 x11_1).f1.f1), .int .i64 ((rd_T61 l0 x11_1).f2), .int .i64 ((rd_T61 l0 x11_1).f3.f0), .int .i64 ((rd_T61 l0 x11_1).f3.f1), .int .i64 ((rd_T61 l0 x11_1).f4.f0), .int .i64 ((rd_T61 l0 x11_1).f4.f1), .int .i64 ((rd_T61 l0 x11_1).f5), .int .i64 ((rd_T61 l0 x11_1).f6)] (fun k_ => k_ ≠ gb466) (fun _ => False) rfl rfl ?aP (fun _ hk => hk.elim) ?aF ?aO ?aB ?aS ?aL ?_; (case aP => exact k61_mkM _ _ _ (⟨(rd_T61 l0 x11_1).f0, (⟨(rd_T61 l0 x11_1).f1.f0, (rd_T61 l0 x11_1).f1.f1⟩ : S55), (rd_T61 l0 x11_1).f2, (⟨(rd_T61 l0 x11_1).f3.f0, (rd_T61 l0 x11_1).f3.f1⟩ : S55), (⟨(rd_T61 l0 x11_1).f4.f0, (rd_T61 l0 x11_1).f4.f1⟩ : S55), (rd_T61 l0 x11_1).f5, (rd_T61 l0 x11_1).f6⟩ : S61)); (case aB => exact bl_); (case aF => exact (fun k_ hk => Kd.freshB (g := gb466) (o := .cells #[.int .i64 ((rd_T61 l0 x11_1).f0), .int .i64 ((rd_T61 l0 x11_1).f1.f0), .int .i64 ((rd_T61 l0 x11_1).f1.f1), .int .i64 ((rd_T61 l0 x11_1).f2), .int .i64 ((rd_T61 l0 x11_1).f3.f0), .int .i64 ((rd_T61 l0 x11_1).f3.f1), .int .i64 ((rd_T61 l0 x11_1).f4.f0), .int .i64 ((rd_T61 l0 x11_1).f4.f1), .int .i64 ((rd_T61 l0 x11_1).f5), .int .i64 ((rd_T61 l0 x11_1).f6)] 61 (0, 0)) (bk_ BK466) k_ hk)); (case aO => exact (by (with_reducible repeat (first | apply Kd.R_alloc | apply Kd.R_drewN | apply Kd.R_drew)); exact Kd.R_mono HO_5.out (fun _ hk => hk.2))); (case aS => exact bls_); (case aL => have := LMc16.out; omega); intro v469 w18 ho hb hg hat; rw [← Ny468.out] at ho; replace BK466 := aa_ (blk_grown (g := gb466) (o := .cells #[.int .i64 ((rd_T61 l0 x11_1).f0), .int .i64 ((rd_T61 l0 x11_1).f1.f0), .int .i64 ((rd_T61 l0 x11_1).f1.f1), .int .i64 ((rd_T61 l0 x11_1).f2), .int .i64 ((rd_T61 l0 x11_1).f3.f0), .int .i64 ((rd_T61 l0 x11_1).f3.f1), .int .i64 ((rd_T61 l0 x11_1).f4.f0), .int .i64 ((rd_T61 l0 x11_1).f4.f1), .int .i64 ((rd_T61 l0 x11_1).f5), .int .i64 ((rd_T61 l0 x11_1).f6)] 61 (0, 0)) (bk_ BK466) hg (Kd.R_away HO_5.out (fun _ hk => hk.2))); replace HB := aa_ (hb); have HO470 := aa_ (ho); clear HO_5; clear ho hb hg hat))
      go_roundg k1
      case measure => have := HK1.out; omega
      case rel => exact ⟨(y468), (wrap64 (x11_1 + 1)), rf_, H', ⟨by have := HK1.out; omega⟩, ⟨by (with_reducible repeat (first | apply Kd.R_alloc | apply Kd.R_drewN | apply Kd.R_drew)); exact Kd.R_mono HO470.out (fun _ hk => trivial)⟩, ⟨bl_⟩⟩
     ·rw [if_neg c15] at H
      have c15b0 : decide (a1 ≤ ((rd_T61 l0 x11_1).f5)) = false := decide_eq_false c15
      clear c15
      (first | rw [c15b0] | (simp only [i64_w, i32_w]; rw [c15b0]) | skip)
      have H' := aa_ H
      clear H
      go_wp2
      go_roundg k1
      case measure => have := HK1.out; omega
      case rel => exact ⟨(x5_1), (wrap64 (x11_1 + 1)), rf_, H', ⟨by have := HK1.out; omega⟩, ⟨by (with_reducible repeat (first | apply Kd.R_alloc | apply Kd.R_drewN | apply Kd.R_drew)); exact Kd.R_mono HO_5.out (fun _ hk => trivial)⟩, ⟨bl_⟩⟩
    ·replace c9 := Bool.eq_false_iff.mpr c9
     subst c9
     replace H := ite_f_ H
     have H' := aa_ H
     clear H
     have p465 : 0 ≤ (x11_1 : Int) := od_
     have q465 : x11_1 < (l0.length : Int) := od_
     obtain ⟨ad465, e465, hx465_0, hx465_1, hx465_2, hx465_3, hx465_4, hx465_5, hx465_6, hx465_7, hx465_8, hx465_9⟩ := at_T61 (Kd.C_below HR0.out HB.out) x11_1 p465 q465
     cases e465
     replace p465 := eq_true p465
     replace q465 := eq_true q465
     go_wp2_with (first | ((with_reducible refine gD_ 7 rfl ?_); refine bx_ (N := 7) (cs := #[.int .i64 0, .int .i64 0, .int .i64 0, .int .i64 0, .int .i64 0, .int .i64 0, .int .i64 0, .int .i64 0, .int .i64 0, .int .i64 0]) (t := 61) ?_; intro gb466 hg w19 hbox hb; replace HO_5 := aa_ (Kd.R_below (Kd.R_elderB (rr_ HO_5) gb466 (Nat.le_of_eq hg.symm)) hb); have BK466 := aa_ (hbox); have GW466 := gs_ hg; have GE466 := gs_ hg; replace HB := hbs_ hb; clear hb hbox hg; obtain ⟨hcz20, hfz20⟩ := bcf_ BK466) | ((with_reducible refine gC_ 60 rfl ?_); refine goesC_ (some 16) Try.func60 #[.agg #[.int .i64 ((rd_T61 l0 x11_1).f0), .int .i64 ((rd_T61 l0 x11_1).f1.f0), .int .i64 ((rd_T61 l0 x11_1).f1.f1), .int .i64 ((rd_T61 l0 x11_1).f2), .int .i64 ((rd_T61 l0 x11_1).f3.f0), .int .i64 ((rd_T61 l0 x11_1).f3.f1), .int .i64 ((rd_T61 l0 x11_1).f4.f0), .int .i64 ((rd_T61 l0 x11_1).f4.f1), .int .i64 ((rd_T61 l0 x11_1).f5), .int .i64 ((rd_T61 l0 x11_1).f6)]] ?_; (with_reducible refine (impl_CredOk.calls k1 ((rd_T61 l0 x11_1).f0) ((rd_T61 l0 x11_1).f1.f0) ((rd_T61 l0 x11_1).f1.f1) ((rd_T61 l0 x11_1).f2) ((rd_T61 l0 x11_1).f3.f0) ((rd_T61 l0 x11_1).f3.f1) ((rd_T61 l0 x11_1).f4.f0) ((rd_T61 l0 x11_1).f4.f1) ((rd_T61 l0 x11_1).f5) ((rd_T61 l0 x11_1).f6) false _ A8.out).mono ?_); rintro e w21 ⟨rfl, hb⟩; refine ⟨_, rfl, ?_⟩; replace HO_5 := aa_ (Kd.R_below (by (with_reducible repeat (first | apply Kd.R_alloc | apply Kd.R_drewN | apply Kd.R_drew)); exact (Kd.R_mono (fr10_ (Kd.R_mono HO_5.out (fun k_ hk => (⟨hk, hk.2⟩ : _ ∧ k_ ≠ gb466))) (fun _ hk => hk.2)) (fun _ h_ => h_.1))) hb); replace BK466 := aa_ (blk_below (g := gb466) (o := .cells #[.int .i64 ((rd_T61 l0 x11_1).f0), .int .i64 ((rd_T61 l0 x11_1).f1.f0), .int .i64 ((rd_T61 l0 x11_1).f1.f1), .int .i64 ((rd_T61 l0 x11_1).f2), .int .i64 ((rd_T61 l0 x11_1).f3.f0), .int .i64 ((rd_T61 l0 x11_1).f3.f1), .int .i64 ((rd_T61 l0 x11_1).f4.f0), .int .i64 ((rd_T61 l0 x11_1).f4.f1), .int .i64 ((rd_T61 l0 x11_1).f5), .int .i64 ((rd_T61 l0 x11_1).f6)] 61 (0, 0)) (bk_ BK466) hb); replace HB := hbs_ hb; clear hb))
     go_roundg k1
     case measure => have := HK1.out; omega
     case rel => exact ⟨(x5_1), (wrap64 (x11_1 + 1)), rf_, H', ⟨by have := HK1.out; omega⟩, ⟨by (with_reducible repeat (first | apply Kd.R_alloc | apply Kd.R_drewN | apply Kd.R_drew)); exact Kd.R_mono HO_5.out (fun _ hk => trivial)⟩, ⟨bl_⟩⟩
   ·rw [if_neg c5] at H
    have c5b0 : decide (x11_1 < (l0.length : Int)) = false := decide_eq_false c5
    clear c5
    obtain rfl := Option.some.inj H
    go_wp2
    go_ret
    exact ⟨_, eq_, by (with_reducible repeat (first | apply Kd.R_alloc | apply Kd.R_drewN | apply Kd.R_drew)); exact HO_5.out, bl_⟩
def impl_AnswerOk.f (k : Nat) (a0_0 : Bool) (l0_1 : List (S80)) (a0_2 : Int) (a0_3 : Bool) (a0_4 : Bool) (a1_0 : Int) (a1_1 : Int) (a2 : Int) (a3 : Int) : Option (Bool) := if a0_0 = true then ((impl_CredsIn.f k l0_1).bind fun t473 => ((impl_ProofOk.f k l0_1 a1_0 a1_1 a2).bind fun t476 => (if t476 = true then ((impl_Alive.f k t473 a3).bind fun t477 => (some ((t477.length : Int) == (t473.length : Int)))) else (some false)))) else (some ((l0_1.length : Int) == 0))
set_option maxHeartbeats 8000000 in
set_option maxRecDepth 100000 in
theorem impl_AnswerOk.calls (k : Nat) (a0_0 : Bool) (A0_1 : Option Addr) (c0_1 : Nat) (l0_1 : List (S80)) (a0_2 : Int) (a0_3 : Bool) (a0_4 : Bool) (a1_0 : Int) (a1_1 : Int) (a2 : Int) (a3 : Int) (r : Bool) (w : World) (hr0_1 : Kd.C k80 w A0_1 l0_1.length l0_1) (hc0_1 : l0_1.length ≤ c0_1) (h : impl_AnswerOk.f k a0_0 l0_1 a0_2 a0_3 a0_4 a1_0 a1_1 a2 a3 = some r) :
  Calls Try.prog 24 #[.agg #[.bool a0_0, .slice A0_1 l0_1.length c0_1, .int .i64 a0_2, .bool a0_3, .bool a0_4], .agg #[.int .i64 a1_0, .int .i64 a1_1], .int .i64 a2, .int .i64 a3] w fun e w' => e = .returned (.bool r) ∧ Below w.heap.size w w' := by
 have hu51 := Try.underlying51
 have hu55 := Try.underlying55
 have HR0_1 := aa_ hr0_1
 have HC0_1 := aa_ hc0_1
 clear hr0_1 hc0_1
 have HB := aa_ (Below.refl w.heap.size w)
 have H : (if a0_0 = true then ((impl_CredsIn.f k l0_1).bind fun t473 => ((impl_ProofOk.f k l0_1 a1_0 a1_1 a2).bind fun t476 => (if t476 = true then ((impl_Alive.f k t473 a3).bind fun t477 => (some ((t477.length : Int) == (t473.length : Int)))) else (some false)))) else (some ((l0_1.length : Int) == 0))) = some r := h
 clear h
 have HC5 := aa_ H
 clear H
 go_enter Try.func24, Try.ntmps24
 go_upto_if 12 with (first | ((with_reducible refine gD_ 4 rfl ?_); (try (refine gate_guard (by rfl) ?_; dsimp only)); refine bx_ (N := 4) (cs := #[.bool a0_0, .slice A0_1 l0_1.length c0_1, .int .i64 a0_2, .bool a0_3, .bool a0_4]) (t := 51) ?_; intro gb471 hg w6 hbox hb; have BK471 := aa_ (hbox); have GW471 := gs_ hg; have GE471 := gs_ hg; replace HB := hbs_ hb; clear hb hbox hg) | ((with_reducible refine gD_ 5 rfl ?_); (try (refine gate_guard (by rfl) ?_; dsimp only)); refine bx_ (N := 5) (cs := #[.int .i64 a1_0, .int .i64 a1_1]) (t := 55) ?_; intro gb472 hg w7 hbox hb; have BK472 := aa_ (hbox); have GW472 := gs_ hg; have GE472 := gs_ hg; replace HB := hbs_ hb; have NB471_472 := nl_ hg BK471; have NB472_471 := nr_ hg BK471; replace BK471 := bkb_ BK471 hb; clear hb hbox hg; have hnb8 := NB471_472.out; have hnc8 := NB472_471.out; obtain ⟨hcz9, hfz9⟩ := bcf_ BK471))
 (try simp only [Act.put, List.setIfInBounds_toArray, List.set_cons_zero, List.set_cons_succ])
 have H := HC5.out
 clear HC5
 by_cases c10 : a0_0 = true
 ·subst c10
  replace H := ite_t_ H
  obtain ⟨t473, A11, H⟩ := bindE_ H
  obtain ⟨t476, A12, H⟩ := bindE_ H
  by_cases c13 : t476 = true
  ·subst c13
   replace H := ite_t_ H
   obtain ⟨t477, A14, H⟩ := bindE_ H
   obtain rfl := Option.some.inj H
   have hnb15 := NB471_472.out
   have hnc15 := NB472_471.out
   have hcz16 := blk_cell BK471.out
   have hfz16 := blk_frozen BK471.out
   go_wp2_with (first | ((with_reducible refine gC_ 23 rfl ?_); refine goesC_ (some 19) Try.func23 #[.slice A0_1 l0_1.length c0_1] ?_; (with_reducible refine (impl_CredsIn.calls k _ _ l0_1 t473 _ ?side1 ?side2 A11.out).mono ?_); (case side1 => repeat (first | exact (Kd.C_below HR0_1.out HB.out) | (with_reducible refine Kd.C_alloc ?_ _) | (with_reducible refine Kd.C_drewN ?_ _) | (with_reducible refine Kd.C_drew ?_))); (case side2 => exact HC0_1.out); rintro e w17 ⟨v474, rfl, ho0, hb⟩; refine ⟨_, rfl, ?_⟩; have HO475 := aa_ (Kd.R_lower ho0 bls_); replace BK471 := bkb_ BK471 hb; replace BK472 := bkb_ BK472 hb; replace HB := hbs_ hb; (try clear hb ho0); obtain ⟨hcz18, hfz18⟩ := bcf_ BK471; obtain ⟨hcz19, hfz19⟩ := bcf_ BK472) | ((with_reducible refine gC_ 42 rfl ?_); refine goesC_ (some 24) Try.func42 #[.slice A0_1 l0_1.length c0_1, .agg #[.int .i64 a1_0, .int .i64 a1_1], .int .i64 a2] ?_; (with_reducible refine (impl_ProofOk.calls k _ _ l0_1 a1_0 a1_1 a2 true _ ?side1 ?side2 A12.out).mono ?_); (case side1 => repeat (first | exact (Kd.C_below HR0_1.out HB.out) | (with_reducible refine Kd.C_alloc ?_ _) | (with_reducible refine Kd.C_drewN ?_ _) | (with_reducible refine Kd.C_drew ?_))); (case side2 => exact HC0_1.out); rintro e w20 ⟨rfl, hb⟩; refine ⟨_, rfl, ?_⟩; replace HO475 := hob_ HO475 hb; replace BK471 := bkb_ BK471 hb; replace BK472 := bkb_ BK472 hb; replace HB := hbs_ hb; clear hb; obtain ⟨Ao21, co21, eo21⟩ := Kd.R_slice HO475.out; subst eo21) | (go_at_call 43; (with_reducible refine (impl_Alive.calls k _ _ t473 a3 t477 _ ?side1 ?side2 A14.out).mono ?_); (case side1 => repeat (first | exact (Kd.R_reads' HO475.out).2.2 | (with_reducible refine Kd.C_alloc ?_ _) | (with_reducible refine Kd.C_drewN ?_ _) | (with_reducible refine Kd.C_drew ?_))); (case side2 => exact (Kd.R_reads' HO475.out).2.1); rintro e w22 ⟨v478, rfl, ho0, hb⟩; have HO479 := aa_ (Kd.R_lower (Kd.R_new' ho0 (Kd.R_lt (rr_ HO475))) bls_); replace HO475 := aa_ (Kd.R_elder' (rr_ HO475) (Kd.R_base ho0) hb); replace BK471 := bkb_ BK471 hb; replace BK472 := bkb_ BK472 hb; replace HB := hbs_ hb; (try clear ho0); obtain ⟨Ao23, co23, eo23⟩ := Kd.R_slice HO479.out; subst eo23))
   go_ret
   exact ⟨eq_, bl_⟩
  ·replace c13 := Bool.eq_false_iff.mpr c13
   subst c13
   replace H := ite_f_ H
   obtain rfl := Option.some.inj H
   have hnb24 := NB471_472.out
   have hnc24 := NB472_471.out
   have hcz25 := blk_cell BK471.out
   have hfz25 := blk_frozen BK471.out
   go_wp2_with (first | ((with_reducible refine gC_ 23 rfl ?_); refine goesC_ (some 19) Try.func23 #[.slice A0_1 l0_1.length c0_1] ?_; (with_reducible refine (impl_CredsIn.calls k _ _ l0_1 t473 _ ?side1 ?side2 A11.out).mono ?_); (case side1 => repeat (first | exact (Kd.C_below HR0_1.out HB.out) | (with_reducible refine Kd.C_alloc ?_ _) | (with_reducible refine Kd.C_drewN ?_ _) | (with_reducible refine Kd.C_drew ?_))); (case side2 => exact HC0_1.out); rintro e w26 ⟨v474, rfl, ho0, hb⟩; refine ⟨_, rfl, ?_⟩; have HO475 := aa_ (Kd.R_lower ho0 bls_); replace BK471 := bkb_ BK471 hb; replace BK472 := bkb_ BK472 hb; replace HB := hbs_ hb; (try clear hb ho0); obtain ⟨hcz27, hfz27⟩ := bcf_ BK471; obtain ⟨hcz28, hfz28⟩ := bcf_ BK472) | ((with_reducible refine gC_ 42 rfl ?_); refine goesC_ (some 24) Try.func42 #[.slice A0_1 l0_1.length c0_1, .agg #[.int .i64 a1_0, .int .i64 a1_1], .int .i64 a2] ?_; (with_reducible refine (impl_ProofOk.calls k _ _ l0_1 a1_0 a1_1 a2 false _ ?side1 ?side2 A12.out).mono ?_); (case side1 => repeat (first | exact (Kd.C_below HR0_1.out HB.out) | (with_reducible refine Kd.C_alloc ?_ _) | (with_reducible refine Kd.C_drewN ?_ _) | (with_reducible refine Kd.C_drew ?_))); (case side2 => exact HC0_1.out); rintro e w29 ⟨rfl, hb⟩; refine ⟨_, rfl, ?_⟩; replace HO475 := hob_ HO475 hb; replace BK471 := bkb_ BK471 hb; replace BK472 := bkb_ BK472 hb; replace HB := hbs_ hb; clear hb))
   go_ret
   exact ⟨eq_, bl_⟩
 ·replace c10 := Bool.eq_false_iff.mpr c10
  subst c10
  replace H := ite_f_ H
  obtain rfl := Option.some.inj H
  have hnb30 := NB471_472.out
  have hnc30 := NB472_471.out
  have hcz31 := blk_cell BK471.out
  have hfz31 := blk_frozen BK471.out
  go_wp2
  go_ret
  exact ⟨eq_, bl_⟩
def impl_leastUntil.l0 : Nat → Int → List (S61) → Int → Int → Option (Int)
 | 0, _, _, _, _ => none
 | k + 1, x3, x6, x7, x8 => if x8 < x7 then (if 0 ≤ x8 then (if x8 < (x6.length : Int) then (if x8 = 0 then (impl_leastUntil.l0 k ((rd_T61 x6 x8).f5) x6 x7 (wrap64 (x8 + 1))) else (if ((rd_T61 x6 x8).f5) < x3 then (impl_leastUntil.l0 k ((rd_T61 x6 x8).f5) x6 x7 (wrap64 (x8 + 1))) else (impl_leastUntil.l0 k x3 x6 x7 (wrap64 (x8 + 1))))) else (none)) else (none)) else (some x3)
def impl_leastUntil.f (k : Nat) (l0 : List (S61)) : Option (Int) := impl_leastUntil.l0 k 0 l0 (l0.length : Int) 0
set_option maxHeartbeats 8000000 in
set_option maxRecDepth 100000 in
theorem impl_leastUntil.calls (k : Nat) (A0 : Option Addr) (c0 : Nat) (l0 : List (S61)) (r : Int) (w : World) (hr0 : Kd.C k61 w A0 l0.length l0) (hc0 : l0.length ≤ c0) (h : impl_leastUntil.f k l0 = some r) :
  Calls Try.prog 25 #[.slice A0 l0.length c0] w fun e w' => e = .returned (.int .i64 r) ∧ Below w.heap.size w w' := by
 have hu61 := Try.underlying61
 have HR0 := aa_ hr0
 have HC0 := aa_ hc0
 clear hr0 hc0
 have HB := aa_ (Below.refl w.heap.size w)
 have H : (impl_leastUntil.l0 k 0 l0 (l0.length : Int) 0) = some r := h
 clear h
 have H' := aa_ H
 clear H
 go_enter Try.func25, Try.ntmps25
 go_wp2
 go_loopg [3, 8] k (fun kq v3 v8 w' => ∃ (x3_1 : Int) (x8_1 : Int), v3 = .int .i64 x3_1 ∧ v8 = .int .i64 x8_1 ∧ Aside0 (impl_leastUntil.l0 kq x3_1 l0 (l0.length : Int) x8_1 = some r) ∧ Aside0 (kq ≤ k) ∧ Aside0 (Below w.heap.size w w'))
 case atStart => exact ⟨(0), (0), rf_, rf_, H', ⟨Nat.le_refl _⟩, ⟨bl_⟩⟩
 case round =>
  clear H'
  obtain ⟨x3_1, x8_1, rfl, rfl, HA, HK1, HB⟩ := hrel
  cases gk with
  | zero => exact absurd HA.out (by simp [impl_leastUntil.l0])
  | succ k1 =>
   have H := HA.out
   clear HA
   simp only [impl_leastUntil.l0] at H
   by_cases c2 : x8_1 < (l0.length : Int)
   ·rw [if_pos c2] at H
    have c2b0 : decide (x8_1 < (l0.length : Int)) = true := decide_eq_true c2
    clear c2
    obtain ⟨c3b0, H⟩ := ifd_ H
    obtain ⟨c4b0, H⟩ := ifd_ H
    by_cases c5 : x8_1 = 0
    ·rw [if_pos c5] at H
     have c5b0 : (x8_1 == 0) = true := beq_iff_eq.mpr c5
     have c5b1 : (x8_1 != 0) = false := bne_eq_false_iff_eq.mpr c5
     clear c5
     have H' := aa_ H
     clear H
     have p480 : 0 ≤ (x8_1 : Int) := od_
     have q480 : x8_1 < (l0.length : Int) := od_
     obtain ⟨ad480, e480, hx480_0, hx480_1, hx480_2, hx480_3, hx480_4, hx480_5, hx480_6, hx480_7, hx480_8, hx480_9⟩ := at_T61 (Kd.C_below HR0.out HB.out) x8_1 p480 q480
     cases e480
     replace p480 := eq_true p480
     replace q480 := eq_true q480
     go_wp2_with (first | ((with_reducible refine gD_ 5 rfl ?_); refine bx_ (N := 5) (cs := #[.int .i64 0, .int .i64 0, .int .i64 0, .int .i64 0, .int .i64 0, .int .i64 0, .int .i64 0, .int .i64 0, .int .i64 0, .int .i64 0]) (t := 61) ?_; intro gb481 hg w6 hbox hb; have BK481 := aa_ (hbox); have GW481 := gs_ hg; have GE481 := gs_ hg; replace HB := hbs_ hb; clear hb hbox hg; obtain ⟨hcz7, hfz7⟩ := bcf_ BK481))
     go_roundg k1
     case measure => have := HK1.out; omega
     case rel => exact ⟨((rd_T61 l0 x8_1).f5), (wrap64 (x8_1 + 1)), rf_, rf_, H', ⟨by have := HK1.out; omega⟩, ⟨bl_⟩⟩
    ·rw [if_neg c5] at H
     have c5b0 : (x8_1 == 0) = false := beq_eq_false_iff_ne.mpr c5
     have c5b1 : (x8_1 != 0) = true := bne_iff_ne.mpr c5
     have HC8 := aa_ H
     clear H
     have p480 : 0 ≤ (x8_1 : Int) := od_
     have q480 : x8_1 < (l0.length : Int) := od_
     obtain ⟨ad480, e480, hx480_0, hx480_1, hx480_2, hx480_3, hx480_4, hx480_5, hx480_6, hx480_7, hx480_8, hx480_9⟩ := at_T61 (Kd.C_below HR0.out HB.out) x8_1 p480 q480
     cases e480
     replace p480 := eq_true p480
     replace q480 := eq_true q480
     go_upto_if 20 with (first | ((with_reducible refine gD_ 5 rfl ?_); refine bx_ (N := 5) (cs := #[.int .i64 0, .int .i64 0, .int .i64 0, .int .i64 0, .int .i64 0, .int .i64 0, .int .i64 0, .int .i64 0, .int .i64 0, .int .i64 0]) (t := 61) ?_; intro gb481 hg w9 hbox hb; have BK481 := aa_ (hbox); have GW481 := gs_ hg; have GE481 := gs_ hg; replace HB := hbs_ hb; clear hb hbox hg; obtain ⟨hcz10, hfz10⟩ := bcf_ BK481))
     have n0_ : Aside0 (((((((((((w9.setCell ⟨gb481, 0, none⟩ (.int .i64 ((rd_T61 l0 x8_1).f0))).setCell ⟨gb481, 1, none⟩ (.int .i64 ((rd_T61 l0 x8_1).f1.f0))).setCell ⟨gb481, 2, none⟩ (.int .i64 ((rd_T61 l0 x8_1).f1.f1))).setCell ⟨gb481, 3, none⟩ (.int .i64 ((rd_T61 l0 x8_1).f2))).setCell ⟨gb481, 4, none⟩ (.int .i64 ((rd_T61 l0 x8_1).f3.f0))).setCell ⟨gb481, 5, none⟩ (.int .i64 ((rd_T61 l0 x8_1).f3.f1))).setCell ⟨gb481, 6, none⟩ (.int .i64 ((rd_T61 l0 x8_1).f4.f0))).setCell ⟨gb481, 7, none⟩ (.int .i64 ((rd_T61 l0 x8_1).f4.f1))).setCell ⟨gb481, 8, none⟩ (.int .i64 ((rd_T61 l0 x8_1).f5))).setCell ⟨gb481, 9, none⟩ (.int .i64 ((rd_T61 l0 x8_1).f6))).heap[gb481]? = some (.cells #[.int .i64 ((rd_T61 l0 x8_1).f0), .int .i64 ((rd_T61 l0 x8_1).f1.f0), .int .i64 ((rd_T61 l0 x8_1).f1.f1), .int .i64 ((rd_T61 l0 x8_1).f2), .int .i64 ((rd_T61 l0 x8_1).f3.f0), .int .i64 ((rd_T61 l0 x8_1).f3.f1), .int .i64 ((rd_T61 l0 x8_1).f4.f0), .int .i64 ((rd_T61 l0 x8_1).f4.f1), .int .i64 ((rd_T61 l0 x8_1).f5), .int .i64 ((rd_T61 l0 x8_1).f6)] 61 (0, 0))) := ⟨bk_ BK481⟩
     have n1_ : Aside0 (Below w.heap.size w ((((((((((w9.setCell ⟨gb481, 0, none⟩ (.int .i64 ((rd_T61 l0 x8_1).f0))).setCell ⟨gb481, 1, none⟩ (.int .i64 ((rd_T61 l0 x8_1).f1.f0))).setCell ⟨gb481, 2, none⟩ (.int .i64 ((rd_T61 l0 x8_1).f1.f1))).setCell ⟨gb481, 3, none⟩ (.int .i64 ((rd_T61 l0 x8_1).f2))).setCell ⟨gb481, 4, none⟩ (.int .i64 ((rd_T61 l0 x8_1).f3.f0))).setCell ⟨gb481, 5, none⟩ (.int .i64 ((rd_T61 l0 x8_1).f3.f1))).setCell ⟨gb481, 6, none⟩ (.int .i64 ((rd_T61 l0 x8_1).f4.f0))).setCell ⟨gb481, 7, none⟩ (.int .i64 ((rd_T61 l0 x8_1).f4.f1))).setCell ⟨gb481, 8, none⟩ (.int .i64 ((rd_T61 l0 x8_1).f5))).setCell ⟨gb481, 9, none⟩ (.int .i64 ((rd_T61 l0 x8_1).f6)))) := ⟨bl_⟩
     (try clear BK481)
     (try clear HB)
     generalize ((((((((((w9.setCell ⟨gb481, 0, none⟩ (.int .i64 ((rd_T61 l0 x8_1).f0))).setCell ⟨gb481, 1, none⟩ (.int .i64 ((rd_T61 l0 x8_1).f1.f0))).setCell ⟨gb481, 2, none⟩ (.int .i64 ((rd_T61 l0 x8_1).f1.f1))).setCell ⟨gb481, 3, none⟩ (.int .i64 ((rd_T61 l0 x8_1).f2))).setCell ⟨gb481, 4, none⟩ (.int .i64 ((rd_T61 l0 x8_1).f3.f0))).setCell ⟨gb481, 5, none⟩ (.int .i64 ((rd_T61 l0 x8_1).f3.f1))).setCell ⟨gb481, 6, none⟩ (.int .i64 ((rd_T61 l0 x8_1).f4.f0))).setCell ⟨gb481, 7, none⟩ (.int .i64 ((rd_T61 l0 x8_1).f4.f1))).setCell ⟨gb481, 8, none⟩ (.int .i64 ((rd_T61 l0 x8_1).f5))).setCell ⟨gb481, 9, none⟩ (.int .i64 ((rd_T61 l0 x8_1).f6))) = w11 at n0_ n1_ ⊢
     have BK481 := n0_
     have HB := n1_
     clear n0_ n1_
     (try simp only [Act.put, List.setIfInBounds_toArray, List.set_cons_zero, List.set_cons_succ])
     have H := HC8.out
     clear HC8
     by_cases c12 : ((rd_T61 l0 x8_1).f5) < x3_1
     ·rw [if_pos c12] at H
      have c12b0 : decide (((rd_T61 l0 x8_1).f5) < x3_1) = true := decide_eq_true c12
      clear c12
      (first | rw [c12b0] | (simp only [i64_w, i32_w]; rw [c12b0]) | skip)
      have H' := aa_ H
      clear H
      have hcz13 := blk_cell BK481.out
      have hfz13 := blk_frozen BK481.out
      go_wp2
      go_roundg k1
      case measure => have := HK1.out; omega
      case rel => exact ⟨((rd_T61 l0 x8_1).f5), (wrap64 (x8_1 + 1)), rf_, rf_, H', ⟨by have := HK1.out; omega⟩, ⟨bl_⟩⟩
     ·rw [if_neg c12] at H
      have c12b0 : decide (((rd_T61 l0 x8_1).f5) < x3_1) = false := decide_eq_false c12
      clear c12
      (first | rw [c12b0] | (simp only [i64_w, i32_w]; rw [c12b0]) | skip)
      have H' := aa_ H
      clear H
      go_wp2
      go_roundg k1
      case measure => have := HK1.out; omega
      case rel => exact ⟨(x3_1), (wrap64 (x8_1 + 1)), rf_, rf_, H', ⟨by have := HK1.out; omega⟩, ⟨bl_⟩⟩
   ·rw [if_neg c2] at H
    have c2b0 : decide (x8_1 < (l0.length : Int)) = false := decide_eq_false c2
    clear c2
    obtain rfl := Option.some.inj H
    go_wp2
    go_ret
    exact ⟨eq_, bl_⟩
def impl_Cred_44.l0 : Nat → List (S61) → (S61 → Option Bool) → Int → Int → Option (Int)
 | 0, _, _, _, _ => none
 | k + 1, x0, x1, x7, x8 => if x8 < x7 then (if 0 ≤ x8 then (if x8 < (x0.length : Int) then ((x1 (⟨(rd_T61 x0 x8).f0, (⟨(rd_T61 x0 x8).f1.f0, (rd_T61 x0 x8).f1.f1⟩ : S55), (rd_T61 x0 x8).f2, (⟨(rd_T61 x0 x8).f3.f0, (rd_T61 x0 x8).f3.f1⟩ : S55), (⟨(rd_T61 x0 x8).f4.f0, (rd_T61 x0 x8).f4.f1⟩ : S55), (rd_T61 x0 x8).f5, (rd_T61 x0 x8).f6⟩ : S61)).bind fun t483 => (if t483 = true then (some x8) else (impl_Cred_44.l0 k x0 x1 x7 (wrap64 (x8 + 1))))) else (none)) else (none)) else (some (-1))
def impl_Cred_44.f (k : Nat) (l0 : List (S61)) (a1 : (S61 → Option Bool)) : Option (Int) := impl_Cred_44.l0 k l0 a1 (l0.length : Int) 0
set_option maxHeartbeats 8000000 in
set_option maxRecDepth 100000 in
theorem impl_Cred_44.calls (k : Nat) (A0 : Option Addr) (c0 : Nat) (l0 : List (S61)) (a1 : (S61 → Option Bool)) (ga1_ : Nat) (r : Int) (w : World) (hr0 : Kd.C k61 w A0 l0.length l0) (hc0 : l0.length ≤ c0) (hq1 : ∀ W_, Below w.heap.size w W_ → FnOk a1 ga1_ W_) (h : impl_Cred_44.f k l0 a1 = some r) :
  Calls Try.prog 44 #[.slice A0 l0.length c0, .func (.func 27) #[] #[.pointer (some ⟨ga1_, 0, none⟩)]] w fun e w' => e = .returned (.int .i64 r) ∧ Below w.heap.size w w' := by
 have hu61 := Try.underlying61
 have HR0 := aa_ hr0
 have HC0 := aa_ hc0
 clear hr0 hc0
 have HFN1 := aa_ hq1
 clear hq1
 have eg : ∀ args w, (callFunc 27 args).run Try.prog w = .ok (.enter 27 args) w := fun args w => enters_ Try.func27 (by kernel_rfl) rfl args w
 have HB := aa_ (Below.refl w.heap.size w)
 have H : (impl_Cred_44.l0 k l0 a1 (l0.length : Int) 0) = some r := h
 clear h
 have H' := aa_ H
 clear H
 go_enter Try.func44, Try.ntmps44
 go_wp2
 go_loopg [8] k (fun kq v8 w' => ∃ (x8_1 : Int), v8 = .int .i64 x8_1 ∧ Aside0 (impl_Cred_44.l0 kq l0 a1 (l0.length : Int) x8_1 = some r) ∧ Aside0 (kq ≤ k) ∧ Aside0 (Below w.heap.size w w'))
 case atStart => exact ⟨(0), rf_, H', ⟨Nat.le_refl _⟩, ⟨bl_⟩⟩
 case round =>
  clear H'
  try clear q1
  try clear c2
  try clear p2
  obtain ⟨x8_1, rfl, HA, HK1, HB⟩ := hrel
  cases gk with
  | zero => exact absurd HA.out (by simp [impl_Cred_44.l0])
  | succ k1 =>
   have H := HA.out
   clear HA
   simp only [impl_Cred_44.l0] at H
   by_cases c3 : x8_1 < (l0.length : Int)
   ·rw [if_pos c3] at H
    have c3b0 : decide (x8_1 < (l0.length : Int)) = true := decide_eq_true c3
    clear c3
    obtain ⟨c4b0, H⟩ := ifd_ H
    obtain ⟨c5b0, H⟩ := ifd_ H
    obtain ⟨t483, A6, H⟩ := bindE_ H
    have HC7 := aa_ H
    clear H
    have p482 : 0 ≤ (x8_1 : Int) := od_
    have q482 : x8_1 < (l0.length : Int) := od_
    obtain ⟨ad482, e482, hx482_0, hx482_1, hx482_2, hx482_3, hx482_4, hx482_5, hx482_6, hx482_7, hx482_8, hx482_9⟩ := at_T61 (Kd.C_below HR0.out HB.out) x8_1 p482 q482
    cases e482
    replace p482 := eq_true p482
    replace q482 := eq_true q482
    go_upto_if 16 with (first | (go_at_fn 27; (refine (HFN1.out _ (by repeat (first | (with_reducible first | exact HB.out | apply below_alloc | apply pw_below_drewN | apply below_drew1) | exact HB.out)) _ _ A6.out).mono ?_); rintro e w8 ⟨rfl, hb⟩; replace HB := hbs_ hb; clear hb))
    (try simp only [Act.put, List.setIfInBounds_toArray, List.set_cons_zero, List.set_cons_succ])
    have H := HC7.out
    clear HC7
    by_cases c9 : t483 = true
    ·subst c9
     replace H := ite_t_ H
     obtain rfl := Option.some.inj H
     go_wp2
     go_ret
     exact ⟨eq_, bl_⟩
    ·replace c9 := Bool.eq_false_iff.mpr c9
     subst c9
     replace H := ite_f_ H
     have H' := aa_ H
     clear H
     go_wp2
     go_roundg k1
     case measure => have := HK1.out; omega
     case rel => exact ⟨(wrap64 (x8_1 + 1)), rf_, H', ⟨by have := HK1.out; omega⟩, ⟨bl_⟩⟩
   ·rw [if_neg c3] at H
    have c3b0 : decide (x8_1 < (l0.length : Int)) = false := decide_eq_false c3
    clear c3
    obtain rfl := Option.some.inj H
    go_wp2
    go_ret
    exact ⟨eq_, bl_⟩
def impl_Cred_26.f (k : Nat) (l0 : List (S61)) (a1 : (S61 → Option Bool)) : Option (Bool) := (impl_Cred_44.f k l0 a1).bind fun t484 => (some (decide (t484 ≥ 0)))
set_option maxHeartbeats 8000000 in
set_option maxRecDepth 100000 in
theorem impl_Cred_26.calls (k : Nat) (A0 : Option Addr) (c0 : Nat) (l0 : List (S61)) (a1 : (S61 → Option Bool)) (ga1_ : Nat) (r : Bool) (w : World) (hr0 : Kd.C k61 w A0 l0.length l0) (hc0 : l0.length ≤ c0) (hq1 : ∀ W_, Below w.heap.size w W_ → FnOk a1 ga1_ W_) (h : impl_Cred_26.f k l0 a1 = some r) :
  Calls Try.prog 26 #[.slice A0 l0.length c0, .func (.func 27) #[] #[.pointer (some ⟨ga1_, 0, none⟩)]] w fun e w' => e = .returned (.bool r) ∧ Below w.heap.size w w' := by
 have HR0 := aa_ hr0
 have HC0 := aa_ hc0
 clear hr0 hc0
 have HFN1 := aa_ hq1
 clear hq1
 have HB := aa_ (Below.refl w.heap.size w)
 have H : ((impl_Cred_44.f k l0 a1).bind fun t484 => (some (decide (t484 ≥ 0)))) = some r := h
 clear h
 obtain ⟨t484, A3, H⟩ := bindE_ H
 obtain rfl := Option.some.inj H
 go_enter Try.func26, Try.ntmps26
 go_wp2_with (first | ((with_reducible refine gC_ 44 rfl ?_); refine goesC_ (some 7) Try.func44 #[.slice A0 l0.length c0, .func (.func 27) #[] #[.pointer (some ⟨ga1_, 0, none⟩)]] ?_; (with_reducible refine (impl_Cred_44.calls k _ _ l0 a1 ga1_ t484 _ ?side1 ?side2 ?side3 A3.out).mono ?_); (case side1 => exact cc_ HR0); (case side2 => exact HC0.out); (case side3 => exact fun W_ hW_ => HFN1.out W_ ((show Below w.heap.size w _ from bl_).trans hW_)); rintro e w4 ⟨rfl, hb⟩; refine ⟨_, rfl, ?_⟩; replace HB := hbs_ hb; clear hb))
 go_ret
 exact ⟨eq_, bl_⟩
-- NOT PRINTED: function 27 (impl_Sound_1)
def impl_Sound.l0 : Nat → List (S51) → Int → Int → List (S107) → Int → List Int → List (S61) → List (S61) → List (S51) → List (S57) → List Int → Option (Bool)
 | 0, _, _, _, _, _, _, _, _, _, _, _ => none
 | k + 1, x14, x15, x16, x486000, x486001, x486002, x486003, x486004, x486005, x486006, x486007 => if x16 < x15 then (if 0 ≤ x16 then (if x16 < (x14.length : Int) then ((impl_CredsIn.f k ((rd_T51 x14 x16).f1)).bind fun t488 => (if x16 < (x486006.length : Int) then ((impl_leastUntil.f k t488).bind fun t493 => ((impl_AnswerOk.f k ((rd_T51 x14 x16).f0) ((rd_T51 x14 x16).f1) ((rd_T51 x14 x16).f2) ((rd_T51 x14 x16).f3) ((rd_T51 x14 x16).f4) ((rd_T57 x486006 x16).f0.f0) ((rd_T57 x486006 x16).f0.f1) ((rd_T57 x486006 x16).f1) t493).bind fun t494 => (if t494 = true then ((impl_Cred_26.f k t488 (fnHas x486003)).bind fun t495 => (if t495 = true then (some false) else (impl_Sound.l0 k x14 x15 (wrap64 (x16 + 1)) x486000 x486001 x486002 x486003 x486004 x486005 x486006 x486007))) else (some false)))) else (none))) else (none)) else (none)) else (some true)
def impl_Sound.f (k : Nat) (l0_0 : List (S107)) (a0_1 : Int) (l0_2 : List Int) (l0_3 : List (S61)) (l0_4 : List (S61)) (l0_5 : List (S51)) (l0_6 : List (S57)) (l0_7 : List Int) : Option (Bool) := if (l0_6.length : Int) = (l0_5.length : Int) then (impl_Sound.l0 k l0_5 (l0_5.length : Int) 0 l0_0 a0_1 l0_2 l0_3 l0_4 l0_5 l0_6 l0_7) else (some false)
def impl_Sound.T7 : Bool × List (List Nat × List Nat) := (true, [([], []), ([], []), ([1], [1]), ([], []), ([2, 3], [2, 3]), ([4], [4]), ([5], [5]), ([], []), ([7], [7]), ([], []), ([8, 9], [8, 9]), ([10], [10]), ([11], [11]), ([], []), ([13], [13]), ([0, 6, 12, 14, 14], [0, 6, 12, 14]), ([15], [15])])
def impl_Sound.B7 : List Nat := [0, 0, 2, 0, 14, 30, 62, 0, 128, 0, 896, 1920, 3968, 0, 8192, 32767, 65535]
theorem impl_Sound.tab7 : rtab .any (opsOf Try.f7 7) = impl_Sound.T7 := by kernel_rfl
theorem impl_Sound.bits7 : waitsOk impl_Sound.T7.2 impl_Sound.B7 = true := by kernel_rfl
set_option maxHeartbeats 8000000 in
set_option maxRecDepth 100000 in
theorem impl_Sound.calls (k : Nat) (A0_0 : Option Addr) (c0_0 : Nat) (l0_0 : List (S107)) (a0_1 : Int) (A0_2 : Option Addr) (c0_2 : Nat) (l0_2 : List Int) (A0_3 : Option Addr) (c0_3 : Nat) (l0_3 : List (S61)) (A0_4 : Option Addr) (c0_4 : Nat) (l0_4 : List (S61)) (A0_5 : Option Addr) (c0_5 : Nat) (l0_5 : List (S51)) (A0_6 : Option Addr) (c0_6 : Nat) (l0_6 : List (S57)) (A0_7 : Option Addr) (c0_7 : Nat) (l0_7 : List Int) (r : Bool) (w : World) (hr0_0 : Kd.C k107 w A0_0 l0_0.length l0_0) (hc0_0 : l0_0.length ≤ c0_0) (hr0_2 : Kd.C (Kd.int .i64) w A0_2 l0_2.length l0_2) (hc0_2 : l0_2.length ≤ c0_2) (hr0_3 : Kd.C k61 w A0_3 l0_3.length l0_3) (hc0_3 : l0_3.length ≤ c0_3) (hr0_4 : Kd.C k61 w A0_4 l0_4.length l0_4) (hc0_4 : l0_4.length ≤ c0_4) (hr0_5 : Kd.C k51 w A0_5 l0_5.length l0_5) (hc0_5 : l0_5.length ≤ c0_5) (hr0_6 : Kd.C k57 w A0_6 l0_6.length l0_6) (hc0_6 : l0_6.length ≤ c0_6) (hr0_7 : Kd.C (Kd.int .i64) w A0_7 l0_7.length l0_7) (hc0_7 : l0_7.length ≤ c0_7) (h : impl_Sound.f k l0_0 a0_1 l0_2 l0_3 l0_4 l0_5 l0_6 l0_7 = some r) :
  Calls Try.prog 7 #[.agg #[.slice A0_0 l0_0.length c0_0, .int .i64 a0_1, .slice A0_2 l0_2.length c0_2, .slice A0_3 l0_3.length c0_3, .slice A0_4 l0_4.length c0_4, .slice A0_5 l0_5.length c0_5, .slice A0_6 l0_6.length c0_6, .slice A0_7 l0_7.length c0_7]] w fun e w' => e = .returned (.bool r) ∧ Below w.heap.size w w' := by
 have hu40 := Try.underlying40
 have hu51 := Try.underlying51
 have hu55 := Try.underlying55
 have hmf : ∀ (fn : Fn) (first cap : Array Value) (w : World), (Instr.makeFunc fn first cap).run Try.prog w = .ok (.func fn first cap) w := fun _ _ _ _ => rfl
 have HR0_0 := aa_ hr0_0
 have HC0_0 := aa_ hc0_0
 clear hr0_0 hc0_0
 have HR0_2 := aa_ hr0_2
 have HC0_2 := aa_ hc0_2
 clear hr0_2 hc0_2
 have HR0_3 := aa_ hr0_3
 have HC0_3 := aa_ hc0_3
 clear hr0_3 hc0_3
 have HR0_4 := aa_ hr0_4
 have HC0_4 := aa_ hc0_4
 clear hr0_4 hc0_4
 have HR0_5 := aa_ hr0_5
 have HC0_5 := aa_ hc0_5
 clear hr0_5 hc0_5
 have HR0_6 := aa_ hr0_6
 have HC0_6 := aa_ hc0_6
 clear hr0_6 hc0_6
 have HR0_7 := aa_ hr0_7
 have HC0_7 := aa_ hc0_7
 clear hr0_7 hc0_7
 have HB := aa_ (Below.refl w.heap.size w)
 have H : (if (l0_6.length : Int) = (l0_5.length : Int) then (impl_Sound.l0 k l0_5 (l0_5.length : Int) 0 l0_0 a0_1 l0_2 l0_3 l0_4 l0_5 l0_6 l0_7) else (some false)) = some r := h
 clear h
 have HC2 := aa_ H
 clear H
 go_enter Try.func7, Try.ntmps7
 go_upto_if 12 with (first | ((with_reducible refine gD_ 1 rfl ?_); refine bx_ (N := 1) (cs := #[.slice A0_0 l0_0.length c0_0, .int .i64 a0_1, .slice A0_2 l0_2.length c0_2, .slice A0_3 l0_3.length c0_3, .slice A0_4 l0_4.length c0_4, .slice A0_5 l0_5.length c0_5, .slice A0_6 l0_6.length c0_6, .slice A0_7 l0_7.length c0_7]) (t := 40) ?_; intro gb485 hg w3 hbox hb; have BK485 := aa_ (hbox); have GW485 := gs_ hg; have GE485 := gs_ hg; replace HB := hbs_ hb; clear hb hbox hg; obtain ⟨hcz4, hfz4⟩ := bcf_ BK485))
 (try simp only [Act.put, List.setIfInBounds_toArray, List.set_cons_zero, List.set_cons_succ])
 have H := HC2.out
 clear HC2
 by_cases c5 : (l0_6.length : Int) = (l0_5.length : Int)
 ·rw [if_pos c5] at H
  have c5b0 : ((l0_6.length : Int) == (l0_5.length : Int)) = true := beq_iff_eq.mpr c5
  have c5b1 : ((l0_6.length : Int) != (l0_5.length : Int)) = false := bne_eq_false_iff_eq.mpr c5
  have c5b2 : (l0_6.length == l0_5.length) = true := by first | simpa using c5 | (simp at c5 ⊢; omega)
  clear c5
  (first | rw [c5b1] | rw [c5b0] | (simp only [i64_w, i32_w]; rw [c5b0]) | (have cz_ := c5b0; simp only [Int.ofNat_lt, Int.ofNat_le, gt_iff_lt, ge_iff_le] at cz_; rw [cz_]; clear cz_) | skip)
  have H' := aa_ H
  clear H
  have hcz6 := blk_cell BK485.out
  have hfz6 := blk_frozen BK485.out
  go_wp2
  go_loopg [16] k (fun kq v16 w' => ∃ (x16_1 : Int), v16 = .int .i64 x16_1 ∧ Aside0 (impl_Sound.l0 kq l0_5 (l0_5.length : Int) x16_1 l0_0 a0_1 l0_2 l0_3 l0_4 l0_5 l0_6 l0_7 = some r) ∧ Aside0 (kq ≤ k) ∧ Aside0 (w'.heap[gb485]? = some (.cells #[(.slice A0_0 l0_0.length c0_0), .int .i64 a0_1, (.slice A0_2 l0_2.length c0_2), (.slice A0_3 l0_3.length c0_3), (.slice A0_4 l0_4.length c0_4), (.slice A0_5 l0_5.length c0_5), (.slice A0_6 l0_6.length c0_6), (.slice A0_7 l0_7.length c0_7)] 40 (0, 0))) ∧ Aside0 (Below w.heap.size w w'))
  case atStart => exact ⟨(0), rf_, H', ⟨Nat.le_refl _⟩, ⟨bk_ BK485⟩, ⟨bl_⟩⟩
  case round =>
   clear H'
   try clear p2
   try clear c5
   try clear c5b0
   try clear c5b1
   try clear c5b2
   try clear hcz4
   try clear hcz6
   try clear hfz4
   try clear hfz6
   obtain ⟨x16_1, rfl, HA, HK1, BK485, HB⟩ := hrel
   cases gk with
   | zero => exact absurd HA.out (by simp [impl_Sound.l0])
   | succ k1 =>
    have H := HA.out
    clear HA
    simp only [impl_Sound.l0] at H
    by_cases c7 : x16_1 < (l0_5.length : Int)
    ·rw [if_pos c7] at H
     have c7b0 : decide (x16_1 < (l0_5.length : Int)) = true := decide_eq_true c7
     clear c7
     obtain ⟨c8b0, H⟩ := ifd_ H
     obtain ⟨c9b0, H⟩ := ifd_ H
     obtain ⟨t488, A10, H⟩ := bindE_ H
     obtain ⟨c11b0, H⟩ := ifd_ H
     obtain ⟨t493, A12, H⟩ := bindE_ H
     obtain ⟨t494, A13, H⟩ := bindE_ H
     have HC14 := aa_ H
     clear H
     have p486 : 0 ≤ (x16_1 : Int) := od_
     have q486 : x16_1 < (l0_5.length : Int) := od_
     obtain ⟨ad486, A486_1, c486_1, e486, hx486_0, hx486_1, hx486_2, hx486_3, hx486_4, hl486_1, hi486_1⟩ := at_T51 HR0_5.out x16_1 p486 q486
     cases e486
     replace hx486_0 := cb_ HB hx486_0
     replace hx486_1 := cb_ HB hx486_1
     replace hx486_2 := cb_ HB hx486_2
     replace hx486_3 := cb_ HB hx486_3
     replace hx486_4 := cb_ HB hx486_4
     have HR486_1 := aa_ hi486_1
     have HC486_1 := aa_ hl486_1
     clear hi486_1 hl486_1
     replace p486 := eq_true p486
     replace q486 := eq_true q486
     try go_wp2_with (first | ((with_reducible refine gD_ 4 rfl ?_); refine bx_ (N := 4) (cs := #[.bool false, .slice none 0 0, .int .i64 0, .bool false, .bool false]) (t := 51) ?_; intro gb487 hg w15 hbox hb; have BK487 := aa_ (hbox); have GW487 := gs_ hg; have GE487 := gs_ hg; replace HB := hbs_ hb; have NB485_487 := nl_ hg BK485; have NB487_485 := nr_ hg BK485; replace BK485 := bkb_ BK485 hb; clear hb hbox hg; have hnb16 := NB487_485.out; have hnc16 := NB485_487.out; obtain ⟨hcz17, hfz17⟩ := bcf_ BK487) | ((with_reducible refine gC_ 23 rfl ?_); refine goesC_ (some 23) Try.func23 #[.slice A486_1 ((rd_T51 l0_5 x16_1).f1).length c486_1] ?_; (with_reducible refine (impl_CredsIn.calls k1 _ _ ((rd_T51 l0_5 x16_1).f1) t488 _ ?side1 ?side2 A10.out).mono ?_); (case side1 => exact Kd.C_below HR486_1.out bl_); (case side2 => exact HC486_1.out); rintro e w18 ⟨v489, rfl, ho0, hb⟩; refine ⟨_, rfl, ?_⟩; have HO490 := aa_ (Kd.R_lower ho0 bls_); replace BK485 := aa_ (blk_below (g := gb485) (o := .cells #[.slice A0_0 l0_0.length c0_0, .int .i64 a0_1, .slice A0_2 l0_2.length c0_2, .slice A0_3 l0_3.length c0_3, .slice A0_4 l0_4.length c0_4, .slice (some ad486) l0_5.length c0_5, .slice A0_6 l0_6.length c0_6, .slice A0_7 l0_7.length c0_7] 40 (0, 0)) (bk_ BK485) hb); replace BK487 := aa_ (blk_below (g := gb487) (o := .cells #[.bool ((rd_T51 l0_5 x16_1).f0), .slice A486_1 ((rd_T51 l0_5 x16_1).f1).length c486_1, .int .i64 ((rd_T51 l0_5 x16_1).f2), .bool ((rd_T51 l0_5 x16_1).f3), .bool ((rd_T51 l0_5 x16_1).f4)] 51 (0, 0)) (bk_ BK487) hb); replace HB := hbs_ hb; (try clear hb ho0)))
     replace HO490 := aa_ (Kd.R_drew HO490.out)
     replace BK485 := aa_ (blk_drew BK485.out)
     replace BK487 := aa_ (blk_drew BK487.out)
     replace HB := aa_ (below_drew1 HB.out)
     have p491 : 0 ≤ (x16_1 : Int) := od_
     have q491 : x16_1 < (l0_6.length : Int) := od_
     obtain ⟨ad491, e491, hx491_0, hx491_1, hx491_2⟩ := at_T57 HR0_6.out x16_1 p491 q491
     have hw491_2 := hx491_2
     have hw491_1 := hx491_1
     have hw491_0 := hx491_0
     cases e491
     replace hx491_0 := cb_ HB hx491_0
     replace hx491_1 := cb_ HB hx491_1
     replace hx491_2 := cb_ HB hx491_2
     replace p491 := eq_true p491
     replace q491 := eq_true q491
     have p492 : 0 ≤ (x16_1 : Int) := od_
     have q492 : x16_1 < (l0_6.length : Int) := od_
     obtain ⟨ad492, e492, hx492_0, hx492_1, hx492_2⟩ := at_T57 HR0_6.out x16_1 p492 q492
     have hw492_2 := hx492_2
     have hw492_1 := hx492_1
     have hw492_0 := hx492_0
     obtain rfl : ad491 = ad492 := (by injection e492)
     replace hx492_0 := cb_ HB hx492_0
     replace hx492_1 := cb_ HB hx492_1
     replace hx492_2 := cb_ HB hx492_2
     replace p492 := eq_true p492
     replace q492 := eq_true q492
     obtain ⟨Ao20, co20, eo20⟩ := Kd.R_slice HO490.out
     (first | subst eo20 | (injection eo20 with f1_ f2_ f3_; have f4_ := f1_.symm; have f5_ := f3_.symm; clear f1_ f2_ f3_; subst f4_; subst f5_))
     refine start_ (n := 17) (S := fun w' => w'.cell? ⟨gb487, 0, none⟩ = some (.bool ((rd_T51 l0_5 x16_1).f0)) ∧ w'.cell? ⟨gb487, 1, none⟩ = some (.slice A486_1 ((rd_T51 l0_5 x16_1).f1).length c486_1) ∧ w'.cell? ⟨gb487, 2, none⟩ = some (.int .i64 ((rd_T51 l0_5 x16_1).f2)) ∧ w'.cell? ⟨gb487, 3, none⟩ = some (.bool ((rd_T51 l0_5 x16_1).f3)) ∧ w'.cell? ⟨gb487, 4, none⟩ = some (.bool ((rd_T51 l0_5 x16_1).f4)) ∧ w'.cell? ⟨gb485, 0, none⟩ = some (.slice A0_0 l0_0.length c0_0) ∧ w'.cell? ⟨gb485, 1, none⟩ = some (.int .i64 a0_1) ∧ w'.cell? ⟨gb485, 2, none⟩ = some (.slice A0_2 l0_2.length c0_2) ∧ w'.cell? ⟨gb485, 3, none⟩ = some (.slice A0_3 l0_3.length c0_3) ∧ w'.cell? ⟨gb485, 4, none⟩ = some (.slice A0_4 l0_4.length c0_4) ∧ w'.cell? ⟨gb485, 5, none⟩ = some (.slice (some ad486) l0_5.length c0_5) ∧ w'.cell? ⟨gb485, 6, none⟩ = some (.slice (some ad491) l0_6.length c0_6) ∧ w'.cell? ⟨gb485, 7, none⟩ = some (.slice A0_7 l0_7.length c0_7) ∧ w'.cell? (ad491.add ((x16_1).toNat * 3)) = some (.int .i64 ((rd_T57 l0_6 x16_1).f0.f0)) ∧ w'.cell? ⟨(ad491.add ((x16_1).toNat * 3)).block, (ad491.add ((x16_1).toNat * 3)).off + 1, none⟩ = some (.int .i64 ((rd_T57 l0_6 x16_1).f0.f1)) ∧ w'.cell? ⟨(ad491.add ((x16_1).toNat * 3)).block, (ad491.add ((x16_1).toNat * 3)).off + 2, none⟩ = some (.int .i64 ((rd_T57 l0_6 x16_1).f1)) ∧ w'.cell? (ad491.add ((x16_1).toNat * 3)) = some (.int .i64 ((rd_T57 l0_6 x16_1).f0.f0)) ∧ w'.cell? ⟨(ad491.add ((x16_1).toNat * 3)).block, (ad491.add ((x16_1).toNat * 3)).off + 1, none⟩ = some (.int .i64 ((rd_T57 l0_6 x16_1).f0.f1)) ∧ w'.cell? ⟨(ad491.add ((x16_1).toNat * 3)).block, (ad491.add ((x16_1).toNat * 3)).off + 2, none⟩ = some (.int .i64 ((rd_T57 l0_6 x16_1).f1))) (ds := []) (ba_ 17 0) (by kernel_rfl) rfl rfl ⟨(blk_cell BK487.out 0).trans rfl, (blk_cell BK487.out 1).trans rfl, (blk_cell BK487.out 2).trans rfl, (blk_cell BK487.out 3).trans rfl, (blk_cell BK487.out 4).trans rfl, (blk_cell BK485.out 0).trans rfl, (blk_cell BK485.out 1).trans rfl, (blk_cell BK485.out 2).trans rfl, (blk_cell BK485.out 3).trans rfl, (blk_cell BK485.out 4).trans rfl, (blk_cell BK485.out 5).trans rfl, (blk_cell BK485.out 6).trans rfl, (blk_cell BK485.out 7).trans rfl, (cb_ HB hw491_0 :), (cb_ HB hw491_1 :), (cb_ HB hw491_2 :), (cb_ HB hw492_0 :), (cb_ HB hw492_1 :), (cb_ HB hw492_2 :)⟩ (fun hHeld => ?_); refine with_tabW impl_Sound.tab7 impl_Sound.bits7 (fun HT_ HW_ => ?_)
     generalize w18.drew = w19 at HO490 BK485 BK487 HB hx491_0 hx491_1 hx491_2 hx492_0 hx492_1 hx492_2 hHeld ⊢
     refine pureZ_ (i := 1) (some 25) (ba_ 17 2) (ao_ HT_) ?_
     refine pureZ_ (i := 3) (some 27) (ba_ 17 10) (ao_ HT_) ?_
     refine pureZ_ (i := 7) (some 31) (ba_ 17 138) (ao_ HT_) ?_
     refine pureZ_ (i := 9) (some 33) (ba_ 17 650) (ao_ HT_) ?_
     refine pureZ_ (i := 13) (some 37) (ba_ 17 8842) (ao_ HT_) ?_
     refine takeZ_ (i := 0) (some 24) (ba_ 17 8843) (take_ofW HT_.out HW_.out (by kernel_rfl)) hHeld ?_
     refine takeZ_ (i := 2) (some 26) (ba_ 17 8847) (take_ofW HT_.out HW_.out (by kernel_rfl)) hHeld ?_
     refine pureZ_ (i := 4) (some 28) (ba_ 17 8863) (ao_ HT_) ?_
     refine pureZ_ (i := 5) (some 29) (ba_ 17 8895) (ao_ HT_) ?_
     refine takeZ_ (i := 6) (some 30) (ba_ 17 8959) (take_ofW HT_.out HW_.out (by kernel_rfl)) hHeld ?_
     refine takeZ_ (i := 8) (some 32) (ba_ 17 9215) (take_ofW HT_.out HW_.out (by kernel_rfl)) hHeld ?_
     refine pureZ_ (i := 10) (some 34) (ba_ 17 10239) (ao_ HT_) ?_
     refine pureZ_ (i := 11) (some 35) (ba_ 17 12287) (ao_ HT_) ?_
     refine takeZ_ (i := 12) (some 36) (ba_ 17 16383) (take_ofW HT_.out HW_.out (by kernel_rfl)) hHeld ?_
     refine one_ (i := 14) (N := some 38) (ba_ 17 32767) rfl rfl (one_of HT_.out (by kernel_rfl)) (by decide) (fun K hK => ?_)
     refine goes_ Try.func25 (by kernel_rfl) rfl #[.slice Ao20 t488.length co20] (by rfl) rfl rfl (by (try simp only [List.map_toArray, List.map_cons, List.map_nil]); first | done | rfl | (simp only [List.length_drop, List.length_take]; rfl)) ?_
     with_reducible refine (impl_leastUntil.calls k1 _ _ t488 t493 _ ?side1 ?side2 A12.out).mono ?_
     (case side1 => repeat (first | exact (Kd.R_reads' HO490.out).2.2 | (with_reducible refine Kd.C_alloc ?_ _) | (with_reducible refine Kd.C_drewN ?_ _) | (with_reducible refine Kd.C_drew ?_)))
     (case side2 => exact (Kd.R_reads' HO490.out).2.1)
     rintro e w21 ⟨rfl, hb⟩
     refine ⟨_, rfl, ?_⟩
     replace HO490 := hob_ HO490 hb
     replace BK485 := bkb_ BK485 hb
     replace BK487 := bkb_ BK487 hb
     replace HB := hbs_ hb
     (try clear hb)
     (try clear hb2)
     (try clear hk)
     (try clear hi)
     refine hK.out _ _ ⟨(blk_cell BK487.out 0).trans rfl, (blk_cell BK487.out 1).trans rfl, (blk_cell BK487.out 2).trans rfl, (blk_cell BK487.out 3).trans rfl, (blk_cell BK487.out 4).trans rfl, (blk_cell BK485.out 0).trans rfl, (blk_cell BK485.out 1).trans rfl, (blk_cell BK485.out 2).trans rfl, (blk_cell BK485.out 3).trans rfl, (blk_cell BK485.out 4).trans rfl, (blk_cell BK485.out 5).trans rfl, (blk_cell BK485.out 6).trans rfl, (blk_cell BK485.out 7).trans rfl, (cb_ HB hw491_0 :), (cb_ HB hw491_1 :), (cb_ HB hw491_2 :), (cb_ HB hw492_0 :), (cb_ HB hw492_1 :), (cb_ HB hw492_2 :)⟩ (fun hHeld => ?_)
     clear hK K
     refine norm_ (a' := ?_) ?_ ?_
     rotate_left
     ·show Act.put _ (some 38) _ = _
      simp only [Act.put, List.setIfInBounds_toArray, List.set_cons_zero, List.set_cons_succ, i64_w, i32_w]
      rfl
     refine one_ (i := 15) (N := some 39) (ba_ 17 65535) rfl rfl (one_of HT_.out (by kernel_rfl)) (by decide) (fun K hK => ?_)
     refine goes_ Try.func24 (by kernel_rfl) rfl #[.agg #[.bool ((rd_T51 l0_5 x16_1).f0), .slice A486_1 ((rd_T51 l0_5 x16_1).f1).length c486_1, .int .i64 ((rd_T51 l0_5 x16_1).f2), .bool ((rd_T51 l0_5 x16_1).f3), .bool ((rd_T51 l0_5 x16_1).f4)], .agg #[.int .i64 ((rd_T57 l0_6 x16_1).f0.f0), .int .i64 ((rd_T57 l0_6 x16_1).f0.f1)], .int .i64 ((rd_T57 l0_6 x16_1).f1), .int .i64 t493] (by rfl) rfl rfl (by (try simp only [List.map_toArray, List.map_cons, List.map_nil]); first | done | rfl | (simp only [List.length_drop, List.length_take]; rfl)) ?_
     with_reducible refine (impl_AnswerOk.calls k1 ((rd_T51 l0_5 x16_1).f0) _ _ ((rd_T51 l0_5 x16_1).f1) ((rd_T51 l0_5 x16_1).f2) ((rd_T51 l0_5 x16_1).f3) ((rd_T51 l0_5 x16_1).f4) ((rd_T57 l0_6 x16_1).f0.f0) ((rd_T57 l0_6 x16_1).f0.f1) ((rd_T57 l0_6 x16_1).f1) t493 t494 _ ?side1 ?side2 A13.out).mono ?_
     (case side1 => repeat (first | exact (Kd.C_below HR486_1.out HB.out) | (with_reducible refine Kd.C_alloc ?_ _) | (with_reducible refine Kd.C_drewN ?_ _) | (with_reducible refine Kd.C_drew ?_)))
     (case side2 => exact HC486_1.out)
     rintro e w22 ⟨rfl, hb⟩
     refine ⟨_, rfl, ?_⟩
     replace HO490 := hob_ HO490 hb
     replace BK485 := bkb_ BK485 hb
     replace BK487 := bkb_ BK487 hb
     replace HB := hbs_ hb
     (try clear hb)
     (try clear hb2)
     (try clear hk)
     (try clear hi)
     refine hK.out _ _ ⟨(blk_cell BK487.out 0).trans rfl, (blk_cell BK487.out 1).trans rfl, (blk_cell BK487.out 2).trans rfl, (blk_cell BK487.out 3).trans rfl, (blk_cell BK487.out 4).trans rfl, (blk_cell BK485.out 0).trans rfl, (blk_cell BK485.out 1).trans rfl, (blk_cell BK485.out 2).trans rfl, (blk_cell BK485.out 3).trans rfl, (blk_cell BK485.out 4).trans rfl, (blk_cell BK485.out 5).trans rfl, (blk_cell BK485.out 6).trans rfl, (blk_cell BK485.out 7).trans rfl, (cb_ HB hw491_0 :), (cb_ HB hw491_1 :), (cb_ HB hw491_2 :), (cb_ HB hw492_0 :), (cb_ HB hw492_1 :), (cb_ HB hw492_2 :)⟩ (fun hHeld => ?_)
     clear hK K
     refine norm_ (a' := ?_) ?_ ?_
     rotate_left
     ·show Act.put _ (some 39) _ = _
      simp only [Act.put, List.setIfInBounds_toArray, List.set_cons_zero, List.set_cons_succ, i64_w, i32_w]
      rfl
     refine pureZ_ (i := 16) (some 40) (ba_ 17 131071) (ao_ HT_) ?_
     refine done_ (done_of HT_.out (by kernel_rfl)) ?_
     go_upto_if 40 with (fail)
     have H := HC14.out
     clear HC14
     by_cases c23 : t494 = true
     ·subst c23
      replace H := ite_t_ H
      obtain ⟨t495, A24, H⟩ := bindE_ H
      have HC25 := aa_ H
      clear H
      go_upto_if 43 with (first | ((with_reducible refine gC_ 26 rfl ?_); refine goesC_ (some 43) Try.func26 #[.slice Ao20 t488.length co20, .func (.func 27) #[] #[.pointer (some ⟨gb485, 0, none⟩)]] ?_; (with_reducible refine (impl_Cred_26.calls k1 _ _ t488 (fnHas l0_3) gb485 t495 _ ?side1 ?side2 ?side3 A24.out).mono ?_); (case side1 => repeat (first | exact (Kd.R_reads' HO490.out).2.2 | (with_reducible refine Kd.C_alloc ?_ _) | (with_reducible refine Kd.C_drewN ?_ _) | (with_reducible refine Kd.C_drew ?_))); (case side2 => exact (Kd.R_reads' HO490.out).2.1); (case side3 => exact fun W_ hW_ => fnHas_ok _ _ (bkb_ BK485 hW_).out rfl (Kd.C_below HR0_3.out (hbs_ hW_).out) HC0_3.out); rintro e w26 ⟨rfl, hb⟩; refine ⟨_, rfl, ?_⟩; replace HO490 := hob_ HO490 hb; replace BK485 := bkb_ BK485 hb; replace BK487 := bkb_ BK487 hb; replace HB := hbs_ hb; clear hb))
      (try simp only [Act.put, List.setIfInBounds_toArray, List.set_cons_zero, List.set_cons_succ])
      have H := HC25.out
      clear HC25
      by_cases c27 : t495 = true
      ·subst c27
       replace H := ite_t_ H
       obtain rfl := Option.some.inj H
       go_wp2
       go_ret
       exact ⟨eq_, bl_⟩
      ·replace c27 := Bool.eq_false_iff.mpr c27
       subst c27
       replace H := ite_f_ H
       have H' := aa_ H
       clear H
       go_wp2
       go_roundg k1
       case measure => have := HK1.out; omega
       case rel => exact ⟨(wrap64 (x16_1 + 1)), rf_, H', ⟨by have := HK1.out; omega⟩, ⟨bk_ BK485⟩, ⟨bl_⟩⟩
     ·replace c23 := Bool.eq_false_iff.mpr c23
      subst c23
      replace H := ite_f_ H
      obtain rfl := Option.some.inj H
      go_wp2
      go_ret
      exact ⟨eq_, bl_⟩
    ·rw [if_neg c7] at H
     have c7b0 : decide (x16_1 < (l0_5.length : Int)) = false := decide_eq_false c7
     clear c7
     obtain rfl := Option.some.inj H
     go_wp2
     go_ret
     exact ⟨eq_, bl_⟩
 ·rw [if_neg c5] at H
  have c5b0 : ((l0_6.length : Int) == (l0_5.length : Int)) = false := beq_eq_false_iff_ne.mpr c5
  have c5b1 : ((l0_6.length : Int) != (l0_5.length : Int)) = true := bne_iff_ne.mpr c5
  have c5b2 : (l0_6.length == l0_5.length) = false := by first | simpa using c5 | (simp at c5 ⊢; omega)
  (first | rw [c5b1] | rw [c5b0] | (simp only [i64_w, i32_w]; rw [c5b0]) | (have cz_ := c5b0; simp only [Int.ofNat_lt, Int.ofNat_le, gt_iff_lt, ge_iff_le] at cz_; rw [cz_]; clear cz_) | skip)
  obtain rfl := Option.some.inj H
  go_wp2
  go_ret
  exact ⟨eq_, bl_⟩
def laws_eqIntS.l0 : Nat → List Int → List Int → Int → Option (Bool)
 | 0, _, _, _ => none
 | k + 1, x0, x1, x5 => if x5 < (x0.length : Int) then (if 0 ≤ x5 then (if x5 < (x1.length : Int) then (if (rd x0 x5) = (rd x1 x5) then (laws_eqIntS.l0 k x0 x1 (wrap64 (x5 + 1))) else (some false)) else (none)) else (none)) else (some true)
def laws_eqIntS.f (k : Nat) (l0 : List Int) (l1 : List Int) : Option (Bool) := if (l0.length : Int) = (l1.length : Int) then (laws_eqIntS.l0 k l0 l1 0) else (some false)
set_option maxHeartbeats 8000000 in
set_option maxRecDepth 100000 in
theorem laws_eqIntS.calls (k : Nat) (A0 : Option Addr) (c0 : Nat) (l0 : List Int) (A1 : Option Addr) (c1 : Nat) (l1 : List Int) (r : Bool) (w : World) (hr0 : Kd.C (Kd.int .i64) w A0 l0.length l0) (hc0 : l0.length ≤ c0) (hr1 : Kd.C (Kd.int .i64) w A1 l1.length l1) (hc1 : l1.length ≤ c1) (h : laws_eqIntS.f k l0 l1 = some r) :
  Calls Try.prog 30 #[.slice A0 l0.length c0, .slice A1 l1.length c1] w fun e w' => e = .returned (.bool r) ∧ Drawn0 w w' := by
 have HR0 := aa_ hr0
 have HC0 := aa_ hc0
 clear hr0 hc0
 have HR1 := aa_ hr1
 have HC1 := aa_ hc1
 clear hr1 hc1
 have H : (if (l0.length : Int) = (l1.length : Int) then (laws_eqIntS.l0 k l0 l1 0) else (some false)) = some r := h
 clear h
 by_cases c3 : (l0.length : Int) = (l1.length : Int)
 ·rw [if_pos c3] at H
  have c3b0 : ((l0.length : Int) == (l1.length : Int)) = true := beq_iff_eq.mpr c3
  have c3b1 : ((l0.length : Int) != (l1.length : Int)) = false := bne_eq_false_iff_eq.mpr c3
  have c3b2 : (l0.length == l1.length) = true := by first | simpa using c3 | (simp at c3 ⊢; omega)
  clear c3
  have H' := aa_ H
  clear H
  go_enter Try.func30, Try.ntmps30
  go_wp2
  repeat (go_quiet (fail); try go_wp2)
  go_loopg [5] k (fun kq v5 w' => ∃ (x5_1 : Int), v5 = .int .i64 x5_1 ∧ Aside0 (laws_eqIntS.l0 kq l0 l1 x5_1 = some r) ∧ Aside0 (kq ≤ k) ∧ Drawn0 w w')
  case atStart => exact ⟨(0), rf_, H', ⟨Nat.le_refl _⟩, by repeat (first | exact Drawn0.refl _ | apply Drawn0.step)⟩
  case round =>
   clear H'
   try clear c1
   try clear p2
   try clear c3
   try clear c3b0
   try clear c3b1
   try clear c3b2
   obtain ⟨x5_1, rfl, HA, HK1, ⟨m1, rfl⟩⟩ := hrel
   cases gk with
   | zero => exact absurd HA.out (by simp [laws_eqIntS.l0])
   | succ k1 =>
    have H := HA.out
    clear HA
    simp only [laws_eqIntS.l0] at H
    by_cases c4 : x5_1 < (l0.length : Int)
    ·rw [if_pos c4] at H
     have c4b0 : decide (x5_1 < (l0.length : Int)) = true := decide_eq_true c4
     clear c4
     obtain ⟨c5b0, H⟩ := ifd_ H
     obtain ⟨c6b0, H⟩ := ifd_ H
     have HC7 := aa_ H
     clear H
     have p496 : 0 ≤ (x5_1 : Int) := od_
     have q496 : x5_1 < (l0.length : Int) := od_
     obtain ⟨ad496, e496, hx496_0⟩ := Kd.at_int HR0.out x5_1 p496 q496
     cases e496
     replace p496 := eq_true p496
     replace q496 := eq_true q496
     have p497 : 0 ≤ (x5_1 : Int) := od_
     have q497 : x5_1 < (l1.length : Int) := od_
     obtain ⟨ad497, e497, hx497_0⟩ := Kd.at_int HR1.out x5_1 p497 q497
     cases e497
     replace p497 := eq_true p497
     replace q497 := eq_true q497
     go_upto_if 25 with (fail)
     repeat (go_quiet (fail); go_upto_if 25 with (fail))
     have H := HC7.out
     clear HC7
     by_cases c8 : (rd l0 x5_1) = (rd l1 x5_1)
     ·rw [if_pos c8] at H
      have c8b0 : ((rd l0 x5_1) == (rd l1 x5_1)) = true := beq_iff_eq.mpr c8
      have c8b1 : ((rd l0 x5_1) != (rd l1 x5_1)) = false := bne_eq_false_iff_eq.mpr c8
      clear c8
      (first | rw [c8b0] | (simp only [i64_w, i32_w]; rw [c8b0]) | skip)
      have H' := aa_ H
      clear H
      go_wp2
      repeat (go_quiet (fail); try go_wp2)
      go_roundg k1
      case measure => have := HK1.out; omega
      case rel => exact ⟨(wrap64 (x5_1 + 1)), rf_, H', ⟨by have := HK1.out; omega⟩, by repeat (first | exact Drawn0.refl _ | apply Drawn0.step)⟩
     ·rw [if_neg c8] at H
      have c8b0 : ((rd l0 x5_1) == (rd l1 x5_1)) = false := beq_eq_false_iff_ne.mpr c8
      have c8b1 : ((rd l0 x5_1) != (rd l1 x5_1)) = true := bne_iff_ne.mpr c8
      (first | rw [c8b0] | (simp only [i64_w, i32_w]; rw [c8b0]) | skip)
      obtain rfl := Option.some.inj H
      go_wp2
      repeat (go_quiet (fail); try go_wp2)
      go_ret
      exact ⟨by first | rfl | (simp; done) | (simp [*]; done), by repeat (first | exact Drawn0.refl _ | apply Drawn0.step)⟩
    ·rw [if_neg c4] at H
     have c4b0 : decide (x5_1 < (l0.length : Int)) = false := decide_eq_false c4
     clear c4
     obtain rfl := Option.some.inj H
     go_wp2
     repeat (go_quiet (fail); try go_wp2)
     go_ret
     exact ⟨by first | rfl | (simp; done) | (simp [*]; done), by repeat (first | exact Drawn0.refl _ | apply Drawn0.step)⟩
 ·rw [if_neg c3] at H
  have c3b0 : ((l0.length : Int) == (l1.length : Int)) = false := beq_eq_false_iff_ne.mpr c3
  have c3b1 : ((l0.length : Int) != (l1.length : Int)) = true := bne_iff_ne.mpr c3
  have c3b2 : (l0.length == l1.length) = false := by first | simpa using c3 | (simp at c3 ⊢; omega)
  obtain rfl := Option.some.inj H
  go_enter Try.func30, Try.ntmps30
  go_wp2
  repeat (go_quiet (fail); try go_wp2)
  go_ret
  exact ⟨by first | rfl | (simp; done) | (simp [*]; done), by repeat (first | exact Drawn0.refl _ | apply Drawn0.step)⟩
def laws_eqItem.f (a0_0 : ByteArray) (a0_1 : Bool) (a1_0 : ByteArray) (a1_1 : Bool) : Option (Bool) := if a0_0.toList = a1_0.toList then (if (a0_1 != a1_1) = true then (some false) else (some true)) else (some false)
set_option maxHeartbeats 8000000 in
set_option maxRecDepth 100000 in
theorem laws_eqItem.calls (a0_0 : ByteArray) (a0_1 : Bool) (a1_0 : ByteArray) (a1_1 : Bool) (r : Bool) (w : World) (h : laws_eqItem.f a0_0 a0_1 a1_0 a1_1 = some r) :
  Calls Try.prog 83 #[.agg #[.string a0_0, .bool a0_1], .agg #[.string a1_0, .bool a1_1]] w fun e w' => e = .returned (.bool r) ∧ Below w.heap.size w w' := by
 have hu142 := Try.underlying142
 have HB := aa_ (Below.refl w.heap.size w)
 have H : (if a0_0.toList = a1_0.toList then (if (a0_1 != a1_1) = true then (some false) else (some true)) else (some false)) = some r := h
 clear h
 by_cases c3 : a0_0.toList = a1_0.toList
 ·rw [if_pos c3] at H
  have c3b0 : (a0_0.toList == a1_0.toList) = true := beq_iff_eq.mpr c3
  have c3b1 : (a0_0.toList != a1_0.toList) = false := bne_eq_false_iff_eq.mpr c3
  clear c3
  have HC4 := aa_ H
  clear H
  go_enter Try.func83, Try.ntmps83
  go_upto_if 14 with (first | ((with_reducible refine gD_ 2 rfl ?_); refine bx_ (N := 2) (cs := #[.string a0_0, .bool a0_1]) (t := 142) ?_; intro gb498 hg w5 hbox hb; have BK498 := aa_ (hbox); have GW498 := gs_ hg; have GE498 := gs_ hg; replace HB := hbs_ hb; clear hb hbox hg) | ((with_reducible refine gD_ 3 rfl ?_); refine bx_ (N := 3) (cs := #[.string a1_0, .bool a1_1]) (t := 142) ?_; intro gb499 hg w6 hbox hb; have BK499 := aa_ (hbox); have GW499 := gs_ hg; have GE499 := gs_ hg; replace HB := hbs_ hb; have NB498_499 := nl_ hg BK498; have NB499_498 := nr_ hg BK498; replace BK498 := bkb_ BK498 hb; clear hb hbox hg; have hnb7 := NB498_499.out; have hnc7 := NB499_498.out; obtain ⟨hcz8, hfz8⟩ := bcf_ BK498; obtain ⟨hcz9, hfz9⟩ := bcf_ BK499))
  (try simp only [Act.put, List.setIfInBounds_toArray, List.set_cons_zero, List.set_cons_succ])
  have H := HC4.out
  clear HC4
  by_cases c10 : (a0_1 != a1_1) = true
  ·rw [if_pos c10] at H
   have c10b0 : (a0_1 != a1_1) = true := c10
   (try (have c10b1 : decide (a0_1 = a1_1) = false := by simpa using c10))
   (try (have c10b2 : (a0_1 == a1_1) = false := by simpa using c10))
   (try (have c10b5 : (!(a0_1 == a1_1)) = true := by rw [c10b2]; rfl))
   (try (have c10b3 : ¬ (a0_1 = a1_1) := by simpa using c10))
   clear c10
   (first | rw [c10b5] | rw [c10b0] | (simp only [i64_w, i32_w]; rw [c10b0]) | skip)
   obtain rfl := Option.some.inj H
   go_wp2
   go_ret
   exact ⟨eq_, bl_⟩
  ·rw [if_neg c10] at H
   have c10b0 : (a0_1 != a1_1) = false := by simpa using c10
   (try (have c10b1 : decide (a0_1 = a1_1) = true := by simpa using c10))
   (try (have c10b2 : (a0_1 == a1_1) = true := by simpa using c10))
   (try (have c10b5 : (!(a0_1 == a1_1)) = false := by rw [c10b2]; rfl))
   clear c10
   (first | rw [c10b5] | rw [c10b0] | (simp only [i64_w, i32_w]; rw [c10b0]) | skip)
   obtain rfl := Option.some.inj H
   go_wp2
   go_ret
   exact ⟨eq_, bl_⟩
 ·rw [if_neg c3] at H
  have c3b0 : (a0_0.toList == a1_0.toList) = false := beq_eq_false_iff_ne.mpr c3
  have c3b1 : (a0_0.toList != a1_0.toList) = true := bne_iff_ne.mpr c3
  obtain rfl := Option.some.inj H
  go_enter Try.func83, Try.ntmps83
  go_wp2_with (first | ((with_reducible refine gD_ 2 rfl ?_); refine bx_ (N := 2) (cs := #[.string a0_0, .bool a0_1]) (t := 142) ?_; intro gb498 hg w11 hbox hb; have BK498 := aa_ (hbox); have GW498 := gs_ hg; have GE498 := gs_ hg; replace HB := hbs_ hb; clear hb hbox hg) | ((with_reducible refine gD_ 3 rfl ?_); refine bx_ (N := 3) (cs := #[.string a1_0, .bool a1_1]) (t := 142) ?_; intro gb499 hg w12 hbox hb; have BK499 := aa_ (hbox); have GW499 := gs_ hg; have GE499 := gs_ hg; replace HB := hbs_ hb; have NB498_499 := nl_ hg BK498; have NB499_498 := nr_ hg BK498; replace BK498 := bkb_ BK498 hb; clear hb hbox hg; have hnb13 := NB498_499.out; have hnc13 := NB499_498.out; obtain ⟨hcz14, hfz14⟩ := bcf_ BK498; obtain ⟨hcz15, hfz15⟩ := bcf_ BK499))
  go_ret
  exact ⟨eq_, bl_⟩
end Go.Proofs.Ytcnjbkfnijnpnaa.PA
