import Derived.Test.YteofimccoadmeaaGreatKWPAx17
-- printed by wip/tools
namespace Go.Proofs.YteofimccoadmeaaGreat.PA
open Go.RowKit Go.Proofs.YteofimccoadmeaaGreatW.PrintWords Go.Proofs.YteofimccoadmeaaGreatW.PrintLast Go.Proofs.YteofimccoadmeaaGreatW.PrintMore
attribute [local go_sem] max2_int min2_int max_two min_two max_three min_three max_four min_four
set_option linter.unusedVariables false
set_option linter.unusedSimpArgs false
def impl_Alive.l0 : Nat → Int → List (S83) → List (S83) → Int → Int → Option ((List (S83)))
 | 0, _, _, _, _, _ => none
 | k + 1, x1, x5, x9, x10, x11 => if x11 < x10 then (if 0 ≤ x11 then (if x11 < (x9.length : Int) then ((impl_CredOk.f k ((rd_T83 x9 x11).f0) ((rd_T83 x9 x11).f1.f0) ((rd_T83 x9 x11).f1.f1) ((rd_T83 x9 x11).f2) ((rd_T83 x9 x11).f3.f0) ((rd_T83 x9 x11).f3.f1) ((rd_T83 x9 x11).f4.f0) ((rd_T83 x9 x11).f4.f1) ((rd_T83 x9 x11).f5) ((rd_T83 x9 x11).f6)).bind fun t544 => (if t544 = true then (if ((rd_T83 x9 x11).f5) ≥ x1 then (if x5.length < 1759218604441 then (impl_Alive.l0 k x1 (x5 ++ [(⟨(rd_T83 x9 x11).f0, (⟨(rd_T83 x9 x11).f1.f0, (rd_T83 x9 x11).f1.f1⟩ : S77), (rd_T83 x9 x11).f2, (⟨(rd_T83 x9 x11).f3.f0, (rd_T83 x9 x11).f3.f1⟩ : S77), (⟨(rd_T83 x9 x11).f4.f0, (rd_T83 x9 x11).f4.f1⟩ : S77), (rd_T83 x9 x11).f5, (rd_T83 x9 x11).f6⟩ : S83)]) x9 x10 (wrap64 (x11 + 1))) else (none)) else (impl_Alive.l0 k x1 x5 x9 x10 (wrap64 (x11 + 1)))) else (impl_Alive.l0 k x1 x5 x9 x10 (wrap64 (x11 + 1))))) else (none)) else (none)) else (some x5)
def impl_Alive.f (k : Nat) (l0 : List (S83)) (a1 : Int) : Option ((List (S83))) := impl_Alive.l0 k a1 (([] : List (S83))) l0 (l0.length : Int) 0
set_option maxHeartbeats 8000000 in
set_option maxRecDepth 100000 in
theorem impl_Alive.calls (k : Nat) (A0 : Option Addr) (c0 : Nat) (l0 : List (S83)) (a1 : Int) (r : List (S83)) (w : World) (hr0 : Kd.C k83 w A0 l0.length l0) (hc0 : l0.length ≤ c0) (h : impl_Alive.f k l0 a1 = some r) :
  Calls Tryz.prog 74 #[.slice A0 l0.length c0, .int .i64 a1] w fun e w' => ∃ v0_ : Value, e = .returned (v0_) ∧ Kd.R k83 83 w' w.heap.size (fun _ => True) v0_ r ∧ Below w.heap.size w w' := by
 have hu83 := Tryz.underlying83
 have HR0 := aa_ hr0
 have HC0 := aa_ hc0
 clear hr0 hc0
 have HB := aa_ (Below.refl w.heap.size w)
 have H : (impl_Alive.l0 k a1 (([] : List (S83))) l0 (l0.length : Int) 0) = some r := h
 clear h
 obtain ⟨y539, hy539⟩ : ∃ y_ : List (S83), y_ = (([] : List (S83))) := ⟨_, rfl⟩
 replace H : (impl_Alive.l0 k a1 y539 l0 (l0.length : Int) 0) = some r := rh_ hy539 H
 have Ny539 := aa_ hy539
 clear hy539
 have H' := aa_ H
 clear H
 go_enter Tryz.func74, Tryz.ntmps74
 go_wp2_with (first | ((with_reducible refine gD_ 8 rfl ?_); refine Kd.R_lit k83 _ 83 ?hg (N := 8) ?hd (xs := ([] : List (S83))) (inner := []) (ok := fun _ => True) (okp := fun _ => True) ?hr ?hp (fun _ hk => hk) trivial (Below.refl _ _) (Nat.le_refl _) (by simp) ?_; (case hd => rfl); (case hg => rfl); (case hr => first | (go_simp; done) | (go_simp; rfl)); (case hp => exact (Reps.none _ _)); intro v540 w3 ho4 hb hg_ hnew_; clear hg_ hnew_; (first | rw [← Ny539.out] at ho4 | (simp only [Int.reduceToNat] at ho4; rw [← Ny539.out] at ho4)); have HO541 := aa_ (Kd.R_lower ho4 bls_); replace HB := hbs_ hb; clear hb ho4))
 go_loopg [5, 11] k (fun kq v5 v11 w' => ∃ (x5_1 : List (S83)) (x11_1 : Int), v11 = .int .i64 x11_1 ∧ Aside0 (impl_Alive.l0 kq a1 x5_1 l0 (l0.length : Int) x11_1 = some r) ∧ Aside0 (kq ≤ k) ∧ Aside0 (Kd.R k83 83 w' w.heap.size (fun _ => True) v5 x5_1) ∧ Aside0 (Below w.heap.size w w'))
 case atStart => exact ⟨(y539), (0), rf_, H', ⟨Nat.le_refl _⟩, ⟨rr_ HO541⟩, ⟨bl_⟩⟩
 case round =>
  clear H'
  try clear p2
  obtain ⟨x5_1, x11_1, rfl, HA, HK1, HO_5, HB⟩ := hrel
  cases gk with
  | zero => exact absurd HA.out (by simp [impl_Alive.l0])
  | succ k1 =>
   have H := HA.out
   clear HA
   simp only [impl_Alive.l0] at H
   by_cases c5 : x11_1 < (l0.length : Int)
   ·rw [if_pos c5] at H
    have c5b0 : decide (x11_1 < (l0.length : Int)) = true := decide_eq_true c5
    clear c5
    obtain ⟨c6b0, H⟩ := ifd_ H
    obtain ⟨c7b0, H⟩ := ifd_ H
    obtain ⟨t544, A8, H⟩ := bindE_ H
    by_cases c9 : t544 = true
    ·subst c9
     replace H := ite_t_ H
     have HC10 := aa_ H
     clear H
     have p542 : 0 ≤ (x11_1 : Int) := od_
     have q542 : x11_1 < (l0.length : Int) := od_
     obtain ⟨ad542, e542, hx542_0, hx542_1, hx542_2, hx542_3, hx542_4, hx542_5, hx542_6, hx542_7, hx542_8, hx542_9⟩ := at_T83 (Kd.C_below HR0.out HB.out) x11_1 p542 q542
     cases e542
     replace p542 := eq_true p542
     replace q542 := eq_true q542
     go_upto_if 22 with (first | ((with_reducible refine gD_ 7 rfl ?_); refine bx_ (N := 7) (cs := #[.int .i64 0, .int .i64 0, .int .i64 0, .int .i64 0, .int .i64 0, .int .i64 0, .int .i64 0, .int .i64 0, .int .i64 0, .int .i64 0]) (t := 83) ?_; intro gb543 hg w11 hbox hb; replace HO_5 := aa_ (Kd.R_below (Kd.R_elderB (rr_ HO_5) gb543 (Nat.le_of_eq hg.symm)) hb); have BK543 := aa_ (hbox); have GW543 := gs_ hg; have GE543 := gs_ hg; replace HB := hbs_ hb; clear hb hbox hg; obtain ⟨hcz12, hfz12⟩ := bcf_ BK543) | ((with_reducible refine gC_ 89 rfl ?_); refine goesC_ (some 16) Tryz.func89 #[.agg #[.int .i64 ((rd_T83 l0 x11_1).f0), .int .i64 ((rd_T83 l0 x11_1).f1.f0), .int .i64 ((rd_T83 l0 x11_1).f1.f1), .int .i64 ((rd_T83 l0 x11_1).f2), .int .i64 ((rd_T83 l0 x11_1).f3.f0), .int .i64 ((rd_T83 l0 x11_1).f3.f1), .int .i64 ((rd_T83 l0 x11_1).f4.f0), .int .i64 ((rd_T83 l0 x11_1).f4.f1), .int .i64 ((rd_T83 l0 x11_1).f5), .int .i64 ((rd_T83 l0 x11_1).f6)]] ?_; (with_reducible refine (impl_CredOk.calls k1 ((rd_T83 l0 x11_1).f0) ((rd_T83 l0 x11_1).f1.f0) ((rd_T83 l0 x11_1).f1.f1) ((rd_T83 l0 x11_1).f2) ((rd_T83 l0 x11_1).f3.f0) ((rd_T83 l0 x11_1).f3.f1) ((rd_T83 l0 x11_1).f4.f0) ((rd_T83 l0 x11_1).f4.f1) ((rd_T83 l0 x11_1).f5) ((rd_T83 l0 x11_1).f6) true _ A8.out).mono ?_); rintro e w13 ⟨rfl, hb⟩; refine ⟨_, rfl, ?_⟩; replace HO_5 := aa_ (Kd.R_below (by (with_reducible repeat (first | apply Kd.R_alloc | apply Kd.R_drewN | apply Kd.R_drew)); exact (Kd.R_mono (fr10_ (Kd.R_mono HO_5.out (fun k_ hk => (⟨hk, hk.2⟩ : _ ∧ k_ ≠ gb543))) (fun _ hk => hk.2)) (fun _ h_ => h_.1))) hb); replace BK543 := aa_ (blk_below (g := gb543) (o := .cells #[.int .i64 ((rd_T83 l0 x11_1).f0), .int .i64 ((rd_T83 l0 x11_1).f1.f0), .int .i64 ((rd_T83 l0 x11_1).f1.f1), .int .i64 ((rd_T83 l0 x11_1).f2), .int .i64 ((rd_T83 l0 x11_1).f3.f0), .int .i64 ((rd_T83 l0 x11_1).f3.f1), .int .i64 ((rd_T83 l0 x11_1).f4.f0), .int .i64 ((rd_T83 l0 x11_1).f4.f1), .int .i64 ((rd_T83 l0 x11_1).f5), .int .i64 ((rd_T83 l0 x11_1).f6)] 83 (0, 0)) (bk_ BK543) hb); replace HB := hbs_ hb; clear hb; obtain ⟨hcz14, hfz14⟩ := bcf_ BK543))
     (try simp only [Act.put, sb_, sz_, ss_])
     have H := HC10.out
     clear HC10
     by_cases c15 : ((rd_T83 l0 x11_1).f5) ≥ a1
     ·rw [if_pos c15] at H
      have c15b0 : decide (a1 ≤ ((rd_T83 l0 x11_1).f5)) = true := decide_eq_true c15
      clear c15
      (first | rw [c15b0] | (simp only [i64_w, i32_w]; rw [c15b0]) | skip)
      obtain ⟨c16, H⟩ := ifn_ H
      have LMc16 := aa_ c16
      clear c16
      obtain ⟨y545, hy545⟩ : ∃ y_ : List (S83), y_ = (x5_1 ++ [(⟨(rd_T83 l0 x11_1).f0, (⟨(rd_T83 l0 x11_1).f1.f0, (rd_T83 l0 x11_1).f1.f1⟩ : S77), (rd_T83 l0 x11_1).f2, (⟨(rd_T83 l0 x11_1).f3.f0, (rd_T83 l0 x11_1).f3.f1⟩ : S77), (⟨(rd_T83 l0 x11_1).f4.f0, (rd_T83 l0 x11_1).f4.f1⟩ : S77), (rd_T83 l0 x11_1).f5, (rd_T83 l0 x11_1).f6⟩ : S83)]) := ⟨_, rfl⟩
      replace H : (impl_Alive.l0 k1 a1 y545 l0 (l0.length : Int) (wrap64 (x11_1 + 1))) = some r := rh_ hy545 H
      have Ny545 := aa_ hy545
      clear hy545
      have H' := aa_ H
      clear H
      have hcz17 := blk_cell BK543.out
      have hfz17 := blk_frozen BK543.out
      go_wp2_with (first | ((with_reducible refine gate_builtin (b := .append) (xs := #[.tmp 23, .tmp 25]) rfl ?_); at_builtin; refine Kd.R_append k83 (w0 := w) w.heap.size rfl (.tmp 23) (.tmp 25) 36 83 (.agg #[(.int .i64 0), (.int .i64 0), (.int .i64 0), (.int .i64 0), (.int .i64 0), (.int .i64 0), (.int .i64 0), (.int .i64 0), (.int .i64 0), (.int .i64 0)]) 80 rfl Tryz.underlying36 info83 rfl (by decide) (by omega) u5 x5_1 (⟨(rd_T83 l0 x11_1).f0, (⟨(rd_T83 l0 x11_1).f1.f0, (rd_T83 l0 x11_1).f1.f1⟩ : S77), (rd_T83 l0 x11_1).f2, (⟨(rd_T83 l0 x11_1).f3.f0, (rd_T83 l0 x11_1).f3.f1⟩ : S77), (⟨(rd_T83 l0 x11_1).f4.f0, (rd_T83 l0 x11_1).f4.f1⟩ : S77), (rd_T83 l0 x11_1).f5, (rd_T83 l0 x11_1).f6⟩ : S83) [.int .i64 ((rd_T83 l0 x11_1).f0), .int .i64 ((rd_T83 l0 x11_1).f1.f0), .int .i64 ((rd_T83 l0 x11_1).f1.f1), .int .i64 ((rd_T83 l0 x11_1).f2), .int .i64 ((rd_T83 l0 x11_1).f3.f0), .int .i64 ((rd_T83 l0 x11_1).f3.f1), .int .i64 ((rd_T83 l0 x11_1).f4.f0), .int .i64 ((rd_T83 l0 x11_1).f4.f1), .int .i64 ((rd_T83 l0 x11_1).f5), .int .i64 ((rd_T83 l0 x11_1).f6)] (fun k_ => k_ ≠ gb543) (fun _ => False) rfl rfl ?aP (fun _ hk => hk.elim) ?aF ?aO ?aB ?aS ?aL ?_; (case aP => exact k83_mkM _ _ _ (⟨(rd_T83 l0 x11_1).f0, (⟨(rd_T83 l0 x11_1).f1.f0, (rd_T83 l0 x11_1).f1.f1⟩ : S77), (rd_T83 l0 x11_1).f2, (⟨(rd_T83 l0 x11_1).f3.f0, (rd_T83 l0 x11_1).f3.f1⟩ : S77), (⟨(rd_T83 l0 x11_1).f4.f0, (rd_T83 l0 x11_1).f4.f1⟩ : S77), (rd_T83 l0 x11_1).f5, (rd_T83 l0 x11_1).f6⟩ : S83)); (case aB => exact bl_); (case aF => exact (fun k_ hk => Kd.freshB (g := gb543) (o := .cells #[.int .i64 ((rd_T83 l0 x11_1).f0), .int .i64 ((rd_T83 l0 x11_1).f1.f0), .int .i64 ((rd_T83 l0 x11_1).f1.f1), .int .i64 ((rd_T83 l0 x11_1).f2), .int .i64 ((rd_T83 l0 x11_1).f3.f0), .int .i64 ((rd_T83 l0 x11_1).f3.f1), .int .i64 ((rd_T83 l0 x11_1).f4.f0), .int .i64 ((rd_T83 l0 x11_1).f4.f1), .int .i64 ((rd_T83 l0 x11_1).f5), .int .i64 ((rd_T83 l0 x11_1).f6)] 83 (0, 0)) (bk_ BK543) k_ hk)); (case aO => exact (by (with_reducible repeat (first | apply Kd.R_alloc | apply Kd.R_drewN | apply Kd.R_drew)); exact Kd.R_mono HO_5.out (fun _ hk => hk.2))); (case aS => exact bls_); (case aL => have := LMc16.out; omega); intro v546 w18 ho hb hg hat; rw [← Ny545.out] at ho; replace BK543 := aa_ (blk_grown (g := gb543) (o := .cells #[.int .i64 ((rd_T83 l0 x11_1).f0), .int .i64 ((rd_T83 l0 x11_1).f1.f0), .int .i64 ((rd_T83 l0 x11_1).f1.f1), .int .i64 ((rd_T83 l0 x11_1).f2), .int .i64 ((rd_T83 l0 x11_1).f3.f0), .int .i64 ((rd_T83 l0 x11_1).f3.f1), .int .i64 ((rd_T83 l0 x11_1).f4.f0), .int .i64 ((rd_T83 l0 x11_1).f4.f1), .int .i64 ((rd_T83 l0 x11_1).f5), .int .i64 ((rd_T83 l0 x11_1).f6)] 83 (0, 0)) (bk_ BK543) hg (Kd.R_away HO_5.out (fun _ hk => hk.2))); replace HB := aa_ (hb); have HO547 := aa_ (ho); clear HO_5; clear ho hb hg hat))
      go_roundg k1
      case measure => have := HK1.out; omega
      case rel => exact ⟨(y545), (wrap64 (x11_1 + 1)), rf_, H', ⟨by have := HK1.out; omega⟩, ⟨by (with_reducible repeat (first | apply Kd.R_alloc | apply Kd.R_drewN | apply Kd.R_drew)); exact Kd.R_mono HO547.out (fun _ hk => trivial)⟩, ⟨bl_⟩⟩
     ·rw [if_neg c15] at H
      have c15b0 : decide (a1 ≤ ((rd_T83 l0 x11_1).f5)) = false := decide_eq_false c15
      clear c15
      (first | rw [c15b0] | (simp only [i64_w, i32_w]; rw [c15b0]) | skip)
      have H' := aa_ H
      clear H
      go_wp2
      go_roundg k1
      case measure => have := HK1.out; omega
      case rel => exact ⟨(x5_1), (wrap64 (x11_1 + 1)), rf_, H', ⟨by have := HK1.out; omega⟩, ⟨by (with_reducible repeat (first | apply Kd.R_alloc | apply Kd.R_drewN | apply Kd.R_drew)); exact Kd.R_mono HO_5.out (fun _ hk => trivial)⟩, ⟨bl_⟩⟩
    ·replace c9 := Bool.eq_false_iff.mpr c9
     subst c9
     replace H := ite_f_ H
     have H' := aa_ H
     clear H
     have p542 : 0 ≤ (x11_1 : Int) := od_
     have q542 : x11_1 < (l0.length : Int) := od_
     obtain ⟨ad542, e542, hx542_0, hx542_1, hx542_2, hx542_3, hx542_4, hx542_5, hx542_6, hx542_7, hx542_8, hx542_9⟩ := at_T83 (Kd.C_below HR0.out HB.out) x11_1 p542 q542
     cases e542
     replace p542 := eq_true p542
     replace q542 := eq_true q542
     go_wp2_with (first | ((with_reducible refine gD_ 7 rfl ?_); refine bx_ (N := 7) (cs := #[.int .i64 0, .int .i64 0, .int .i64 0, .int .i64 0, .int .i64 0, .int .i64 0, .int .i64 0, .int .i64 0, .int .i64 0, .int .i64 0]) (t := 83) ?_; intro gb543 hg w19 hbox hb; replace HO_5 := aa_ (Kd.R_below (Kd.R_elderB (rr_ HO_5) gb543 (Nat.le_of_eq hg.symm)) hb); have BK543 := aa_ (hbox); have GW543 := gs_ hg; have GE543 := gs_ hg; replace HB := hbs_ hb; clear hb hbox hg; obtain ⟨hcz20, hfz20⟩ := bcf_ BK543) | ((with_reducible refine gC_ 89 rfl ?_); refine goesC_ (some 16) Tryz.func89 #[.agg #[.int .i64 ((rd_T83 l0 x11_1).f0), .int .i64 ((rd_T83 l0 x11_1).f1.f0), .int .i64 ((rd_T83 l0 x11_1).f1.f1), .int .i64 ((rd_T83 l0 x11_1).f2), .int .i64 ((rd_T83 l0 x11_1).f3.f0), .int .i64 ((rd_T83 l0 x11_1).f3.f1), .int .i64 ((rd_T83 l0 x11_1).f4.f0), .int .i64 ((rd_T83 l0 x11_1).f4.f1), .int .i64 ((rd_T83 l0 x11_1).f5), .int .i64 ((rd_T83 l0 x11_1).f6)]] ?_; (with_reducible refine (impl_CredOk.calls k1 ((rd_T83 l0 x11_1).f0) ((rd_T83 l0 x11_1).f1.f0) ((rd_T83 l0 x11_1).f1.f1) ((rd_T83 l0 x11_1).f2) ((rd_T83 l0 x11_1).f3.f0) ((rd_T83 l0 x11_1).f3.f1) ((rd_T83 l0 x11_1).f4.f0) ((rd_T83 l0 x11_1).f4.f1) ((rd_T83 l0 x11_1).f5) ((rd_T83 l0 x11_1).f6) false _ A8.out).mono ?_); rintro e w21 ⟨rfl, hb⟩; refine ⟨_, rfl, ?_⟩; replace HO_5 := aa_ (Kd.R_below (by (with_reducible repeat (first | apply Kd.R_alloc | apply Kd.R_drewN | apply Kd.R_drew)); exact (Kd.R_mono (fr10_ (Kd.R_mono HO_5.out (fun k_ hk => (⟨hk, hk.2⟩ : _ ∧ k_ ≠ gb543))) (fun _ hk => hk.2)) (fun _ h_ => h_.1))) hb); replace BK543 := aa_ (blk_below (g := gb543) (o := .cells #[.int .i64 ((rd_T83 l0 x11_1).f0), .int .i64 ((rd_T83 l0 x11_1).f1.f0), .int .i64 ((rd_T83 l0 x11_1).f1.f1), .int .i64 ((rd_T83 l0 x11_1).f2), .int .i64 ((rd_T83 l0 x11_1).f3.f0), .int .i64 ((rd_T83 l0 x11_1).f3.f1), .int .i64 ((rd_T83 l0 x11_1).f4.f0), .int .i64 ((rd_T83 l0 x11_1).f4.f1), .int .i64 ((rd_T83 l0 x11_1).f5), .int .i64 ((rd_T83 l0 x11_1).f6)] 83 (0, 0)) (bk_ BK543) hb); replace HB := hbs_ hb; clear hb))
     go_roundg k1
     case measure => have := HK1.out; omega
     case rel => exact ⟨(x5_1), (wrap64 (x11_1 + 1)), rf_, H', ⟨by have := HK1.out; omega⟩, ⟨by (with_reducible repeat (first | apply Kd.R_alloc | apply Kd.R_drewN | apply Kd.R_drew)); exact Kd.R_mono HO_5.out (fun _ hk => trivial)⟩, ⟨bl_⟩⟩
   ·rw [if_neg c5] at H
    have c5b0 : decide (x11_1 < (l0.length : Int)) = false := decide_eq_false c5
    clear c5
    obtain rfl := Option.some.inj H
    go_wp2
    go_ret
    exact ⟨_, eq_, by (with_reducible repeat (first | apply Kd.R_alloc | apply Kd.R_drewN | apply Kd.R_drew)); exact HO_5.out, bl_⟩
def impl_AnswerOk.f (k : Nat) (a0_0 : Bool) (l0_1 : List (S111)) (a0_2 : Int) (a0_3 : Bool) (a0_4 : Bool) (a1_0 : Int) (a1_1 : Int) (a2 : Int) (a3 : Int) : Option (Bool) := if a0_0 = true then ((impl_CredsIn.f k l0_1).bind fun t550 => ((impl_ProofOk.f k l0_1 a1_0 a1_1 a2).bind fun t553 => (if t553 = true then ((impl_Alive.f k t550 a3).bind fun t554 => (some ((t554.length : Int) == (t550.length : Int)))) else (some false)))) else (some ((l0_1.length : Int) == 0))
set_option maxHeartbeats 8000000 in
set_option maxRecDepth 100000 in
theorem impl_AnswerOk.calls (k : Nat) (a0_0 : Bool) (A0_1 : Option Addr) (c0_1 : Nat) (l0_1 : List (S111)) (a0_2 : Int) (a0_3 : Bool) (a0_4 : Bool) (a1_0 : Int) (a1_1 : Int) (a2 : Int) (a3 : Int) (r : Bool) (w : World) (hr0_1 : Kd.C k111 w A0_1 l0_1.length l0_1) (hc0_1 : l0_1.length ≤ c0_1) (h : impl_AnswerOk.f k a0_0 l0_1 a0_2 a0_3 a0_4 a1_0 a1_1 a2 a3 = some r) :
  Calls Tryz.prog 47 #[.agg #[.bool a0_0, .slice A0_1 l0_1.length c0_1, .int .i64 a0_2, .bool a0_3, .bool a0_4], .agg #[.int .i64 a1_0, .int .i64 a1_1], .int .i64 a2, .int .i64 a3] w fun e w' => e = .returned (.bool r) ∧ Below w.heap.size w w' := by
 have hu73 := Tryz.underlying73
 have hu77 := Tryz.underlying77
 have HR0_1 := aa_ hr0_1
 have HC0_1 := aa_ hc0_1
 clear hr0_1 hc0_1
 have HB := aa_ (Below.refl w.heap.size w)
 have H : (if a0_0 = true then ((impl_CredsIn.f k l0_1).bind fun t550 => ((impl_ProofOk.f k l0_1 a1_0 a1_1 a2).bind fun t553 => (if t553 = true then ((impl_Alive.f k t550 a3).bind fun t554 => (some ((t554.length : Int) == (t550.length : Int)))) else (some false)))) else (some ((l0_1.length : Int) == 0))) = some r := h
 clear h
 have HC5 := aa_ H
 clear H
 go_enter Tryz.func47, Tryz.ntmps47
 go_upto_if 12 with (first | ((with_reducible refine gD_ 4 rfl ?_); (try (refine gate_guard (by rfl) ?_; dsimp only)); refine bx_ (N := 4) (cs := #[.bool a0_0, .slice A0_1 l0_1.length c0_1, .int .i64 a0_2, .bool a0_3, .bool a0_4]) (t := 73) ?_; intro gb548 hg w6 hbox hb; have BK548 := aa_ (hbox); have GW548 := gs_ hg; have GE548 := gs_ hg; replace HB := hbs_ hb; clear hb hbox hg) | ((with_reducible refine gD_ 5 rfl ?_); (try (refine gate_guard (by rfl) ?_; dsimp only)); refine bx_ (N := 5) (cs := #[.int .i64 a1_0, .int .i64 a1_1]) (t := 77) ?_; intro gb549 hg w7 hbox hb; have BK549 := aa_ (hbox); have GW549 := gs_ hg; have GE549 := gs_ hg; replace HB := hbs_ hb; have NB548_549 := nl_ hg BK548; have NB549_548 := nr_ hg BK548; replace BK548 := bkb_ BK548 hb; clear hb hbox hg; have hnb8 := NB548_549.out; have hnc8 := NB549_548.out; obtain ⟨hcz9, hfz9⟩ := bcf_ BK548))
 (try simp only [Act.put, sb_, sz_, ss_])
 have H := HC5.out
 clear HC5
 by_cases c10 : a0_0 = true
 ·subst c10
  replace H := ite_t_ H
  obtain ⟨t550, A11, H⟩ := bindE_ H
  obtain ⟨t553, A12, H⟩ := bindE_ H
  by_cases c13 : t553 = true
  ·subst c13
   replace H := ite_t_ H
   obtain ⟨t554, A14, H⟩ := bindE_ H
   obtain rfl := Option.some.inj H
   have hnb15 := NB548_549.out
   have hnc15 := NB549_548.out
   have hcz16 := blk_cell BK548.out
   have hfz16 := blk_frozen BK548.out
   go_wp2_with (first | ((with_reducible refine gC_ 46 rfl ?_); refine goesC_ (some 19) Tryz.func46 #[.slice A0_1 l0_1.length c0_1] ?_; (with_reducible refine (impl_CredsIn.calls k _ _ l0_1 t550 _ ?side1 ?side2 A11.out).mono ?_); (case side1 => repeat (first | exact (Kd.C_below HR0_1.out HB.out) | (with_reducible refine Kd.C_alloc ?_ _) | (with_reducible refine Kd.C_drewN ?_ _) | (with_reducible refine Kd.C_drew ?_))); (case side2 => exact HC0_1.out); rintro e w17 ⟨v551, rfl, ho0, hb⟩; refine ⟨_, rfl, ?_⟩; have HO552 := aa_ (Kd.R_lower ho0 bls_); replace BK548 := bkb_ BK548 hb; replace BK549 := bkb_ BK549 hb; replace HB := hbs_ hb; (try clear hb ho0); obtain ⟨hcz18, hfz18⟩ := bcf_ BK548; obtain ⟨hcz19, hfz19⟩ := bcf_ BK549) | ((with_reducible refine gC_ 73 rfl ?_); refine goesC_ (some 24) Tryz.func73 #[.slice A0_1 l0_1.length c0_1, .agg #[.int .i64 a1_0, .int .i64 a1_1], .int .i64 a2] ?_; (with_reducible refine (impl_ProofOk.calls k _ _ l0_1 a1_0 a1_1 a2 true _ ?side1 ?side2 A12.out).mono ?_); (case side1 => repeat (first | exact (Kd.C_below HR0_1.out HB.out) | (with_reducible refine Kd.C_alloc ?_ _) | (with_reducible refine Kd.C_drewN ?_ _) | (with_reducible refine Kd.C_drew ?_))); (case side2 => exact HC0_1.out); rintro e w20 ⟨rfl, hb⟩; refine ⟨_, rfl, ?_⟩; replace HO552 := hob_ HO552 hb; replace BK548 := bkb_ BK548 hb; replace BK549 := bkb_ BK549 hb; replace HB := hbs_ hb; clear hb; obtain ⟨Ao21, co21, eo21⟩ := Kd.R_slice HO552.out; subst eo21) | (go_at_call 74; (with_reducible refine (impl_Alive.calls k _ _ t550 a3 t554 _ ?side1 ?side2 A14.out).mono ?_); (case side1 => repeat (first | exact (Kd.R_reads' HO552.out).2.2 | (with_reducible refine Kd.C_alloc ?_ _) | (with_reducible refine Kd.C_drewN ?_ _) | (with_reducible refine Kd.C_drew ?_))); (case side2 => exact (Kd.R_reads' HO552.out).2.1); rintro e w22 ⟨v555, rfl, ho0, hb⟩; have HO556 := aa_ (Kd.R_lower (Kd.R_new' ho0 (Kd.R_lt (rr_ HO552))) bls_); replace HO552 := aa_ (Kd.R_elder' (rr_ HO552) (Kd.R_base ho0) hb); replace BK548 := bkb_ BK548 hb; replace BK549 := bkb_ BK549 hb; replace HB := hbs_ hb; (try clear ho0); obtain ⟨Ao23, co23, eo23⟩ := Kd.R_slice HO556.out; subst eo23))
   go_ret
   exact ⟨eq_, bl_⟩
  ·replace c13 := Bool.eq_false_iff.mpr c13
   subst c13
   replace H := ite_f_ H
   obtain rfl := Option.some.inj H
   have hnb24 := NB548_549.out
   have hnc24 := NB549_548.out
   have hcz25 := blk_cell BK548.out
   have hfz25 := blk_frozen BK548.out
   go_wp2_with (first | ((with_reducible refine gC_ 46 rfl ?_); refine goesC_ (some 19) Tryz.func46 #[.slice A0_1 l0_1.length c0_1] ?_; (with_reducible refine (impl_CredsIn.calls k _ _ l0_1 t550 _ ?side1 ?side2 A11.out).mono ?_); (case side1 => repeat (first | exact (Kd.C_below HR0_1.out HB.out) | (with_reducible refine Kd.C_alloc ?_ _) | (with_reducible refine Kd.C_drewN ?_ _) | (with_reducible refine Kd.C_drew ?_))); (case side2 => exact HC0_1.out); rintro e w26 ⟨v551, rfl, ho0, hb⟩; refine ⟨_, rfl, ?_⟩; have HO552 := aa_ (Kd.R_lower ho0 bls_); replace BK548 := bkb_ BK548 hb; replace BK549 := bkb_ BK549 hb; replace HB := hbs_ hb; (try clear hb ho0); obtain ⟨hcz27, hfz27⟩ := bcf_ BK548; obtain ⟨hcz28, hfz28⟩ := bcf_ BK549) | ((with_reducible refine gC_ 73 rfl ?_); refine goesC_ (some 24) Tryz.func73 #[.slice A0_1 l0_1.length c0_1, .agg #[.int .i64 a1_0, .int .i64 a1_1], .int .i64 a2] ?_; (with_reducible refine (impl_ProofOk.calls k _ _ l0_1 a1_0 a1_1 a2 false _ ?side1 ?side2 A12.out).mono ?_); (case side1 => repeat (first | exact (Kd.C_below HR0_1.out HB.out) | (with_reducible refine Kd.C_alloc ?_ _) | (with_reducible refine Kd.C_drewN ?_ _) | (with_reducible refine Kd.C_drew ?_))); (case side2 => exact HC0_1.out); rintro e w29 ⟨rfl, hb⟩; refine ⟨_, rfl, ?_⟩; replace HO552 := hob_ HO552 hb; replace BK548 := bkb_ BK548 hb; replace BK549 := bkb_ BK549 hb; replace HB := hbs_ hb; clear hb))
   go_ret
   exact ⟨eq_, bl_⟩
 ·replace c10 := Bool.eq_false_iff.mpr c10
  subst c10
  replace H := ite_f_ H
  obtain rfl := Option.some.inj H
  have hnb30 := NB548_549.out
  have hnc30 := NB549_548.out
  have hcz31 := blk_cell BK548.out
  have hfz31 := blk_frozen BK548.out
  go_wp2
  go_ret
  exact ⟨eq_, bl_⟩
def impl_leastUntil.l0 : Nat → Int → List (S83) → Int → Int → Option (Int)
 | 0, _, _, _, _ => none
 | k + 1, x3, x6, x7, x8 => if x8 < x7 then (if 0 ≤ x8 then (if x8 < (x6.length : Int) then (if x8 = 0 then (impl_leastUntil.l0 k ((rd_T83 x6 x8).f5) x6 x7 (wrap64 (x8 + 1))) else (if ((rd_T83 x6 x8).f5) < x3 then (impl_leastUntil.l0 k ((rd_T83 x6 x8).f5) x6 x7 (wrap64 (x8 + 1))) else (impl_leastUntil.l0 k x3 x6 x7 (wrap64 (x8 + 1))))) else (none)) else (none)) else (some x3)
def impl_leastUntil.f (k : Nat) (l0 : List (S83)) : Option (Int) := impl_leastUntil.l0 k 0 l0 (l0.length : Int) 0
set_option maxHeartbeats 8000000 in
set_option maxRecDepth 100000 in
theorem impl_leastUntil.calls (k : Nat) (A0 : Option Addr) (c0 : Nat) (l0 : List (S83)) (r : Int) (w : World) (hr0 : Kd.C k83 w A0 l0.length l0) (hc0 : l0.length ≤ c0) (h : impl_leastUntil.f k l0 = some r) :
  Calls Tryz.prog 48 #[.slice A0 l0.length c0] w fun e w' => e = .returned (.int .i64 r) ∧ Below w.heap.size w w' := by
 have hu83 := Tryz.underlying83
 have HR0 := aa_ hr0
 have HC0 := aa_ hc0
 clear hr0 hc0
 have HB := aa_ (Below.refl w.heap.size w)
 have H : (impl_leastUntil.l0 k 0 l0 (l0.length : Int) 0) = some r := h
 clear h
 have H' := aa_ H
 clear H
 go_enter Tryz.func48, Tryz.ntmps48
 go_wp2
 go_loopg [3, 8] k (fun kq v3 v8 w' => ∃ (x3_1 : Int) (x8_1 : Int), v3 = .int .i64 x3_1 ∧ v8 = .int .i64 x8_1 ∧ Aside0 (impl_leastUntil.l0 kq x3_1 l0 (l0.length : Int) x8_1 = some r) ∧ Aside0 (kq ≤ k) ∧ Aside0 (Below w.heap.size w w'))
 case atStart => exact ⟨(0), (0), rf_, rf_, H', ⟨Nat.le_refl _⟩, ⟨bl_⟩⟩
 case round =>
  clear H'
  obtain ⟨x3_1, x8_1, rfl, rfl, HA, HK1, HB⟩ := hrel
  cases gk with
  | zero => exact absurd HA.out (by simp [impl_leastUntil.l0])
  | succ k1 =>
   have H := HA.out
   clear HA
   simp only [impl_leastUntil.l0] at H
   by_cases c2 : x8_1 < (l0.length : Int)
   ·rw [if_pos c2] at H
    have c2b0 : decide (x8_1 < (l0.length : Int)) = true := decide_eq_true c2
    clear c2
    obtain ⟨c3b0, H⟩ := ifd_ H
    obtain ⟨c4b0, H⟩ := ifd_ H
    by_cases c5 : x8_1 = 0
    ·rw [if_pos c5] at H
     have c5b0 : (x8_1 == 0) = true := beq_iff_eq.mpr c5
     have c5b1 : (x8_1 != 0) = false := bne_eq_false_iff_eq.mpr c5
     clear c5
     have H' := aa_ H
     clear H
     have p557 : 0 ≤ (x8_1 : Int) := od_
     have q557 : x8_1 < (l0.length : Int) := od_
     obtain ⟨ad557, e557, hx557_0, hx557_1, hx557_2, hx557_3, hx557_4, hx557_5, hx557_6, hx557_7, hx557_8, hx557_9⟩ := at_T83 (Kd.C_below HR0.out HB.out) x8_1 p557 q557
     cases e557
     replace p557 := eq_true p557
     replace q557 := eq_true q557
     go_wp2_with (first | ((with_reducible refine gD_ 5 rfl ?_); refine bx_ (N := 5) (cs := #[.int .i64 0, .int .i64 0, .int .i64 0, .int .i64 0, .int .i64 0, .int .i64 0, .int .i64 0, .int .i64 0, .int .i64 0, .int .i64 0]) (t := 83) ?_; intro gb558 hg w6 hbox hb; have BK558 := aa_ (hbox); have GW558 := gs_ hg; have GE558 := gs_ hg; replace HB := hbs_ hb; clear hb hbox hg; obtain ⟨hcz7, hfz7⟩ := bcf_ BK558))
     go_roundg k1
     case measure => have := HK1.out; omega
     case rel => exact ⟨((rd_T83 l0 x8_1).f5), (wrap64 (x8_1 + 1)), rf_, rf_, H', ⟨by have := HK1.out; omega⟩, ⟨bl_⟩⟩
    ·rw [if_neg c5] at H
     have c5b0 : (x8_1 == 0) = false := beq_eq_false_iff_ne.mpr c5
     have c5b1 : (x8_1 != 0) = true := bne_iff_ne.mpr c5
     have HC8 := aa_ H
     clear H
     have p557 : 0 ≤ (x8_1 : Int) := od_
     have q557 : x8_1 < (l0.length : Int) := od_
     obtain ⟨ad557, e557, hx557_0, hx557_1, hx557_2, hx557_3, hx557_4, hx557_5, hx557_6, hx557_7, hx557_8, hx557_9⟩ := at_T83 (Kd.C_below HR0.out HB.out) x8_1 p557 q557
     cases e557
     replace p557 := eq_true p557
     replace q557 := eq_true q557
     go_upto_if 20 with (first | ((with_reducible refine gD_ 5 rfl ?_); refine bx_ (N := 5) (cs := #[.int .i64 0, .int .i64 0, .int .i64 0, .int .i64 0, .int .i64 0, .int .i64 0, .int .i64 0, .int .i64 0, .int .i64 0, .int .i64 0]) (t := 83) ?_; intro gb558 hg w9 hbox hb; have BK558 := aa_ (hbox); have GW558 := gs_ hg; have GE558 := gs_ hg; replace HB := hbs_ hb; clear hb hbox hg; obtain ⟨hcz10, hfz10⟩ := bcf_ BK558))
     have n0_ : Aside0 (((((((((((w9.setCell ⟨gb558, 0, none⟩ (.int .i64 ((rd_T83 l0 x8_1).f0))).setCell ⟨gb558, 1, none⟩ (.int .i64 ((rd_T83 l0 x8_1).f1.f0))).setCell ⟨gb558, 2, none⟩ (.int .i64 ((rd_T83 l0 x8_1).f1.f1))).setCell ⟨gb558, 3, none⟩ (.int .i64 ((rd_T83 l0 x8_1).f2))).setCell ⟨gb558, 4, none⟩ (.int .i64 ((rd_T83 l0 x8_1).f3.f0))).setCell ⟨gb558, 5, none⟩ (.int .i64 ((rd_T83 l0 x8_1).f3.f1))).setCell ⟨gb558, 6, none⟩ (.int .i64 ((rd_T83 l0 x8_1).f4.f0))).setCell ⟨gb558, 7, none⟩ (.int .i64 ((rd_T83 l0 x8_1).f4.f1))).setCell ⟨gb558, 8, none⟩ (.int .i64 ((rd_T83 l0 x8_1).f5))).setCell ⟨gb558, 9, none⟩ (.int .i64 ((rd_T83 l0 x8_1).f6))).heap[gb558]? = some (.cells #[.int .i64 ((rd_T83 l0 x8_1).f0), .int .i64 ((rd_T83 l0 x8_1).f1.f0), .int .i64 ((rd_T83 l0 x8_1).f1.f1), .int .i64 ((rd_T83 l0 x8_1).f2), .int .i64 ((rd_T83 l0 x8_1).f3.f0), .int .i64 ((rd_T83 l0 x8_1).f3.f1), .int .i64 ((rd_T83 l0 x8_1).f4.f0), .int .i64 ((rd_T83 l0 x8_1).f4.f1), .int .i64 ((rd_T83 l0 x8_1).f5), .int .i64 ((rd_T83 l0 x8_1).f6)] 83 (0, 0))) := ⟨bk_ BK558⟩
     have n1_ : Aside0 (Below w.heap.size w ((((((((((w9.setCell ⟨gb558, 0, none⟩ (.int .i64 ((rd_T83 l0 x8_1).f0))).setCell ⟨gb558, 1, none⟩ (.int .i64 ((rd_T83 l0 x8_1).f1.f0))).setCell ⟨gb558, 2, none⟩ (.int .i64 ((rd_T83 l0 x8_1).f1.f1))).setCell ⟨gb558, 3, none⟩ (.int .i64 ((rd_T83 l0 x8_1).f2))).setCell ⟨gb558, 4, none⟩ (.int .i64 ((rd_T83 l0 x8_1).f3.f0))).setCell ⟨gb558, 5, none⟩ (.int .i64 ((rd_T83 l0 x8_1).f3.f1))).setCell ⟨gb558, 6, none⟩ (.int .i64 ((rd_T83 l0 x8_1).f4.f0))).setCell ⟨gb558, 7, none⟩ (.int .i64 ((rd_T83 l0 x8_1).f4.f1))).setCell ⟨gb558, 8, none⟩ (.int .i64 ((rd_T83 l0 x8_1).f5))).setCell ⟨gb558, 9, none⟩ (.int .i64 ((rd_T83 l0 x8_1).f6)))) := ⟨bl_⟩
     (try clear BK558)
     (try clear HB)
     generalize ((((((((((w9.setCell ⟨gb558, 0, none⟩ (.int .i64 ((rd_T83 l0 x8_1).f0))).setCell ⟨gb558, 1, none⟩ (.int .i64 ((rd_T83 l0 x8_1).f1.f0))).setCell ⟨gb558, 2, none⟩ (.int .i64 ((rd_T83 l0 x8_1).f1.f1))).setCell ⟨gb558, 3, none⟩ (.int .i64 ((rd_T83 l0 x8_1).f2))).setCell ⟨gb558, 4, none⟩ (.int .i64 ((rd_T83 l0 x8_1).f3.f0))).setCell ⟨gb558, 5, none⟩ (.int .i64 ((rd_T83 l0 x8_1).f3.f1))).setCell ⟨gb558, 6, none⟩ (.int .i64 ((rd_T83 l0 x8_1).f4.f0))).setCell ⟨gb558, 7, none⟩ (.int .i64 ((rd_T83 l0 x8_1).f4.f1))).setCell ⟨gb558, 8, none⟩ (.int .i64 ((rd_T83 l0 x8_1).f5))).setCell ⟨gb558, 9, none⟩ (.int .i64 ((rd_T83 l0 x8_1).f6))) = w11 at n0_ n1_ ⊢
     have BK558 := n0_
     have HB := n1_
     clear n0_ n1_
     (try simp only [Act.put, sb_, sz_, ss_])
     have H := HC8.out
     clear HC8
     by_cases c12 : ((rd_T83 l0 x8_1).f5) < x3_1
     ·rw [if_pos c12] at H
      have c12b0 : decide (((rd_T83 l0 x8_1).f5) < x3_1) = true := decide_eq_true c12
      clear c12
      (first | rw [c12b0] | (simp only [i64_w, i32_w]; rw [c12b0]) | skip)
      have H' := aa_ H
      clear H
      have hcz13 := blk_cell BK558.out
      have hfz13 := blk_frozen BK558.out
      go_wp2
      go_roundg k1
      case measure => have := HK1.out; omega
      case rel => exact ⟨((rd_T83 l0 x8_1).f5), (wrap64 (x8_1 + 1)), rf_, rf_, H', ⟨by have := HK1.out; omega⟩, ⟨bl_⟩⟩
     ·rw [if_neg c12] at H
      have c12b0 : decide (((rd_T83 l0 x8_1).f5) < x3_1) = false := decide_eq_false c12
      clear c12
      (first | rw [c12b0] | (simp only [i64_w, i32_w]; rw [c12b0]) | skip)
      have H' := aa_ H
      clear H
      go_wp2
      go_roundg k1
      case measure => have := HK1.out; omega
      case rel => exact ⟨(x3_1), (wrap64 (x8_1 + 1)), rf_, rf_, H', ⟨by have := HK1.out; omega⟩, ⟨bl_⟩⟩
   ·rw [if_neg c2] at H
    have c2b0 : decide (x8_1 < (l0.length : Int)) = false := decide_eq_false c2
    clear c2
    obtain rfl := Option.some.inj H
    go_wp2
    go_ret
    exact ⟨eq_, bl_⟩
def impl_Cred_75.l0 : Nat → List (S83) → (S83 → Option Bool) → Int → Int → Option (Int)
 | 0, _, _, _, _ => none
 | k + 1, x0, x1, x7, x8 => if x8 < x7 then (if 0 ≤ x8 then (if x8 < (x0.length : Int) then ((x1 (⟨(rd_T83 x0 x8).f0, (⟨(rd_T83 x0 x8).f1.f0, (rd_T83 x0 x8).f1.f1⟩ : S77), (rd_T83 x0 x8).f2, (⟨(rd_T83 x0 x8).f3.f0, (rd_T83 x0 x8).f3.f1⟩ : S77), (⟨(rd_T83 x0 x8).f4.f0, (rd_T83 x0 x8).f4.f1⟩ : S77), (rd_T83 x0 x8).f5, (rd_T83 x0 x8).f6⟩ : S83)).bind fun t560 => (if t560 = true then (some x8) else (impl_Cred_75.l0 k x0 x1 x7 (wrap64 (x8 + 1))))) else (none)) else (none)) else (some (-1))
def impl_Cred_75.f (k : Nat) (l0 : List (S83)) (a1 : (S83 → Option Bool)) : Option (Int) := impl_Cred_75.l0 k l0 a1 (l0.length : Int) 0
set_option maxHeartbeats 8000000 in
set_option maxRecDepth 100000 in
theorem impl_Cred_75.calls (k : Nat) (A0 : Option Addr) (c0 : Nat) (l0 : List (S83)) (a1 : (S83 → Option Bool)) (na1_ : Nat) (ga1_ : Array Value) (r : Int) (w : World) (hr0 : Kd.C k83 w A0 l0.length l0) (hc0 : l0.length ≤ c0) (hq1 : ∀ W_, Below w.heap.size w W_ → FnOk83 a1 na1_ ga1_ W_) (h : impl_Cred_75.f k l0 a1 = some r) :
  Calls Tryz.prog 75 #[.slice A0 l0.length c0, .func (.func na1_) #[] ga1_] w fun e w' => e = .returned (.int .i64 r) ∧ Below w.heap.size w w' := by
 have hu83 := Tryz.underlying83
 have HR0 := aa_ hr0
 have HC0 := aa_ hc0
 clear hr0 hc0
 have HFN1 := aa_ hq1
 have eg1 := (hq1 w (Below.refl _ _)).1
 clear hq1
 have HB := aa_ (Below.refl w.heap.size w)
 have H : (impl_Cred_75.l0 k l0 a1 (l0.length : Int) 0) = some r := h
 clear h
 have H' := aa_ H
 clear H
 go_enter Tryz.func75, Tryz.ntmps75
 go_wp2
 go_loopg [8] k (fun kq v8 w' => ∃ (x8_1 : Int), v8 = .int .i64 x8_1 ∧ Aside0 (impl_Cred_75.l0 kq l0 a1 (l0.length : Int) x8_1 = some r) ∧ Aside0 (kq ≤ k) ∧ Aside0 (Below w.heap.size w w'))
 case atStart => exact ⟨(0), rf_, H', ⟨Nat.le_refl _⟩, ⟨bl_⟩⟩
 case round =>
  clear H'
  try clear q1
  try clear p2
  obtain ⟨x8_1, rfl, HA, HK1, HB⟩ := hrel
  cases gk with
  | zero => exact absurd HA.out (by simp [impl_Cred_75.l0])
  | succ k1 =>
   have H := HA.out
   clear HA
   simp only [impl_Cred_75.l0] at H
   by_cases c3 : x8_1 < (l0.length : Int)
   ·rw [if_pos c3] at H
    have c3b0 : decide (x8_1 < (l0.length : Int)) = true := decide_eq_true c3
    clear c3
    obtain ⟨c4b0, H⟩ := ifd_ H
    obtain ⟨c5b0, H⟩ := ifd_ H
    obtain ⟨t560, A6, H⟩ := bindE_ H
    have HC7 := aa_ H
    clear H
    have p559 : 0 ≤ (x8_1 : Int) := od_
    have q559 : x8_1 < (l0.length : Int) := od_
    obtain ⟨ad559, e559, hx559_0, hx559_1, hx559_2, hx559_3, hx559_4, hx559_5, hx559_6, hx559_7, hx559_8, hx559_9⟩ := at_T83 (Kd.C_below HR0.out HB.out) x8_1 p559 q559
    cases e559
    replace p559 := eq_true p559
    replace q559 := eq_true q559
    go_upto_if 16 with (first | (go_at_fn na1_; (refine ((HFN1.out _ bl_).2 _ _ A6.out).mono ?_); rintro e w8 ⟨rfl, hb⟩; replace HB := hbs_ hb; clear hb))
    (try simp only [Act.put, sb_, sz_, ss_])
    have H := HC7.out
    clear HC7
    by_cases c9 : t560 = true
    ·subst c9
     replace H := ite_t_ H
     obtain rfl := Option.some.inj H
     go_wp2
     go_ret
     exact ⟨eq_, bl_⟩
    ·replace c9 := Bool.eq_false_iff.mpr c9
     subst c9
     replace H := ite_f_ H
     have H' := aa_ H
     clear H
     go_wp2
     go_roundg k1
     case measure => have := HK1.out; omega
     case rel => exact ⟨(wrap64 (x8_1 + 1)), rf_, H', ⟨by have := HK1.out; omega⟩, ⟨bl_⟩⟩
   ·rw [if_neg c3] at H
    have c3b0 : decide (x8_1 < (l0.length : Int)) = false := decide_eq_false c3
    clear c3
    obtain rfl := Option.some.inj H
    go_wp2
    go_ret
    exact ⟨eq_, bl_⟩
def impl_Cred_49.f (k : Nat) (l0 : List (S83)) (a1 : (S83 → Option Bool)) : Option (Bool) := (impl_Cred_75.f k l0 a1).bind fun t561 => (some (decide (t561 ≥ 0)))
set_option maxHeartbeats 8000000 in
set_option maxRecDepth 100000 in
theorem impl_Cred_49.calls (k : Nat) (A0 : Option Addr) (c0 : Nat) (l0 : List (S83)) (a1 : (S83 → Option Bool)) (na1_ : Nat) (ga1_ : Array Value) (r : Bool) (w : World) (hr0 : Kd.C k83 w A0 l0.length l0) (hc0 : l0.length ≤ c0) (hq1 : ∀ W_, Below w.heap.size w W_ → FnOk83 a1 na1_ ga1_ W_) (h : impl_Cred_49.f k l0 a1 = some r) :
  Calls Tryz.prog 49 #[.slice A0 l0.length c0, .func (.func na1_) #[] ga1_] w fun e w' => e = .returned (.bool r) ∧ Below w.heap.size w w' := by
 have HR0 := aa_ hr0
 have HC0 := aa_ hc0
 clear hr0 hc0
 have HFN1 := aa_ hq1
 have eg1 := (hq1 w (Below.refl _ _)).1
 clear hq1
 have HB := aa_ (Below.refl w.heap.size w)
 have H : ((impl_Cred_75.f k l0 a1).bind fun t561 => (some (decide (t561 ≥ 0)))) = some r := h
 clear h
 obtain ⟨t561, A3, H⟩ := bindE_ H
 obtain rfl := Option.some.inj H
 go_enter Tryz.func49, Tryz.ntmps49
 go_wp2_with (first | ((with_reducible refine gC_ 75 rfl ?_); refine goesC_ (some 7) Tryz.func75 #[.slice A0 l0.length c0, .func (.func na1_) #[] ga1_] ?_; (with_reducible refine (impl_Cred_75.calls k _ _ l0 a1 na1_ ga1_ t561 _ ?side1 ?side2 ?side3 A3.out).mono ?_); (case side1 => exact cc_ HR0); (case side2 => exact HC0.out); (case side3 => exact fun W_ hW_ => HFN1.out W_ ((show Below w.heap.size w _ from bl_).trans hW_)); rintro e w4 ⟨rfl, hb⟩; refine ⟨_, rfl, ?_⟩; replace HB := hbs_ hb; clear hb))
 go_ret
 exact ⟨eq_, bl_⟩
-- NOT PRINTED: function 50 (impl_Sound_1)
theorem idx76 (xs : List S83) (hl : xs.length ≤ 1048576) (x : S83) : ∀ d j : Nat, xs.length - j = d → j ≤ xs.length → ∃ i : Int, impl_Cred_76.l0 (d + 1) xs (xs.length : Int) (j : Int) x.f0 x.f1.f0 x.f1.f1 x.f2 x.f3.f0 x.f3.f1 x.f4.f0 x.f4.f1 x.f5 x.f6 = some i ∧ decide (i ≥ 0) = (xs.drop j).any fun y => isC x y := by
 intro d
 induction d with
 | zero =>
  intro j hd hj
  obtain rfl : j = xs.length := by omega
  refine ⟨-1, ?_, by simp⟩
  simp only [impl_Cred_76.l0, Int.lt_irrefl, if_false]
 | succ d ih =>
  intro j hd hj
  have hjl : j < xs.length := by omega
  obtain ⟨i, h1, h2⟩ := ih (j + 1) (by omega) (by omega)
  have hw : wrap64 ((j : Int) + 1) = ((j + 1 : Nat) : Int) := by unfold wrap64; omega
  have hr : rd_T83 xs (j : Int) = xs[j] := by unfold rd_T83; simp [hjl]
  rw [List.drop_eq_getElem_cons hjl, List.any_cons]
  unfold impl_Cred_76.l0
  rw [if_pos (show (j : Int) < (xs.length : Int) by omega), if_pos (show (0 : Int) ≤ (j : Int) by omega), if_pos (show (j : Int) < (xs.length : Int) by omega), hw, hr]
  show ∃ i : Int, (if isC x xs[j] = true then some (j : Int) else impl_Cred_76.l0 (d + 1) xs (xs.length : Int) ((j + 1 : Nat) : Int) x.f0 x.f1.f0 x.f1.f1 x.f2 x.f3.f0 x.f3.f1 x.f4.f0 x.f4.f1 x.f5 x.f6) = some i ∧ _
  cases hq : isC x xs[j]
  ·exact ⟨i, by simpa using h1, by simpa using h2⟩
  ·exact ⟨(j : Int), by simp, by simp⟩
theorem has28 (xs : List S83) (hl : xs.length ≤ 1048576) (x : S83) : ∃ k, impl_Cred_51.f k xs x.f0 x.f1.f0 x.f1.f1 x.f2 x.f3.f0 x.f3.f1 x.f4.f0 x.f4.f1 x.f5 x.f6 = some (xs.any fun y => isC x y) := by
 obtain ⟨i, h1, h2⟩ := idx76 xs hl x xs.length 0 rfl (Nat.zero_le _)
 refine ⟨xs.length + 1, ?_⟩
 unfold impl_Cred_51.f impl_Cred_76.f
 have e : impl_Cred_76.l0 (xs.length + 1) xs (xs.length : Int) 0 x.f0 x.f1.f0 x.f1.f1 x.f2 x.f3.f0 x.f3.f1 x.f4.f0 x.f4.f1 x.f5 x.f6 = some i := h1
 rw [e, Option.bind_some, h2, List.drop_zero]
set_option maxHeartbeats 4000000 in
set_option maxRecDepth 100000 in
theorem clo50_ok (xs : List S83) (g : Nat) {A0 : Option Addr} {c0 : Nat} {W : World} {cs : Array Value} (hbox : W.heap[g]? = some (.cells cs 40 (0, 0))) (hat : cs[3]? = some (.slice A0 xs.length c0)) (hr : Kd.C k83 W A0 xs.length xs) (hc : xs.length ≤ c0) : FnOk83 (clo50 xs) 50 #[.pointer (some ⟨g, 0, none⟩)] W := by
 refine ⟨fun args w => enters_ Tryz.func50 (by kernel_rfl) rfl args w, fun x r h => ?_⟩
 unfold clo50 at h
 by_cases hl : xs.length ≤ 1048576
 case neg => rw [if_neg hl] at h; cases h
 rw [if_pos hl] at h
 obtain rfl := Option.some.inj h
 clear h
 obtain ⟨k, hk⟩ := has28 xs hl x
 have hu36 := Tryz.underlying36
 have hu61 := Tryz.underlying83
 have hu40 := Tryz.underlying40
 have BK := aa_ hbox
 have HR0 := aa_ hr
 have HC0 := aa_ hc
 have H := aa_ hk
 have HA := aa_ hat
 have HB := aa_ (Below.refl W.heap.size W)
 clear hr hc hk hbox hat hl
 show Calls Tryz.prog 50 #[aggC x, .pointer (some ⟨g, 0, none⟩)] W _
 go_enter Tryz.func50, Tryz.ntmps50
 go_wp2_with (first | ((with_reducible refine gD_ 2 rfl ?_); refine bx_ (N := 2) (cs := #[.int .i64 x.f0, .int .i64 x.f1.f0, .int .i64 x.f1.f1, .int .i64 x.f2, .int .i64 x.f3.f0, .int .i64 x.f3.f1, .int .i64 x.f4.f0, .int .i64 x.f4.f1, .int .i64 x.f5, .int .i64 x.f6]) (t := 83) ?_; intro gb2 hg w5 hbox hb; have BK2 := aa_ hbox; have hcz := blk_cell BK2.out; have hfz := blk_frozen BK2.out; have hs0 := (blk_cell (blk_below BK.out hb) 3).trans HA.out; have HB := aa_ hb; clear hb hbox hg) | ((with_reducible refine gC_ 51 rfl ?_); refine goesC_ (some 7) Tryz.func51 #[.slice A0 xs.length c0, aggC x] ?_; (with_reducible refine (impl_Cred_51.calls k A0 c0 xs x.f0 x.f1.f0 x.f1.f1 x.f2 x.f3.f0 x.f3.f1 x.f4.f0 x.f4.f1 x.f5 x.f6 (xs.any fun y => isC x y) _ ?side1 ?side2 H.out).mono ?_); (case side1 => exact Kd.C_below HR0.out HB.out); (case side2 => exact HC0.out); rintro e w8 ⟨rfl, hb⟩; refine ⟨_, rfl, ?_⟩; replace HB := hbs_ hb; clear hb))
 go_ret
 exact ⟨by first | rfl | (simp; done), bl_⟩
def impl_Sound.l0 : Nat → List (S73) → Int → Int → List (S68) → Int → List Int → List (S83) → List (S83) → List (S73) → List (S79) → List Int → Option (Bool)
 | 0, _, _, _, _, _, _, _, _, _, _, _ => none
 | k + 1, x14, x15, x16, x563000, x563001, x563002, x563003, x563004, x563005, x563006, x563007 => if x16 < x15 then (if 0 ≤ x16 then (if x16 < (x14.length : Int) then ((impl_CredsIn.f k ((rd_T73 x14 x16).f1)).bind fun t565 => (if x16 < (x563006.length : Int) then ((impl_leastUntil.f k t565).bind fun t570 => ((impl_AnswerOk.f k ((rd_T73 x14 x16).f0) ((rd_T73 x14 x16).f1) ((rd_T73 x14 x16).f2) ((rd_T73 x14 x16).f3) ((rd_T73 x14 x16).f4) ((rd_T79 x563006 x16).f0.f0) ((rd_T79 x563006 x16).f0.f1) ((rd_T79 x563006 x16).f1) t570).bind fun t571 => (if t571 = true then ((impl_Cred_49.f k t565 (clo50 x563003)).bind fun t572 => (if t572 = true then (some false) else (impl_Sound.l0 k x14 x15 (wrap64 (x16 + 1)) x563000 x563001 x563002 x563003 x563004 x563005 x563006 x563007))) else (some false)))) else (none))) else (none)) else (none)) else (some true)
def impl_Sound.f (k : Nat) (l0_0 : List (S68)) (a0_1 : Int) (l0_2 : List Int) (l0_3 : List (S83)) (l0_4 : List (S83)) (l0_5 : List (S73)) (l0_6 : List (S79)) (l0_7 : List Int) : Option (Bool) := if (l0_6.length : Int) = (l0_5.length : Int) then (impl_Sound.l0 k l0_5 (l0_5.length : Int) 0 l0_0 a0_1 l0_2 l0_3 l0_4 l0_5 l0_6 l0_7) else (some false)
def impl_Sound.T7 : Bool × List (List Nat × List Nat) := (true, [([], []), ([], []), ([1], [1]), ([], []), ([2, 3], [2, 3]), ([4], [4]), ([5], [5]), ([], []), ([7], [7]), ([], []), ([8, 9], [8, 9]), ([10], [10]), ([11], [11]), ([], []), ([13], [13]), ([0, 6, 12, 14, 14], [0, 6, 12, 14]), ([15], [15])])
def impl_Sound.B7 : List Nat := [0, 0, 2, 0, 14, 30, 62, 0, 128, 0, 896, 1920, 3968, 0, 8192, 32767, 65535]
theorem impl_Sound.tab7 : rtab .any (opsOf Tryz.f22 7) = impl_Sound.T7 := by kernel_rfl
theorem impl_Sound.bits7 : waitsOk impl_Sound.T7.2 impl_Sound.B7 = true := by kernel_rfl
set_option maxHeartbeats 8000000 in
set_option maxRecDepth 100000 in
theorem impl_Sound.calls (k : Nat) (A0_0 : Option Addr) (c0_0 : Nat) (l0_0 : List (S68)) (a0_1 : Int) (A0_2 : Option Addr) (c0_2 : Nat) (l0_2 : List Int) (A0_3 : Option Addr) (c0_3 : Nat) (l0_3 : List (S83)) (A0_4 : Option Addr) (c0_4 : Nat) (l0_4 : List (S83)) (A0_5 : Option Addr) (c0_5 : Nat) (l0_5 : List (S73)) (A0_6 : Option Addr) (c0_6 : Nat) (l0_6 : List (S79)) (A0_7 : Option Addr) (c0_7 : Nat) (l0_7 : List Int) (r : Bool) (w : World) (hr0_0 : Kd.C k68 w A0_0 l0_0.length l0_0) (hc0_0 : l0_0.length ≤ c0_0) (hr0_2 : Kd.C (Kd.int .i64) w A0_2 l0_2.length l0_2) (hc0_2 : l0_2.length ≤ c0_2) (hr0_3 : Kd.C k83 w A0_3 l0_3.length l0_3) (hc0_3 : l0_3.length ≤ c0_3) (hr0_4 : Kd.C k83 w A0_4 l0_4.length l0_4) (hc0_4 : l0_4.length ≤ c0_4) (hr0_5 : Kd.C k73 w A0_5 l0_5.length l0_5) (hc0_5 : l0_5.length ≤ c0_5) (hr0_6 : Kd.C k79 w A0_6 l0_6.length l0_6) (hc0_6 : l0_6.length ≤ c0_6) (hr0_7 : Kd.C (Kd.int .i64) w A0_7 l0_7.length l0_7) (hc0_7 : l0_7.length ≤ c0_7) (h : impl_Sound.f k l0_0 a0_1 l0_2 l0_3 l0_4 l0_5 l0_6 l0_7 = some r) :
  Calls Tryz.prog 22 #[.agg #[.slice A0_0 l0_0.length c0_0, .int .i64 a0_1, .slice A0_2 l0_2.length c0_2, .slice A0_3 l0_3.length c0_3, .slice A0_4 l0_4.length c0_4, .slice A0_5 l0_5.length c0_5, .slice A0_6 l0_6.length c0_6, .slice A0_7 l0_7.length c0_7]] w fun e w' => e = .returned (.bool r) ∧ Below w.heap.size w w' := by
 have hu40 := Tryz.underlying40
 have hu73 := Tryz.underlying73
 have hu77 := Tryz.underlying77
 have hmf : ∀ (fn : Fn) (first cap : Array Value) (w : World), (Instr.makeFunc fn first cap).run Tryz.prog w = .ok (.func fn first cap) w := fun _ _ _ _ => rfl
 have HR0_0 := aa_ hr0_0
 have HC0_0 := aa_ hc0_0
 clear hr0_0 hc0_0
 have HR0_2 := aa_ hr0_2
 have HC0_2 := aa_ hc0_2
 clear hr0_2 hc0_2
 have HR0_3 := aa_ hr0_3
 have HC0_3 := aa_ hc0_3
 clear hr0_3 hc0_3
 have HR0_4 := aa_ hr0_4
 have HC0_4 := aa_ hc0_4
 clear hr0_4 hc0_4
 have HR0_5 := aa_ hr0_5
 have HC0_5 := aa_ hc0_5
 clear hr0_5 hc0_5
 have HR0_6 := aa_ hr0_6
 have HC0_6 := aa_ hc0_6
 clear hr0_6 hc0_6
 have HR0_7 := aa_ hr0_7
 have HC0_7 := aa_ hc0_7
 clear hr0_7 hc0_7
 have HB := aa_ (Below.refl w.heap.size w)
 have H : (if (l0_6.length : Int) = (l0_5.length : Int) then (impl_Sound.l0 k l0_5 (l0_5.length : Int) 0 l0_0 a0_1 l0_2 l0_3 l0_4 l0_5 l0_6 l0_7) else (some false)) = some r := h
 clear h
 have HC2 := aa_ H
 clear H
 go_enter Tryz.func22, Tryz.ntmps22
 go_upto_if 12 with (first | ((with_reducible refine gD_ 1 rfl ?_); refine bx_ (N := 1) (cs := #[.slice A0_0 l0_0.length c0_0, .int .i64 a0_1, .slice A0_2 l0_2.length c0_2, .slice A0_3 l0_3.length c0_3, .slice A0_4 l0_4.length c0_4, .slice A0_5 l0_5.length c0_5, .slice A0_6 l0_6.length c0_6, .slice A0_7 l0_7.length c0_7]) (t := 40) ?_; intro gb562 hg w3 hbox hb; have BK562 := aa_ (hbox); have GW562 := gs_ hg; have GE562 := gs_ hg; replace HB := hbs_ hb; clear hb hbox hg; obtain ⟨hcz4, hfz4⟩ := bcf_ BK562))
 (try simp only [Act.put, sb_, sz_, ss_])
 have H := HC2.out
 clear HC2
 by_cases c5 : (l0_6.length : Int) = (l0_5.length : Int)
 ·rw [if_pos c5] at H
  have c5b0 : ((l0_6.length : Int) == (l0_5.length : Int)) = true := beq_iff_eq.mpr c5
  have c5b1 : ((l0_6.length : Int) != (l0_5.length : Int)) = false := bne_eq_false_iff_eq.mpr c5
  have c5b2 : (l0_6.length == l0_5.length) = true := by first | simpa using c5 | (simp at c5 ⊢; omega)
  clear c5
  (first | rw [c5b1] | rw [c5b0] | (simp only [i64_w, i32_w]; rw [c5b0]) | (have cz_ := c5b0; simp only [Int.ofNat_lt, Int.ofNat_le, gt_iff_lt, ge_iff_le] at cz_; rw [cz_]; clear cz_) | skip)
  have H' := aa_ H
  clear H
  have hcz6 := blk_cell BK562.out
  have hfz6 := blk_frozen BK562.out
  go_wp2
  go_loopg [16] k (fun kq v16 w' => ∃ (x16_1 : Int), v16 = .int .i64 x16_1 ∧ Aside0 (impl_Sound.l0 kq l0_5 (l0_5.length : Int) x16_1 l0_0 a0_1 l0_2 l0_3 l0_4 l0_5 l0_6 l0_7 = some r) ∧ Aside0 (kq ≤ k) ∧ Aside0 (w'.heap[gb562]? = some (.cells #[(.slice A0_0 l0_0.length c0_0), .int .i64 a0_1, (.slice A0_2 l0_2.length c0_2), (.slice A0_3 l0_3.length c0_3), (.slice A0_4 l0_4.length c0_4), (.slice A0_5 l0_5.length c0_5), (.slice A0_6 l0_6.length c0_6), (.slice A0_7 l0_7.length c0_7)] 40 (0, 0))) ∧ Aside0 (Below w.heap.size w w'))
  case atStart => exact ⟨(0), rf_, H', ⟨Nat.le_refl _⟩, ⟨bk_ BK562⟩, ⟨bl_⟩⟩
  case round =>
   clear H'
   try clear p2
   try clear c5b0
   try clear c5b1
   try clear c5b2
   try clear hcz4
   try clear hcz6
   try clear hfz4
   try clear hfz6
   obtain ⟨x16_1, rfl, HA, HK1, BK562, HB⟩ := hrel
   cases gk with
   | zero => exact absurd HA.out (by simp [impl_Sound.l0])
   | succ k1 =>
    have H := HA.out
    clear HA
    simp only [impl_Sound.l0] at H
    by_cases c7 : x16_1 < (l0_5.length : Int)
    ·rw [if_pos c7] at H
     have c7b0 : decide (x16_1 < (l0_5.length : Int)) = true := decide_eq_true c7
     clear c7
     obtain ⟨c8b0, H⟩ := ifd_ H
     obtain ⟨c9b0, H⟩ := ifd_ H
     obtain ⟨t565, A10, H⟩ := bindE_ H
     obtain ⟨c11b0, H⟩ := ifd_ H
     obtain ⟨t570, A12, H⟩ := bindE_ H
     obtain ⟨t571, A13, H⟩ := bindE_ H
     have HC14 := aa_ H
     clear H
     have p563 : 0 ≤ (x16_1 : Int) := od_
     have q563 : x16_1 < (l0_5.length : Int) := od_
     obtain ⟨ad563, A563_1, c563_1, e563, hx563_0, hx563_1, hx563_2, hx563_3, hx563_4, hl563_1, hi563_1⟩ := at_T73 HR0_5.out x16_1 p563 q563
     cases e563
     replace hx563_0 := cb_ HB hx563_0
     replace hx563_1 := cb_ HB hx563_1
     replace hx563_2 := cb_ HB hx563_2
     replace hx563_3 := cb_ HB hx563_3
     replace hx563_4 := cb_ HB hx563_4
     have HR563_1 := aa_ hi563_1
     have HC563_1 := aa_ hl563_1
     clear hi563_1 hl563_1
     replace p563 := eq_true p563
     replace q563 := eq_true q563
     try go_wp2_with (first | ((with_reducible refine gD_ 4 rfl ?_); refine bx_ (N := 4) (cs := #[.bool false, .slice none 0 0, .int .i64 0, .bool false, .bool false]) (t := 73) ?_; intro gb564 hg w15 hbox hb; have BK564 := aa_ (hbox); have GW564 := gs_ hg; have GE564 := gs_ hg; replace HB := hbs_ hb; have NB562_564 := nl_ hg BK562; have NB564_562 := nr_ hg BK562; replace BK562 := bkb_ BK562 hb; clear hb hbox hg; have hnb16 := NB564_562.out; have hnc16 := NB562_564.out; obtain ⟨hcz17, hfz17⟩ := bcf_ BK564) | ((with_reducible refine gC_ 46 rfl ?_); refine goesC_ (some 23) Tryz.func46 #[.slice A563_1 ((rd_T73 l0_5 x16_1).f1).length c563_1] ?_; (with_reducible refine (impl_CredsIn.calls k1 _ _ ((rd_T73 l0_5 x16_1).f1) t565 _ ?side1 ?side2 A10.out).mono ?_); (case side1 => exact Kd.C_below HR563_1.out bl_); (case side2 => exact HC563_1.out); rintro e w18 ⟨v566, rfl, ho0, hb⟩; refine ⟨_, rfl, ?_⟩; have HO567 := aa_ (Kd.R_lower ho0 bls_); replace BK562 := aa_ (blk_below (g := gb562) (o := .cells #[.slice A0_0 l0_0.length c0_0, .int .i64 a0_1, .slice A0_2 l0_2.length c0_2, .slice A0_3 l0_3.length c0_3, .slice A0_4 l0_4.length c0_4, .slice (some ad563) l0_5.length c0_5, .slice A0_6 l0_6.length c0_6, .slice A0_7 l0_7.length c0_7] 40 (0, 0)) (bk_ BK562) hb); replace BK564 := aa_ (blk_below (g := gb564) (o := .cells #[.bool ((rd_T73 l0_5 x16_1).f0), .slice A563_1 ((rd_T73 l0_5 x16_1).f1).length c563_1, .int .i64 ((rd_T73 l0_5 x16_1).f2), .bool ((rd_T73 l0_5 x16_1).f3), .bool ((rd_T73 l0_5 x16_1).f4)] 73 (0, 0)) (bk_ BK564) hb); replace HB := hbs_ hb; (try clear hb ho0)))
     replace HO567 := aa_ (Kd.R_drew HO567.out)
     replace BK562 := aa_ (blk_drew BK562.out)
     replace BK564 := aa_ (blk_drew BK564.out)
     replace HB := aa_ (below_drew1 HB.out)
     have p568 : 0 ≤ (x16_1 : Int) := od_
     have q568 : x16_1 < (l0_6.length : Int) := od_
     obtain ⟨ad568, e568, hx568_0, hx568_1, hx568_2⟩ := at_T79 HR0_6.out x16_1 p568 q568
     have hw568_2 := hx568_2
     have hw568_1 := hx568_1
     have hw568_0 := hx568_0
     cases e568
     replace hx568_0 := cb_ HB hx568_0
     replace hx568_1 := cb_ HB hx568_1
     replace hx568_2 := cb_ HB hx568_2
     replace p568 := eq_true p568
     replace q568 := eq_true q568
     have p569 : 0 ≤ (x16_1 : Int) := od_
     have q569 : x16_1 < (l0_6.length : Int) := od_
     obtain ⟨ad569, e569, hx569_0, hx569_1, hx569_2⟩ := at_T79 HR0_6.out x16_1 p569 q569
     have hw569_2 := hx569_2
     have hw569_1 := hx569_1
     have hw569_0 := hx569_0
     obtain rfl : ad568 = ad569 := (by injection e569)
     replace hx569_0 := cb_ HB hx569_0
     replace hx569_1 := cb_ HB hx569_1
     replace hx569_2 := cb_ HB hx569_2
     replace p569 := eq_true p569
     replace q569 := eq_true q569
     obtain ⟨Ao20, co20, eo20⟩ := Kd.R_slice HO567.out
     (first | subst eo20 | (injection eo20 with f1_ f2_ f3_; have f4_ := f1_.symm; have f5_ := f3_.symm; clear f1_ f2_ f3_; subst f4_; subst f5_))
     refine start_ (n := 17) (S := fun w' => w'.cell? ⟨gb564, 0, none⟩ = some (.bool ((rd_T73 l0_5 x16_1).f0)) ∧ w'.cell? ⟨gb564, 1, none⟩ = some (.slice A563_1 ((rd_T73 l0_5 x16_1).f1).length c563_1) ∧ w'.cell? ⟨gb564, 2, none⟩ = some (.int .i64 ((rd_T73 l0_5 x16_1).f2)) ∧ w'.cell? ⟨gb564, 3, none⟩ = some (.bool ((rd_T73 l0_5 x16_1).f3)) ∧ w'.cell? ⟨gb564, 4, none⟩ = some (.bool ((rd_T73 l0_5 x16_1).f4)) ∧ w'.cell? ⟨gb562, 0, none⟩ = some (.slice A0_0 l0_0.length c0_0) ∧ w'.cell? ⟨gb562, 1, none⟩ = some (.int .i64 a0_1) ∧ w'.cell? ⟨gb562, 2, none⟩ = some (.slice A0_2 l0_2.length c0_2) ∧ w'.cell? ⟨gb562, 3, none⟩ = some (.slice A0_3 l0_3.length c0_3) ∧ w'.cell? ⟨gb562, 4, none⟩ = some (.slice A0_4 l0_4.length c0_4) ∧ w'.cell? ⟨gb562, 5, none⟩ = some (.slice (some ad563) l0_5.length c0_5) ∧ w'.cell? ⟨gb562, 6, none⟩ = some (.slice (some ad568) l0_6.length c0_6) ∧ w'.cell? ⟨gb562, 7, none⟩ = some (.slice A0_7 l0_7.length c0_7) ∧ w'.cell? (ad568.add ((x16_1).toNat * 3)) = some (.int .i64 ((rd_T79 l0_6 x16_1).f0.f0)) ∧ w'.cell? ⟨(ad568.add ((x16_1).toNat * 3)).block, (ad568.add ((x16_1).toNat * 3)).off + 1, none⟩ = some (.int .i64 ((rd_T79 l0_6 x16_1).f0.f1)) ∧ w'.cell? ⟨(ad568.add ((x16_1).toNat * 3)).block, (ad568.add ((x16_1).toNat * 3)).off + 2, none⟩ = some (.int .i64 ((rd_T79 l0_6 x16_1).f1)) ∧ w'.cell? (ad568.add ((x16_1).toNat * 3)) = some (.int .i64 ((rd_T79 l0_6 x16_1).f0.f0)) ∧ w'.cell? ⟨(ad568.add ((x16_1).toNat * 3)).block, (ad568.add ((x16_1).toNat * 3)).off + 1, none⟩ = some (.int .i64 ((rd_T79 l0_6 x16_1).f0.f1)) ∧ w'.cell? ⟨(ad568.add ((x16_1).toNat * 3)).block, (ad568.add ((x16_1).toNat * 3)).off + 2, none⟩ = some (.int .i64 ((rd_T79 l0_6 x16_1).f1))) (ds := []) (ba_ 17 0) (by kernel_rfl) rfl rfl ⟨(blk_cell BK564.out 0).trans rfl, (blk_cell BK564.out 1).trans rfl, (blk_cell BK564.out 2).trans rfl, (blk_cell BK564.out 3).trans rfl, (blk_cell BK564.out 4).trans rfl, (blk_cell BK562.out 0).trans rfl, (blk_cell BK562.out 1).trans rfl, (blk_cell BK562.out 2).trans rfl, (blk_cell BK562.out 3).trans rfl, (blk_cell BK562.out 4).trans rfl, (blk_cell BK562.out 5).trans rfl, (blk_cell BK562.out 6).trans rfl, (blk_cell BK562.out 7).trans rfl, (cb_ HB hw568_0 :), (cb_ HB hw568_1 :), (cb_ HB hw568_2 :), (cb_ HB hw569_0 :), (cb_ HB hw569_1 :), (cb_ HB hw569_2 :)⟩ (fun hHeld => ?_); refine with_tabW impl_Sound.tab7 impl_Sound.bits7 (fun HT_ HW_ => ?_)
     generalize w18.drew = w19 at HO567 BK562 BK564 HB hx568_0 hx568_1 hx568_2 hx569_0 hx569_1 hx569_2 hHeld ⊢
     refine pz_ 1 25 (ba_ 17 2) (ao_ HT_) ?_
     refine pz_ 3 27 (ba_ 17 10) (ao_ HT_) ?_
     refine pz_ 7 31 (ba_ 17 138) (ao_ HT_) ?_
     refine pz_ 9 33 (ba_ 17 650) (ao_ HT_) ?_
     refine pz_ 13 37 (ba_ 17 8842) (ao_ HT_) ?_
     refine tz_ 0 24 (ba_ 17 8843) (take_ofW HT_.out HW_.out (by kernel_rfl)) hHeld ?_
     refine tz_ 2 26 (ba_ 17 8847) (take_ofW HT_.out HW_.out (by kernel_rfl)) hHeld ?_
     refine pz_ 4 28 (ba_ 17 8863) (ao_ HT_) ?_
     refine pz_ 5 29 (ba_ 17 8895) (ao_ HT_) ?_
     refine tz_ 6 30 (ba_ 17 8959) (take_ofW HT_.out HW_.out (by kernel_rfl)) hHeld ?_
     refine tz_ 8 32 (ba_ 17 9215) (take_ofW HT_.out HW_.out (by kernel_rfl)) hHeld ?_
     refine pz_ 10 34 (ba_ 17 10239) (ao_ HT_) ?_
     refine pz_ 11 35 (ba_ 17 12287) (ao_ HT_) ?_
     refine tz_ 12 36 (ba_ 17 16383) (take_ofW HT_.out HW_.out (by kernel_rfl)) hHeld ?_
     refine one_ (i := 14) (N := some 38) (ba_ 17 32767) rfl rfl (one_of HT_.out (by kernel_rfl)) (by decide) (fun K hK => ?_)
     refine goes_ Tryz.func48 (by kernel_rfl) rfl #[.slice Ao20 t565.length co20] (by rfl) rfl rfl (by (try simp only [List.map_toArray, List.map_cons, List.map_nil]); first | done | rfl | (simp only [List.length_drop, List.length_take]; rfl)) ?_
     with_reducible refine (impl_leastUntil.calls k1 _ _ t565 t570 _ ?side1 ?side2 A12.out).mono ?_
     (case side1 => repeat (first | exact (Kd.R_reads' HO567.out).2.2 | (with_reducible refine Kd.C_alloc ?_ _) | (with_reducible refine Kd.C_drewN ?_ _) | (with_reducible refine Kd.C_drew ?_)))
     (case side2 => exact (Kd.R_reads' HO567.out).2.1)
     rintro e w21 ⟨rfl, hb⟩
     refine ⟨_, rfl, ?_⟩
     replace HO567 := hob_ HO567 hb
     replace BK562 := bkb_ BK562 hb
     replace BK564 := bkb_ BK564 hb
     replace HB := hbs_ hb
     (try clear hb)
     (try clear hb2)
     (try clear hk)
     (try clear hi)
     refine hK.out _ _ ⟨(blk_cell BK564.out 0).trans rfl, (blk_cell BK564.out 1).trans rfl, (blk_cell BK564.out 2).trans rfl, (blk_cell BK564.out 3).trans rfl, (blk_cell BK564.out 4).trans rfl, (blk_cell BK562.out 0).trans rfl, (blk_cell BK562.out 1).trans rfl, (blk_cell BK562.out 2).trans rfl, (blk_cell BK562.out 3).trans rfl, (blk_cell BK562.out 4).trans rfl, (blk_cell BK562.out 5).trans rfl, (blk_cell BK562.out 6).trans rfl, (blk_cell BK562.out 7).trans rfl, (cb_ HB hw568_0 :), (cb_ HB hw568_1 :), (cb_ HB hw568_2 :), (cb_ HB hw569_0 :), (cb_ HB hw569_1 :), (cb_ HB hw569_2 :)⟩ (fun hHeld => ?_)
     clear hK K
     refine norm_ (a' := ?_) ?_ ?_
     rotate_left
     ·show Act.put _ (some 38) _ = _
      simp only [Act.put, sb_, sz_, ss_, i64_w, i32_w]
      rfl
     refine one_ (i := 15) (N := some 39) (ba_ 17 65535) rfl rfl (one_of HT_.out (by kernel_rfl)) (by decide) (fun K hK => ?_)
     refine goes_ Tryz.func47 (by kernel_rfl) rfl #[.agg #[.bool ((rd_T73 l0_5 x16_1).f0), .slice A563_1 ((rd_T73 l0_5 x16_1).f1).length c563_1, .int .i64 ((rd_T73 l0_5 x16_1).f2), .bool ((rd_T73 l0_5 x16_1).f3), .bool ((rd_T73 l0_5 x16_1).f4)], .agg #[.int .i64 ((rd_T79 l0_6 x16_1).f0.f0), .int .i64 ((rd_T79 l0_6 x16_1).f0.f1)], .int .i64 ((rd_T79 l0_6 x16_1).f1), .int .i64 t570] (by rfl) rfl rfl (by (try simp only [List.map_toArray, List.map_cons, List.map_nil]); first | done | rfl | (simp only [List.length_drop, List.length_take]; rfl)) ?_
     with_reducible refine (impl_AnswerOk.calls k1 ((rd_T73 l0_5 x16_1).f0) _ _ ((rd_T73 l0_5 x16_1).f1) ((rd_T73 l0_5 x16_1).f2) ((rd_T73 l0_5 x16_1).f3) ((rd_T73 l0_5 x16_1).f4) ((rd_T79 l0_6 x16_1).f0.f0) ((rd_T79 l0_6 x16_1).f0.f1) ((rd_T79 l0_6 x16_1).f1) t570 t571 _ ?side1 ?side2 A13.out).mono ?_
     (case side1 => repeat (first | exact (Kd.C_below HR563_1.out HB.out) | (with_reducible refine Kd.C_alloc ?_ _) | (with_reducible refine Kd.C_drewN ?_ _) | (with_reducible refine Kd.C_drew ?_)))
     (case side2 => exact HC563_1.out)
     rintro e w22 ⟨rfl, hb⟩
     refine ⟨_, rfl, ?_⟩
     replace HO567 := hob_ HO567 hb
     replace BK562 := bkb_ BK562 hb
     replace BK564 := bkb_ BK564 hb
     replace HB := hbs_ hb
     (try clear hb)
     (try clear hb2)
     (try clear hk)
     (try clear hi)
     refine hK.out _ _ ⟨(blk_cell BK564.out 0).trans rfl, (blk_cell BK564.out 1).trans rfl, (blk_cell BK564.out 2).trans rfl, (blk_cell BK564.out 3).trans rfl, (blk_cell BK564.out 4).trans rfl, (blk_cell BK562.out 0).trans rfl, (blk_cell BK562.out 1).trans rfl, (blk_cell BK562.out 2).trans rfl, (blk_cell BK562.out 3).trans rfl, (blk_cell BK562.out 4).trans rfl, (blk_cell BK562.out 5).trans rfl, (blk_cell BK562.out 6).trans rfl, (blk_cell BK562.out 7).trans rfl, (cb_ HB hw568_0 :), (cb_ HB hw568_1 :), (cb_ HB hw568_2 :), (cb_ HB hw569_0 :), (cb_ HB hw569_1 :), (cb_ HB hw569_2 :)⟩ (fun hHeld => ?_)
     clear hK K
     refine norm_ (a' := ?_) ?_ ?_
     rotate_left
     ·show Act.put _ (some 39) _ = _
      simp only [Act.put, sb_, sz_, ss_, i64_w, i32_w]
      rfl
     refine pz_ 16 40 (ba_ 17 131071) (ao_ HT_) ?_
     refine done_ (done_of HT_.out (by kernel_rfl)) ?_
     go_upto_if 40 with (fail)
     have H := HC14.out
     clear HC14
     by_cases c23 : t571 = true
     ·subst c23
      replace H := ite_t_ H
      obtain ⟨t572, A24, H⟩ := bindE_ H
      have HC25 := aa_ H
      clear H
      go_upto_if 43 with (first | ((with_reducible refine gC_ 49 rfl ?_); refine goesC_ (some 43) Tryz.func49 #[.slice Ao20 t565.length co20, .func (.func 50) #[] #[.pointer (some ⟨gb562, 0, none⟩)]] ?_; (with_reducible refine (impl_Cred_49.calls k1 _ _ t565 (clo50 l0_3) 50 #[.pointer (some ⟨gb562, 0, none⟩)] t572 _ ?side1 ?side2 ?side3 A24.out).mono ?_); (case side1 => repeat (first | exact (Kd.R_reads' HO567.out).2.2 | (with_reducible refine Kd.C_alloc ?_ _) | (with_reducible refine Kd.C_drewN ?_ _) | (with_reducible refine Kd.C_drew ?_))); (case side2 => exact (Kd.R_reads' HO567.out).2.1); (case side3 => exact fun W_ hW_ => clo50_ok _ _ (bkb_ BK562 hW_).out rfl (Kd.C_below HR0_3.out (hbs_ hW_).out) HC0_3.out); rintro e w26 ⟨rfl, hb⟩; refine ⟨_, rfl, ?_⟩; replace HO567 := hob_ HO567 hb; replace BK562 := bkb_ BK562 hb; replace BK564 := bkb_ BK564 hb; replace HB := hbs_ hb; clear hb))
      (try simp only [Act.put, sb_, sz_, ss_])
      have H := HC25.out
      clear HC25
      by_cases c27 : t572 = true
      ·subst c27
       replace H := ite_t_ H
       obtain rfl := Option.some.inj H
       go_wp2
       go_ret
       exact ⟨eq_, bl_⟩
      ·replace c27 := Bool.eq_false_iff.mpr c27
       subst c27
       replace H := ite_f_ H
       have H' := aa_ H
       clear H
       go_wp2
       go_roundg k1
       case measure => have := HK1.out; omega
       case rel => exact ⟨(wrap64 (x16_1 + 1)), rf_, H', ⟨by have := HK1.out; omega⟩, ⟨bk_ BK562⟩, ⟨bl_⟩⟩
     ·replace c23 := Bool.eq_false_iff.mpr c23
      subst c23
      replace H := ite_f_ H
      obtain rfl := Option.some.inj H
      go_wp2
      go_ret
      exact ⟨eq_, bl_⟩
    ·rw [if_neg c7] at H
     have c7b0 : decide (x16_1 < (l0_5.length : Int)) = false := decide_eq_false c7
     clear c7
     obtain rfl := Option.some.inj H
     go_wp2
     go_ret
     exact ⟨eq_, bl_⟩
 ·rw [if_neg c5] at H
  have c5b0 : ((l0_6.length : Int) == (l0_5.length : Int)) = false := beq_eq_false_iff_ne.mpr c5
  have c5b1 : ((l0_6.length : Int) != (l0_5.length : Int)) = true := bne_iff_ne.mpr c5
  have c5b2 : (l0_6.length == l0_5.length) = false := by first | simpa using c5 | (simp at c5 ⊢; omega)
  (first | rw [c5b1] | rw [c5b0] | (simp only [i64_w, i32_w]; rw [c5b0]) | (have cz_ := c5b0; simp only [Int.ofNat_lt, Int.ofNat_le, gt_iff_lt, ge_iff_le] at cz_; rw [cz_]; clear cz_) | skip)
  obtain rfl := Option.some.inj H
  go_wp2
  go_ret
  exact ⟨eq_, bl_⟩
def impl_SoundWorld.f (k : Nat) (l0_0 : List (S68)) (a0_1 : Int) (l0_2 : List Int) (l0_3 : List (S83)) (l0_4 : List (S83)) (l0_5 : List (S73)) (l0_6 : List (S79)) (l0_7 : List Int) : Option (Bool) := (impl_RingOk.f k l0_0).bind fun t574 => (if t574 = true then ((impl_Sound.f k l0_0 a0_1 l0_2 l0_3 l0_4 l0_5 l0_6 l0_7).bind fun t575 => (some t575)) else (some false))
set_option maxHeartbeats 8000000 in
set_option maxRecDepth 100000 in
theorem impl_SoundWorld.calls (k : Nat) (A0_0 : Option Addr) (c0_0 : Nat) (l0_0 : List (S68)) (a0_1 : Int) (A0_2 : Option Addr) (c0_2 : Nat) (l0_2 : List Int) (A0_3 : Option Addr) (c0_3 : Nat) (l0_3 : List (S83)) (A0_4 : Option Addr) (c0_4 : Nat) (l0_4 : List (S83)) (A0_5 : Option Addr) (c0_5 : Nat) (l0_5 : List (S73)) (A0_6 : Option Addr) (c0_6 : Nat) (l0_6 : List (S79)) (A0_7 : Option Addr) (c0_7 : Nat) (l0_7 : List Int) (r : Bool) (w : World) (hr0_0 : Kd.C k68 w A0_0 l0_0.length l0_0) (hc0_0 : l0_0.length ≤ c0_0) (hr0_2 : Kd.C (Kd.int .i64) w A0_2 l0_2.length l0_2) (hc0_2 : l0_2.length ≤ c0_2) (hr0_3 : Kd.C k83 w A0_3 l0_3.length l0_3) (hc0_3 : l0_3.length ≤ c0_3) (hr0_4 : Kd.C k83 w A0_4 l0_4.length l0_4) (hc0_4 : l0_4.length ≤ c0_4) (hr0_5 : Kd.C k73 w A0_5 l0_5.length l0_5) (hc0_5 : l0_5.length ≤ c0_5) (hr0_6 : Kd.C k79 w A0_6 l0_6.length l0_6) (hc0_6 : l0_6.length ≤ c0_6) (hr0_7 : Kd.C (Kd.int .i64) w A0_7 l0_7.length l0_7) (hc0_7 : l0_7.length ≤ c0_7) (h : impl_SoundWorld.f k l0_0 a0_1 l0_2 l0_3 l0_4 l0_5 l0_6 l0_7 = some r) :
  Calls Tryz.prog 7 #[.agg #[.slice A0_0 l0_0.length c0_0, .int .i64 a0_1, .slice A0_2 l0_2.length c0_2, .slice A0_3 l0_3.length c0_3, .slice A0_4 l0_4.length c0_4, .slice A0_5 l0_5.length c0_5, .slice A0_6 l0_6.length c0_6, .slice A0_7 l0_7.length c0_7]] w fun e w' => e = .returned (.bool r) ∧ Below w.heap.size w w' := by
 have hu40 := Tryz.underlying40
 have hu35 := Tryz.underlying35
 have HR0_0 := aa_ hr0_0
 have HC0_0 := aa_ hc0_0
 clear hr0_0 hc0_0
 have HR0_2 := aa_ hr0_2
 have HC0_2 := aa_ hc0_2
 clear hr0_2 hc0_2
 have HR0_3 := aa_ hr0_3
 have HC0_3 := aa_ hc0_3
 clear hr0_3 hc0_3
 have HR0_4 := aa_ hr0_4
 have HC0_4 := aa_ hc0_4
 clear hr0_4 hc0_4
 have HR0_5 := aa_ hr0_5
 have HC0_5 := aa_ hc0_5
 clear hr0_5 hc0_5
 have HR0_6 := aa_ hr0_6
 have HC0_6 := aa_ hc0_6
 clear hr0_6 hc0_6
 have HR0_7 := aa_ hr0_7
 have HC0_7 := aa_ hc0_7
 clear hr0_7 hc0_7
 have HB := aa_ (Below.refl w.heap.size w)
 have H : ((impl_RingOk.f k l0_0).bind fun t574 => (if t574 = true then ((impl_Sound.f k l0_0 a0_1 l0_2 l0_3 l0_4 l0_5 l0_6 l0_7).bind fun t575 => (some t575)) else (some false))) = some r := h
 clear h
 obtain ⟨t574, A2, H⟩ := bindE_ H
 by_cases c3 : t574 = true
 ·subst c3
  replace H := ite_t_ H
  obtain ⟨t575, A4, H⟩ := bindE_ H
  obtain rfl := Option.some.inj H
  go_enter Tryz.func7, Tryz.ntmps7
  go_wp2_with (first | ((with_reducible refine gD_ 1 rfl ?_); refine bx_ (N := 1) (cs := #[.slice A0_0 l0_0.length c0_0, .int .i64 a0_1, .slice A0_2 l0_2.length c0_2, .slice A0_3 l0_3.length c0_3, .slice A0_4 l0_4.length c0_4, .slice A0_5 l0_5.length c0_5, .slice A0_6 l0_6.length c0_6, .slice A0_7 l0_7.length c0_7]) (t := 40) ?_; intro gb573 hg w5 hbox hb; have BK573 := aa_ (hbox); have GW573 := gs_ hg; have GE573 := gs_ hg; replace HB := hbs_ hb; clear hb hbox hg; obtain ⟨hcz6, hfz6⟩ := bcf_ BK573) | ((with_reducible refine gC_ 21 rfl ?_); refine goesC_ (some 5) Tryz.func21 #[.agg #[.slice A0_0 l0_0.length c0_0]] ?_; (with_reducible refine (impl_RingOk.calls k _ _ l0_0 true _ ?side1 ?side2 A2.out).mono ?_); (case side1 => repeat (first | exact (Kd.C_below HR0_0.out HB.out) | (with_reducible refine Kd.C_alloc ?_ _) | (with_reducible refine Kd.C_drewN ?_ _) | (with_reducible refine Kd.C_drew ?_))); (case side2 => exact HC0_0.out); rintro e w7 ⟨rfl, hb⟩; refine ⟨_, rfl, ?_⟩; replace BK573 := bkb_ BK573 hb; replace HB := hbs_ hb; clear hb; obtain ⟨hcz8, hfz8⟩ := bcf_ BK573) | (go_at_call 22; (with_reducible refine (impl_Sound.calls k _ _ l0_0 a0_1 _ _ l0_2 _ _ l0_3 _ _ l0_4 _ _ l0_5 _ _ l0_6 _ _ l0_7 t575 _ ?side1 ?side2 ?side3 ?side4 ?side5 ?side6 ?side7 ?side8 ?side9 ?side10 ?side11 ?side12 ?side13 ?side14 A4.out).mono ?_); (case side1 => repeat (first | exact (Kd.C_below HR0_0.out HB.out) | (with_reducible refine Kd.C_alloc ?_ _) | (with_reducible refine Kd.C_drewN ?_ _) | (with_reducible refine Kd.C_drew ?_))); (case side2 => exact HC0_0.out); (case side3 => repeat (first | exact (Kd.C_below HR0_2.out HB.out) | (with_reducible refine Kd.C_alloc ?_ _) | (with_reducible refine Kd.C_drewN ?_ _) | (with_reducible refine Kd.C_drew ?_))); (case side4 => exact HC0_2.out); (case side5 => repeat (first | exact (Kd.C_below HR0_3.out HB.out) | (with_reducible refine Kd.C_alloc ?_ _) | (with_reducible refine Kd.C_drewN ?_ _) | (with_reducible refine Kd.C_drew ?_))); (case side6 => exact HC0_3.out); (case side7 => repeat (first | exact (Kd.C_below HR0_4.out HB.out) | (with_reducible refine Kd.C_alloc ?_ _) | (with_reducible refine Kd.C_drewN ?_ _) | (with_reducible refine Kd.C_drew ?_))); (case side8 => exact HC0_4.out); (case side9 => repeat (first | exact (Kd.C_below HR0_5.out HB.out) | (with_reducible refine Kd.C_alloc ?_ _) | (with_reducible refine Kd.C_drewN ?_ _) | (with_reducible refine Kd.C_drew ?_))); (case side10 => exact HC0_5.out); (case side11 => repeat (first | exact (Kd.C_below HR0_6.out HB.out) | (with_reducible refine Kd.C_alloc ?_ _) | (with_reducible refine Kd.C_drewN ?_ _) | (with_reducible refine Kd.C_drew ?_))); (case side12 => exact HC0_6.out); (case side13 => repeat (first | exact (Kd.C_below HR0_7.out HB.out) | (with_reducible refine Kd.C_alloc ?_ _) | (with_reducible refine Kd.C_drewN ?_ _) | (with_reducible refine Kd.C_drew ?_))); (case side14 => exact HC0_7.out); rintro e w9 ⟨rfl, hb⟩; replace BK573 := bkb_ BK573 hb; replace HB := hbs_ hb; clear hb))
  go_ret
  exact ⟨eq_, bl_⟩
 ·replace c3 := Bool.eq_false_iff.mpr c3
  subst c3
  replace H := ite_f_ H
  obtain rfl := Option.some.inj H
  go_enter Tryz.func7, Tryz.ntmps7
  go_wp2_with (first | ((with_reducible refine gD_ 1 rfl ?_); refine bx_ (N := 1) (cs := #[.slice A0_0 l0_0.length c0_0, .int .i64 a0_1, .slice A0_2 l0_2.length c0_2, .slice A0_3 l0_3.length c0_3, .slice A0_4 l0_4.length c0_4, .slice A0_5 l0_5.length c0_5, .slice A0_6 l0_6.length c0_6, .slice A0_7 l0_7.length c0_7]) (t := 40) ?_; intro gb573 hg w10 hbox hb; have BK573 := aa_ (hbox); have GW573 := gs_ hg; have GE573 := gs_ hg; replace HB := hbs_ hb; clear hb hbox hg; obtain ⟨hcz11, hfz11⟩ := bcf_ BK573) | ((with_reducible refine gC_ 21 rfl ?_); refine goesC_ (some 5) Tryz.func21 #[.agg #[.slice A0_0 l0_0.length c0_0]] ?_; (with_reducible refine (impl_RingOk.calls k _ _ l0_0 false _ ?side1 ?side2 A2.out).mono ?_); (case side1 => repeat (first | exact (Kd.C_below HR0_0.out HB.out) | (with_reducible refine Kd.C_alloc ?_ _) | (with_reducible refine Kd.C_drewN ?_ _) | (with_reducible refine Kd.C_drew ?_))); (case side2 => exact HC0_0.out); rintro e w12 ⟨rfl, hb⟩; refine ⟨_, rfl, ?_⟩; replace BK573 := bkb_ BK573 hb; replace HB := hbs_ hb; clear hb))
  go_ret
  exact ⟨eq_, bl_⟩
end Go.Proofs.YteofimccoadmeaaGreat.PA
