import Derived.Test.YtnoklfpnmopkpaaKPPEx15
-- printed by wip/tools
namespace Go.Proofs.Ytnoklfpnmopkpaa.PE
open Go.RowKit Go.Proofs.YtnoklfpnmopkpaaW.PrintWords Go.Proofs.YtnoklfpnmopkpaaW.PrintLast Go.Proofs.YtnoklfpnmopkpaaW.PrintMore
attribute [local go_sem] max2_int min2_int max_two min_two max_three min_three max_four min_four
set_option linter.unusedVariables false
set_option linter.unusedSimpArgs false
attribute [local go_sem high] eqA63
def impl_Decides.l0 : Nat → Int → List (S63) → List Bool → List (S57) → Int → Int → Option (Bool)
 | 0, _, _, _, _, _, _ => none
 | k + 1, x2, x7, x8, x21, x22, x23 => if x23 < x22 then (if 0 ≤ x23 then (if x23 < (x21.length : Int) then (if ((rd_T57 x21 x23).f0) = 1 then ((impl_Fact_35.f k x7 ((rd_T57 x21 x23).f1.f0) ((rd_T57 x21 x23).f1.f1) x2).bind fun t614 => (if x23 < (x8.length : Int) then (impl_Decides.l0 k x2 x7 (x8.set (x23 : Int).toNat t614) x21 x22 (wrap64 (x23 + 1))) else (none))) else (if ((rd_T57 x21 x23).f0) = 2 then (if 0 ≤ ((rd_T57 x21 x23).f2) then (if ((rd_T57 x21 x23).f2) < (x8.length : Int) then (if rdOf false x8 ((rd_T57 x21 x23).f2) = true then (if 0 ≤ ((rd_T57 x21 x23).f3) then (if ((rd_T57 x21 x23).f3) < (x8.length : Int) then (if x23 < (x8.length : Int) then (impl_Decides.l0 k x2 x7 (x8.set (x23 : Int).toNat (rdOf false x8 ((rd_T57 x21 x23).f3))) x21 x22 (wrap64 (x23 + 1))) else (none)) else (none)) else (none)) else (if x23 < (x8.length : Int) then (impl_Decides.l0 k x2 x7 (x8.set (x23 : Int).toNat false) x21 x22 (wrap64 (x23 + 1))) else (none))) else (none)) else (none)) else (if ((rd_T57 x21 x23).f0) = 3 then (if 0 ≤ ((rd_T57 x21 x23).f2) then (if ((rd_T57 x21 x23).f2) < (x8.length : Int) then (if rdOf false x8 ((rd_T57 x21 x23).f2) = true then (if x23 < (x8.length : Int) then (impl_Decides.l0 k x2 x7 (x8.set (x23 : Int).toNat true) x21 x22 (wrap64 (x23 + 1))) else (none)) else (if 0 ≤ ((rd_T57 x21 x23).f3) then (if ((rd_T57 x21 x23).f3) < (x8.length : Int) then (if x23 < (x8.length : Int) then (impl_Decides.l0 k x2 x7 (x8.set (x23 : Int).toNat (rdOf false x8 ((rd_T57 x21 x23).f3))) x21 x22 (wrap64 (x23 + 1))) else (none)) else (none)) else (none))) else (none)) else (none)) else (if ((rd_T57 x21 x23).f0) = 4 then (if 0 ≤ ((rd_T57 x21 x23).f2) then (if ((rd_T57 x21 x23).f2) < (x8.length : Int) then (if x23 < (x8.length : Int) then (impl_Decides.l0 k x2 x7 (x8.set (x23 : Int).toNat (!(rdOf false x8 ((rd_T57 x21 x23).f2)))) x21 x22 (wrap64 (x23 + 1))) else (none)) else (none)) else (none)) else (impl_Decides.l0 k x2 x7 x8 x21 x22 (wrap64 (x23 + 1))))))) else (none)) else (none)) else (if 0 ≤ (wrap64 ((x8.length : Int) - 1)) then (if (wrap64 ((x8.length : Int) - 1)) < (x8.length : Int) then (some (rdOf false x8 (wrap64 ((x8.length : Int) - 1)))) else (none)) else (none))
def impl_Decides.f (k : Nat) (l0 : List (S74)) (l1_0 : List (S57)) (a2 : Int) : Option (Bool) := (impl_PolicyOk.f k l1_0).bind fun t604 => (if t604 = true then ((impl_FactsOf.f k l0).bind fun t605 => (if 0 ≤ (l1_0.length : Int) then (if ((l1_0.length : Int) : Int).toNat ≤ 281474976710656 then (impl_Decides.l0 k a2 t605 (List.replicate ((l1_0.length : Int) : Int).toNat false) l1_0 (l1_0.length : Int) 0) else (none)) else (none))) else (some false))
set_option maxHeartbeats 8000000 in
set_option maxRecDepth 100000 in
theorem impl_Decides.calls (k : Nat) (A0 : Option Addr) (c0 : Nat) (l0 : List (S74)) (A1_0 : Option Addr) (c1_0 : Nat) (l1_0 : List (S57)) (a2 : Int) (r : Bool) (w : World) (hr0 : Kd.C k74 w A0 l0.length l0) (hc0 : l0.length ≤ c0) (hr1_0 : Kd.C k57 w A1_0 l1_0.length l1_0) (hc1_0 : l1_0.length ≤ c1_0) (h : impl_Decides.f k l0 l1_0 a2 = some r) :
  Calls Try.prog 12 #[.slice A0 l0.length c0, .agg #[.slice A1_0 l1_0.length c1_0], .int .i64 a2] w fun e w' => e = .returned (.bool r) ∧ Below w.heap.size w w' := by
 have hu27 := Try.underlying27
 have hu57 := Try.underlying57
 have hu55 := Try.underlying55
 have hu63 := Try.underlying63
 have HR0 := aa_ hr0
 have HC0 := aa_ hc0
 clear hr0 hc0
 have HR1_0 := aa_ hr1_0
 have HC1_0 := aa_ hc1_0
 clear hr1_0 hc1_0
 have HB := aa_ (Below.refl w.heap.size w)
 have H : ((impl_PolicyOk.f k l1_0).bind fun t604 => (if t604 = true then ((impl_FactsOf.f k l0).bind fun t605 => (if 0 ≤ (l1_0.length : Int) then (if ((l1_0.length : Int) : Int).toNat ≤ 281474976710656 then (impl_Decides.l0 k a2 t605 (List.replicate ((l1_0.length : Int) : Int).toNat false) l1_0 (l1_0.length : Int) 0) else (none)) else (none))) else (some false))) = some r := h
 clear h
 obtain ⟨t604, A4, H⟩ := bindE_ H
 have HC5 := aa_ H
 clear H
 go_enter Try.func12, Try.ntmps12
 go_upto_if 13 with (first | ((with_reducible refine gD_ 4 rfl ?_); refine bx_ (N := 4) (cs := #[.slice A1_0 l1_0.length c1_0]) (t := 27) ?_; intro gb603 hg w6 hbox hb; have BK603 := aa_ (hbox); have GW603 := gs_ hg; have GE603 := gs_ hg; replace HB := hbs_ hb; clear hb hbox hg; obtain ⟨hcz7, hfz7⟩ := bcf_ BK603) | ((with_reducible refine gC_ 14 rfl ?_); refine goesC_ (some 12) Try.func14 #[.agg #[.slice A1_0 l1_0.length c1_0]] ?_; (with_reducible refine (impl_PolicyOk.calls k _ _ l1_0 t604 _ ?side1 ?side2 A4.out).mono ?_); (case side1 => repeat (first | exact (Kd.C_below HR1_0.out HB.out) | (with_reducible refine Kd.C_alloc ?_ _) | (with_reducible refine Kd.C_drewN ?_ _) | (with_reducible refine Kd.C_drew ?_))); (case side2 => exact HC1_0.out); rintro e w8 ⟨rfl, hb⟩; refine ⟨_, rfl, ?_⟩; replace BK603 := bkb_ BK603 hb; replace HB := hbs_ hb; clear hb))
 (try simp only [Act.put, List.setIfInBounds_toArray, List.set_cons_zero, List.set_cons_succ])
 have H := HC5.out
 clear HC5
 by_cases c9 : t604 = true
 ·subst c9
  replace H := ite_t_ H
  obtain ⟨t605, A10, H⟩ := bindE_ H
  obtain ⟨c11, H⟩ := ifn_ H
  have c11b0 := eq_true c11
  have c11b1 : decide (0 ≤ (l1_0.length : Int)) = true := decide_eq_true c11
  clear c11
  obtain ⟨c12, H⟩ := ifn_ H
  have c12b0 := eq_true c12
  have c12b1 : decide (((l1_0.length : Int) : Int).toNat ≤ 281474976710656) = true := decide_eq_true c12
  clear c12
  obtain ⟨y608, hy608⟩ : ∃ y_ : List Bool, y_ = (List.replicate ((l1_0.length : Int) : Int).toNat false) := ⟨_, rfl⟩
  replace H : (impl_Decides.l0 k a2 t605 y608 l1_0 (l1_0.length : Int) 0) = some r := rh_ hy608 H
  have Ny608 := aa_ hy608
  clear hy608
  have H' := aa_ H
  clear H
  go_wp2_with (first | ((with_reducible refine gC_ 34 rfl ?_); refine goesC_ (some 15) Try.func34 #[.slice A0 l0.length c0] ?_; (with_reducible refine (impl_FactsOf.calls k _ _ l0 t605 _ ?side1 ?side2 A10.out).mono ?_); (case side1 => repeat (first | exact (Kd.C_below HR0.out HB.out) | (with_reducible refine Kd.C_alloc ?_ _) | (with_reducible refine Kd.C_drewN ?_ _) | (with_reducible refine Kd.C_drew ?_))); (case side2 => exact HC0.out); rintro e w13 ⟨v606, rfl, ho0, hb⟩; refine ⟨_, rfl, ?_⟩; have HO607 := aa_ (Kd.R_lower ho0 bls_); replace BK603 := bkb_ BK603 hb; replace HB := hbs_ hb; (try clear hb ho0); obtain ⟨hcz14, hfz14⟩ := bcf_ BK603) | ((with_reducible refine gD_ 19 rfl ?_); refine Kd.R_make Kd.bool _ 4 rfl (N := 19) rfl 60 _ _ rfl (l1_0.length : Int) rfl rfl Try.underlying60 (.bool false) 1 info4 rfl (by decide) (by omega) false (ok := fun _ => True) (okp := fun _ => True) rfl (fun _ hk => hk) trivial (od_) (Nat.le_trans (Nat.mul_le_mul_right _ (od_ : (l1_0.length : Int).toNat ≤ 281474976710656)) (by omega)) (Below.refl _ _) (Nat.le_refl _) ?_; intro v609 w15 ho16 hb hg_ hnew_; clear hg_ hnew_; (first | rw [← Ny608.out] at ho16 | (simp only [Int.reduceToNat] at ho16; rw [← Ny608.out] at ho16)); replace HO607 := hob_ HO607 hb; have HO610 := aa_ (Kd.R_lower ho16 bls_); replace BK603 := bkb_ BK603 hb; replace HB := hbs_ hb; clear hb ho16; obtain ⟨hcz17, hfz17⟩ := bcf_ BK603))
  go_loopg [23] k (fun kq v23 w' => ∃ (x8_1 : List Bool) (x23_1 : Int), v23 = .int .i64 x23_1 ∧ Aside0 (impl_Decides.l0 kq a2 t605 x8_1 l1_0 (l1_0.length : Int) x23_1 = some r) ∧ Aside0 (kq ≤ k) ∧ Aside0 (Kd.R k63 63 w' w.heap.size (fun _ => True) v606 t605) ∧ Aside0 (Kd.R Kd.bool 4 w' w.heap.size (fun _ => True) v609 x8_1) ∧ Aside0 (w'.heap[gb603]? = some (.cells #[(.slice A1_0 l1_0.length c1_0)] 27 (0, 0))) ∧ Aside0 (Below w.heap.size w w'))
  case atStart => exact ⟨(y608), (0), rf_, H', ⟨Nat.le_refl _⟩, ⟨rr_ HO607⟩, ⟨rr_ HO610⟩, ⟨bk_ BK603⟩, ⟨bl_⟩⟩
  case round =>
   clear H'
   try clear c1
   try clear p2
   try clear c3
   try clear c9
   try clear c11
   try clear c11b0
   try clear c11b1
   try clear c12
   try clear c12b0
   try clear c12b1
   try clear c14
   try clear hcz14
   try clear hcz17
   try clear hcz7
   try clear hfz14
   try clear hfz17
   try clear hfz7
   obtain ⟨x8_1, x23_1, rfl, HA, HK1, HO_7, HO_8, BK603, HB⟩ := hrel
   cases gk with
   | zero => exact absurd HA.out (by simp [impl_Decides.l0])
   | succ k1 =>
    have H := HA.out
    clear HA
    simp only [impl_Decides.l0] at H
    by_cases c18 : x23_1 < (l1_0.length : Int)
    ·rw [if_pos c18] at H
     have c18b0 : decide (x23_1 < (l1_0.length : Int)) = true := decide_eq_true c18
     clear c18
     (first | rw [c18b0] | (simp only [i64_w, i32_w]; rw [c18b0]) | (have cz_ := c18b0; simp only [Int.ofNat_lt, Int.ofNat_le, gt_iff_lt, ge_iff_le] at cz_; rw [cz_]; clear cz_) | skip)
     obtain ⟨c19b0, H⟩ := ifd_ H
     obtain ⟨c20b0, H⟩ := ifd_ H
     have HC21 := aa_ H
     clear H
     have p612 : 0 ≤ (x23_1 : Int) := od_
     have q612 : x23_1 < (l1_0.length : Int) := od_
     obtain ⟨ad612, e612, hx612_0, hx612_1, hx612_2, hx612_3, hx612_4⟩ := at_T57 (Kd.C_below HR1_0.out HB.out) x23_1 p612 q612
     cases e612
     replace p612 := eq_true p612
     replace q612 := eq_true q612
     go_upto_if 30 with (first | ((with_reducible refine gD_ 10 rfl ?_); refine bx_ (N := 10) (cs := #[.int .i64 0, .int .i64 0, .int .i64 0, .int .i64 0, .int .i64 0]) (t := 57) ?_; intro gb613 hg w22 hbox hb; replace HO_7 := hob_ HO_7 hb; replace HO_8 := hob_ HO_8 hb; have BK613 := aa_ (hbox); have GW613 := gs_ hg; have GE613 := gs_ hg; replace HB := hbs_ hb; have NB603_613 := nl_ hg BK603; have NB613_603 := nr_ hg BK603; replace BK603 := bkb_ BK603 hb; clear hb hbox hg; have hnb23 := NB613_603.out; have hnc23 := NB603_613.out; obtain ⟨hcz24, hfz24⟩ := bcf_ BK613))
     have n0_ : Aside0 (Kd.R k63 63 (((((w22.setCell ⟨gb613, 0, none⟩ (.int .i64 ((rd_T57 l1_0 x23_1).f0))).setCell ⟨gb613, 1, none⟩ (.int .i64 ((rd_T57 l1_0 x23_1).f1.f0))).setCell ⟨gb613, 2, none⟩ (.int .i64 ((rd_T57 l1_0 x23_1).f1.f1))).setCell ⟨gb613, 3, none⟩ (.int .i64 ((rd_T57 l1_0 x23_1).f2))).setCell ⟨gb613, 4, none⟩ (.int .i64 ((rd_T57 l1_0 x23_1).f3))) w.heap.size (fun _ => True) v606 t605) := ⟨by (with_reducible repeat (first | apply Kd.R_alloc | apply Kd.R_drewN | apply Kd.R_drew)); exact Kd.R_mono (fr5_ (Kd.R_types HO_7.out BK613.out (by decide)) (fun _ hk => hk.2)) (fun _ hk => trivial)⟩
     have n1_ : Aside0 (Kd.R Kd.bool 4 (((((w22.setCell ⟨gb613, 0, none⟩ (.int .i64 ((rd_T57 l1_0 x23_1).f0))).setCell ⟨gb613, 1, none⟩ (.int .i64 ((rd_T57 l1_0 x23_1).f1.f0))).setCell ⟨gb613, 2, none⟩ (.int .i64 ((rd_T57 l1_0 x23_1).f1.f1))).setCell ⟨gb613, 3, none⟩ (.int .i64 ((rd_T57 l1_0 x23_1).f2))).setCell ⟨gb613, 4, none⟩ (.int .i64 ((rd_T57 l1_0 x23_1).f3))) w.heap.size (fun _ => True) v609 x8_1) := ⟨by (with_reducible repeat (first | apply Kd.R_alloc | apply Kd.R_drewN | apply Kd.R_drew)); exact Kd.R_mono (fr5_ (Kd.R_types HO_8.out BK613.out (by decide)) (fun _ hk => hk.2)) (fun _ hk => trivial)⟩
     have n2_ : Aside0 ((((((w22.setCell ⟨gb613, 0, none⟩ (.int .i64 ((rd_T57 l1_0 x23_1).f0))).setCell ⟨gb613, 1, none⟩ (.int .i64 ((rd_T57 l1_0 x23_1).f1.f0))).setCell ⟨gb613, 2, none⟩ (.int .i64 ((rd_T57 l1_0 x23_1).f1.f1))).setCell ⟨gb613, 3, none⟩ (.int .i64 ((rd_T57 l1_0 x23_1).f2))).setCell ⟨gb613, 4, none⟩ (.int .i64 ((rd_T57 l1_0 x23_1).f3))).heap[gb603]? = some (.cells #[.slice (some ad612) l1_0.length c1_0] 27 (0, 0))) := ⟨bk_ BK603⟩
     have n3_ : Aside0 ((((((w22.setCell ⟨gb613, 0, none⟩ (.int .i64 ((rd_T57 l1_0 x23_1).f0))).setCell ⟨gb613, 1, none⟩ (.int .i64 ((rd_T57 l1_0 x23_1).f1.f0))).setCell ⟨gb613, 2, none⟩ (.int .i64 ((rd_T57 l1_0 x23_1).f1.f1))).setCell ⟨gb613, 3, none⟩ (.int .i64 ((rd_T57 l1_0 x23_1).f2))).setCell ⟨gb613, 4, none⟩ (.int .i64 ((rd_T57 l1_0 x23_1).f3))).heap[gb613]? = some (.cells #[.int .i64 ((rd_T57 l1_0 x23_1).f0), .int .i64 ((rd_T57 l1_0 x23_1).f1.f0), .int .i64 ((rd_T57 l1_0 x23_1).f1.f1), .int .i64 ((rd_T57 l1_0 x23_1).f2), .int .i64 ((rd_T57 l1_0 x23_1).f3)] 57 (0, 0))) := ⟨bk_ BK613⟩
     have n4_ : Aside0 (Below w.heap.size w (((((w22.setCell ⟨gb613, 0, none⟩ (.int .i64 ((rd_T57 l1_0 x23_1).f0))).setCell ⟨gb613, 1, none⟩ (.int .i64 ((rd_T57 l1_0 x23_1).f1.f0))).setCell ⟨gb613, 2, none⟩ (.int .i64 ((rd_T57 l1_0 x23_1).f1.f1))).setCell ⟨gb613, 3, none⟩ (.int .i64 ((rd_T57 l1_0 x23_1).f2))).setCell ⟨gb613, 4, none⟩ (.int .i64 ((rd_T57 l1_0 x23_1).f3)))) := ⟨bl_⟩
     (try clear HO_7)
     (try clear HO_8)
     (try clear BK603)
     (try clear BK613)
     (try clear HB)
     generalize (((((w22.setCell ⟨gb613, 0, none⟩ (.int .i64 ((rd_T57 l1_0 x23_1).f0))).setCell ⟨gb613, 1, none⟩ (.int .i64 ((rd_T57 l1_0 x23_1).f1.f0))).setCell ⟨gb613, 2, none⟩ (.int .i64 ((rd_T57 l1_0 x23_1).f1.f1))).setCell ⟨gb613, 3, none⟩ (.int .i64 ((rd_T57 l1_0 x23_1).f2))).setCell ⟨gb613, 4, none⟩ (.int .i64 ((rd_T57 l1_0 x23_1).f3))) = w25 at n0_ n1_ n2_ n3_ n4_ ⊢
     have HO_7 := n0_
     have HO_8 := n1_
     have BK603 := n2_
     have BK613 := n3_
     have HB := n4_
     clear n0_ n1_ n2_ n3_ n4_
     (try simp only [Act.put, List.setIfInBounds_toArray, List.set_cons_zero, List.set_cons_succ])
     have H := HC21.out
     clear HC21
     by_cases c26 : ((rd_T57 l1_0 x23_1).f0) = 1
     ·rw [if_pos c26] at H
      have c26b0 : (((rd_T57 l1_0 x23_1).f0) == 1) = true := beq_iff_eq.mpr c26
      have c26b1 : (((rd_T57 l1_0 x23_1).f0) != 1) = false := bne_eq_false_iff_eq.mpr c26
      clear c26
      (first | rw [c26b0] | (simp only [i64_w, i32_w]; rw [c26b0]) | skip)
      obtain ⟨t614, A27, H⟩ := bindE_ H
      obtain ⟨c28b0, H⟩ := ifd_ H
      obtain ⟨y615, hy615⟩ : ∃ y_ : List Bool, y_ = (x8_1.set (x23_1 : Int).toNat t614) := ⟨_, rfl⟩
      replace H : (impl_Decides.l0 k1 a2 t605 y615 l1_0 (l1_0.length : Int) (wrap64 (x23_1 + 1))) = some r := rh_ hy615 H
      have Ny615 := aa_ hy615
      clear hy615
      have H' := aa_ H
      clear H
      have hnb30 := NB613_603.out
      have hnc30 := NB603_613.out
      have hcz31 := blk_cell BK613.out
      have hfz31 := blk_frozen BK613.out
      obtain ⟨Ao32, co32, eo32⟩ := Kd.R_slice HO_7.out
      subst eo32
      go_wp2_with (first | ((with_reducible refine gC_ 35 rfl ?_); refine goesC_ (some 39) Try.func35 #[.slice Ao32 t605.length co32, .agg #[.int .i64 ((rd_T57 l1_0 x23_1).f1.f0), .int .i64 ((rd_T57 l1_0 x23_1).f1.f1), .int .i64 a2]] ?_; (with_reducible refine (impl_Fact_35.calls k1 _ _ t605 ((rd_T57 l1_0 x23_1).f1.f0) ((rd_T57 l1_0 x23_1).f1.f1) a2 t614 _ ?side1 ?side2 A27.out).mono ?_); (case side1 => repeat (first | exact (Kd.R_reads' HO_7.out).2.2 | (with_reducible refine Kd.C_alloc ?_ _) | (with_reducible refine Kd.C_drewN ?_ _) | (with_reducible refine Kd.C_drew ?_))); (case side2 => exact (Kd.R_reads' HO_7.out).2.1); rintro e w33 ⟨rfl, hb⟩; refine ⟨_, rfl, ?_⟩; replace HO_7 := hob_ HO_7 hb; replace HO_8 := hob_ HO_8 hb; replace BK603 := bkb_ BK603 hb; replace BK613 := bkb_ BK613 hb; replace HB := hbs_ hb; clear hb; have p29 : 0 ≤ (x23_1 : Int) := od_; have q29 : (x23_1 : Int) < ((x8_1.length : Int) : Int) := od_; obtain ⟨go29, co29, eo29, gb29, gl29, cl29, HG29⟩ := Kd.R_form HO_8.out (by omega); (first | cases eo29 | (injection eo29 with ea_ en_ ec_; (first | subst ea_ | (injection ea_ with ea_; subst ea_)); subst ec_; clear en_)); have GB29 := aa_ gb29; have GG29 := aa_ HG29; clear gb29 gl29 HG29; obtain ⟨hx29_0, hf29_0⟩ := Kd.R_celln false HO_8.out (x23_1 : Int) p29 q29; replace p29 := eq_true p29; replace q29 := eq_true q29; obtain ⟨hy34_, hz34_⟩ := Kd.R_celln false HO_8.out (x23_1 : Int) (od_) (od_); have HP34 := Kd.R_putg HO_8.out (x23_1 : Int) t614) | ((with_reducible refine gate_store (t := 4) (p := 40) rfl ?_); refine store_event (t := 4) (p := 40) (v := ?vo_w35) (w1 := (w33.setCell ⟨go29, (x23_1 : Int).toNat, none⟩ (.bool t614))) ?hg ?ho ?hn ?hr ?_; (case ho => rfl); (case hg => rfl); (case hn => rfl); (case hr => first | (go_simp; done) | (go_simp; rfl)); intro w35 hw; have hg : w33.grownBy w35 (some go29) := (by rw [hw]; exact HP34.2); have hp_ : Kd.R Kd.bool 4 w35 w.heap.size (fun _ => True) (.slice (some ⟨go29, 0, none⟩) x8_1.length co29) y615 := (by rw [hw, Ny615.out]; exact HP34.1); clear HP34; replace HO_7 := aa_ (Kd.R_over' (v := (.slice (some ⟨go29, 0, none⟩) x8_1.length co29)) (rr_ HO_7) (Kd.R_typed HO_8.out) (by decide) hg); replace BK603 := aa_ (blk_grown (g := gb603) (o := .cells #[.slice (some ad612) l1_0.length c1_0] 27 (0, 0)) (bk_ BK603) hg (Kd.R_ne HO_8.out BK603.out (by decide))); replace BK613 := aa_ (blk_grown (g := gb613) (o := .cells #[.int .i64 ((rd_T57 l1_0 x23_1).f0), .int .i64 ((rd_T57 l1_0 x23_1).f1.f0), .int .i64 ((rd_T57 l1_0 x23_1).f1.f1), .int .i64 ((rd_T57 l1_0 x23_1).f2), .int .i64 ((rd_T57 l1_0 x23_1).f3)] 57 (0, 0)) (bk_ BK613) hg (Kd.R_ne HO_8.out BK613.out (by decide))); replace HO_8 := aa_ (hp_); replace HB := aa_ ((by rw [hw]; exact below_set (HB.out) GB29.out : Below w.heap.size w w35)); clear hg hw hp_))
      go_roundg k1
      case measure => have := HK1.out; omega
      case rel => exact ⟨(y615), (wrap64 (x23_1 + 1)), rf_, H', ⟨by have := HK1.out; omega⟩, ⟨rr_ HO_7⟩, ⟨rr_ HO_8⟩, ⟨bk_ BK603⟩, ⟨bl_⟩⟩
     ·rw [if_neg c26] at H
      have c26b0 : (((rd_T57 l1_0 x23_1).f0) == 1) = false := beq_eq_false_iff_ne.mpr c26
      have c26b1 : (((rd_T57 l1_0 x23_1).f0) != 1) = true := bne_iff_ne.mpr c26
      (first | rw [c26b0] | (simp only [i64_w, i32_w]; rw [c26b0]) | skip)
      by_cases c36 : ((rd_T57 l1_0 x23_1).f0) = 2
      ·rw [if_pos c36] at H
       have c36b0 : (((rd_T57 l1_0 x23_1).f0) == 2) = true := beq_iff_eq.mpr c36
       have c36b1 : (((rd_T57 l1_0 x23_1).f0) != 2) = false := bne_eq_false_iff_eq.mpr c36
       clear c36
       obtain ⟨c37b0, H⟩ := ifd_ H
       obtain ⟨c38b0, H⟩ := ifd_ H
       obtain ⟨bq39, hbq39⟩ : ∃ b_ : Bool, b_ = (rdOf false x8_1 ((rd_T57 l1_0 x23_1).f2)) := ⟨_, rfl⟩
       replace H : (if bq39 = true then (if 0 ≤ ((rd_T57 l1_0 x23_1).f3) then (if ((rd_T57 l1_0 x23_1).f3) < (x8_1.length : Int) then (if x23_1 < (x8_1.length : Int) then (impl_Decides.l0 k1 a2 t605 (x8_1.set (x23_1 : Int).toNat (rdOf false x8_1 ((rd_T57 l1_0 x23_1).f3))) l1_0 (l1_0.length : Int) (wrap64 (x23_1 + 1))) else (none)) else (none)) else (none)) else (if x23_1 < (x8_1.length : Int) then (impl_Decides.l0 k1 a2 t605 (x8_1.set (x23_1 : Int).toNat false) l1_0 (l1_0.length : Int) (wrap64 (x23_1 + 1))) else (none))) = some r := by rw [← hbq39] at H; exact H
       have Nbq39 := aa_ hbq39
       clear hbq39
       by_cases c40 : bq39 = true
       ·subst c40
        replace H := ite_t_ H
        obtain ⟨c41b0, H⟩ := ifd_ H
        obtain ⟨c42b0, H⟩ := ifd_ H
        obtain ⟨c43b0, H⟩ := ifd_ H
        obtain ⟨y618, hy618⟩ : ∃ y_ : List Bool, y_ = (x8_1.set (x23_1 : Int).toNat (rdOf false x8_1 ((rd_T57 l1_0 x23_1).f3))) := ⟨_, rfl⟩
        replace H : (impl_Decides.l0 k1 a2 t605 y618 l1_0 (l1_0.length : Int) (wrap64 (x23_1 + 1))) = some r := rh_ hy618 H
        have Ny618 := aa_ hy618
        clear hy618
        have H' := aa_ H
        clear H
        have hnb45 := NB613_603.out
        have hnc45 := NB603_613.out
        have hcz46 := blk_cell BK613.out
        have hfz46 := blk_frozen BK613.out
        obtain ⟨Ao47, co47, eo47⟩ := Kd.R_slice HO_8.out
        subst eo47
        have p616 : 0 ≤ (((rd_T57 l1_0 x23_1).f2) : Int) := od_
        have q616 : ((rd_T57 l1_0 x23_1).f2) < (x8_1.length : Int) := od_
        obtain ⟨ad616, e616, hx616_0⟩ := Kd.at_bool (Kd.R_reads' HO_8.out).2.2 ((rd_T57 l1_0 x23_1).f2) p616 q616
        (try rw [← Nbq39.out] at hx616_0)
        cases e616
        replace p616 := eq_true p616
        replace q616 := eq_true q616
        have p617 : 0 ≤ (((rd_T57 l1_0 x23_1).f3) : Int) := od_
        have q617 : ((rd_T57 l1_0 x23_1).f3) < (x8_1.length : Int) := od_
        obtain ⟨ad617, e617, hx617_0⟩ := Kd.at_bool (Kd.R_reads' HO_8.out).2.2 ((rd_T57 l1_0 x23_1).f3) p617 q617
        (try rw [← Nbq39.out] at hx617_0)
        obtain rfl : ad616 = ad617 := (by injection e617)
        replace p617 := eq_true p617
        replace q617 := eq_true q617
        have p44 : 0 ≤ (x23_1 : Int) := od_
        have q44 : (x23_1 : Int) < ((x8_1.length : Int) : Int) := od_
        obtain ⟨go44, co44, eo44, gb44, gl44, cl44, HG44⟩ := Kd.R_form HO_8.out (by omega)
        (first | cases eo44 | (injection eo44 with ea_ en_ ec_; (first | subst ea_ | (injection ea_ with ea_; subst ea_)); subst ec_; clear en_))
        have GB44 := aa_ gb44
        have GG44 := aa_ HG44
        clear gb44 gl44 HG44
        (first | simp only [add_plain] at hx616_0 | skip)
        (first | simp only [add_plain] at hx617_0 | skip)
        obtain ⟨hx44_0, hf44_0⟩ := Kd.R_celln false HO_8.out (x23_1 : Int) p44 q44
        replace p44 := eq_true p44
        replace q44 := eq_true q44
        have HP48 := Kd.R_putg HO_8.out (x23_1 : Int) (rdOf false x8_1 ((rd_T57 l1_0 x23_1).f3))
        go_wp2_with (first | ((with_reducible refine gate_store (t := 4) (p := 57) rfl ?_); refine store_event (t := 4) (p := 57) (v := ?vo_w49) (w1 := (w25.setCell ⟨go44, (x23_1 : Int).toNat, none⟩ (.bool (rdOf false x8_1 ((rd_T57 l1_0 x23_1).f3))))) ?hg ?ho ?hn ?hr ?_; (case ho => rfl); (case hg => rfl); (case hn => rfl); (case hr => first | (go_simp; done) | (go_simp; rfl)); intro w49 hw; have hg : w25.grownBy w49 (some go44) := (by rw [hw]; exact HP48.2); have hp_ : Kd.R Kd.bool 4 w49 w.heap.size (fun _ => True) (.slice (some ⟨go44, 0, none⟩) x8_1.length co47) y618 := (by rw [hw, Ny618.out]; exact HP48.1); clear HP48; replace HO_7 := aa_ (Kd.R_over' (v := (.slice (some ⟨go44, 0, none⟩) x8_1.length co47)) (rr_ HO_7) (Kd.R_typed HO_8.out) (by decide) hg); replace BK603 := aa_ (blk_grown (g := gb603) (o := .cells #[.slice (some ad612) l1_0.length c1_0] 27 (0, 0)) (bk_ BK603) hg (Kd.R_ne HO_8.out BK603.out (by decide))); replace BK613 := aa_ (blk_grown (g := gb613) (o := .cells #[.int .i64 ((rd_T57 l1_0 x23_1).f0), .int .i64 ((rd_T57 l1_0 x23_1).f1.f0), .int .i64 ((rd_T57 l1_0 x23_1).f1.f1), .int .i64 ((rd_T57 l1_0 x23_1).f2), .int .i64 ((rd_T57 l1_0 x23_1).f3)] 57 (0, 0)) (bk_ BK613) hg (Kd.R_ne HO_8.out BK613.out (by decide))); replace HO_8 := aa_ (hp_); replace HB := aa_ ((by rw [hw]; exact below_set (HB.out) GB44.out : Below w.heap.size w w49)); clear hg hw hp_))
        go_roundg k1
        case measure => have := HK1.out; omega
        case rel => exact ⟨(y618), (wrap64 (x23_1 + 1)), rf_, H', ⟨by have := HK1.out; omega⟩, ⟨rr_ HO_7⟩, ⟨rr_ HO_8⟩, ⟨bk_ BK603⟩, ⟨bl_⟩⟩
       ·replace c40 := Bool.eq_false_iff.mpr c40
        subst c40
        replace H := ite_f_ H
        obtain ⟨c50b0, H⟩ := ifd_ H
        obtain ⟨y619, hy619⟩ : ∃ y_ : List Bool, y_ = (x8_1.set (x23_1 : Int).toNat false) := ⟨_, rfl⟩
        replace H : (impl_Decides.l0 k1 a2 t605 y619 l1_0 (l1_0.length : Int) (wrap64 (x23_1 + 1))) = some r := rh_ hy619 H
        have Ny619 := aa_ hy619
        clear hy619
        have H' := aa_ H
        clear H
        have hnb52 := NB613_603.out
        have hnc52 := NB603_613.out
        have hcz53 := blk_cell BK613.out
        have hfz53 := blk_frozen BK613.out
        obtain ⟨Ao54, co54, eo54⟩ := Kd.R_slice HO_8.out
        subst eo54
        have p616 : 0 ≤ (((rd_T57 l1_0 x23_1).f2) : Int) := od_
        have q616 : ((rd_T57 l1_0 x23_1).f2) < (x8_1.length : Int) := od_
        obtain ⟨ad616, e616, hx616_0⟩ := Kd.at_bool (Kd.R_reads' HO_8.out).2.2 ((rd_T57 l1_0 x23_1).f2) p616 q616
        (try rw [← Nbq39.out] at hx616_0)
        cases e616
        replace p616 := eq_true p616
        replace q616 := eq_true q616
        have p51 : 0 ≤ (x23_1 : Int) := od_
        have q51 : (x23_1 : Int) < ((x8_1.length : Int) : Int) := od_
        obtain ⟨go51, co51, eo51, gb51, gl51, cl51, HG51⟩ := Kd.R_form HO_8.out (by omega)
        (first | cases eo51 | (injection eo51 with ea_ en_ ec_; (first | subst ea_ | (injection ea_ with ea_; subst ea_)); subst ec_; clear en_))
        have GB51 := aa_ gb51
        have GG51 := aa_ HG51
        clear gb51 gl51 HG51
        (first | simp only [add_plain] at hx616_0 | skip)
        obtain ⟨hx51_0, hf51_0⟩ := Kd.R_celln false HO_8.out (x23_1 : Int) p51 q51
        replace p51 := eq_true p51
        replace q51 := eq_true q51
        have HP55 := Kd.R_putg HO_8.out (x23_1 : Int) false
        go_wp2_with (first | ((with_reducible refine gate_store (t := 4) (p := 57) rfl ?_); refine store_event (t := 4) (p := 57) (v := ?vo_w56) (w1 := (w25.setCell ⟨go51, (x23_1 : Int).toNat, none⟩ (.bool false))) ?hg ?ho ?hn ?hr ?_; (case ho => rfl); (case hg => rfl); (case hn => rfl); (case hr => first | (go_simp; done) | (go_simp; rfl)); intro w56 hw; have hg : w25.grownBy w56 (some go51) := (by rw [hw]; exact HP55.2); have hp_ : Kd.R Kd.bool 4 w56 w.heap.size (fun _ => True) (.slice (some ⟨go51, 0, none⟩) x8_1.length co54) y619 := (by rw [hw, Ny619.out]; exact HP55.1); clear HP55; replace HO_7 := aa_ (Kd.R_over' (v := (.slice (some ⟨go51, 0, none⟩) x8_1.length co54)) (rr_ HO_7) (Kd.R_typed HO_8.out) (by decide) hg); replace BK603 := aa_ (blk_grown (g := gb603) (o := .cells #[.slice (some ad612) l1_0.length c1_0] 27 (0, 0)) (bk_ BK603) hg (Kd.R_ne HO_8.out BK603.out (by decide))); replace BK613 := aa_ (blk_grown (g := gb613) (o := .cells #[.int .i64 ((rd_T57 l1_0 x23_1).f0), .int .i64 ((rd_T57 l1_0 x23_1).f1.f0), .int .i64 ((rd_T57 l1_0 x23_1).f1.f1), .int .i64 ((rd_T57 l1_0 x23_1).f2), .int .i64 ((rd_T57 l1_0 x23_1).f3)] 57 (0, 0)) (bk_ BK613) hg (Kd.R_ne HO_8.out BK613.out (by decide))); replace HO_8 := aa_ (hp_); replace HB := aa_ ((by rw [hw]; exact below_set (HB.out) GB51.out : Below w.heap.size w w56)); clear hg hw hp_))
        go_roundg k1
        case measure => have := HK1.out; omega
        case rel => exact ⟨(y619), (wrap64 (x23_1 + 1)), rf_, H', ⟨by have := HK1.out; omega⟩, ⟨rr_ HO_7⟩, ⟨rr_ HO_8⟩, ⟨bk_ BK603⟩, ⟨bl_⟩⟩
      ·rw [if_neg c36] at H
       have c36b0 : (((rd_T57 l1_0 x23_1).f0) == 2) = false := beq_eq_false_iff_ne.mpr c36
       have c36b1 : (((rd_T57 l1_0 x23_1).f0) != 2) = true := bne_iff_ne.mpr c36
       by_cases c57 : ((rd_T57 l1_0 x23_1).f0) = 3
       ·rw [if_pos c57] at H
        have c57b0 : (((rd_T57 l1_0 x23_1).f0) == 3) = true := beq_iff_eq.mpr c57
        have c57b1 : (((rd_T57 l1_0 x23_1).f0) != 3) = false := bne_eq_false_iff_eq.mpr c57
        clear c57
        obtain ⟨c58b0, H⟩ := ifd_ H
        obtain ⟨c59b0, H⟩ := ifd_ H
        obtain ⟨bq60, hbq60⟩ : ∃ b_ : Bool, b_ = (rdOf false x8_1 ((rd_T57 l1_0 x23_1).f2)) := ⟨_, rfl⟩
        replace H : (if bq60 = true then (if x23_1 < (x8_1.length : Int) then (impl_Decides.l0 k1 a2 t605 (x8_1.set (x23_1 : Int).toNat true) l1_0 (l1_0.length : Int) (wrap64 (x23_1 + 1))) else (none)) else (if 0 ≤ ((rd_T57 l1_0 x23_1).f3) then (if ((rd_T57 l1_0 x23_1).f3) < (x8_1.length : Int) then (if x23_1 < (x8_1.length : Int) then (impl_Decides.l0 k1 a2 t605 (x8_1.set (x23_1 : Int).toNat (rdOf false x8_1 ((rd_T57 l1_0 x23_1).f3))) l1_0 (l1_0.length : Int) (wrap64 (x23_1 + 1))) else (none)) else (none)) else (none))) = some r := by rw [← hbq60] at H; exact H
        have Nbq60 := aa_ hbq60
        clear hbq60
        by_cases c61 : bq60 = true
        ·subst c61
         replace H := ite_t_ H
         obtain ⟨c62b0, H⟩ := ifd_ H
         obtain ⟨y621, hy621⟩ : ∃ y_ : List Bool, y_ = (x8_1.set (x23_1 : Int).toNat true) := ⟨_, rfl⟩
         replace H : (impl_Decides.l0 k1 a2 t605 y621 l1_0 (l1_0.length : Int) (wrap64 (x23_1 + 1))) = some r := rh_ hy621 H
         have Ny621 := aa_ hy621
         clear hy621
         have H' := aa_ H
         clear H
         have hnb64 := NB613_603.out
         have hnc64 := NB603_613.out
         have hcz65 := blk_cell BK613.out
         have hfz65 := blk_frozen BK613.out
         obtain ⟨Ao66, co66, eo66⟩ := Kd.R_slice HO_8.out
         subst eo66
         have p620 : 0 ≤ (((rd_T57 l1_0 x23_1).f2) : Int) := od_
         have q620 : ((rd_T57 l1_0 x23_1).f2) < (x8_1.length : Int) := od_
         obtain ⟨ad620, e620, hx620_0⟩ := Kd.at_bool (Kd.R_reads' HO_8.out).2.2 ((rd_T57 l1_0 x23_1).f2) p620 q620
         (try rw [← Nbq60.out] at hx620_0)
         cases e620
         replace p620 := eq_true p620
         replace q620 := eq_true q620
         have p63 : 0 ≤ (x23_1 : Int) := od_
         have q63 : (x23_1 : Int) < ((x8_1.length : Int) : Int) := od_
         obtain ⟨go63, co63, eo63, gb63, gl63, cl63, HG63⟩ := Kd.R_form HO_8.out (by omega)
         (first | cases eo63 | (injection eo63 with ea_ en_ ec_; (first | subst ea_ | (injection ea_ with ea_; subst ea_)); subst ec_; clear en_))
         have GB63 := aa_ gb63
         have GG63 := aa_ HG63
         clear gb63 gl63 HG63
         (first | simp only [add_plain] at hx620_0 | skip)
         obtain ⟨hx63_0, hf63_0⟩ := Kd.R_celln false HO_8.out (x23_1 : Int) p63 q63
         replace p63 := eq_true p63
         replace q63 := eq_true q63
         have HP67 := Kd.R_putg HO_8.out (x23_1 : Int) true
         go_wp2_with (first | ((with_reducible refine gate_store (t := 4) (p := 74) rfl ?_); refine store_event (t := 4) (p := 74) (v := ?vo_w68) (w1 := (w25.setCell ⟨go63, (x23_1 : Int).toNat, none⟩ (.bool true))) ?hg ?ho ?hn ?hr ?_; (case ho => rfl); (case hg => rfl); (case hn => rfl); (case hr => first | (go_simp; done) | (go_simp; rfl)); intro w68 hw; have hg : w25.grownBy w68 (some go63) := (by rw [hw]; exact HP67.2); have hp_ : Kd.R Kd.bool 4 w68 w.heap.size (fun _ => True) (.slice (some ⟨go63, 0, none⟩) x8_1.length co66) y621 := (by rw [hw, Ny621.out]; exact HP67.1); clear HP67; replace HO_7 := aa_ (Kd.R_over' (v := (.slice (some ⟨go63, 0, none⟩) x8_1.length co66)) (rr_ HO_7) (Kd.R_typed HO_8.out) (by decide) hg); replace BK603 := aa_ (blk_grown (g := gb603) (o := .cells #[.slice (some ad612) l1_0.length c1_0] 27 (0, 0)) (bk_ BK603) hg (Kd.R_ne HO_8.out BK603.out (by decide))); replace BK613 := aa_ (blk_grown (g := gb613) (o := .cells #[.int .i64 ((rd_T57 l1_0 x23_1).f0), .int .i64 ((rd_T57 l1_0 x23_1).f1.f0), .int .i64 ((rd_T57 l1_0 x23_1).f1.f1), .int .i64 ((rd_T57 l1_0 x23_1).f2), .int .i64 ((rd_T57 l1_0 x23_1).f3)] 57 (0, 0)) (bk_ BK613) hg (Kd.R_ne HO_8.out BK613.out (by decide))); replace HO_8 := aa_ (hp_); replace HB := aa_ ((by rw [hw]; exact below_set (HB.out) GB63.out : Below w.heap.size w w68)); clear hg hw hp_))
         go_roundg k1
         case measure => have := HK1.out; omega
         case rel => exact ⟨(y621), (wrap64 (x23_1 + 1)), rf_, H', ⟨by have := HK1.out; omega⟩, ⟨rr_ HO_7⟩, ⟨rr_ HO_8⟩, ⟨bk_ BK603⟩, ⟨bl_⟩⟩
        ·replace c61 := Bool.eq_false_iff.mpr c61
         subst c61
         replace H := ite_f_ H
         obtain ⟨c69b0, H⟩ := ifd_ H
         obtain ⟨c70b0, H⟩ := ifd_ H
         obtain ⟨c71b0, H⟩ := ifd_ H
         obtain ⟨y623, hy623⟩ : ∃ y_ : List Bool, y_ = (x8_1.set (x23_1 : Int).toNat (rdOf false x8_1 ((rd_T57 l1_0 x23_1).f3))) := ⟨_, rfl⟩
         replace H : (impl_Decides.l0 k1 a2 t605 y623 l1_0 (l1_0.length : Int) (wrap64 (x23_1 + 1))) = some r := rh_ hy623 H
         have Ny623 := aa_ hy623
         clear hy623
         have H' := aa_ H
         clear H
         have hnb73 := NB613_603.out
         have hnc73 := NB603_613.out
         have hcz74 := blk_cell BK613.out
         have hfz74 := blk_frozen BK613.out
         obtain ⟨Ao75, co75, eo75⟩ := Kd.R_slice HO_8.out
         subst eo75
         have p620 : 0 ≤ (((rd_T57 l1_0 x23_1).f2) : Int) := od_
         have q620 : ((rd_T57 l1_0 x23_1).f2) < (x8_1.length : Int) := od_
         obtain ⟨ad620, e620, hx620_0⟩ := Kd.at_bool (Kd.R_reads' HO_8.out).2.2 ((rd_T57 l1_0 x23_1).f2) p620 q620
         (try rw [← Nbq60.out] at hx620_0)
         cases e620
         replace p620 := eq_true p620
         replace q620 := eq_true q620
         have p622 : 0 ≤ (((rd_T57 l1_0 x23_1).f3) : Int) := od_
         have q622 : ((rd_T57 l1_0 x23_1).f3) < (x8_1.length : Int) := od_
         obtain ⟨ad622, e622, hx622_0⟩ := Kd.at_bool (Kd.R_reads' HO_8.out).2.2 ((rd_T57 l1_0 x23_1).f3) p622 q622
         (try rw [← Nbq60.out] at hx622_0)
         obtain rfl : ad620 = ad622 := (by injection e622)
         replace p622 := eq_true p622
         replace q622 := eq_true q622
         have p72 : 0 ≤ (x23_1 : Int) := od_
         have q72 : (x23_1 : Int) < ((x8_1.length : Int) : Int) := od_
         obtain ⟨go72, co72, eo72, gb72, gl72, cl72, HG72⟩ := Kd.R_form HO_8.out (by omega)
         (first | cases eo72 | (injection eo72 with ea_ en_ ec_; (first | subst ea_ | (injection ea_ with ea_; subst ea_)); subst ec_; clear en_))
         have GB72 := aa_ gb72
         have GG72 := aa_ HG72
         clear gb72 gl72 HG72
         (first | simp only [add_plain] at hx620_0 | skip)
         (first | simp only [add_plain] at hx622_0 | skip)
         obtain ⟨hx72_0, hf72_0⟩ := Kd.R_celln false HO_8.out (x23_1 : Int) p72 q72
         replace p72 := eq_true p72
         replace q72 := eq_true q72
         have HP76 := Kd.R_putg HO_8.out (x23_1 : Int) (rdOf false x8_1 ((rd_T57 l1_0 x23_1).f3))
         go_wp2_with (first | ((with_reducible refine gate_store (t := 4) (p := 74) rfl ?_); refine store_event (t := 4) (p := 74) (v := ?vo_w77) (w1 := (w25.setCell ⟨go72, (x23_1 : Int).toNat, none⟩ (.bool (rdOf false x8_1 ((rd_T57 l1_0 x23_1).f3))))) ?hg ?ho ?hn ?hr ?_; (case ho => rfl); (case hg => rfl); (case hn => rfl); (case hr => first | (go_simp; done) | (go_simp; rfl)); intro w77 hw; have hg : w25.grownBy w77 (some go72) := (by rw [hw]; exact HP76.2); have hp_ : Kd.R Kd.bool 4 w77 w.heap.size (fun _ => True) (.slice (some ⟨go72, 0, none⟩) x8_1.length co75) y623 := (by rw [hw, Ny623.out]; exact HP76.1); clear HP76; replace HO_7 := aa_ (Kd.R_over' (v := (.slice (some ⟨go72, 0, none⟩) x8_1.length co75)) (rr_ HO_7) (Kd.R_typed HO_8.out) (by decide) hg); replace BK603 := aa_ (blk_grown (g := gb603) (o := .cells #[.slice (some ad612) l1_0.length c1_0] 27 (0, 0)) (bk_ BK603) hg (Kd.R_ne HO_8.out BK603.out (by decide))); replace BK613 := aa_ (blk_grown (g := gb613) (o := .cells #[.int .i64 ((rd_T57 l1_0 x23_1).f0), .int .i64 ((rd_T57 l1_0 x23_1).f1.f0), .int .i64 ((rd_T57 l1_0 x23_1).f1.f1), .int .i64 ((rd_T57 l1_0 x23_1).f2), .int .i64 ((rd_T57 l1_0 x23_1).f3)] 57 (0, 0)) (bk_ BK613) hg (Kd.R_ne HO_8.out BK613.out (by decide))); replace HO_8 := aa_ (hp_); replace HB := aa_ ((by rw [hw]; exact below_set (HB.out) GB72.out : Below w.heap.size w w77)); clear hg hw hp_))
         go_roundg k1
         case measure => have := HK1.out; omega
         case rel => exact ⟨(y623), (wrap64 (x23_1 + 1)), rf_, H', ⟨by have := HK1.out; omega⟩, ⟨rr_ HO_7⟩, ⟨rr_ HO_8⟩, ⟨bk_ BK603⟩, ⟨bl_⟩⟩
       ·rw [if_neg c57] at H
        have c57b0 : (((rd_T57 l1_0 x23_1).f0) == 3) = false := beq_eq_false_iff_ne.mpr c57
        have c57b1 : (((rd_T57 l1_0 x23_1).f0) != 3) = true := bne_iff_ne.mpr c57
        by_cases c78 : ((rd_T57 l1_0 x23_1).f0) = 4
        ·rw [if_pos c78] at H
         have c78b0 : (((rd_T57 l1_0 x23_1).f0) == 4) = true := beq_iff_eq.mpr c78
         have c78b1 : (((rd_T57 l1_0 x23_1).f0) != 4) = false := bne_eq_false_iff_eq.mpr c78
         clear c78
         obtain ⟨c79b0, H⟩ := ifd_ H
         obtain ⟨c80b0, H⟩ := ifd_ H
         obtain ⟨c81b0, H⟩ := ifd_ H
         obtain ⟨y625, hy625⟩ : ∃ y_ : List Bool, y_ = (x8_1.set (x23_1 : Int).toNat (!(rdOf false x8_1 ((rd_T57 l1_0 x23_1).f2)))) := ⟨_, rfl⟩
         replace H : (impl_Decides.l0 k1 a2 t605 y625 l1_0 (l1_0.length : Int) (wrap64 (x23_1 + 1))) = some r := rh_ hy625 H
         have Ny625 := aa_ hy625
         clear hy625
         have H' := aa_ H
         clear H
         have hnb83 := NB613_603.out
         have hnc83 := NB603_613.out
         have hcz84 := blk_cell BK613.out
         have hfz84 := blk_frozen BK613.out
         obtain ⟨Ao85, co85, eo85⟩ := Kd.R_slice HO_8.out
         subst eo85
         have p624 : 0 ≤ (((rd_T57 l1_0 x23_1).f2) : Int) := od_
         have q624 : ((rd_T57 l1_0 x23_1).f2) < (x8_1.length : Int) := od_
         obtain ⟨ad624, e624, hx624_0⟩ := Kd.at_bool (Kd.R_reads' HO_8.out).2.2 ((rd_T57 l1_0 x23_1).f2) p624 q624
         cases e624
         replace p624 := eq_true p624
         replace q624 := eq_true q624
         have p82 : 0 ≤ (x23_1 : Int) := od_
         have q82 : (x23_1 : Int) < ((x8_1.length : Int) : Int) := od_
         obtain ⟨go82, co82, eo82, gb82, gl82, cl82, HG82⟩ := Kd.R_form HO_8.out (by omega)
         (first | cases eo82 | (injection eo82 with ea_ en_ ec_; (first | subst ea_ | (injection ea_ with ea_; subst ea_)); subst ec_; clear en_))
         have GB82 := aa_ gb82
         have GG82 := aa_ HG82
         clear gb82 gl82 HG82
         (first | simp only [add_plain] at hx624_0 | skip)
         obtain ⟨hx82_0, hf82_0⟩ := Kd.R_celln false HO_8.out (x23_1 : Int) p82 q82
         replace p82 := eq_true p82
         replace q82 := eq_true q82
         have HP86 := Kd.R_putg HO_8.out (x23_1 : Int) (!(rdOf false x8_1 ((rd_T57 l1_0 x23_1).f2)))
         go_wp2_with (first | ((with_reducible refine gate_store (t := 4) (p := 85) rfl ?_); refine store_event (t := 4) (p := 85) (v := ?vo_w87) (w1 := (w25.setCell ⟨go82, (x23_1 : Int).toNat, none⟩ (.bool (!(rdOf false x8_1 ((rd_T57 l1_0 x23_1).f2)))))) ?hg ?ho ?hn ?hr ?_; (case ho => rfl); (case hg => rfl); (case hn => rfl); (case hr => first | (go_simp; done) | (go_simp; rfl)); intro w87 hw; have hg : w25.grownBy w87 (some go82) := (by rw [hw]; exact HP86.2); have hp_ : Kd.R Kd.bool 4 w87 w.heap.size (fun _ => True) (.slice (some ⟨go82, 0, none⟩) x8_1.length co85) y625 := (by rw [hw, Ny625.out]; exact HP86.1); clear HP86; replace HO_7 := aa_ (Kd.R_over' (v := (.slice (some ⟨go82, 0, none⟩) x8_1.length co85)) (rr_ HO_7) (Kd.R_typed HO_8.out) (by decide) hg); replace BK603 := aa_ (blk_grown (g := gb603) (o := .cells #[.slice (some ad612) l1_0.length c1_0] 27 (0, 0)) (bk_ BK603) hg (Kd.R_ne HO_8.out BK603.out (by decide))); replace BK613 := aa_ (blk_grown (g := gb613) (o := .cells #[.int .i64 ((rd_T57 l1_0 x23_1).f0), .int .i64 ((rd_T57 l1_0 x23_1).f1.f0), .int .i64 ((rd_T57 l1_0 x23_1).f1.f1), .int .i64 ((rd_T57 l1_0 x23_1).f2), .int .i64 ((rd_T57 l1_0 x23_1).f3)] 57 (0, 0)) (bk_ BK613) hg (Kd.R_ne HO_8.out BK613.out (by decide))); replace HO_8 := aa_ (hp_); replace HB := aa_ ((by rw [hw]; exact below_set (HB.out) GB82.out : Below w.heap.size w w87)); clear hg hw hp_))
         go_roundg k1
         case measure => have := HK1.out; omega
         case rel => exact ⟨(y625), (wrap64 (x23_1 + 1)), rf_, H', ⟨by have := HK1.out; omega⟩, ⟨rr_ HO_7⟩, ⟨rr_ HO_8⟩, ⟨bk_ BK603⟩, ⟨bl_⟩⟩
        ·rw [if_neg c78] at H
         have c78b0 : (((rd_T57 l1_0 x23_1).f0) == 4) = false := beq_eq_false_iff_ne.mpr c78
         have c78b1 : (((rd_T57 l1_0 x23_1).f0) != 4) = true := bne_iff_ne.mpr c78
         have H' := aa_ H
         clear H
         go_wp2
         go_roundg k1
         case measure => have := HK1.out; omega
         case rel => exact ⟨(x8_1), (wrap64 (x23_1 + 1)), rf_, H', ⟨by have := HK1.out; omega⟩, ⟨rr_ HO_7⟩, ⟨rr_ HO_8⟩, ⟨bk_ BK603⟩, ⟨bl_⟩⟩
    ·rw [if_neg c18] at H
     have c18b0 : decide (x23_1 < (l1_0.length : Int)) = false := decide_eq_false c18
     clear c18
     (first | rw [c18b0] | (simp only [i64_w, i32_w]; rw [c18b0]) | (have cz_ := c18b0; simp only [Int.ofNat_lt, Int.ofNat_le, gt_iff_lt, ge_iff_le] at cz_; rw [cz_]; clear cz_) | skip)
     obtain ⟨ji88, hji88⟩ : ∃ j_ : Int, (wrap64 ((x8_1.length : Int) - 1)) = j_ := ⟨_, rfl⟩
     replace H : (if 0 ≤ (ji88) then (if (ji88) < (x8_1.length : Int) then (some (rdOf false x8_1 (ji88))) else (none)) else (none)) = some r := by first | (rw [hji88] at H; exact H) | (simp only [hji88] at H ⊢; exact H)
     have hji88w : (IntKind.i64.wrap ((x8_1.length : Int) - 1)) = ji88 := (i64_w _).trans hji88
     obtain ⟨c89b0, H⟩ := ifd_ H
     obtain ⟨c90b0, H⟩ := ifd_ H
     obtain rfl := Option.some.inj H
     obtain ⟨Ao91, co91, eo91⟩ := Kd.R_slice HO_8.out
     subst eo91
     have p611 : 0 ≤ ((ji88) : Int) := od_
     have q611 : (ji88) < (x8_1.length : Int) := od_
     obtain ⟨ad611, e611, hx611_0⟩ := Kd.at_bool (Kd.R_reads' HO_8.out).2.2 (ji88) p611 q611
     cases e611
     replace p611 := eq_true p611
     replace q611 := eq_true q611
     go_wp2
     go_ret
     exact ⟨by first | rfl | (simp [errW_none, errW_some] <;> rfl) | (simp only [← hji88]; first | rfl | (simp [errW_none, errW_some] <;> rfl)) | (simp [*, errW_none, errW_some] <;> rfl), bl_⟩
 ·replace c9 := Bool.eq_false_iff.mpr c9
  subst c9
  replace H := ite_f_ H
  obtain rfl := Option.some.inj H
  go_wp2
  go_ret
  exact ⟨eq_, bl_⟩
def spec_l06Has.l0 : Nat → List (S63) → Int → Int → Int → Int → Option (Bool)
 | 0, _, _, _, _, _ => none
 | k + 1, x0, x5, x627000, x627001, x627002 => if x5 < (x0.length : Int) then (if 0 ≤ x5 then (if ((((rd_T63 x0 x5).f0.f0) == x627000 && (((rd_T63 x0 x5).f0.f1) == x627001)) && (((rd_T63 x0 x5).f1) == x627002)) = true then (some true) else (spec_l06Has.l0 k x0 (wrap64 (x5 + 1)) x627000 x627001 x627002)) else (none)) else (some false)
def spec_l06Has.f (k : Nat) (l0 : List (S63)) (a1_0 : Int) (a1_1 : Int) (a1_2 : Int) : Option (Bool) := spec_l06Has.l0 k l0 0 a1_0 a1_1 a1_2
set_option maxHeartbeats 8000000 in
set_option maxRecDepth 100000 in
theorem spec_l06Has.calls (k : Nat) (A0 : Option Addr) (c0 : Nat) (l0 : List (S63)) (a1_0 : Int) (a1_1 : Int) (a1_2 : Int) (r : Bool) (w : World) (hr0 : Kd.C k63 w A0 l0.length l0) (hc0 : l0.length ≤ c0) (h : spec_l06Has.f k l0 a1_0 a1_1 a1_2 = some r) :
  Calls Try.prog 37 #[.slice A0 l0.length c0, .agg #[.int .i64 a1_0, .int .i64 a1_1, .int .i64 a1_2]] w fun e w' => e = .returned (.bool r) ∧ Below w.heap.size w w' := by
 have hu63 := Try.underlying63
 have HR0 := aa_ hr0
 have HC0 := aa_ hc0
 clear hr0 hc0
 have HB := aa_ (Below.refl w.heap.size w)
 have H : (spec_l06Has.l0 k l0 0 a1_0 a1_1 a1_2) = some r := h
 clear h
 have H' := aa_ H
 clear H
 go_enter Try.func37, Try.ntmps37
 go_wp2_with (first | ((with_reducible refine gD_ 3 rfl ?_); refine bx_ (N := 3) (cs := #[.int .i64 a1_0, .int .i64 a1_1, .int .i64 a1_2]) (t := 63) ?_; intro gb626 hg w3 hbox hb; have BK626 := aa_ (hbox); have GW626 := gs_ hg; have GE626 := gs_ hg; replace HB := hbs_ hb; clear hb hbox hg))
 repeat (go_quiet (first | ((with_reducible refine gD_ 3 rfl ?_); refine bx_ (N := 3) (cs := #[.int .i64 a1_0, .int .i64 a1_1, .int .i64 a1_2]) (t := 63) ?_; intro gb626 hg w3 hbox hb; have BK626 := aa_ (hbox); have GW626 := gs_ hg; have GE626 := gs_ hg; replace HB := hbs_ hb; clear hb hbox hg)); try go_wp2_with (first | ((with_reducible refine gD_ 3 rfl ?_); refine bx_ (N := 3) (cs := #[.int .i64 a1_0, .int .i64 a1_1, .int .i64 a1_2]) (t := 63) ?_; intro gb626 hg w3 hbox hb; have BK626 := aa_ (hbox); have GW626 := gs_ hg; have GE626 := gs_ hg; replace HB := hbs_ hb; clear hb hbox hg)))
 go_loopg [5] k (fun kq v5 w' => ∃ (x5_1 : Int), v5 = .int .i64 x5_1 ∧ Aside0 (spec_l06Has.l0 kq l0 x5_1 a1_0 a1_1 a1_2 = some r) ∧ Aside0 (kq ≤ k) ∧ Aside0 (w'.heap[gb626]? = some (.cells #[.int .i64 a1_0, .int .i64 a1_1, .int .i64 a1_2] 63 (0, 0))) ∧ Aside0 (Below w.heap.size w w'))
 case atStart => exact ⟨(0), rf_, H', ⟨Nat.le_refl _⟩, ⟨bk_ BK626⟩, ⟨bl_⟩⟩
 case round =>
  clear H'
  try clear p2
  try clear c3
  obtain ⟨x5_1, rfl, HA, HK1, BK626, HB⟩ := hrel
  cases gk with
  | zero => exact absurd HA.out (by simp [spec_l06Has.l0])
  | succ k1 =>
   have H := HA.out
   clear HA
   simp only [spec_l06Has.l0] at H
   by_cases c4 : x5_1 < (l0.length : Int)
   ·rw [if_pos c4] at H
    have c4b0 : decide (x5_1 < (l0.length : Int)) = true := decide_eq_true c4
    clear c4
    obtain ⟨c5b0, H⟩ := ifd_ H
    have HC6 := aa_ H
    clear H
    have p627 : 0 ≤ (x5_1 : Int) := od_
    have q627 : x5_1 < (l0.length : Int) := od_
    obtain ⟨ad627, e627, hx627_0, hx627_1, hx627_2⟩ := at_T63 (Kd.C_below HR0.out HB.out) x5_1 p627 q627
    cases e627
    replace p627 := eq_true p627
    replace q627 := eq_true q627
    have hcz7 := blk_cell BK626.out
    have hfz7 := blk_frozen BK626.out
    go_upto_if 17 with (fail)
    repeat (go_quiet (fail); go_upto_if 17 with (fail))
    have H := HC6.out
    clear HC6
    by_cases c8 : ((((rd_T63 l0 x5_1).f0.f0) == a1_0 && (((rd_T63 l0 x5_1).f0.f1) == a1_1)) && (((rd_T63 l0 x5_1).f1) == a1_2)) = true
    ·rw [if_pos c8] at H
     have c8b0 : ((((rd_T63 l0 x5_1).f0.f0) == a1_0 && (((rd_T63 l0 x5_1).f0.f1) == a1_1)) && (((rd_T63 l0 x5_1).f1) == a1_2)) = true := c8
     clear c8
     (first | rw [c8b0] | (simp only [i64_w, i32_w]; rw [c8b0]) | skip)
     obtain rfl := Option.some.inj H
     go_wp2
     repeat (go_quiet (fail); try go_wp2)
     go_ret
     exact ⟨eq_, bl_⟩
    ·rw [if_neg c8] at H
     have c8b0 : ((((rd_T63 l0 x5_1).f0.f0) == a1_0 && (((rd_T63 l0 x5_1).f0.f1) == a1_1)) && (((rd_T63 l0 x5_1).f1) == a1_2)) = false := by simpa using c8
     clear c8
     (first | rw [c8b0] | (simp only [i64_w, i32_w]; rw [c8b0]) | skip)
     have H' := aa_ H
     clear H
     go_wp2
     repeat (go_quiet (fail); try go_wp2)
     go_roundg k1
     case measure => have := HK1.out; omega
     case rel => exact ⟨(wrap64 (x5_1 + 1)), rf_, H', ⟨by have := HK1.out; omega⟩, ⟨bk_ BK626⟩, ⟨bl_⟩⟩
   ·rw [if_neg c4] at H
    have c4b0 : decide (x5_1 < (l0.length : Int)) = false := decide_eq_false c4
    clear c4
    obtain rfl := Option.some.inj H
    go_wp2
    repeat (go_quiet (fail); try go_wp2)
    go_ret
    exact ⟨eq_, bl_⟩
end Go.Proofs.Ytnoklfpnmopkpaa.PE
