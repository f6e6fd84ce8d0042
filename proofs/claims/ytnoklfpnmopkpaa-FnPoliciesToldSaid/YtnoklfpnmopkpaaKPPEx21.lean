import Derived.Test.YtnoklfpnmopkpaaKPPEx10
-- printed by wip/tools
namespace Go.Proofs.Ytnoklfpnmopkpaa.PE
open Go.RowKit Go.Proofs.YtnoklfpnmopkpaaW.PrintWords Go.Proofs.YtnoklfpnmopkpaaW.PrintLast Go.Proofs.YtnoklfpnmopkpaaW.PrintMore
attribute [local go_sem] max2_int min2_int max_two min_two max_three min_three max_four min_four
set_option linter.unusedVariables false
set_option linter.unusedSimpArgs false
def impl_Rising.l0 : Nat → List Bool → Int → List (S57) → Option (Bool)
 | 0, _, _, _ => none
 | k + 1, x3, x4, x758000 => if x4 ≥ 0 then (if 0 ≤ x4 then (if x4 < (x758000.length : Int) then (if x4 < (x3.length : Int) then (if rdOf false x3 x4 = true then (if ((rd_T57 x758000 x4).f0) = 4 then (some false) else (if ((rd_T57 x758000 x4).f0) = 2 then (if 0 ≤ ((rd_T57 x758000 x4).f2) then (if ((rd_T57 x758000 x4).f2) < (x3.length : Int) then (if 0 ≤ ((rd_T57 x758000 x4).f3) then (if ((rd_T57 x758000 x4).f3) < (x3.length : Int) then (impl_Rising.l0 k ((x3.set (((rd_T57 x758000 x4).f2) : Int).toNat true).set (((rd_T57 x758000 x4).f3) : Int).toNat true) (wrap64 (x4 - 1)) x758000) else (none)) else (none)) else (none)) else (none)) else (if ((rd_T57 x758000 x4).f0) = 3 then (if 0 ≤ ((rd_T57 x758000 x4).f2) then (if ((rd_T57 x758000 x4).f2) < (x3.length : Int) then (if 0 ≤ ((rd_T57 x758000 x4).f3) then (if ((rd_T57 x758000 x4).f3) < (x3.length : Int) then (impl_Rising.l0 k ((x3.set (((rd_T57 x758000 x4).f2) : Int).toNat true).set (((rd_T57 x758000 x4).f3) : Int).toNat true) (wrap64 (x4 - 1)) x758000) else (none)) else (none)) else (none)) else (none)) else (impl_Rising.l0 k x3 (wrap64 (x4 - 1)) x758000)))) else (impl_Rising.l0 k x3 (wrap64 (x4 - 1)) x758000)) else (none)) else (none)) else (none)) else (some true)
def impl_Rising.f (k : Nat) (l0_0 : List (S57)) : Option (Bool) := (impl_PolicyOk.f k l0_0).bind fun t758 => (if t758 = true then (if 0 ≤ (l0_0.length : Int) then (if ((l0_0.length : Int) : Int).toNat ≤ 281474976710656 then ((some (List.replicate ((l0_0.length : Int) : Int).toNat false : List Bool)).bind fun y759 => (if 0 ≤ (wrap64 ((y759.length : Int) - 1)) then (if (wrap64 ((y759.length : Int) - 1)) < (y759.length : Int) then (impl_Rising.l0 k (y759.set ((wrap64 ((y759.length : Int) - 1)) : Int).toNat true) (wrap64 ((l0_0.length : Int) - 1)) l0_0) else (none)) else (none))) else (none)) else (none)) else (some false))
def impl_Rising.T15 : Bool × List (List Nat × List Nat) := (true, [([], []), ([], []), ([1], [1]), ([], []), ([], []), ([4], [4]), ([0, 2, 0, 1, 2], [0, 2]), ([6, 0, 1, 2], [6]), ([3, 5, 0, 1, 2, 3, 4, 5, 6, 7], [3, 5]), ([8, 7, 0, 1, 2, 3, 4, 5, 6, 7], [8])])
def impl_Rising.B15 : List Nat := [0, 0, 2, 0, 0, 16, 7, 71, 255, 511]
theorem impl_Rising.tab15 : rtab .any (opsOf Try.f19 15) = impl_Rising.T15 := by kernel_rfl
theorem impl_Rising.bits15 : waitsOk impl_Rising.T15.2 impl_Rising.B15 = true := by kernel_rfl
set_option maxHeartbeats 8000000 in
set_option maxRecDepth 100000 in
theorem impl_Rising.calls (k : Nat) (A0_0 : Option Addr) (c0_0 : Nat) (l0_0 : List (S57)) (r : Bool) (w : World) (hr0_0 : Kd.C k57 w A0_0 l0_0.length l0_0) (hc0_0 : l0_0.length ≤ c0_0) (h : impl_Rising.f k l0_0 = some r) :
  Calls Try.prog 19 #[.agg #[.slice A0_0 l0_0.length c0_0]] w fun e w' => e = .returned (.bool r) ∧ Below w.heap.size w w' := by
 have hu27 := Try.underlying27
 have hu57 := Try.underlying57
 have HR0_0 := aa_ hr0_0
 have HC0_0 := aa_ hc0_0
 clear hr0_0 hc0_0
 have HB := aa_ (Below.refl w.heap.size w)
 have H : ((impl_PolicyOk.f k l0_0).bind fun t758 => (if t758 = true then (if 0 ≤ (l0_0.length : Int) then (if ((l0_0.length : Int) : Int).toNat ≤ 281474976710656 then ((some (List.replicate ((l0_0.length : Int) : Int).toNat false : List Bool)).bind fun y759 => (if 0 ≤ (wrap64 ((y759.length : Int) - 1)) then (if (wrap64 ((y759.length : Int) - 1)) < (y759.length : Int) then (impl_Rising.l0 k (y759.set ((wrap64 ((y759.length : Int) - 1)) : Int).toNat true) (wrap64 ((l0_0.length : Int) - 1)) l0_0) else (none)) else (none))) else (none)) else (none)) else (some false))) = some r := h
 clear h
 obtain ⟨t758, A2, H⟩ := bindE_ H
 by_cases c3 : t758 = true
 ·subst c3
  replace H := ite_t_ H
  obtain ⟨c4, H⟩ := ifn_ H
  have c4b0 := eq_true c4
  have c4b1 : decide (0 ≤ (l0_0.length : Int)) = true := decide_eq_true c4
  clear c4
  obtain ⟨c5, H⟩ := ifn_ H
  have c5b0 := eq_true c5
  have c5b1 : decide (((l0_0.length : Int) : Int).toNat ≤ 281474976710656) = true := decide_eq_true c5
  clear c5
  obtain ⟨y759, hy759⟩ : ∃ y_ : List Bool, y_ = (List.replicate ((l0_0.length : Int) : Int).toNat false) := ⟨_, rfl⟩
  replace H : (if 0 ≤ (wrap64 ((y759.length : Int) - 1)) then (if (wrap64 ((y759.length : Int) - 1)) < (y759.length : Int) then (impl_Rising.l0 k (y759.set ((wrap64 ((y759.length : Int) - 1)) : Int).toNat true) (wrap64 ((l0_0.length : Int) - 1)) l0_0) else (none)) else (none)) = some r := rh_ hy759 H
  have Ny759 := aa_ hy759
  clear hy759
  obtain ⟨ji6, hji6⟩ : ∃ j_ : Int, (wrap64 ((y759.length : Int) - 1)) = j_ := ⟨_, rfl⟩
  replace H : (if 0 ≤ (ji6) then (if (ji6) < (y759.length : Int) then (impl_Rising.l0 k (y759.set ((ji6) : Int).toNat true) (wrap64 ((l0_0.length : Int) - 1)) l0_0) else (none)) else (none)) = some r := by first | (rw [hji6] at H; exact H) | (simp only [hji6] at H ⊢; exact H)
  (try rw [hji6] at A2)
  have hji6w : (IntKind.i64.wrap ((y759.length : Int) - 1)) = ji6 := (i64_w _).trans hji6
  obtain ⟨c7b0, H⟩ := ifd_ H
  obtain ⟨c8b0, H⟩ := ifd_ H
  obtain ⟨y762, hy762⟩ : ∃ y_ : List Bool, y_ = (y759.set ((ji6) : Int).toNat true) := ⟨_, rfl⟩
  replace H : (impl_Rising.l0 k y762 (wrap64 ((l0_0.length : Int) - 1)) l0_0) = some r := rh_ hy762 H
  have Ny762 := aa_ hy762
  clear hy762
  have H' := aa_ H
  clear H
  go_enter Try.func19, Try.ntmps19
  go_wp2_with (first | ((with_reducible refine gD_ 1 rfl ?_); refine bx_ (N := 1) (cs := #[.slice A0_0 l0_0.length c0_0]) (t := 27) ?_; intro gb757 hg w10 hbox hb; have BK757 := aa_ (hbox); have GW757 := gs_ hg; have GE757 := gs_ hg; replace HB := hbs_ hb; clear hb hbox hg; obtain ⟨hcz11, hfz11⟩ := bcf_ BK757) | ((with_reducible refine gC_ 14 rfl ?_); refine goesC_ (some 7) Try.func14 #[.agg #[.slice A0_0 l0_0.length c0_0]] ?_; (with_reducible refine (impl_PolicyOk.calls k _ _ l0_0 true _ ?side1 ?side2 A2.out).mono ?_); (case side1 => repeat (first | exact (Kd.C_below HR0_0.out HB.out) | (with_reducible refine Kd.C_alloc ?_ _) | (with_reducible refine Kd.C_drewN ?_ _) | (with_reducible refine Kd.C_drew ?_))); (case side2 => exact HC0_0.out); rintro e w12 ⟨rfl, hb⟩; refine ⟨_, rfl, ?_⟩; replace BK757 := bkb_ BK757 hb; replace HB := hbs_ hb; clear hb; obtain ⟨hcz13, hfz13⟩ := bcf_ BK757) | ((with_reducible refine gD_ 12 rfl ?_); refine Kd.R_make Kd.bool _ 4 rfl (N := 12) rfl 60 _ _ rfl (l0_0.length : Int) rfl rfl Try.underlying60 (.bool false) 1 info4 rfl (by decide) (by omega) false (ok := fun _ => True) (okp := fun _ => True) rfl (fun _ hk => hk) trivial (od_) (Nat.le_trans (Nat.mul_le_mul_right _ (od_ : (l0_0.length : Int).toNat ≤ 281474976710656)) (by omega)) (Below.refl _ _) (Nat.le_refl _) ?_; intro v760 w14 ho15 hb hg_ hnew_; clear hg_ hnew_; (first | rw [← Ny759.out] at ho15 | (simp only [Int.reduceToNat] at ho15; rw [← Ny759.out] at ho15)); have HO761 := aa_ (Kd.R_lower ho15 bls_); replace BK757 := bkb_ BK757 hb; replace HB := hbs_ hb; clear hb ho15; obtain ⟨Ao16, co16, eo16⟩ := Kd.R_slice HO761.out; subst eo16; have p9 : 0 ≤ ((ji6) : Int) := od_; have q9 : ((ji6) : Int) < ((y759.length : Int) : Int) := od_; obtain ⟨go9, co9, eo9, gb9, gl9, cl9, HG9⟩ := Kd.R_form HO761.out (by omega); (first | cases eo9 | (injection eo9 with ea_ en_ ec_; (first | subst ea_ | (injection ea_ with ea_; subst ea_)); subst ec_; clear en_)); have GB9 := aa_ gb9; have GG9 := aa_ HG9; clear gb9 gl9 HG9; obtain ⟨hx9_0, hf9_0⟩ := Kd.R_celln false HO761.out ((ji6) : Int) p9 q9; replace p9 := eq_true p9; replace q9 := eq_true q9; obtain ⟨hy17_, hz17_⟩ := Kd.R_celln false HO761.out ((ji6) : Int) (od_) (od_); have HP17 := Kd.R_putg HO761.out ((ji6) : Int) true) | ((with_reducible refine gate_store (t := 4) (p := 17) rfl ?_); refine store_event (t := 4) (p := 17) (v := ?vo_w18) (w1 := (w14.setCell ⟨go9, ((ji6) : Int).toNat, none⟩ (.bool true))) ?hg ?ho ?hn ?hr ?_; (case ho => rfl); (case hg => rfl); (case hn => rfl); (case hr => first | (go_simp; done) | (go_simp; rfl)); intro w18 hw; have hg : w14.grownBy w18 (some go9) := (by rw [hw]; exact HP17.2); have hp_ : Kd.R Kd.bool 4 w18 w.heap.size (fun _ => True) (.slice (some ⟨go9, 0, none⟩) y759.length co16) y762 := (by rw [hw, Ny762.out]; exact HP17.1); clear HP17; replace BK757 := aa_ (blk_grown (g := gb757) (o := .cells #[.slice A0_0 l0_0.length c0_0] 27 (0, 0)) (bk_ BK757) hg (Kd.R_ne HO761.out BK757.out (by decide))); replace HO761 := aa_ (hp_); replace HB := aa_ ((by rw [hw]; exact below_set (HB.out) GB9.out : Below w.heap.size w w18)); clear hg hw hp_; obtain ⟨hcz19, hfz19⟩ := bcf_ BK757))
  go_loopg [4] k (fun kq v4 w' => ∃ (x3_1 : List Bool) (x4_1 : Int), v4 = .int .i64 x4_1 ∧ Aside0 (impl_Rising.l0 kq x3_1 x4_1 l0_0 = some r) ∧ Aside0 (kq ≤ k) ∧ Aside0 (Kd.R Kd.bool 4 w' w.heap.size (fun _ => True) (.slice (some ⟨go9, 0, none⟩) y759.length co16) x3_1) ∧ Aside0 (w'.heap[gb757]? = some (.cells #[(.slice A0_0 l0_0.length c0_0)] 27 (0, 0))) ∧ Aside0 (Below w.heap.size w w'))
  case atStart => exact ⟨(y762), (wrap64 ((l0_0.length : Int) - 1)), rf_, H', ⟨Nat.le_refl _⟩, ⟨rr_ HO761⟩, ⟨bk_ BK757⟩, ⟨bl_⟩⟩
  case round =>
   clear H'
   try clear c1
   try clear p2
   try clear c3
   try clear c4
   try clear c4b0
   try clear c4b1
   try clear c5
   try clear c5b0
   try clear c5b1
   try clear p6
   try clear c7
   try clear c7b0
   try clear c8
   try clear c8b0
   try clear p9
   try clear q9
   try clear hx9
   try clear hf9
   try clear c14
   try clear c19
   try clear hcz11
   try clear hcz13
   try clear hcz19
   try clear hfz11
   try clear hfz13
   try clear hfz19
   try clear hx9_0
   try clear p9
   try clear q9
   obtain ⟨x3_1, x4_1, rfl, HA, HK1, HO_3, BK757, HB⟩ := hrel
   have hl3_1 := (Kd.R_reads' HO_3.out).1
   rw [hl3_1] at HO_3
   (try simp only [hl3_1])
   (try simp only [hl3_1] at BK757)
   cases gk with
   | zero => exact absurd HA.out (by simp [impl_Rising.l0])
   | succ k1 =>
    have H := HA.out
    clear HA
    simp only [impl_Rising.l0] at H
    by_cases c20 : x4_1 ≥ 0
    ·rw [if_pos c20] at H
     have c20b0 : decide (0 ≤ x4_1) = true := decide_eq_true c20
     clear c20
     obtain ⟨c21b0, H⟩ := ifd_ H
     obtain ⟨c22b0, H⟩ := ifd_ H
     obtain ⟨c23b0, H⟩ := ifd_ H
     obtain ⟨bq24, hbq24⟩ : ∃ b_ : Bool, b_ = (rdOf false x3_1 x4_1) := ⟨_, rfl⟩
     replace H : (if bq24 = true then (if ((rd_T57 l0_0 x4_1).f0) = 4 then (some false) else (if ((rd_T57 l0_0 x4_1).f0) = 2 then (if 0 ≤ ((rd_T57 l0_0 x4_1).f2) then (if ((rd_T57 l0_0 x4_1).f2) < (x3_1.length : Int) then (if 0 ≤ ((rd_T57 l0_0 x4_1).f3) then (if ((rd_T57 l0_0 x4_1).f3) < (x3_1.length : Int) then (impl_Rising.l0 k1 ((x3_1.set (((rd_T57 l0_0 x4_1).f2) : Int).toNat true).set (((rd_T57 l0_0 x4_1).f3) : Int).toNat true) (wrap64 (x4_1 - 1)) l0_0) else (none)) else (none)) else (none)) else (none)) else (if ((rd_T57 l0_0 x4_1).f0) = 3 then (if 0 ≤ ((rd_T57 l0_0 x4_1).f2) then (if ((rd_T57 l0_0 x4_1).f2) < (x3_1.length : Int) then (if 0 ≤ ((rd_T57 l0_0 x4_1).f3) then (if ((rd_T57 l0_0 x4_1).f3) < (x3_1.length : Int) then (impl_Rising.l0 k1 ((x3_1.set (((rd_T57 l0_0 x4_1).f2) : Int).toNat true).set (((rd_T57 l0_0 x4_1).f3) : Int).toNat true) (wrap64 (x4_1 - 1)) l0_0) else (none)) else (none)) else (none)) else (none)) else (impl_Rising.l0 k1 x3_1 (wrap64 (x4_1 - 1)) l0_0)))) else (impl_Rising.l0 k1 x3_1 (wrap64 (x4_1 - 1)) l0_0)) = some r := by rw [← hbq24] at H; exact H
     have Nbq24 := aa_ hbq24
     clear hbq24
     by_cases c25 : bq24 = true
     ·subst c25
      replace H := ite_t_ H
      by_cases c26 : ((rd_T57 l0_0 x4_1).f0) = 4
      ·rw [if_pos c26] at H
       have c26b0 : (((rd_T57 l0_0 x4_1).f0) == 4) = true := beq_iff_eq.mpr c26
       have c26b1 : (((rd_T57 l0_0 x4_1).f0) != 4) = false := bne_eq_false_iff_eq.mpr c26
       clear c26
       obtain rfl := Option.some.inj H
       have hcz27 := blk_cell BK757.out
       have hfz27 := blk_frozen BK757.out
       have p763 : 0 ≤ (x4_1 : Int) := od_
       have q763 : x4_1 < (l0_0.length : Int) := od_
       obtain ⟨ad763, e763, hx763_0, hx763_1, hx763_2, hx763_3, hx763_4⟩ := at_T57 (Kd.C_below HR0_0.out HB.out) x4_1 p763 q763
       cases e763
       replace p763 := eq_true p763
       replace q763 := eq_true q763
       go_wp2_with (first | ((with_reducible refine gD_ 5 rfl ?_); refine bx_ (N := 5) (cs := #[.int .i64 0, .int .i64 0, .int .i64 0, .int .i64 0, .int .i64 0]) (t := 57) ?_; intro gb764 hg w28 hbox hb; replace HO_3 := hob_ HO_3 hb; have BK764 := aa_ (hbox); have GW764 := gs_ hg; have GE764 := gs_ hg; replace HB := hbs_ hb; have NB757_764 := nl_ hg BK757; have NB764_757 := nr_ hg BK757; replace BK757 := bkb_ BK757 hb; clear hb hbox hg; have hnb29 := NB764_757.out; have hnc29 := NB757_764.out; obtain ⟨hcz30, hfz30⟩ := bcf_ BK764; have p765 : 0 ≤ (x4_1 : Int) := od_; have q765 : x4_1 < (x3_1.length : Int) := od_; obtain ⟨ad765, e765, hx765_0⟩ := Kd.at_bool (Kd.R_reads' HO_3.out).2.2 x4_1 p765 q765; (try rw [← Nbq24.out] at hx765_0); obtain rfl : (⟨go9, 0, none⟩ : Addr) = ad765 := (by injection e765); (first | simp only [add_plain] at hx765_0 | simp only [add_at] at hx765_0 | simp only [Addr.add, Nat.zero_add] at hx765_0 | skip); have hn765_0 : (⟨go9, 0, none⟩ : Addr).block ≠ gb764 := Kd.own_blk (Kd.R_ne HO_3.out BK764.out (by decide)); have hn765_1 : (⟨go9, 0, none⟩ : Addr).block ≠ gb764 := Kd.own_blk (Kd.R_ne HO_3.out BK764.out (by decide)); have hn765_2 : (⟨go9, 0, none⟩ : Addr).block ≠ gb764 := Kd.own_blk (Kd.R_ne HO_3.out BK764.out (by decide)); have hn765_3 : (⟨go9, 0, none⟩ : Addr).block ≠ gb764 := Kd.own_blk (Kd.R_ne HO_3.out BK764.out (by decide)); have hn765_4 : (⟨go9, 0, none⟩ : Addr).block ≠ gb764 := Kd.own_blk (Kd.R_ne HO_3.out BK764.out (by decide)); replace hx765_0 := (cell_far (p := ⟨gb764, 0, none⟩) (by first | (rw [add_block]; exact hn765_0) | (show (Addr.add _ _).block ≠ _; rw [add_block]; exact hn765_0) | exact hn765_0) (.int .i64 ((rd_T57 l0_0 x4_1).f0))).trans hx765_0; replace hx765_0 := (cell_far (p := ⟨gb764, 1, none⟩) (by first | (rw [add_block]; exact hn765_1) | (show (Addr.add _ _).block ≠ _; rw [add_block]; exact hn765_1) | exact hn765_1) (.int .i64 ((rd_T57 l0_0 x4_1).f1.f0))).trans hx765_0; replace hx765_0 := (cell_far (p := ⟨gb764, 2, none⟩) (by first | (rw [add_block]; exact hn765_2) | (show (Addr.add _ _).block ≠ _; rw [add_block]; exact hn765_2) | exact hn765_2) (.int .i64 ((rd_T57 l0_0 x4_1).f1.f1))).trans hx765_0; replace hx765_0 := (cell_far (p := ⟨gb764, 3, none⟩) (by first | (rw [add_block]; exact hn765_3) | (show (Addr.add _ _).block ≠ _; rw [add_block]; exact hn765_3) | exact hn765_3) (.int .i64 ((rd_T57 l0_0 x4_1).f2))).trans hx765_0; replace hx765_0 := (cell_far (p := ⟨gb764, 4, none⟩) (by first | (rw [add_block]; exact hn765_4) | (show (Addr.add _ _).block ≠ _; rw [add_block]; exact hn765_4) | exact hn765_4) (.int .i64 ((rd_T57 l0_0 x4_1).f3))).trans hx765_0; clear hn765_0; clear hn765_1; clear hn765_2; clear hn765_3; clear hn765_4; replace p765 := eq_true p765; replace q765 := eq_true q765))
       go_ret
       exact ⟨by first | rfl | (simp [errW_none, errW_some] <;> rfl) | (simp only [← hji6]; first | rfl | (simp [errW_none, errW_some] <;> rfl)) | (simp [*, errW_none, errW_some] <;> rfl), bl_⟩
      ·rw [if_neg c26] at H
       have c26b0 : (((rd_T57 l0_0 x4_1).f0) == 4) = false := beq_eq_false_iff_ne.mpr c26
       have c26b1 : (((rd_T57 l0_0 x4_1).f0) != 4) = true := bne_iff_ne.mpr c26
       by_cases c31 : ((rd_T57 l0_0 x4_1).f0) = 2
       ·rw [if_pos c31] at H
        have c31b0 : (((rd_T57 l0_0 x4_1).f0) == 2) = true := beq_iff_eq.mpr c31
        have c31b1 : (((rd_T57 l0_0 x4_1).f0) != 2) = false := bne_eq_false_iff_eq.mpr c31
        clear c31
        obtain ⟨c32b0, H⟩ := ifd_ H
        obtain ⟨c33b0, H⟩ := ifd_ H
        obtain ⟨y766, hy766⟩ : ∃ y_ : List Bool, y_ = (x3_1.set (((rd_T57 l0_0 x4_1).f2) : Int).toNat true) := ⟨_, rfl⟩
        replace H : (if 0 ≤ ((rd_T57 l0_0 x4_1).f3) then (if ((rd_T57 l0_0 x4_1).f3) < (x3_1.length : Int) then (impl_Rising.l0 k1 (y766.set (((rd_T57 l0_0 x4_1).f3) : Int).toNat true) (wrap64 (x4_1 - 1)) l0_0) else (none)) else (none)) = some r := rh_ hy766 H
        have Ny766 := aa_ hy766
        clear hy766
        obtain ⟨c35b0, H⟩ := ifd_ H
        obtain ⟨c36b0, H⟩ := ifd_ H
        obtain ⟨y767, hy767⟩ : ∃ y_ : List Bool, y_ = (y766.set (((rd_T57 l0_0 x4_1).f3) : Int).toNat true) := ⟨_, rfl⟩
        replace H : (impl_Rising.l0 k1 y767 (wrap64 (x4_1 - 1)) l0_0) = some r := rh_ hy767 H
        have Ny767 := aa_ hy767
        clear hy767
        have H' := aa_ H
        clear H
        have hcz38 := blk_cell BK757.out
        have hfz38 := blk_frozen BK757.out
        have p763 : 0 ≤ (x4_1 : Int) := od_
        have q763 : x4_1 < (l0_0.length : Int) := od_
        obtain ⟨ad763, e763, hx763_0, hx763_1, hx763_2, hx763_3, hx763_4⟩ := at_T57 (Kd.C_below HR0_0.out HB.out) x4_1 p763 q763
        cases e763
        replace p763 := eq_true p763
        replace q763 := eq_true q763
        try go_wp2_with (first | ((with_reducible refine gD_ 5 rfl ?_); refine bx_ (N := 5) (cs := #[.int .i64 0, .int .i64 0, .int .i64 0, .int .i64 0, .int .i64 0]) (t := 57) ?_; intro gb764 hg w39 hbox hb; replace HO_3 := hob_ HO_3 hb; have BK764 := aa_ (hbox); have GW764 := gs_ hg; have GE764 := gs_ hg; replace HB := hbs_ hb; have NB757_764 := nl_ hg BK757; have NB764_757 := nr_ hg BK757; replace BK757 := bkb_ BK757 hb; clear hb hbox hg; have hnb40 := NB764_757.out; have hnc40 := NB757_764.out; obtain ⟨hcz41, hfz41⟩ := bcf_ BK764; have p765 : 0 ≤ (x4_1 : Int) := od_; have q765 : x4_1 < (x3_1.length : Int) := od_; obtain ⟨ad765, e765, hx765_0⟩ := Kd.at_bool (Kd.R_reads' HO_3.out).2.2 x4_1 p765 q765; (try rw [← Nbq24.out] at hx765_0); obtain rfl : (⟨go9, 0, none⟩ : Addr) = ad765 := (by injection e765); (first | simp only [add_plain] at hx765_0 | simp only [add_at] at hx765_0 | simp only [Addr.add, Nat.zero_add] at hx765_0 | skip); have hn765_0 : (⟨go9, 0, none⟩ : Addr).block ≠ gb764 := Kd.own_blk (Kd.R_ne HO_3.out BK764.out (by decide)); have hn765_1 : (⟨go9, 0, none⟩ : Addr).block ≠ gb764 := Kd.own_blk (Kd.R_ne HO_3.out BK764.out (by decide)); have hn765_2 : (⟨go9, 0, none⟩ : Addr).block ≠ gb764 := Kd.own_blk (Kd.R_ne HO_3.out BK764.out (by decide)); have hn765_3 : (⟨go9, 0, none⟩ : Addr).block ≠ gb764 := Kd.own_blk (Kd.R_ne HO_3.out BK764.out (by decide)); have hn765_4 : (⟨go9, 0, none⟩ : Addr).block ≠ gb764 := Kd.own_blk (Kd.R_ne HO_3.out BK764.out (by decide)); replace hx765_0 := (cell_far (p := ⟨gb764, 0, none⟩) (by first | (rw [add_block]; exact hn765_0) | (show (Addr.add _ _).block ≠ _; rw [add_block]; exact hn765_0) | exact hn765_0) (.int .i64 ((rd_T57 l0_0 x4_1).f0))).trans hx765_0; replace hx765_0 := (cell_far (p := ⟨gb764, 1, none⟩) (by first | (rw [add_block]; exact hn765_1) | (show (Addr.add _ _).block ≠ _; rw [add_block]; exact hn765_1) | exact hn765_1) (.int .i64 ((rd_T57 l0_0 x4_1).f1.f0))).trans hx765_0; replace hx765_0 := (cell_far (p := ⟨gb764, 2, none⟩) (by first | (rw [add_block]; exact hn765_2) | (show (Addr.add _ _).block ≠ _; rw [add_block]; exact hn765_2) | exact hn765_2) (.int .i64 ((rd_T57 l0_0 x4_1).f1.f1))).trans hx765_0; replace hx765_0 := (cell_far (p := ⟨gb764, 3, none⟩) (by first | (rw [add_block]; exact hn765_3) | (show (Addr.add _ _).block ≠ _; rw [add_block]; exact hn765_3) | exact hn765_3) (.int .i64 ((rd_T57 l0_0 x4_1).f2))).trans hx765_0; replace hx765_0 := (cell_far (p := ⟨gb764, 4, none⟩) (by first | (rw [add_block]; exact hn765_4) | (show (Addr.add _ _).block ≠ _; rw [add_block]; exact hn765_4) | exact hn765_4) (.int .i64 ((rd_T57 l0_0 x4_1).f3))).trans hx765_0; clear hn765_0; clear hn765_1; clear hn765_2; clear hn765_3; clear hn765_4; replace p765 := eq_true p765; replace q765 := eq_true q765))
        have n0_ : Aside0 (Kd.R Kd.bool 4 (((((w39.setCell ⟨gb764, 0, none⟩ (.int .i64 ((rd_T57 l0_0 x4_1).f0))).setCell ⟨gb764, 1, none⟩ (.int .i64 ((rd_T57 l0_0 x4_1).f1.f0))).setCell ⟨gb764, 2, none⟩ (.int .i64 ((rd_T57 l0_0 x4_1).f1.f1))).setCell ⟨gb764, 3, none⟩ (.int .i64 ((rd_T57 l0_0 x4_1).f2))).setCell ⟨gb764, 4, none⟩ (.int .i64 ((rd_T57 l0_0 x4_1).f3))) w.heap.size (fun _ => True) (.slice (some ⟨go9, 0, none⟩) x3_1.length co16) x3_1) := ⟨by (with_reducible repeat (first | apply Kd.R_alloc | apply Kd.R_drewN | apply Kd.R_drew)); exact Kd.R_mono (fr5_ (Kd.R_types HO_3.out BK764.out (by decide)) (fun _ hk => hk.2)) (fun _ hk => trivial)⟩
        have n1_ : Aside0 ((((((w39.setCell ⟨gb764, 0, none⟩ (.int .i64 ((rd_T57 l0_0 x4_1).f0))).setCell ⟨gb764, 1, none⟩ (.int .i64 ((rd_T57 l0_0 x4_1).f1.f0))).setCell ⟨gb764, 2, none⟩ (.int .i64 ((rd_T57 l0_0 x4_1).f1.f1))).setCell ⟨gb764, 3, none⟩ (.int .i64 ((rd_T57 l0_0 x4_1).f2))).setCell ⟨gb764, 4, none⟩ (.int .i64 ((rd_T57 l0_0 x4_1).f3))).heap[gb757]? = some (.cells #[.slice (some ad763) l0_0.length c0_0] 27 (0, 0))) := ⟨bk_ BK757⟩
        have n2_ : Aside0 ((((((w39.setCell ⟨gb764, 0, none⟩ (.int .i64 ((rd_T57 l0_0 x4_1).f0))).setCell ⟨gb764, 1, none⟩ (.int .i64 ((rd_T57 l0_0 x4_1).f1.f0))).setCell ⟨gb764, 2, none⟩ (.int .i64 ((rd_T57 l0_0 x4_1).f1.f1))).setCell ⟨gb764, 3, none⟩ (.int .i64 ((rd_T57 l0_0 x4_1).f2))).setCell ⟨gb764, 4, none⟩ (.int .i64 ((rd_T57 l0_0 x4_1).f3))).heap[gb764]? = some (.cells #[.int .i64 ((rd_T57 l0_0 x4_1).f0), .int .i64 ((rd_T57 l0_0 x4_1).f1.f0), .int .i64 ((rd_T57 l0_0 x4_1).f1.f1), .int .i64 ((rd_T57 l0_0 x4_1).f2), .int .i64 ((rd_T57 l0_0 x4_1).f3)] 57 (0, 0))) := ⟨bk_ BK764⟩
        have n3_ : Aside0 (Below w.heap.size w (((((w39.setCell ⟨gb764, 0, none⟩ (.int .i64 ((rd_T57 l0_0 x4_1).f0))).setCell ⟨gb764, 1, none⟩ (.int .i64 ((rd_T57 l0_0 x4_1).f1.f0))).setCell ⟨gb764, 2, none⟩ (.int .i64 ((rd_T57 l0_0 x4_1).f1.f1))).setCell ⟨gb764, 3, none⟩ (.int .i64 ((rd_T57 l0_0 x4_1).f2))).setCell ⟨gb764, 4, none⟩ (.int .i64 ((rd_T57 l0_0 x4_1).f3)))) := ⟨bl_⟩
        (try clear HO_3)
        (try clear BK757)
        (try clear BK764)
        (try clear HB)
        generalize (((((w39.setCell ⟨gb764, 0, none⟩ (.int .i64 ((rd_T57 l0_0 x4_1).f0))).setCell ⟨gb764, 1, none⟩ (.int .i64 ((rd_T57 l0_0 x4_1).f1.f0))).setCell ⟨gb764, 2, none⟩ (.int .i64 ((rd_T57 l0_0 x4_1).f1.f1))).setCell ⟨gb764, 3, none⟩ (.int .i64 ((rd_T57 l0_0 x4_1).f2))).setCell ⟨gb764, 4, none⟩ (.int .i64 ((rd_T57 l0_0 x4_1).f3))) = w42 at n0_ n1_ n2_ n3_ ⊢
        have HO_3 := n0_
        have BK757 := n1_
        have BK764 := n2_
        have HB := n3_
        clear n0_ n1_ n2_ n3_
        replace HO_3 := aa_ (Kd.R_drew HO_3.out)
        replace BK757 := aa_ (blk_drew BK757.out)
        replace BK764 := aa_ (blk_drew BK764.out)
        replace HB := aa_ (below_drew1 HB.out)
        have p34 : 0 ≤ (((rd_T57 l0_0 x4_1).f2) : Int) := od_
        have q34 : (((rd_T57 l0_0 x4_1).f2) : Int) < ((x3_1.length : Int) : Int) := od_
        obtain ⟨hx34_0, hf34_0⟩ := Kd.R_celln false HO_3.out (((rd_T57 l0_0 x4_1).f2) : Int) p34 q34
        replace p34 := eq_true p34
        replace q34 := eq_true q34
        have HP44 := Kd.R_putn HO_3.out (((rd_T57 l0_0 x4_1).f2) : Int) true
        rw [← Ny766.out] at HP44
        have HQ44 := aa_ HP44
        clear HP44
        have p37 : 0 ≤ (((rd_T57 l0_0 x4_1).f3) : Int) := od_
        have q37 : (((rd_T57 l0_0 x4_1).f3) : Int) < ((x3_1.length : Int) : Int) := od_
        obtain ⟨hx37_0, hf37_0⟩ := Kd.R_celln false HQ44.out (((rd_T57 l0_0 x4_1).f3) : Int) p37 q37
        replace p37 := eq_true p37
        replace q37 := eq_true q37
        have HP45 := Kd.R_putn HQ44.out (((rd_T57 l0_0 x4_1).f3) : Int) true
        rw [← Ny767.out] at HP45
        have HQ45 := aa_ HP45
        clear HP45
        refine start_ (n := 10) (S := fun w' => w'.cell? ⟨gb764, 0, none⟩ = some (.int .i64 ((rd_T57 l0_0 x4_1).f0)) ∧ w'.cell? ⟨gb764, 1, none⟩ = some (.int .i64 ((rd_T57 l0_0 x4_1).f1.f0)) ∧ w'.cell? ⟨gb764, 2, none⟩ = some (.int .i64 ((rd_T57 l0_0 x4_1).f1.f1)) ∧ w'.cell? ⟨gb764, 3, none⟩ = some (.int .i64 ((rd_T57 l0_0 x4_1).f2)) ∧ w'.cell? ⟨gb764, 4, none⟩ = some (.int .i64 ((rd_T57 l0_0 x4_1).f3))) (ds := [9]) (ba_ 10 0) (by kernel_rfl) rfl rfl ⟨(blk_cell BK764.out 0).trans rfl, (blk_cell BK764.out 1).trans rfl, (blk_cell BK764.out 2).trans rfl, (blk_cell BK764.out 3).trans rfl, (blk_cell BK764.out 4).trans rfl⟩ (fun hHeld => ?_); refine with_tabW impl_Rising.tab15 impl_Rising.bits15 (fun HT_ HW_ => ?_)
        generalize w42.drew = w43 at HO_3 BK757 BK764 HB HQ44 HQ45 hf34_0 hf37_0 hx34_0 hx37_0 hHeld ⊢
        refine pureZ_ (i := 0) (some 43) (ba_ 10 1) (ao_ HT_) ?_
        refine pureZ_ (i := 1) (some 44) (ba_ 10 3) (ao_ HT_) ?_
        refine pureZ_ (i := 3) (some 46) (ba_ 10 11) (ao_ HT_) ?_
        refine pureZ_ (i := 4) (some 47) (ba_ 10 27) (ao_ HT_) ?_
        refine takeZ_ (i := 2) (some 45) (ba_ 10 31) (take_ofW HT_.out HW_.out (by kernel_rfl)) hHeld ?_
        refine pureZ_ (i := 6) (some 49) (ba_ 10 95) (ao_ HT_) ?_
        refine takeZ_ (i := 5) (some 48) (ba_ 10 127) (take_ofW HT_.out HW_.out (by kernel_rfl)) hHeld ?_
        refine one_ (i := 7) (N := none) (ba_ 10 255) rfl rfl (one_of HT_.out (by kernel_rfl)) (by decide) (fun K hK => ?_)
        refine skip_ (w1 := ?_) (by rfl) rfl ?_ ?_
        rotate_left
        ·go_simp
         rfl
        refine hK.out _ _ ⟨((cell_far (p := ⟨go9, _, none⟩) (show gb764 ≠ go9 from Ne.symm (Kd.own_blk (ad := ⟨go9, 0, none⟩) (Kd.R_ne HO_3.out BK764.out (by decide)))) _).trans (hHeld.1)), ((cell_far (p := ⟨go9, _, none⟩) (show gb764 ≠ go9 from Ne.symm (Kd.own_blk (ad := ⟨go9, 0, none⟩) (Kd.R_ne HO_3.out BK764.out (by decide)))) _).trans (hHeld.2.1)), ((cell_far (p := ⟨go9, _, none⟩) (show gb764 ≠ go9 from Ne.symm (Kd.own_blk (ad := ⟨go9, 0, none⟩) (Kd.R_ne HO_3.out BK764.out (by decide)))) _).trans (hHeld.2.2.1)), ((cell_far (p := ⟨go9, _, none⟩) (show gb764 ≠ go9 from Ne.symm (Kd.own_blk (ad := ⟨go9, 0, none⟩) (Kd.R_ne HO_3.out BK764.out (by decide)))) _).trans (hHeld.2.2.2.1)), ((cell_far (p := ⟨go9, _, none⟩) (show gb764 ≠ go9 from Ne.symm (Kd.own_blk (ad := ⟨go9, 0, none⟩) (Kd.R_ne HO_3.out BK764.out (by decide)))) _).trans (hHeld.2.2.2.2))⟩ (fun hHeld => ?_)
        clear hK K
        refine pureZ_ (i := 8) (some 50) (ba_ 10 511) (ao_ HT_) ?_
        refine last_ (i := 9) (N := none) (ba_ 10 1023) rfl rfl (one_of HT_.out (by kernel_rfl)) (by decide) (fun K hK => ?_)
        refine skip_ (w1 := ?_) (by rfl) rfl ?_ ?_
        rotate_left
        ·go_simp
         rfl
        refine hK.out _ _ ?_
        clear hK K
        refine done_ (done_of HT_.out (by kernel_rfl)) ?_
        try go_wp2
        (try simp only [← hl3_1])
        go_roundg k1
        case measure => have := HK1.out; omega
        case rel => exact ⟨(y767), (wrap64 (x4_1 - 1)), rf_, H', ⟨by have := HK1.out; omega⟩, ⟨by (try simp only [hl3_1]); (with_reducible repeat (first | apply Kd.R_alloc | apply Kd.R_drewN | apply Kd.R_drew)); exact HQ45.out⟩, ⟨by (try simp only [hl3_1]); (with_reducible repeat (first | refine blk_drewN ?_ _ | refine blk_drew ?_ | refine blk_alloc ?_ _)); refine blk_far ?_ (by have h_ := Kd.R_ne HO_3.out BK757.out (by decide); intro e_; exact h_ (by rw [e_]; rfl)) _; (with_reducible repeat (first | refine blk_drewN ?_ _ | refine blk_drew ?_ | refine blk_alloc ?_ _)); refine blk_far ?_ (by have h_ := Kd.R_ne HO_3.out BK757.out (by decide); intro e_; exact h_ (by rw [e_]; rfl)) _; (with_reducible repeat (first | refine blk_drewN ?_ _ | refine blk_drew ?_ | refine blk_alloc ?_ _)); exact BK757.out⟩, ⟨by repeat (first | (with_reducible first | exact HB.out | apply below_alloc | apply pw_below_drewN | apply below_drew1 | refine below_set ?_ GB9.out | refine below_set ?_ GB9.out | refine below_set ?_ GE757.out | refine below_set ?_ GE764.out) | exact HB.out)⟩⟩
       ·rw [if_neg c31] at H
        have c31b0 : (((rd_T57 l0_0 x4_1).f0) == 2) = false := beq_eq_false_iff_ne.mpr c31
        have c31b1 : (((rd_T57 l0_0 x4_1).f0) != 2) = true := bne_iff_ne.mpr c31
        by_cases c46 : ((rd_T57 l0_0 x4_1).f0) = 3
        ·rw [if_pos c46] at H
         have c46b0 : (((rd_T57 l0_0 x4_1).f0) == 3) = true := beq_iff_eq.mpr c46
         have c46b1 : (((rd_T57 l0_0 x4_1).f0) != 3) = false := bne_eq_false_iff_eq.mpr c46
         clear c46
         obtain ⟨c47b0, H⟩ := ifd_ H
         obtain ⟨c48b0, H⟩ := ifd_ H
         obtain ⟨y768, hy768⟩ : ∃ y_ : List Bool, y_ = (x3_1.set (((rd_T57 l0_0 x4_1).f2) : Int).toNat true) := ⟨_, rfl⟩
         replace H : (if 0 ≤ ((rd_T57 l0_0 x4_1).f3) then (if ((rd_T57 l0_0 x4_1).f3) < (x3_1.length : Int) then (impl_Rising.l0 k1 (y768.set (((rd_T57 l0_0 x4_1).f3) : Int).toNat true) (wrap64 (x4_1 - 1)) l0_0) else (none)) else (none)) = some r := rh_ hy768 H
         have Ny768 := aa_ hy768
         clear hy768
         obtain ⟨c50b0, H⟩ := ifd_ H
         obtain ⟨c51b0, H⟩ := ifd_ H
         obtain ⟨y769, hy769⟩ : ∃ y_ : List Bool, y_ = (y768.set (((rd_T57 l0_0 x4_1).f3) : Int).toNat true) := ⟨_, rfl⟩
         replace H : (impl_Rising.l0 k1 y769 (wrap64 (x4_1 - 1)) l0_0) = some r := rh_ hy769 H
         have Ny769 := aa_ hy769
         clear hy769
         have H' := aa_ H
         clear H
         have hcz53 := blk_cell BK757.out
         have hfz53 := blk_frozen BK757.out
         have p763 : 0 ≤ (x4_1 : Int) := od_
         have q763 : x4_1 < (l0_0.length : Int) := od_
         obtain ⟨ad763, e763, hx763_0, hx763_1, hx763_2, hx763_3, hx763_4⟩ := at_T57 (Kd.C_below HR0_0.out HB.out) x4_1 p763 q763
         cases e763
         replace p763 := eq_true p763
         replace q763 := eq_true q763
         try go_wp2_with (first | ((with_reducible refine gD_ 5 rfl ?_); refine bx_ (N := 5) (cs := #[.int .i64 0, .int .i64 0, .int .i64 0, .int .i64 0, .int .i64 0]) (t := 57) ?_; intro gb764 hg w54 hbox hb; replace HO_3 := hob_ HO_3 hb; have BK764 := aa_ (hbox); have GW764 := gs_ hg; have GE764 := gs_ hg; replace HB := hbs_ hb; have NB757_764 := nl_ hg BK757; have NB764_757 := nr_ hg BK757; replace BK757 := bkb_ BK757 hb; clear hb hbox hg; have hnb55 := NB764_757.out; have hnc55 := NB757_764.out; obtain ⟨hcz56, hfz56⟩ := bcf_ BK764; have p765 : 0 ≤ (x4_1 : Int) := od_; have q765 : x4_1 < (x3_1.length : Int) := od_; obtain ⟨ad765, e765, hx765_0⟩ := Kd.at_bool (Kd.R_reads' HO_3.out).2.2 x4_1 p765 q765; (try rw [← Nbq24.out] at hx765_0); obtain rfl : (⟨go9, 0, none⟩ : Addr) = ad765 := (by injection e765); (first | simp only [add_plain] at hx765_0 | simp only [add_at] at hx765_0 | simp only [Addr.add, Nat.zero_add] at hx765_0 | skip); have hn765_0 : (⟨go9, 0, none⟩ : Addr).block ≠ gb764 := Kd.own_blk (Kd.R_ne HO_3.out BK764.out (by decide)); have hn765_1 : (⟨go9, 0, none⟩ : Addr).block ≠ gb764 := Kd.own_blk (Kd.R_ne HO_3.out BK764.out (by decide)); have hn765_2 : (⟨go9, 0, none⟩ : Addr).block ≠ gb764 := Kd.own_blk (Kd.R_ne HO_3.out BK764.out (by decide)); have hn765_3 : (⟨go9, 0, none⟩ : Addr).block ≠ gb764 := Kd.own_blk (Kd.R_ne HO_3.out BK764.out (by decide)); have hn765_4 : (⟨go9, 0, none⟩ : Addr).block ≠ gb764 := Kd.own_blk (Kd.R_ne HO_3.out BK764.out (by decide)); replace hx765_0 := (cell_far (p := ⟨gb764, 0, none⟩) (by first | (rw [add_block]; exact hn765_0) | (show (Addr.add _ _).block ≠ _; rw [add_block]; exact hn765_0) | exact hn765_0) (.int .i64 ((rd_T57 l0_0 x4_1).f0))).trans hx765_0; replace hx765_0 := (cell_far (p := ⟨gb764, 1, none⟩) (by first | (rw [add_block]; exact hn765_1) | (show (Addr.add _ _).block ≠ _; rw [add_block]; exact hn765_1) | exact hn765_1) (.int .i64 ((rd_T57 l0_0 x4_1).f1.f0))).trans hx765_0; replace hx765_0 := (cell_far (p := ⟨gb764, 2, none⟩) (by first | (rw [add_block]; exact hn765_2) | (show (Addr.add _ _).block ≠ _; rw [add_block]; exact hn765_2) | exact hn765_2) (.int .i64 ((rd_T57 l0_0 x4_1).f1.f1))).trans hx765_0; replace hx765_0 := (cell_far (p := ⟨gb764, 3, none⟩) (by first | (rw [add_block]; exact hn765_3) | (show (Addr.add _ _).block ≠ _; rw [add_block]; exact hn765_3) | exact hn765_3) (.int .i64 ((rd_T57 l0_0 x4_1).f2))).trans hx765_0; replace hx765_0 := (cell_far (p := ⟨gb764, 4, none⟩) (by first | (rw [add_block]; exact hn765_4) | (show (Addr.add _ _).block ≠ _; rw [add_block]; exact hn765_4) | exact hn765_4) (.int .i64 ((rd_T57 l0_0 x4_1).f3))).trans hx765_0; clear hn765_0; clear hn765_1; clear hn765_2; clear hn765_3; clear hn765_4; replace p765 := eq_true p765; replace q765 := eq_true q765))
         have n0_ : Aside0 (Kd.R Kd.bool 4 (((((w54.setCell ⟨gb764, 0, none⟩ (.int .i64 ((rd_T57 l0_0 x4_1).f0))).setCell ⟨gb764, 1, none⟩ (.int .i64 ((rd_T57 l0_0 x4_1).f1.f0))).setCell ⟨gb764, 2, none⟩ (.int .i64 ((rd_T57 l0_0 x4_1).f1.f1))).setCell ⟨gb764, 3, none⟩ (.int .i64 ((rd_T57 l0_0 x4_1).f2))).setCell ⟨gb764, 4, none⟩ (.int .i64 ((rd_T57 l0_0 x4_1).f3))) w.heap.size (fun _ => True) (.slice (some ⟨go9, 0, none⟩) x3_1.length co16) x3_1) := ⟨by (with_reducible repeat (first | apply Kd.R_alloc | apply Kd.R_drewN | apply Kd.R_drew)); exact Kd.R_mono (fr5_ (Kd.R_types HO_3.out BK764.out (by decide)) (fun _ hk => hk.2)) (fun _ hk => trivial)⟩
         have n1_ : Aside0 ((((((w54.setCell ⟨gb764, 0, none⟩ (.int .i64 ((rd_T57 l0_0 x4_1).f0))).setCell ⟨gb764, 1, none⟩ (.int .i64 ((rd_T57 l0_0 x4_1).f1.f0))).setCell ⟨gb764, 2, none⟩ (.int .i64 ((rd_T57 l0_0 x4_1).f1.f1))).setCell ⟨gb764, 3, none⟩ (.int .i64 ((rd_T57 l0_0 x4_1).f2))).setCell ⟨gb764, 4, none⟩ (.int .i64 ((rd_T57 l0_0 x4_1).f3))).heap[gb757]? = some (.cells #[.slice (some ad763) l0_0.length c0_0] 27 (0, 0))) := ⟨bk_ BK757⟩
         have n2_ : Aside0 ((((((w54.setCell ⟨gb764, 0, none⟩ (.int .i64 ((rd_T57 l0_0 x4_1).f0))).setCell ⟨gb764, 1, none⟩ (.int .i64 ((rd_T57 l0_0 x4_1).f1.f0))).setCell ⟨gb764, 2, none⟩ (.int .i64 ((rd_T57 l0_0 x4_1).f1.f1))).setCell ⟨gb764, 3, none⟩ (.int .i64 ((rd_T57 l0_0 x4_1).f2))).setCell ⟨gb764, 4, none⟩ (.int .i64 ((rd_T57 l0_0 x4_1).f3))).heap[gb764]? = some (.cells #[.int .i64 ((rd_T57 l0_0 x4_1).f0), .int .i64 ((rd_T57 l0_0 x4_1).f1.f0), .int .i64 ((rd_T57 l0_0 x4_1).f1.f1), .int .i64 ((rd_T57 l0_0 x4_1).f2), .int .i64 ((rd_T57 l0_0 x4_1).f3)] 57 (0, 0))) := ⟨bk_ BK764⟩
         have n3_ : Aside0 (Below w.heap.size w (((((w54.setCell ⟨gb764, 0, none⟩ (.int .i64 ((rd_T57 l0_0 x4_1).f0))).setCell ⟨gb764, 1, none⟩ (.int .i64 ((rd_T57 l0_0 x4_1).f1.f0))).setCell ⟨gb764, 2, none⟩ (.int .i64 ((rd_T57 l0_0 x4_1).f1.f1))).setCell ⟨gb764, 3, none⟩ (.int .i64 ((rd_T57 l0_0 x4_1).f2))).setCell ⟨gb764, 4, none⟩ (.int .i64 ((rd_T57 l0_0 x4_1).f3)))) := ⟨bl_⟩
         (try clear HO_3)
         (try clear BK757)
         (try clear BK764)
         (try clear HB)
         generalize (((((w54.setCell ⟨gb764, 0, none⟩ (.int .i64 ((rd_T57 l0_0 x4_1).f0))).setCell ⟨gb764, 1, none⟩ (.int .i64 ((rd_T57 l0_0 x4_1).f1.f0))).setCell ⟨gb764, 2, none⟩ (.int .i64 ((rd_T57 l0_0 x4_1).f1.f1))).setCell ⟨gb764, 3, none⟩ (.int .i64 ((rd_T57 l0_0 x4_1).f2))).setCell ⟨gb764, 4, none⟩ (.int .i64 ((rd_T57 l0_0 x4_1).f3))) = w57 at n0_ n1_ n2_ n3_ ⊢
         have HO_3 := n0_
         have BK757 := n1_
         have BK764 := n2_
         have HB := n3_
         clear n0_ n1_ n2_ n3_
         replace HO_3 := aa_ (Kd.R_drew HO_3.out)
         replace BK757 := aa_ (blk_drew BK757.out)
         replace BK764 := aa_ (blk_drew BK764.out)
         replace HB := aa_ (below_drew1 HB.out)
         have p49 : 0 ≤ (((rd_T57 l0_0 x4_1).f2) : Int) := od_
         have q49 : (((rd_T57 l0_0 x4_1).f2) : Int) < ((x3_1.length : Int) : Int) := od_
         obtain ⟨hx49_0, hf49_0⟩ := Kd.R_celln false HO_3.out (((rd_T57 l0_0 x4_1).f2) : Int) p49 q49
         replace p49 := eq_true p49
         replace q49 := eq_true q49
         have HP59 := Kd.R_putn HO_3.out (((rd_T57 l0_0 x4_1).f2) : Int) true
         rw [← Ny768.out] at HP59
         have HQ59 := aa_ HP59
         clear HP59
         have p52 : 0 ≤ (((rd_T57 l0_0 x4_1).f3) : Int) := od_
         have q52 : (((rd_T57 l0_0 x4_1).f3) : Int) < ((x3_1.length : Int) : Int) := od_
         obtain ⟨hx52_0, hf52_0⟩ := Kd.R_celln false HQ59.out (((rd_T57 l0_0 x4_1).f3) : Int) p52 q52
         replace p52 := eq_true p52
         replace q52 := eq_true q52
         have HP60 := Kd.R_putn HQ59.out (((rd_T57 l0_0 x4_1).f3) : Int) true
         rw [← Ny769.out] at HP60
         have HQ60 := aa_ HP60
         clear HP60
         refine start_ (n := 10) (S := fun w' => w'.cell? ⟨gb764, 0, none⟩ = some (.int .i64 ((rd_T57 l0_0 x4_1).f0)) ∧ w'.cell? ⟨gb764, 1, none⟩ = some (.int .i64 ((rd_T57 l0_0 x4_1).f1.f0)) ∧ w'.cell? ⟨gb764, 2, none⟩ = some (.int .i64 ((rd_T57 l0_0 x4_1).f1.f1)) ∧ w'.cell? ⟨gb764, 3, none⟩ = some (.int .i64 ((rd_T57 l0_0 x4_1).f2)) ∧ w'.cell? ⟨gb764, 4, none⟩ = some (.int .i64 ((rd_T57 l0_0 x4_1).f3))) (ds := [9]) (ba_ 10 0) (by kernel_rfl) rfl rfl ⟨(blk_cell BK764.out 0).trans rfl, (blk_cell BK764.out 1).trans rfl, (blk_cell BK764.out 2).trans rfl, (blk_cell BK764.out 3).trans rfl, (blk_cell BK764.out 4).trans rfl⟩ (fun hHeld => ?_); refine with_tabW impl_Rising.tab15 impl_Rising.bits15 (fun HT_ HW_ => ?_)
         generalize w57.drew = w58 at HO_3 BK757 BK764 HB HQ59 HQ60 hf49_0 hf52_0 hx49_0 hx52_0 hHeld ⊢
         refine pureZ_ (i := 0) (some 43) (ba_ 10 1) (ao_ HT_) ?_
         refine pureZ_ (i := 1) (some 44) (ba_ 10 3) (ao_ HT_) ?_
         refine pureZ_ (i := 3) (some 46) (ba_ 10 11) (ao_ HT_) ?_
         refine pureZ_ (i := 4) (some 47) (ba_ 10 27) (ao_ HT_) ?_
         refine takeZ_ (i := 2) (some 45) (ba_ 10 31) (take_ofW HT_.out HW_.out (by kernel_rfl)) hHeld ?_
         refine pureZ_ (i := 6) (some 49) (ba_ 10 95) (ao_ HT_) ?_
         refine takeZ_ (i := 5) (some 48) (ba_ 10 127) (take_ofW HT_.out HW_.out (by kernel_rfl)) hHeld ?_
         refine one_ (i := 7) (N := none) (ba_ 10 255) rfl rfl (one_of HT_.out (by kernel_rfl)) (by decide) (fun K hK => ?_)
         refine skip_ (w1 := ?_) (by rfl) rfl ?_ ?_
         rotate_left
         ·go_simp
          rfl
         refine hK.out _ _ ⟨((cell_far (p := ⟨go9, _, none⟩) (show gb764 ≠ go9 from Ne.symm (Kd.own_blk (ad := ⟨go9, 0, none⟩) (Kd.R_ne HO_3.out BK764.out (by decide)))) _).trans (hHeld.1)), ((cell_far (p := ⟨go9, _, none⟩) (show gb764 ≠ go9 from Ne.symm (Kd.own_blk (ad := ⟨go9, 0, none⟩) (Kd.R_ne HO_3.out BK764.out (by decide)))) _).trans (hHeld.2.1)), ((cell_far (p := ⟨go9, _, none⟩) (show gb764 ≠ go9 from Ne.symm (Kd.own_blk (ad := ⟨go9, 0, none⟩) (Kd.R_ne HO_3.out BK764.out (by decide)))) _).trans (hHeld.2.2.1)), ((cell_far (p := ⟨go9, _, none⟩) (show gb764 ≠ go9 from Ne.symm (Kd.own_blk (ad := ⟨go9, 0, none⟩) (Kd.R_ne HO_3.out BK764.out (by decide)))) _).trans (hHeld.2.2.2.1)), ((cell_far (p := ⟨go9, _, none⟩) (show gb764 ≠ go9 from Ne.symm (Kd.own_blk (ad := ⟨go9, 0, none⟩) (Kd.R_ne HO_3.out BK764.out (by decide)))) _).trans (hHeld.2.2.2.2))⟩ (fun hHeld => ?_)
         clear hK K
         refine pureZ_ (i := 8) (some 50) (ba_ 10 511) (ao_ HT_) ?_
         refine last_ (i := 9) (N := none) (ba_ 10 1023) rfl rfl (one_of HT_.out (by kernel_rfl)) (by decide) (fun K hK => ?_)
         refine skip_ (w1 := ?_) (by rfl) rfl ?_ ?_
         rotate_left
         ·go_simp
          rfl
         refine hK.out _ _ ?_
         clear hK K
         refine done_ (done_of HT_.out (by kernel_rfl)) ?_
         try go_wp2
         (try simp only [← hl3_1])
         go_roundg k1
         case measure => have := HK1.out; omega
         case rel => exact ⟨(y769), (wrap64 (x4_1 - 1)), rf_, H', ⟨by have := HK1.out; omega⟩, ⟨by (try simp only [hl3_1]); (with_reducible repeat (first | apply Kd.R_alloc | apply Kd.R_drewN | apply Kd.R_drew)); exact HQ60.out⟩, ⟨by (try simp only [hl3_1]); (with_reducible repeat (first | refine blk_drewN ?_ _ | refine blk_drew ?_ | refine blk_alloc ?_ _)); refine blk_far ?_ (by have h_ := Kd.R_ne HO_3.out BK757.out (by decide); intro e_; exact h_ (by rw [e_]; rfl)) _; (with_reducible repeat (first | refine blk_drewN ?_ _ | refine blk_drew ?_ | refine blk_alloc ?_ _)); refine blk_far ?_ (by have h_ := Kd.R_ne HO_3.out BK757.out (by decide); intro e_; exact h_ (by rw [e_]; rfl)) _; (with_reducible repeat (first | refine blk_drewN ?_ _ | refine blk_drew ?_ | refine blk_alloc ?_ _)); exact BK757.out⟩, ⟨by repeat (first | (with_reducible first | exact HB.out | apply below_alloc | apply pw_below_drewN | apply below_drew1 | refine below_set ?_ GB9.out | refine below_set ?_ GB9.out | refine below_set ?_ GE757.out | refine below_set ?_ GE764.out) | exact HB.out)⟩⟩
        ·rw [if_neg c46] at H
         have c46b0 : (((rd_T57 l0_0 x4_1).f0) == 3) = false := beq_eq_false_iff_ne.mpr c46
         have c46b1 : (((rd_T57 l0_0 x4_1).f0) != 3) = true := bne_iff_ne.mpr c46
         have H' := aa_ H
         clear H
         have hcz61 := blk_cell BK757.out
         have hfz61 := blk_frozen BK757.out
         have p763 : 0 ≤ (x4_1 : Int) := od_
         have q763 : x4_1 < (l0_0.length : Int) := od_
         obtain ⟨ad763, e763, hx763_0, hx763_1, hx763_2, hx763_3, hx763_4⟩ := at_T57 (Kd.C_below HR0_0.out HB.out) x4_1 p763 q763
         cases e763
         replace p763 := eq_true p763
         replace q763 := eq_true q763
         go_wp2_with (first | ((with_reducible refine gD_ 5 rfl ?_); refine bx_ (N := 5) (cs := #[.int .i64 0, .int .i64 0, .int .i64 0, .int .i64 0, .int .i64 0]) (t := 57) ?_; intro gb764 hg w62 hbox hb; replace HO_3 := hob_ HO_3 hb; have BK764 := aa_ (hbox); have GW764 := gs_ hg; have GE764 := gs_ hg; replace HB := hbs_ hb; have NB757_764 := nl_ hg BK757; have NB764_757 := nr_ hg BK757; replace BK757 := bkb_ BK757 hb; clear hb hbox hg; have hnb63 := NB764_757.out; have hnc63 := NB757_764.out; obtain ⟨hcz64, hfz64⟩ := bcf_ BK764; have p765 : 0 ≤ (x4_1 : Int) := od_; have q765 : x4_1 < (x3_1.length : Int) := od_; obtain ⟨ad765, e765, hx765_0⟩ := Kd.at_bool (Kd.R_reads' HO_3.out).2.2 x4_1 p765 q765; (try rw [← Nbq24.out] at hx765_0); obtain rfl : (⟨go9, 0, none⟩ : Addr) = ad765 := (by injection e765); (first | simp only [add_plain] at hx765_0 | simp only [add_at] at hx765_0 | simp only [Addr.add, Nat.zero_add] at hx765_0 | skip); have hn765_0 : (⟨go9, 0, none⟩ : Addr).block ≠ gb764 := Kd.own_blk (Kd.R_ne HO_3.out BK764.out (by decide)); have hn765_1 : (⟨go9, 0, none⟩ : Addr).block ≠ gb764 := Kd.own_blk (Kd.R_ne HO_3.out BK764.out (by decide)); have hn765_2 : (⟨go9, 0, none⟩ : Addr).block ≠ gb764 := Kd.own_blk (Kd.R_ne HO_3.out BK764.out (by decide)); have hn765_3 : (⟨go9, 0, none⟩ : Addr).block ≠ gb764 := Kd.own_blk (Kd.R_ne HO_3.out BK764.out (by decide)); have hn765_4 : (⟨go9, 0, none⟩ : Addr).block ≠ gb764 := Kd.own_blk (Kd.R_ne HO_3.out BK764.out (by decide)); replace hx765_0 := (cell_far (p := ⟨gb764, 0, none⟩) (by first | (rw [add_block]; exact hn765_0) | (show (Addr.add _ _).block ≠ _; rw [add_block]; exact hn765_0) | exact hn765_0) (.int .i64 ((rd_T57 l0_0 x4_1).f0))).trans hx765_0; replace hx765_0 := (cell_far (p := ⟨gb764, 1, none⟩) (by first | (rw [add_block]; exact hn765_1) | (show (Addr.add _ _).block ≠ _; rw [add_block]; exact hn765_1) | exact hn765_1) (.int .i64 ((rd_T57 l0_0 x4_1).f1.f0))).trans hx765_0; replace hx765_0 := (cell_far (p := ⟨gb764, 2, none⟩) (by first | (rw [add_block]; exact hn765_2) | (show (Addr.add _ _).block ≠ _; rw [add_block]; exact hn765_2) | exact hn765_2) (.int .i64 ((rd_T57 l0_0 x4_1).f1.f1))).trans hx765_0; replace hx765_0 := (cell_far (p := ⟨gb764, 3, none⟩) (by first | (rw [add_block]; exact hn765_3) | (show (Addr.add _ _).block ≠ _; rw [add_block]; exact hn765_3) | exact hn765_3) (.int .i64 ((rd_T57 l0_0 x4_1).f2))).trans hx765_0; replace hx765_0 := (cell_far (p := ⟨gb764, 4, none⟩) (by first | (rw [add_block]; exact hn765_4) | (show (Addr.add _ _).block ≠ _; rw [add_block]; exact hn765_4) | exact hn765_4) (.int .i64 ((rd_T57 l0_0 x4_1).f3))).trans hx765_0; clear hn765_0; clear hn765_1; clear hn765_2; clear hn765_3; clear hn765_4; replace p765 := eq_true p765; replace q765 := eq_true q765))
         (try simp only [← hl3_1])
         go_roundg k1
         case measure => have := HK1.out; omega
         case rel => exact ⟨(x3_1), (wrap64 (x4_1 - 1)), rf_, H', ⟨by have := HK1.out; omega⟩, ⟨by (try simp only [hl3_1]); (with_reducible repeat (first | apply Kd.R_alloc | apply Kd.R_drewN | apply Kd.R_drew)); exact Kd.R_mono (fr5_ (Kd.R_types HO_3.out BK764.out (by decide)) (fun _ hk => hk.2)) (fun _ hk => trivial)⟩, ⟨by (try simp only [hl3_1]); (with_reducible repeat (first | refine blk_drewN ?_ _ | refine blk_drew ?_ | refine blk_alloc ?_ _)); refine blk_far ?_ NB757_764.out _; (with_reducible repeat (first | refine blk_drewN ?_ _ | refine blk_drew ?_ | refine blk_alloc ?_ _)); refine blk_far ?_ NB757_764.out _; (with_reducible repeat (first | refine blk_drewN ?_ _ | refine blk_drew ?_ | refine blk_alloc ?_ _)); refine blk_far ?_ NB757_764.out _; (with_reducible repeat (first | refine blk_drewN ?_ _ | refine blk_drew ?_ | refine blk_alloc ?_ _)); refine blk_far ?_ NB757_764.out _; (with_reducible repeat (first | refine blk_drewN ?_ _ | refine blk_drew ?_ | refine blk_alloc ?_ _)); refine blk_far ?_ NB757_764.out _; (with_reducible repeat (first | refine blk_drewN ?_ _ | refine blk_drew ?_ | refine blk_alloc ?_ _)); exact BK757.out⟩, ⟨bl_⟩⟩
     ·replace c25 := Bool.eq_false_iff.mpr c25
      subst c25
      replace H := ite_f_ H
      have H' := aa_ H
      clear H
      have hcz65 := blk_cell BK757.out
      have hfz65 := blk_frozen BK757.out
      have p763 : 0 ≤ (x4_1 : Int) := od_
      have q763 : x4_1 < (l0_0.length : Int) := od_
      obtain ⟨ad763, e763, hx763_0, hx763_1, hx763_2, hx763_3, hx763_4⟩ := at_T57 (Kd.C_below HR0_0.out HB.out) x4_1 p763 q763
      cases e763
      replace p763 := eq_true p763
      replace q763 := eq_true q763
      go_wp2_with (first | ((with_reducible refine gD_ 5 rfl ?_); refine bx_ (N := 5) (cs := #[.int .i64 0, .int .i64 0, .int .i64 0, .int .i64 0, .int .i64 0]) (t := 57) ?_; intro gb764 hg w66 hbox hb; replace HO_3 := hob_ HO_3 hb; have BK764 := aa_ (hbox); have GW764 := gs_ hg; have GE764 := gs_ hg; replace HB := hbs_ hb; have NB757_764 := nl_ hg BK757; have NB764_757 := nr_ hg BK757; replace BK757 := bkb_ BK757 hb; clear hb hbox hg; have hnb67 := NB764_757.out; have hnc67 := NB757_764.out; obtain ⟨hcz68, hfz68⟩ := bcf_ BK764; have p765 : 0 ≤ (x4_1 : Int) := od_; have q765 : x4_1 < (x3_1.length : Int) := od_; obtain ⟨ad765, e765, hx765_0⟩ := Kd.at_bool (Kd.R_reads' HO_3.out).2.2 x4_1 p765 q765; (try rw [← Nbq24.out] at hx765_0); obtain rfl : (⟨go9, 0, none⟩ : Addr) = ad765 := (by injection e765); (first | simp only [add_plain] at hx765_0 | simp only [add_at] at hx765_0 | simp only [Addr.add, Nat.zero_add] at hx765_0 | skip); have hn765_0 : (⟨go9, 0, none⟩ : Addr).block ≠ gb764 := Kd.own_blk (Kd.R_ne HO_3.out BK764.out (by decide)); have hn765_1 : (⟨go9, 0, none⟩ : Addr).block ≠ gb764 := Kd.own_blk (Kd.R_ne HO_3.out BK764.out (by decide)); have hn765_2 : (⟨go9, 0, none⟩ : Addr).block ≠ gb764 := Kd.own_blk (Kd.R_ne HO_3.out BK764.out (by decide)); have hn765_3 : (⟨go9, 0, none⟩ : Addr).block ≠ gb764 := Kd.own_blk (Kd.R_ne HO_3.out BK764.out (by decide)); have hn765_4 : (⟨go9, 0, none⟩ : Addr).block ≠ gb764 := Kd.own_blk (Kd.R_ne HO_3.out BK764.out (by decide)); replace hx765_0 := (cell_far (p := ⟨gb764, 0, none⟩) (by first | (rw [add_block]; exact hn765_0) | (show (Addr.add _ _).block ≠ _; rw [add_block]; exact hn765_0) | exact hn765_0) (.int .i64 ((rd_T57 l0_0 x4_1).f0))).trans hx765_0; replace hx765_0 := (cell_far (p := ⟨gb764, 1, none⟩) (by first | (rw [add_block]; exact hn765_1) | (show (Addr.add _ _).block ≠ _; rw [add_block]; exact hn765_1) | exact hn765_1) (.int .i64 ((rd_T57 l0_0 x4_1).f1.f0))).trans hx765_0; replace hx765_0 := (cell_far (p := ⟨gb764, 2, none⟩) (by first | (rw [add_block]; exact hn765_2) | (show (Addr.add _ _).block ≠ _; rw [add_block]; exact hn765_2) | exact hn765_2) (.int .i64 ((rd_T57 l0_0 x4_1).f1.f1))).trans hx765_0; replace hx765_0 := (cell_far (p := ⟨gb764, 3, none⟩) (by first | (rw [add_block]; exact hn765_3) | (show (Addr.add _ _).block ≠ _; rw [add_block]; exact hn765_3) | exact hn765_3) (.int .i64 ((rd_T57 l0_0 x4_1).f2))).trans hx765_0; replace hx765_0 := (cell_far (p := ⟨gb764, 4, none⟩) (by first | (rw [add_block]; exact hn765_4) | (show (Addr.add _ _).block ≠ _; rw [add_block]; exact hn765_4) | exact hn765_4) (.int .i64 ((rd_T57 l0_0 x4_1).f3))).trans hx765_0; clear hn765_0; clear hn765_1; clear hn765_2; clear hn765_3; clear hn765_4; replace p765 := eq_true p765; replace q765 := eq_true q765))
      (try simp only [← hl3_1])
      go_roundg k1
      case measure => have := HK1.out; omega
      case rel => exact ⟨(x3_1), (wrap64 (x4_1 - 1)), rf_, H', ⟨by have := HK1.out; omega⟩, ⟨by (try simp only [hl3_1]); (with_reducible repeat (first | apply Kd.R_alloc | apply Kd.R_drewN | apply Kd.R_drew)); exact Kd.R_mono (fr5_ (Kd.R_types HO_3.out BK764.out (by decide)) (fun _ hk => hk.2)) (fun _ hk => trivial)⟩, ⟨by (try simp only [hl3_1]); (with_reducible repeat (first | refine blk_drewN ?_ _ | refine blk_drew ?_ | refine blk_alloc ?_ _)); refine blk_far ?_ NB757_764.out _; (with_reducible repeat (first | refine blk_drewN ?_ _ | refine blk_drew ?_ | refine blk_alloc ?_ _)); refine blk_far ?_ NB757_764.out _; (with_reducible repeat (first | refine blk_drewN ?_ _ | refine blk_drew ?_ | refine blk_alloc ?_ _)); refine blk_far ?_ NB757_764.out _; (with_reducible repeat (first | refine blk_drewN ?_ _ | refine blk_drew ?_ | refine blk_alloc ?_ _)); refine blk_far ?_ NB757_764.out _; (with_reducible repeat (first | refine blk_drewN ?_ _ | refine blk_drew ?_ | refine blk_alloc ?_ _)); refine blk_far ?_ NB757_764.out _; (with_reducible repeat (first | refine blk_drewN ?_ _ | refine blk_drew ?_ | refine blk_alloc ?_ _)); exact BK757.out⟩, ⟨bl_⟩⟩
    ·rw [if_neg c20] at H
     have c20b0 : decide (0 ≤ x4_1) = false := decide_eq_false c20
     clear c20
     obtain rfl := Option.some.inj H
     go_wp2
     go_ret
     exact ⟨by first | rfl | (simp [errW_none, errW_some] <;> rfl) | (simp only [← hji6]; first | rfl | (simp [errW_none, errW_some] <;> rfl)) | (simp [*, errW_none, errW_some] <;> rfl), bl_⟩
 ·replace c3 := Bool.eq_false_iff.mpr c3
  subst c3
  replace H := ite_f_ H
  obtain rfl := Option.some.inj H
  go_enter Try.func19, Try.ntmps19
  go_wp2_with (first | ((with_reducible refine gD_ 1 rfl ?_); refine bx_ (N := 1) (cs := #[.slice A0_0 l0_0.length c0_0]) (t := 27) ?_; intro gb757 hg w69 hbox hb; have BK757 := aa_ (hbox); have GW757 := gs_ hg; have GE757 := gs_ hg; replace HB := hbs_ hb; clear hb hbox hg; obtain ⟨hcz70, hfz70⟩ := bcf_ BK757) | ((with_reducible refine gC_ 14 rfl ?_); refine goesC_ (some 7) Try.func14 #[.agg #[.slice A0_0 l0_0.length c0_0]] ?_; (with_reducible refine (impl_PolicyOk.calls k _ _ l0_0 false _ ?side1 ?side2 A2.out).mono ?_); (case side1 => repeat (first | exact (Kd.C_below HR0_0.out HB.out) | (with_reducible refine Kd.C_alloc ?_ _) | (with_reducible refine Kd.C_drewN ?_ _) | (with_reducible refine Kd.C_drew ?_))); (case side2 => exact HC0_0.out); rintro e w71 ⟨rfl, hb⟩; refine ⟨_, rfl, ?_⟩; replace BK757 := bkb_ BK757 hb; replace HB := hbs_ hb; clear hb))
  go_ret
  exact ⟨eq_, bl_⟩
end Go.Proofs.Ytnoklfpnmopkpaa.PE
