import Derived.Test.YtnoklfpnmopkpaaKPPEx9
-- printed by wip/tools
namespace Go.Proofs.Ytnoklfpnmopkpaa.PE
open Go.RowKit Go.Proofs.YtnoklfpnmopkpaaW.PrintWords Go.Proofs.YtnoklfpnmopkpaaW.PrintLast Go.Proofs.YtnoklfpnmopkpaaW.PrintMore
attribute [local go_sem] max2_int min2_int max_two min_two max_three min_three max_four min_four
set_option linter.unusedVariables false
set_option linter.unusedSimpArgs false
mutual
def spec_l21Below.l0 : Nat → List Bool → Int → List (S57) → Option (List Bool)
 | 0, _, _, _ => none
 | k + 1, x4, x5, x771000 => if x5 ≥ 0 then (if 0 ≤ x5 then (if x5 < (x771000.length : Int) then (if x5 < (x4.length : Int) then (if rdOf false x4 x5 = true then (spec_l21Below.j1 k x4 x5 (((rd_T57 x771000 x5).f0) == 1) x771000 ((rd_T57 x771000 x5).f0) ((rd_T57 x771000 x5).f1.f0) ((rd_T57 x771000 x5).f1.f1) ((rd_T57 x771000 x5).f2) ((rd_T57 x771000 x5).f3)) else (spec_l21Below.j1 k x4 x5 true x771000 ((rd_T57 x771000 x5).f0) ((rd_T57 x771000 x5).f1.f0) ((rd_T57 x771000 x5).f1.f1) ((rd_T57 x771000 x5).f2) ((rd_T57 x771000 x5).f3))) else (none)) else (none)) else (none)) else (some x4)
def spec_l21Below.j1 : Nat → List Bool → Int → Bool → List (S57) → Int → Int → Int → Int → Int → Option (List Bool)
 | 0, _, _, _, _, _, _, _, _, _ => none
 | k + 1, x4, x5, x36, x771000, x777000, x777001, x777002, x777003, x777004 => if x36 = true then (spec_l21Below.l0 k x4 (wrap64 (x5 - 1)) x771000) else (if 0 ≤ x777003 then (if x777003 < (x4.length : Int) then ((some (x4.set (x777003 : Int).toNat true : List Bool)).bind fun y778 => (if x777000 = 4 then (spec_l21Below.l0 k y778 (wrap64 (x5 - 1)) x771000) else (if 0 ≤ x777004 then (if x777004 < (x4.length : Int) then (spec_l21Below.l0 k (y778.set (x777004 : Int).toNat true) (wrap64 (x5 - 1)) x771000) else (none)) else (none)))) else (none)) else (none))
end
def spec_l21Below.f (k : Nat) (l0_0 : List (S57)) : Option (List Bool) := if 0 ≤ (l0_0.length : Int) then (if ((l0_0.length : Int) : Int).toNat ≤ 281474976710656 then ((some (List.replicate ((l0_0.length : Int) : Int).toNat false : List Bool)).bind fun y771 => (if 0 ≤ (wrap64 ((l0_0.length : Int) - 1)) then (if (wrap64 ((l0_0.length : Int) - 1)) < (y771.length : Int) then (spec_l21Below.l0 k (y771.set ((wrap64 ((l0_0.length : Int) - 1)) : Int).toNat true) (wrap64 ((l0_0.length : Int) - 1)) l0_0) else (none)) else (none))) else (none)) else (none)
set_option maxHeartbeats 8000000 in
set_option maxRecDepth 100000 in
theorem spec_l21Below.calls (k : Nat) (A0_0 : Option Addr) (c0_0 : Nat) (l0_0 : List (S57)) (r : List Bool) (w : World) (hr0_0 : Kd.C k57 w A0_0 l0_0.length l0_0) (hc0_0 : l0_0.length ≤ c0_0) (h : spec_l21Below.f k l0_0 = some r) :
  Calls Try.prog 45 #[.agg #[.slice A0_0 l0_0.length c0_0]] w fun e w' => ∃ v0_ : Value, e = .returned (v0_) ∧ Kd.R Kd.bool 4 w' w.heap.size (fun _ => True) v0_ r ∧ Below w.heap.size w w' := by
 have hu27 := Try.underlying27
 have hu57 := Try.underlying57
 have HR0_0 := aa_ hr0_0
 have HC0_0 := aa_ hc0_0
 clear hr0_0 hc0_0
 have HB := aa_ (Below.refl w.heap.size w)
 have H : (if 0 ≤ (l0_0.length : Int) then (if ((l0_0.length : Int) : Int).toNat ≤ 281474976710656 then ((some (List.replicate ((l0_0.length : Int) : Int).toNat false : List Bool)).bind fun y771 => (if 0 ≤ (wrap64 ((l0_0.length : Int) - 1)) then (if (wrap64 ((l0_0.length : Int) - 1)) < (y771.length : Int) then (spec_l21Below.l0 k (y771.set ((wrap64 ((l0_0.length : Int) - 1)) : Int).toNat true) (wrap64 ((l0_0.length : Int) - 1)) l0_0) else (none)) else (none))) else (none)) else (none)) = some r := h
 clear h
 obtain ⟨c2, H⟩ := ifn_ H
 have c2b0 := eq_true c2
 have c2b1 : decide (0 ≤ (l0_0.length : Int)) = true := decide_eq_true c2
 clear c2
 obtain ⟨c3, H⟩ := ifn_ H
 have c3b0 := eq_true c3
 have c3b1 : decide (((l0_0.length : Int) : Int).toNat ≤ 281474976710656) = true := decide_eq_true c3
 clear c3
 obtain ⟨y771, hy771⟩ : ∃ y_ : List Bool, y_ = (List.replicate ((l0_0.length : Int) : Int).toNat false) := ⟨_, rfl⟩
 replace H : (if 0 ≤ (wrap64 ((l0_0.length : Int) - 1)) then (if (wrap64 ((l0_0.length : Int) - 1)) < (y771.length : Int) then (spec_l21Below.l0 k (y771.set ((wrap64 ((l0_0.length : Int) - 1)) : Int).toNat true) (wrap64 ((l0_0.length : Int) - 1)) l0_0) else (none)) else (none)) = some r := rh_ hy771 H
 have Ny771 := aa_ hy771
 clear hy771
 obtain ⟨ji4, hji4⟩ : ∃ j_ : Int, (wrap64 ((l0_0.length : Int) - 1)) = j_ := ⟨_, rfl⟩
 replace H : (if 0 ≤ (ji4) then (if (ji4) < (y771.length : Int) then (spec_l21Below.l0 k (y771.set ((ji4) : Int).toNat true) ji4 l0_0) else (none)) else (none)) = some r := by first | (rw [hji4] at H; exact H) | (simp only [hji4] at H ⊢; exact H)
 have hji4w : (IntKind.i64.wrap ((l0_0.length : Int) - 1)) = ji4 := (i64_w _).trans hji4
 obtain ⟨c5b0, H⟩ := ifd_ H
 obtain ⟨c6b0, H⟩ := ifd_ H
 obtain ⟨y774, hy774⟩ : ∃ y_ : List Bool, y_ = (y771.set ((ji4) : Int).toNat true) := ⟨_, rfl⟩
 replace H : (spec_l21Below.l0 k y774 ji4 l0_0) = some r := rh_ hy774 H
 have Ny774 := aa_ hy774
 clear hy774
 have H' := aa_ H
 clear H
 go_enter Try.func45, Try.ntmps45
 go_wp2_with (first | ((with_reducible refine gD_ 1 rfl ?_); refine bx_ (N := 1) (cs := #[.slice A0_0 l0_0.length c0_0]) (t := 27) ?_; intro gb770 hg w8 hbox hb; have BK770 := aa_ (hbox); have GW770 := gs_ hg; have GE770 := gs_ hg; replace HB := hbs_ hb; clear hb hbox hg; obtain ⟨hcz9, hfz9⟩ := bcf_ BK770) | ((with_reducible refine gD_ 11 rfl ?_); refine Kd.R_make Kd.bool _ 4 rfl (N := 11) rfl 60 _ _ rfl (l0_0.length : Int) rfl rfl Try.underlying60 (.bool false) 1 info4 rfl (by decide) (by omega) false (ok := fun _ => True) (okp := fun _ => True) rfl (fun _ hk => hk) trivial (od_) (Nat.le_trans (Nat.mul_le_mul_right _ (od_ : (l0_0.length : Int).toNat ≤ 281474976710656)) (by omega)) (Below.refl _ _) (Nat.le_refl _) ?_; intro v772 w10 ho11 hb hg_ hnew_; clear hg_ hnew_; (first | rw [← Ny771.out] at ho11 | (simp only [Int.reduceToNat] at ho11; rw [← Ny771.out] at ho11)); have HO773 := aa_ (Kd.R_lower ho11 bls_); replace BK770 := bkb_ BK770 hb; replace HB := hbs_ hb; clear hb ho11; have p7 : 0 ≤ ((ji4) : Int) := od_; have q7 : ((ji4) : Int) < ((y771.length : Int) : Int) := od_; obtain ⟨go7, co7, eo7, gb7, gl7, cl7, HG7⟩ := Kd.R_form HO773.out (by omega); (first | cases eo7 | (injection eo7 with ea_ en_ ec_; (first | subst ea_ | (injection ea_ with ea_; subst ea_)); subst ec_; clear en_)); have GB7 := aa_ gb7; have GG7 := aa_ HG7; clear gb7 gl7 HG7; obtain ⟨hx7_0, hf7_0⟩ := Kd.R_celln false HO773.out ((ji4) : Int) p7 q7; replace p7 := eq_true p7; replace q7 := eq_true q7; obtain ⟨hy12_, hz12_⟩ := Kd.R_celln false HO773.out ((ji4) : Int) (od_) (od_); have HP12 := Kd.R_putg HO773.out ((ji4) : Int) true) | ((with_reducible refine gate_store (t := 4) (p := 15) rfl ?_); refine store_event (t := 4) (p := 15) (v := ?vo_w13) (w1 := (w10.setCell ⟨go7, ((ji4) : Int).toNat, none⟩ (.bool true))) ?hg ?ho ?hn ?hr ?_; (case ho => rfl); (case hg => rfl); (case hn => rfl); (case hr => first | (go_simp; done) | (go_simp; rfl)); intro w13 hw; have hg : w10.grownBy w13 (some go7) := (by rw [hw]; exact HP12.2); have hp_ : Kd.R Kd.bool 4 w13 w.heap.size (fun _ => True) (.slice (some ⟨go7, 0, none⟩) y771.length co7) y774 := (by rw [hw, Ny774.out]; exact HP12.1); clear HP12; replace BK770 := aa_ (blk_grown (g := gb770) (o := .cells #[.slice A0_0 l0_0.length c0_0] 27 (0, 0)) (bk_ BK770) hg (Kd.R_ne HO773.out BK770.out (by decide))); replace HO773 := aa_ (hp_); replace HB := aa_ ((by rw [hw]; exact below_set (HB.out) GB7.out : Below w.heap.size w w13)); clear hg hw hp_))
 go_loopg [5] k (fun kq v5 w' => ∃ (x4_1 : List Bool) (x5_1 : Int), v5 = .int .i64 x5_1 ∧ Aside0 (spec_l21Below.l0 kq x4_1 x5_1 l0_0 = some r) ∧ Aside0 (kq ≤ k) ∧ Aside0 (Kd.R Kd.bool 4 w' w.heap.size (fun _ => True) (.slice (some ⟨go7, 0, none⟩) y771.length co7) x4_1) ∧ Aside0 (w'.heap[gb770]? = some (.cells #[(.slice A0_0 l0_0.length c0_0)] 27 (0, 0))) ∧ Aside0 (Below w.heap.size w w'))
 case atStart => exact ⟨(y774), (ji4), (by first | rfl | (simp; done) | (simp only [← hji4] <;> (first | rfl | simp)) | (simp [*]; done)), H', ⟨Nat.le_refl _⟩, ⟨rr_ HO773⟩, ⟨bk_ BK770⟩, ⟨bl_⟩⟩
 case round =>
  clear H'
  try clear c2
  try clear c2b0
  try clear c2b1
  try clear p2
  try clear c3
  try clear c3b0
  try clear c3b1
  try clear c4
  try clear c5
  try clear c5b0
  try clear c6
  try clear c6b0
  try clear p6
  try clear p7
  try clear q7
  try clear hx7
  try clear hf7
  try clear hcz9
  try clear hfz9
  try clear hx7_0
  try clear p7
  try clear q7
  obtain ⟨x4_1, x5_1, rfl, HA, HK1, HO_4, BK770, HB⟩ := hrel
  have hl4_1 := (Kd.R_reads' HO_4.out).1
  rw [hl4_1] at HO_4
  (try simp only [hl4_1])
  (try simp only [hl4_1] at BK770)
  cases gk with
  | zero => exact absurd HA.out (by simp [spec_l21Below.l0])
  | succ k1 =>
   have H := HA.out
   clear HA
   simp only [spec_l21Below.l0] at H
   by_cases c14 : x5_1 ≥ 0
   ·rw [if_pos c14] at H
    have c14b0 : decide (0 ≤ x5_1) = true := decide_eq_true c14
    clear c14
    obtain ⟨c15b0, H⟩ := ifd_ H
    obtain ⟨c16b0, H⟩ := ifd_ H
    have HC17 := aa_ H
    clear H
    have hcz18 := blk_cell BK770.out
    have hfz18 := blk_frozen BK770.out
    have p775 : 0 ≤ (x5_1 : Int) := od_
    have q775 : x5_1 < (l0_0.length : Int) := od_
    obtain ⟨ad775, e775, hx775_0, hx775_1, hx775_2, hx775_3, hx775_4⟩ := at_T57 (Kd.C_below HR0_0.out HB.out) x5_1 p775 q775
    cases e775
    replace p775 := eq_true p775
    replace q775 := eq_true q775
    go_upto_region 8 with (first | ((with_reducible refine gD_ 6 rfl ?_); refine bx_ (N := 6) (cs := #[.int .i64 0, .int .i64 0, .int .i64 0, .int .i64 0, .int .i64 0]) (t := 57) ?_; intro gb776 hg w19 hbox hb; replace HO_4 := hob_ HO_4 hb; have BK776 := aa_ (hbox); have GW776 := gs_ hg; have GE776 := gs_ hg; replace HB := hbs_ hb; have NB770_776 := nl_ hg BK770; have NB776_770 := nr_ hg BK770; replace BK770 := bkb_ BK770 hb; clear hb hbox hg; have hnb20 := NB776_770.out; have hnc20 := NB770_776.out; obtain ⟨hcz21, hfz21⟩ := bcf_ BK776))
    (try simp only [Act.put, List.setIfInBounds_toArray, List.set_cons_zero, List.set_cons_succ])
    go_cut [36] (fun v36 wc => ∃ (kq : Nat) (x36_16 : Bool), v36 = .bool x36_16 ∧ Aside0 (spec_l21Below.j1 kq x4_1 x5_1 x36_16 l0_0 ((rd_T57 l0_0 x5_1).f0) ((rd_T57 l0_0 x5_1).f1.f0) ((rd_T57 l0_0 x5_1).f1.f1) ((rd_T57 l0_0 x5_1).f2) ((rd_T57 l0_0 x5_1).f3) = some r) ∧ Aside0 (kq ≤ k1) ∧ Aside0 (Kd.R Kd.bool 4 wc w.heap.size (fun _ => True) (.slice (some ⟨go7, 0, none⟩) x4_1.length co7) x4_1) ∧ Aside0 (wc.heap[gb770]? = some (.cells #[(.slice (some ad775) l0_0.length c0_0)] 27 (0, 0))) ∧ Aside0 (wc.heap[gb776]? = some (.cells #[.int .i64 ((rd_T57 l0_0 x5_1).f0), .int .i64 ((rd_T57 l0_0 x5_1).f1.f0), .int .i64 ((rd_T57 l0_0 x5_1).f1.f1), .int .i64 ((rd_T57 l0_0 x5_1).f2), .int .i64 ((rd_T57 l0_0 x5_1).f3)] 57 (0, 0))) ∧ Aside0 (Below w.heap.size w wc))
    case first =>
     have H := HC17.out
     clear HC17
     obtain ⟨c22b0, H⟩ := ifd_ H
     (first | rw [c22b0] | (simp only [i64_w, i32_w]; rw [c22b0]) | (have cz_ := c22b0; simp only [Int.ofNat_lt, Int.ofNat_le, gt_iff_lt, ge_iff_le] at cz_; rw [cz_]; clear cz_) | skip)
     obtain ⟨bq23, hbq23⟩ : ∃ b_ : Bool, b_ = (rdOf false x4_1 x5_1) := ⟨_, rfl⟩
     replace H : (if bq23 = true then (spec_l21Below.j1 k1 x4_1 x5_1 (((rd_T57 l0_0 x5_1).f0) == 1) l0_0 ((rd_T57 l0_0 x5_1).f0) ((rd_T57 l0_0 x5_1).f1.f0) ((rd_T57 l0_0 x5_1).f1.f1) ((rd_T57 l0_0 x5_1).f2) ((rd_T57 l0_0 x5_1).f3)) else (spec_l21Below.j1 k1 x4_1 x5_1 true l0_0 ((rd_T57 l0_0 x5_1).f0) ((rd_T57 l0_0 x5_1).f1.f0) ((rd_T57 l0_0 x5_1).f1.f1) ((rd_T57 l0_0 x5_1).f2) ((rd_T57 l0_0 x5_1).f3))) = some r := by rw [← hbq23] at H; exact H
     have Nbq23 := aa_ hbq23
     clear hbq23
     by_cases c24 : bq23 = true
     ·subst c24
      replace H := ite_t_ H
      have H' := aa_ H
      clear H
      have p777 : 0 ≤ (x5_1 : Int) := od_
      have q777 : x5_1 < (x4_1.length : Int) := od_
      obtain ⟨ad777, e777, hx777_0⟩ := Kd.at_bool (Kd.R_reads' HO_4.out).2.2 x5_1 p777 q777
      (try rw [← Nbq23.out] at hx777_0)
      obtain rfl : (⟨go7, 0, none⟩ : Addr) = ad777 := (by injection e777)
      (first | simp only [add_plain] at hx777_0 | simp only [add_at] at hx777_0 | simp only [Addr.add, Nat.zero_add] at hx777_0 | skip)
      have hn777_0 : (⟨go7, 0, none⟩ : Addr).block ≠ gb776 := Kd.own_blk (Kd.R_ne HO_4.out BK776.out (by decide))
      have hn777_1 : (⟨go7, 0, none⟩ : Addr).block ≠ gb776 := Kd.own_blk (Kd.R_ne HO_4.out BK776.out (by decide))
      have hn777_2 : (⟨go7, 0, none⟩ : Addr).block ≠ gb776 := Kd.own_blk (Kd.R_ne HO_4.out BK776.out (by decide))
      have hn777_3 : (⟨go7, 0, none⟩ : Addr).block ≠ gb776 := Kd.own_blk (Kd.R_ne HO_4.out BK776.out (by decide))
      have hn777_4 : (⟨go7, 0, none⟩ : Addr).block ≠ gb776 := Kd.own_blk (Kd.R_ne HO_4.out BK776.out (by decide))
      replace hx777_0 := (cell_far (p := ⟨gb776, 0, none⟩) (by first | (rw [add_block]; exact hn777_0) | (show (Addr.add _ _).block ≠ _; rw [add_block]; exact hn777_0) | exact hn777_0) (.int .i64 ((rd_T57 l0_0 x5_1).f0))).trans hx777_0
      replace hx777_0 := (cell_far (p := ⟨gb776, 1, none⟩) (by first | (rw [add_block]; exact hn777_1) | (show (Addr.add _ _).block ≠ _; rw [add_block]; exact hn777_1) | exact hn777_1) (.int .i64 ((rd_T57 l0_0 x5_1).f1.f0))).trans hx777_0
      replace hx777_0 := (cell_far (p := ⟨gb776, 2, none⟩) (by first | (rw [add_block]; exact hn777_2) | (show (Addr.add _ _).block ≠ _; rw [add_block]; exact hn777_2) | exact hn777_2) (.int .i64 ((rd_T57 l0_0 x5_1).f1.f1))).trans hx777_0
      replace hx777_0 := (cell_far (p := ⟨gb776, 3, none⟩) (by first | (rw [add_block]; exact hn777_3) | (show (Addr.add _ _).block ≠ _; rw [add_block]; exact hn777_3) | exact hn777_3) (.int .i64 ((rd_T57 l0_0 x5_1).f2))).trans hx777_0
      replace hx777_0 := (cell_far (p := ⟨gb776, 4, none⟩) (by first | (rw [add_block]; exact hn777_4) | (show (Addr.add _ _).block ≠ _; rw [add_block]; exact hn777_4) | exact hn777_4) (.int .i64 ((rd_T57 l0_0 x5_1).f3))).trans hx777_0
      clear hn777_0
      clear hn777_1
      clear hn777_2
      clear hn777_3
      clear hn777_4
      replace p777 := eq_true p777
      replace q777 := eq_true q777
      have hnb25 := NB776_770.out
      have hnc25 := NB770_776.out
      have hcz26 := blk_cell BK776.out
      have hfz26 := blk_frozen BK776.out
      go_wp2
      go_meet
      case rel => exact ⟨_, ((((rd_T57 l0_0 x5_1).f0) == 1)), rf_, H', ⟨by have := HK1.out; first | omega | exact Nat.le_refl _⟩, ⟨by (try simp only [hl4_1]); (with_reducible repeat (first | apply Kd.R_alloc | apply Kd.R_drewN | apply Kd.R_drew)); exact Kd.R_mono (fr5_ (Kd.R_types HO_4.out BK776.out (by decide)) (fun _ hk => hk.2)) (fun _ hk => trivial)⟩, ⟨by (try simp only [hl4_1]); (with_reducible repeat (first | refine blk_drewN ?_ _ | refine blk_drew ?_ | refine blk_alloc ?_ _)); refine blk_far ?_ NB770_776.out _; (with_reducible repeat (first | refine blk_drewN ?_ _ | refine blk_drew ?_ | refine blk_alloc ?_ _)); refine blk_far ?_ NB770_776.out _; (with_reducible repeat (first | refine blk_drewN ?_ _ | refine blk_drew ?_ | refine blk_alloc ?_ _)); refine blk_far ?_ NB770_776.out _; (with_reducible repeat (first | refine blk_drewN ?_ _ | refine blk_drew ?_ | refine blk_alloc ?_ _)); refine blk_far ?_ NB770_776.out _; (with_reducible repeat (first | refine blk_drewN ?_ _ | refine blk_drew ?_ | refine blk_alloc ?_ _)); refine blk_far ?_ NB770_776.out _; (with_reducible repeat (first | refine blk_drewN ?_ _ | refine blk_drew ?_ | refine blk_alloc ?_ _)); exact BK770.out⟩, ⟨by (try simp only [hl4_1]); (with_reducible repeat (first | refine blk_drewN ?_ _ | refine blk_drew ?_ | refine blk_alloc ?_ _)); refine blk_put (cs := #[.int .i64 ((rd_T57 l0_0 x5_1).f0), .int .i64 ((rd_T57 l0_0 x5_1).f1.f0), .int .i64 ((rd_T57 l0_0 x5_1).f1.f1), .int .i64 ((rd_T57 l0_0 x5_1).f2), .int .i64 0]) ?_ 4 _ rfl; (with_reducible repeat (first | refine blk_drewN ?_ _ | refine blk_drew ?_ | refine blk_alloc ?_ _)); refine blk_put (cs := #[.int .i64 ((rd_T57 l0_0 x5_1).f0), .int .i64 ((rd_T57 l0_0 x5_1).f1.f0), .int .i64 ((rd_T57 l0_0 x5_1).f1.f1), .int .i64 0, .int .i64 0]) ?_ 3 _ rfl; (with_reducible repeat (first | refine blk_drewN ?_ _ | refine blk_drew ?_ | refine blk_alloc ?_ _)); refine blk_put (cs := #[.int .i64 ((rd_T57 l0_0 x5_1).f0), .int .i64 ((rd_T57 l0_0 x5_1).f1.f0), .int .i64 0, .int .i64 0, .int .i64 0]) ?_ 2 _ rfl; (with_reducible repeat (first | refine blk_drewN ?_ _ | refine blk_drew ?_ | refine blk_alloc ?_ _)); refine blk_put (cs := #[.int .i64 ((rd_T57 l0_0 x5_1).f0), .int .i64 0, .int .i64 0, .int .i64 0, .int .i64 0]) ?_ 1 _ rfl; (with_reducible repeat (first | refine blk_drewN ?_ _ | refine blk_drew ?_ | refine blk_alloc ?_ _)); refine blk_put (cs := #[.int .i64 0, .int .i64 0, .int .i64 0, .int .i64 0, .int .i64 0]) ?_ 0 _ rfl; (with_reducible repeat (first | refine blk_drewN ?_ _ | refine blk_drew ?_ | refine blk_alloc ?_ _)); exact BK776.out⟩, ⟨bl_⟩⟩
     ·replace c24 := Bool.eq_false_iff.mpr c24
      subst c24
      replace H := ite_f_ H
      have H' := aa_ H
      clear H
      have p777 : 0 ≤ (x5_1 : Int) := od_
      have q777 : x5_1 < (x4_1.length : Int) := od_
      obtain ⟨ad777, e777, hx777_0⟩ := Kd.at_bool (Kd.R_reads' HO_4.out).2.2 x5_1 p777 q777
      (try rw [← Nbq23.out] at hx777_0)
      obtain rfl : (⟨go7, 0, none⟩ : Addr) = ad777 := (by injection e777)
      (first | simp only [add_plain] at hx777_0 | simp only [add_at] at hx777_0 | simp only [Addr.add, Nat.zero_add] at hx777_0 | skip)
      have hn777_0 : (⟨go7, 0, none⟩ : Addr).block ≠ gb776 := Kd.own_blk (Kd.R_ne HO_4.out BK776.out (by decide))
      have hn777_1 : (⟨go7, 0, none⟩ : Addr).block ≠ gb776 := Kd.own_blk (Kd.R_ne HO_4.out BK776.out (by decide))
      have hn777_2 : (⟨go7, 0, none⟩ : Addr).block ≠ gb776 := Kd.own_blk (Kd.R_ne HO_4.out BK776.out (by decide))
      have hn777_3 : (⟨go7, 0, none⟩ : Addr).block ≠ gb776 := Kd.own_blk (Kd.R_ne HO_4.out BK776.out (by decide))
      have hn777_4 : (⟨go7, 0, none⟩ : Addr).block ≠ gb776 := Kd.own_blk (Kd.R_ne HO_4.out BK776.out (by decide))
      replace hx777_0 := (cell_far (p := ⟨gb776, 0, none⟩) (by first | (rw [add_block]; exact hn777_0) | (show (Addr.add _ _).block ≠ _; rw [add_block]; exact hn777_0) | exact hn777_0) (.int .i64 ((rd_T57 l0_0 x5_1).f0))).trans hx777_0
      replace hx777_0 := (cell_far (p := ⟨gb776, 1, none⟩) (by first | (rw [add_block]; exact hn777_1) | (show (Addr.add _ _).block ≠ _; rw [add_block]; exact hn777_1) | exact hn777_1) (.int .i64 ((rd_T57 l0_0 x5_1).f1.f0))).trans hx777_0
      replace hx777_0 := (cell_far (p := ⟨gb776, 2, none⟩) (by first | (rw [add_block]; exact hn777_2) | (show (Addr.add _ _).block ≠ _; rw [add_block]; exact hn777_2) | exact hn777_2) (.int .i64 ((rd_T57 l0_0 x5_1).f1.f1))).trans hx777_0
      replace hx777_0 := (cell_far (p := ⟨gb776, 3, none⟩) (by first | (rw [add_block]; exact hn777_3) | (show (Addr.add _ _).block ≠ _; rw [add_block]; exact hn777_3) | exact hn777_3) (.int .i64 ((rd_T57 l0_0 x5_1).f2))).trans hx777_0
      replace hx777_0 := (cell_far (p := ⟨gb776, 4, none⟩) (by first | (rw [add_block]; exact hn777_4) | (show (Addr.add _ _).block ≠ _; rw [add_block]; exact hn777_4) | exact hn777_4) (.int .i64 ((rd_T57 l0_0 x5_1).f3))).trans hx777_0
      clear hn777_0
      clear hn777_1
      clear hn777_2
      clear hn777_3
      clear hn777_4
      replace p777 := eq_true p777
      replace q777 := eq_true q777
      go_wp2
      go_meet
      case rel => exact ⟨_, (true), rf_, H', ⟨by have := HK1.out; first | omega | exact Nat.le_refl _⟩, ⟨by (try simp only [hl4_1]); (with_reducible repeat (first | apply Kd.R_alloc | apply Kd.R_drewN | apply Kd.R_drew)); exact Kd.R_mono (fr5_ (Kd.R_types HO_4.out BK776.out (by decide)) (fun _ hk => hk.2)) (fun _ hk => trivial)⟩, ⟨by (try simp only [hl4_1]); (with_reducible repeat (first | refine blk_drewN ?_ _ | refine blk_drew ?_ | refine blk_alloc ?_ _)); refine blk_far ?_ NB770_776.out _; (with_reducible repeat (first | refine blk_drewN ?_ _ | refine blk_drew ?_ | refine blk_alloc ?_ _)); refine blk_far ?_ NB770_776.out _; (with_reducible repeat (first | refine blk_drewN ?_ _ | refine blk_drew ?_ | refine blk_alloc ?_ _)); refine blk_far ?_ NB770_776.out _; (with_reducible repeat (first | refine blk_drewN ?_ _ | refine blk_drew ?_ | refine blk_alloc ?_ _)); refine blk_far ?_ NB770_776.out _; (with_reducible repeat (first | refine blk_drewN ?_ _ | refine blk_drew ?_ | refine blk_alloc ?_ _)); refine blk_far ?_ NB770_776.out _; (with_reducible repeat (first | refine blk_drewN ?_ _ | refine blk_drew ?_ | refine blk_alloc ?_ _)); exact BK770.out⟩, ⟨by (try simp only [hl4_1]); (with_reducible repeat (first | refine blk_drewN ?_ _ | refine blk_drew ?_ | refine blk_alloc ?_ _)); refine blk_put (cs := #[.int .i64 ((rd_T57 l0_0 x5_1).f0), .int .i64 ((rd_T57 l0_0 x5_1).f1.f0), .int .i64 ((rd_T57 l0_0 x5_1).f1.f1), .int .i64 ((rd_T57 l0_0 x5_1).f2), .int .i64 0]) ?_ 4 _ rfl; (with_reducible repeat (first | refine blk_drewN ?_ _ | refine blk_drew ?_ | refine blk_alloc ?_ _)); refine blk_put (cs := #[.int .i64 ((rd_T57 l0_0 x5_1).f0), .int .i64 ((rd_T57 l0_0 x5_1).f1.f0), .int .i64 ((rd_T57 l0_0 x5_1).f1.f1), .int .i64 0, .int .i64 0]) ?_ 3 _ rfl; (with_reducible repeat (first | refine blk_drewN ?_ _ | refine blk_drew ?_ | refine blk_alloc ?_ _)); refine blk_put (cs := #[.int .i64 ((rd_T57 l0_0 x5_1).f0), .int .i64 ((rd_T57 l0_0 x5_1).f1.f0), .int .i64 0, .int .i64 0, .int .i64 0]) ?_ 2 _ rfl; (with_reducible repeat (first | refine blk_drewN ?_ _ | refine blk_drew ?_ | refine blk_alloc ?_ _)); refine blk_put (cs := #[.int .i64 ((rd_T57 l0_0 x5_1).f0), .int .i64 0, .int .i64 0, .int .i64 0, .int .i64 0]) ?_ 1 _ rfl; (with_reducible repeat (first | refine blk_drewN ?_ _ | refine blk_drew ?_ | refine blk_alloc ?_ _)); refine blk_put (cs := #[.int .i64 0, .int .i64 0, .int .i64 0, .int .i64 0, .int .i64 0]) ?_ 0 _ rfl; (with_reducible repeat (first | refine blk_drewN ?_ _ | refine blk_drew ?_ | refine blk_alloc ?_ _)); exact BK776.out⟩, ⟨bl_⟩⟩
    case rest =>
     clear HC17
     try clear c1
     try clear c2
     try clear c2b0
     try clear c2b1
     try clear p2
     try clear q2
     try clear c3
     try clear c3b0
     try clear c3b1
     try clear c4
     try clear c5
     try clear c5b0
     try clear c6
     try clear c6b0
     try clear p6
     try clear p7
     try clear q7
     try clear hx7
     try clear hf7
     try clear c14
     try clear c14b0
     try clear c15
     try clear c15b0
     try clear c16
     try clear c16b0
     try clear c20
     try clear c22
     try clear c22b0
     try clear q23
     try clear c24
     try clear c25
     try clear hcz18
     try clear hcz21
     try clear hcz26
     try clear hcz9
     try clear hfz18
     try clear hfz21
     try clear hfz26
     try clear hfz9
     try clear hx775_0
     try clear hx775_1
     try clear hx775_2
     try clear hx775_3
     try clear hx775_4
     try clear hx777_0
     try clear hx7_0
     try clear p2
     try clear p6
     try clear p7
     try clear p775
     try clear p777
     try clear q7
     try clear q775
     try clear q777
     obtain ⟨kq, x36_16, rfl, HA, HJ16, HO_4, BK770, BK776, HB⟩ := hcut
     cases kq with
     | zero => exact absurd HA.out (by simp [spec_l21Below.j1])
     | succ kj16 =>
      have H := HA.out
      clear HA
      simp only [spec_l21Below.j1] at H
      by_cases c27 : x36_16 = true
      ·subst c27
       replace H := ite_t_ H
       have H' := aa_ H
       clear H
       go_wp2
       (try simp only [← hl4_1])
       go_roundg kj16
       case measure => have := HK1.out; have := HJ16.out; omega
       case rel => exact ⟨(x4_1), (wrap64 (x5_1 - 1)), rf_, H', ⟨by have := HK1.out; have := HJ16.out; omega⟩, ⟨by (try simp only [hl4_1]); (with_reducible repeat (first | apply Kd.R_alloc | apply Kd.R_drewN | apply Kd.R_drew)); exact HO_4.out⟩, ⟨by (try simp only [hl4_1]); (with_reducible repeat (first | refine blk_drewN ?_ _ | refine blk_drew ?_ | refine blk_alloc ?_ _)); exact BK770.out⟩, ⟨bl_⟩⟩
      ·replace c27 := Bool.eq_false_iff.mpr c27
       subst c27
       replace H := ite_f_ H
       obtain ⟨c28b0, H⟩ := ifd_ H
       obtain ⟨c29b0, H⟩ := ifd_ H
       obtain ⟨y778, hy778⟩ : ∃ y_ : List Bool, y_ = (x4_1.set (((rd_T57 l0_0 x5_1).f2) : Int).toNat true) := ⟨_, rfl⟩
       replace H : (if ((rd_T57 l0_0 x5_1).f0) = 4 then (spec_l21Below.l0 kj16 y778 (wrap64 (x5_1 - 1)) l0_0) else (if 0 ≤ ((rd_T57 l0_0 x5_1).f3) then (if ((rd_T57 l0_0 x5_1).f3) < (x4_1.length : Int) then (spec_l21Below.l0 kj16 (y778.set (((rd_T57 l0_0 x5_1).f3) : Int).toNat true) (wrap64 (x5_1 - 1)) l0_0) else (none)) else (none))) = some r := rh_ hy778 H
       have Ny778 := aa_ hy778
       clear hy778
       have HC31 := aa_ H
       clear H
       have hnb32 := NB776_770.out
       have hnc32 := NB770_776.out
       have hcz33 := blk_cell BK776.out
       have hfz33 := blk_frozen BK776.out
       have p30 : 0 ≤ (((rd_T57 l0_0 x5_1).f2) : Int) := od_
       have q30 : (((rd_T57 l0_0 x5_1).f2) : Int) < ((x4_1.length : Int) : Int) := od_
       obtain ⟨hx30_0, hf30_0⟩ := Kd.R_celln false HO_4.out (((rd_T57 l0_0 x5_1).f2) : Int) p30 q30
       replace p30 := eq_true p30
       replace q30 := eq_true q30
       have HP34 := Kd.R_putg HO_4.out (((rd_T57 l0_0 x5_1).f2) : Int) true
       go_upto_if 43 with (first | ((with_reducible refine gate_store (t := 4) (p := 40) rfl ?_); refine store_event (t := 4) (p := 40) (v := ?vo_w35) (w1 := (wc.setCell ⟨go7, (((rd_T57 l0_0 x5_1).f2) : Int).toNat, none⟩ (.bool true))) ?hg ?ho ?hn ?hr ?_; (case ho => rfl); (case hg => rfl); (case hn => rfl); (case hr => first | (go_simp; done) | (go_simp; rfl)); intro w35 hw; have hg : wc.grownBy w35 (some go7) := (by rw [hw]; exact HP34.2); have hp_ : Kd.R Kd.bool 4 w35 w.heap.size (fun _ => True) (.slice (some ⟨go7, 0, none⟩) x4_1.length co7) y778 := (by rw [hw, Ny778.out]; exact HP34.1); clear HP34; replace BK770 := aa_ (blk_grown (g := gb770) (o := .cells #[.slice (some ad775) l0_0.length c0_0] 27 (0, 0)) (bk_ BK770) hg (Kd.R_ne HO_4.out BK770.out (by decide))); replace BK776 := aa_ (blk_grown (g := gb776) (o := .cells #[.int .i64 ((rd_T57 l0_0 x5_1).f0), .int .i64 ((rd_T57 l0_0 x5_1).f1.f0), .int .i64 ((rd_T57 l0_0 x5_1).f1.f1), .int .i64 ((rd_T57 l0_0 x5_1).f2), .int .i64 ((rd_T57 l0_0 x5_1).f3)] 57 (0, 0)) (bk_ BK776) hg (Kd.R_ne HO_4.out BK776.out (by decide))); replace HO_4 := aa_ (hp_); replace HB := aa_ ((by rw [hw]; exact below_set (HB.out) GB7.out : Below w.heap.size w w35)); clear hg hw hp_; obtain ⟨hcz36, hfz36⟩ := bcf_ BK776))
       (try simp only [Act.put, List.setIfInBounds_toArray, List.set_cons_zero, List.set_cons_succ])
       have H := HC31.out
       clear HC31
       by_cases c37 : ((rd_T57 l0_0 x5_1).f0) = 4
       ·rw [if_pos c37] at H
        have c37b0 : (((rd_T57 l0_0 x5_1).f0) == 4) = true := beq_iff_eq.mpr c37
        have c37b1 : (((rd_T57 l0_0 x5_1).f0) != 4) = false := bne_eq_false_iff_eq.mpr c37
        clear c37
        (first | rw [c37b0] | (simp only [i64_w, i32_w]; rw [c37b0]) | skip)
        have H' := aa_ H
        clear H
        go_wp2
        (try simp only [← hl4_1])
        go_roundg kj16
        case measure => have := HK1.out; have := HJ16.out; omega
        case rel => exact ⟨(y778), (wrap64 (x5_1 - 1)), rf_, H', ⟨by have := HK1.out; have := HJ16.out; omega⟩, ⟨by (try simp only [hl4_1]); (with_reducible repeat (first | apply Kd.R_alloc | apply Kd.R_drewN | apply Kd.R_drew)); exact HO_4.out⟩, ⟨by (try simp only [hl4_1]); (with_reducible repeat (first | refine blk_drewN ?_ _ | refine blk_drew ?_ | refine blk_alloc ?_ _)); exact BK770.out⟩, ⟨bl_⟩⟩
       ·rw [if_neg c37] at H
        have c37b0 : (((rd_T57 l0_0 x5_1).f0) == 4) = false := beq_eq_false_iff_ne.mpr c37
        have c37b1 : (((rd_T57 l0_0 x5_1).f0) != 4) = true := bne_iff_ne.mpr c37
        (first | rw [c37b0] | (simp only [i64_w, i32_w]; rw [c37b0]) | skip)
        obtain ⟨c38b0, H⟩ := ifd_ H
        obtain ⟨c39b0, H⟩ := ifd_ H
        obtain ⟨y779, hy779⟩ : ∃ y_ : List Bool, y_ = (y778.set (((rd_T57 l0_0 x5_1).f3) : Int).toNat true) := ⟨_, rfl⟩
        replace H : (spec_l21Below.l0 kj16 y779 (wrap64 (x5_1 - 1)) l0_0) = some r := rh_ hy779 H
        have Ny779 := aa_ hy779
        clear hy779
        have H' := aa_ H
        clear H
        have hnb41 := NB776_770.out
        have hnc41 := NB770_776.out
        have hcz42 := blk_cell BK776.out
        have hfz42 := blk_frozen BK776.out
        have p40 : 0 ≤ (((rd_T57 l0_0 x5_1).f3) : Int) := od_
        have q40 : (((rd_T57 l0_0 x5_1).f3) : Int) < ((x4_1.length : Int) : Int) := od_
        obtain ⟨hx40_0, hf40_0⟩ := Kd.R_celln false HO_4.out (((rd_T57 l0_0 x5_1).f3) : Int) p40 q40
        replace p40 := eq_true p40
        replace q40 := eq_true q40
        have HP43 := Kd.R_putg HO_4.out (((rd_T57 l0_0 x5_1).f3) : Int) true
        go_wp2_with (first | ((with_reducible refine gate_store (t := 4) (p := 47) rfl ?_); refine store_event (t := 4) (p := 47) (v := ?vo_w44) (w1 := (w35.setCell ⟨go7, (((rd_T57 l0_0 x5_1).f3) : Int).toNat, none⟩ (.bool true))) ?hg ?ho ?hn ?hr ?_; (case ho => rfl); (case hg => rfl); (case hn => rfl); (case hr => first | (go_simp; done) | (go_simp; rfl)); intro w44 hw; have hg : w35.grownBy w44 (some go7) := (by rw [hw]; exact HP43.2); have hp_ : Kd.R Kd.bool 4 w44 w.heap.size (fun _ => True) (.slice (some ⟨go7, 0, none⟩) x4_1.length co7) y779 := (by rw [hw, Ny779.out]; exact HP43.1); clear HP43; replace BK770 := aa_ (blk_grown (g := gb770) (o := .cells #[.slice (some ad775) l0_0.length c0_0] 27 (0, 0)) (bk_ BK770) hg (Kd.R_ne HO_4.out BK770.out (by decide))); replace BK776 := aa_ (blk_grown (g := gb776) (o := .cells #[.int .i64 ((rd_T57 l0_0 x5_1).f0), .int .i64 ((rd_T57 l0_0 x5_1).f1.f0), .int .i64 ((rd_T57 l0_0 x5_1).f1.f1), .int .i64 ((rd_T57 l0_0 x5_1).f2), .int .i64 ((rd_T57 l0_0 x5_1).f3)] 57 (0, 0)) (bk_ BK776) hg (Kd.R_ne HO_4.out BK776.out (by decide))); replace HO_4 := aa_ (hp_); replace HB := aa_ ((by rw [hw]; exact below_set (HB.out) GB7.out : Below w.heap.size w w44)); clear hg hw hp_))
        (try simp only [← hl4_1])
        go_roundg kj16
        case measure => have := HK1.out; have := HJ16.out; omega
        case rel => exact ⟨(y779), (wrap64 (x5_1 - 1)), rf_, H', ⟨by have := HK1.out; have := HJ16.out; omega⟩, ⟨by (try simp only [hl4_1]); (with_reducible repeat (first | apply Kd.R_alloc | apply Kd.R_drewN | apply Kd.R_drew)); exact HO_4.out⟩, ⟨by (try simp only [hl4_1]); (with_reducible repeat (first | refine blk_drewN ?_ _ | refine blk_drew ?_ | refine blk_alloc ?_ _)); exact BK770.out⟩, ⟨bl_⟩⟩
   ·rw [if_neg c14] at H
    have c14b0 : decide (0 ≤ x5_1) = false := decide_eq_false c14
    clear c14
    obtain rfl := Option.some.inj H
    go_wp2
    go_ret
    exact ⟨_, by first | rfl | (simp [errW_none, errW_some] <;> rfl) | (simp only [← hji4]; first | rfl | (simp [errW_none, errW_some] <;> rfl)) | (simp [*, errW_none, errW_some] <;> rfl), by (with_reducible repeat (first | apply Kd.R_alloc | apply Kd.R_drewN | apply Kd.R_drew)); exact HO_4.out, bl_⟩
def spec_Rising.l0 : Nat → List Bool → Int → List (S57) → Option (Bool)
 | 0, _, _, _ => none
 | k + 1, x3, x4, x781000 => if x4 < (x781000.length : Int) then (if 0 ≤ x4 then (if x4 < (x3.length : Int) then (if rdOf false x3 x4 = true then (if ((rd_T57 x781000 x4).f0) = 4 then (some false) else (spec_Rising.l0 k x3 (wrap64 (x4 + 1)) x781000)) else (spec_Rising.l0 k x3 (wrap64 (x4 + 1)) x781000)) else (none)) else (none)) else (some true)
def spec_Rising.f (k : Nat) (l0_0 : List (S57)) : Option (Bool) := (spec_PolicyOk.f k l0_0).bind fun t781 => (if t781 = true then ((spec_l21Below.f k l0_0).bind fun t782 => (spec_Rising.l0 k t782 0 l0_0)) else (some false))
set_option maxHeartbeats 8000000 in
set_option maxRecDepth 100000 in
theorem spec_Rising.calls (k : Nat) (A0_0 : Option Addr) (c0_0 : Nat) (l0_0 : List (S57)) (r : Bool) (w : World) (hr0_0 : Kd.C k57 w A0_0 l0_0.length l0_0) (hc0_0 : l0_0.length ≤ c0_0) (h : spec_Rising.f k l0_0 = some r) :
  Calls Try.prog 20 #[.agg #[.slice A0_0 l0_0.length c0_0]] w fun e w' => e = .returned (.bool r) ∧ Below w.heap.size w w' := by
 have hu27 := Try.underlying27
 have HR0_0 := aa_ hr0_0
 have HC0_0 := aa_ hc0_0
 clear hr0_0 hc0_0
 have HB := aa_ (Below.refl w.heap.size w)
 have H : ((spec_PolicyOk.f k l0_0).bind fun t781 => (if t781 = true then ((spec_l21Below.f k l0_0).bind fun t782 => (spec_Rising.l0 k t782 0 l0_0)) else (some false))) = some r := h
 clear h
 obtain ⟨t781, A2, H⟩ := bindE_ H
 have HC3 := aa_ H
 clear H
 go_enter Try.func20, Try.ntmps20
 go_upto_if 7 with (first | ((with_reducible refine gD_ 1 rfl ?_); refine bx_ (N := 1) (cs := #[.slice A0_0 l0_0.length c0_0]) (t := 27) ?_; intro gb780 hg w4 hbox hb; have BK780 := aa_ (hbox); have GW780 := gs_ hg; have GE780 := gs_ hg; replace HB := hbs_ hb; clear hb hbox hg; obtain ⟨hcz5, hfz5⟩ := bcf_ BK780) | ((with_reducible refine gC_ 15 rfl ?_); refine goesC_ (some 6) Try.func15 #[.agg #[.slice A0_0 l0_0.length c0_0]] ?_; (with_reducible refine (spec_PolicyOk.calls k _ _ l0_0 t781 _ ?side1 ?side2 A2.out).mono ?_); (case side1 => repeat (first | exact (Kd.C_below HR0_0.out HB.out) | (with_reducible refine Kd.C_alloc ?_ _) | (with_reducible refine Kd.C_drewN ?_ _) | (with_reducible refine Kd.C_drew ?_))); (case side2 => exact HC0_0.out); rintro e w6 ⟨rfl, hb⟩; refine ⟨_, rfl, ?_⟩; replace BK780 := bkb_ BK780 hb; replace HB := hbs_ hb; clear hb))
 (try simp only [Act.put, List.setIfInBounds_toArray, List.set_cons_zero, List.set_cons_succ])
 have H := HC3.out
 clear HC3
 by_cases c7 : t781 = true
 ·subst c7
  replace H := ite_t_ H
  obtain ⟨t782, A8, H⟩ := bindE_ H
  have H' := aa_ H
  clear H
  have hcz9 := blk_cell BK780.out
  have hfz9 := blk_frozen BK780.out
  go_wp2_with (first | ((with_reducible refine gC_ 45 rfl ?_); refine goesC_ (some 9) Try.func45 #[.agg #[.slice A0_0 l0_0.length c0_0]] ?_; (with_reducible refine (spec_l21Below.calls k _ _ l0_0 t782 _ ?side1 ?side2 A8.out).mono ?_); (case side1 => repeat (first | exact (Kd.C_below HR0_0.out HB.out) | (with_reducible refine Kd.C_alloc ?_ _) | (with_reducible refine Kd.C_drewN ?_ _) | (with_reducible refine Kd.C_drew ?_))); (case side2 => exact HC0_0.out); rintro e w10 ⟨v783, rfl, ho0, hb⟩; refine ⟨_, rfl, ?_⟩; have HO784 := aa_ (Kd.R_lower ho0 bls_); replace BK780 := bkb_ BK780 hb; replace HB := hbs_ hb; (try clear hb ho0)))
  go_loopg [4] k (fun kq v4 w' => ∃ (x4_1 : Int), v4 = .int .i64 x4_1 ∧ Aside0 (spec_Rising.l0 kq t782 x4_1 l0_0 = some r) ∧ Aside0 (kq ≤ k) ∧ Aside0 (Kd.R Kd.bool 4 w' w.heap.size (fun _ => True) v783 t782) ∧ Aside0 (w'.heap[gb780]? = some (.cells #[(.slice A0_0 l0_0.length c0_0)] 27 (0, 0))) ∧ Aside0 (Below w.heap.size w w'))
  case atStart => exact ⟨(0), rf_, H', ⟨Nat.le_refl _⟩, ⟨rr_ HO784⟩, ⟨bk_ BK780⟩, ⟨bl_⟩⟩
  case round =>
   clear H'
   try clear c1
   try clear c2
   try clear p2
   try clear c4
   try clear c7
   try clear hcz5
   try clear hcz9
   try clear hfz5
   try clear hfz9
   obtain ⟨x4_1, rfl, HA, HK1, HO_3, BK780, HB⟩ := hrel
   cases gk with
   | zero => exact absurd HA.out (by simp [spec_Rising.l0])
   | succ k1 =>
    have H := HA.out
    clear HA
    simp only [spec_Rising.l0] at H
    by_cases c11 : x4_1 < (l0_0.length : Int)
    ·rw [if_pos c11] at H
     have c11b0 : decide (x4_1 < (l0_0.length : Int)) = true := decide_eq_true c11
     clear c11
     (first | rw [c11b0] | (simp only [i64_w, i32_w]; rw [c11b0]) | (have cz_ := c11b0; simp only [Int.ofNat_lt, Int.ofNat_le, gt_iff_lt, ge_iff_le] at cz_; rw [cz_]; clear cz_) | skip)
     obtain ⟨c12b0, H⟩ := ifd_ H
     obtain ⟨c13b0, H⟩ := ifd_ H
     obtain ⟨bq14, hbq14⟩ : ∃ b_ : Bool, b_ = (rdOf false t782 x4_1) := ⟨_, rfl⟩
     replace H : (if bq14 = true then (if ((rd_T57 l0_0 x4_1).f0) = 4 then (some false) else (spec_Rising.l0 k1 t782 (wrap64 (x4_1 + 1)) l0_0)) else (spec_Rising.l0 k1 t782 (wrap64 (x4_1 + 1)) l0_0)) = some r := by rw [← hbq14] at H; exact H
     have Nbq14 := aa_ hbq14
     clear hbq14
     by_cases c15 : bq14 = true
     ·subst c15
      replace H := ite_t_ H
      have HC16 := aa_ H
      clear H
      have hcz17 := blk_cell BK780.out
      have hfz17 := blk_frozen BK780.out
      obtain ⟨Ao18, co18, eo18⟩ := Kd.R_slice HO_3.out
      subst eo18
      have p785 : 0 ≤ (x4_1 : Int) := od_
      have q785 : x4_1 < (t782.length : Int) := od_
      obtain ⟨ad785, e785, hx785_0⟩ := Kd.at_bool (Kd.R_reads' HO_3.out).2.2 x4_1 p785 q785
      (try rw [← Nbq14.out] at hx785_0)
      cases e785
      replace p785 := eq_true p785
      replace q785 := eq_true q785
      have p786 : 0 ≤ (x4_1 : Int) := od_
      have q786 : x4_1 < (l0_0.length : Int) := od_
      obtain ⟨ad786, e786, hx786_0, hx786_1, hx786_2, hx786_3, hx786_4⟩ := at_T57 (Kd.C_below HR0_0.out HB.out) x4_1 p786 q786
      cases e786
      replace p786 := eq_true p786
      replace q786 := eq_true q786
      go_upto_if 29 with (fail)
      have H := HC16.out
      clear HC16
      by_cases c19 : ((rd_T57 l0_0 x4_1).f0) = 4
      ·rw [if_pos c19] at H
       have c19b0 : (((rd_T57 l0_0 x4_1).f0) == 4) = true := beq_iff_eq.mpr c19
       have c19b1 : (((rd_T57 l0_0 x4_1).f0) != 4) = false := bne_eq_false_iff_eq.mpr c19
       clear c19
       (first | rw [c19b0] | (simp only [i64_w, i32_w]; rw [c19b0]) | skip)
       obtain rfl := Option.some.inj H
       go_wp2
       go_ret
       exact ⟨eq_, bl_⟩
      ·rw [if_neg c19] at H
       have c19b0 : (((rd_T57 l0_0 x4_1).f0) == 4) = false := beq_eq_false_iff_ne.mpr c19
       have c19b1 : (((rd_T57 l0_0 x4_1).f0) != 4) = true := bne_iff_ne.mpr c19
       (first | rw [c19b0] | (simp only [i64_w, i32_w]; rw [c19b0]) | skip)
       have H' := aa_ H
       clear H
       go_wp2
       go_roundg k1
       case measure => have := HK1.out; omega
       case rel => exact ⟨(wrap64 (x4_1 + 1)), rf_, H', ⟨by have := HK1.out; omega⟩, ⟨rr_ HO_3⟩, ⟨bk_ BK780⟩, ⟨bl_⟩⟩
     ·replace c15 := Bool.eq_false_iff.mpr c15
      subst c15
      replace H := ite_f_ H
      have H' := aa_ H
      clear H
      have hcz20 := blk_cell BK780.out
      have hfz20 := blk_frozen BK780.out
      obtain ⟨Ao21, co21, eo21⟩ := Kd.R_slice HO_3.out
      subst eo21
      have p785 : 0 ≤ (x4_1 : Int) := od_
      have q785 : x4_1 < (t782.length : Int) := od_
      obtain ⟨ad785, e785, hx785_0⟩ := Kd.at_bool (Kd.R_reads' HO_3.out).2.2 x4_1 p785 q785
      (try rw [← Nbq14.out] at hx785_0)
      cases e785
      replace p785 := eq_true p785
      replace q785 := eq_true q785
      go_wp2
      go_roundg k1
      case measure => have := HK1.out; omega
      case rel => exact ⟨(wrap64 (x4_1 + 1)), rf_, H', ⟨by have := HK1.out; omega⟩, ⟨rr_ HO_3⟩, ⟨bk_ BK780⟩, ⟨bl_⟩⟩
    ·rw [if_neg c11] at H
     have c11b0 : decide (x4_1 < (l0_0.length : Int)) = false := decide_eq_false c11
     clear c11
     (first | rw [c11b0] | (simp only [i64_w, i32_w]; rw [c11b0]) | (have cz_ := c11b0; simp only [Int.ofNat_lt, Int.ofNat_le, gt_iff_lt, ge_iff_le] at cz_; rw [cz_]; clear cz_) | skip)
     obtain rfl := Option.some.inj H
     have hcz22 := blk_cell BK780.out
     have hfz22 := blk_frozen BK780.out
     go_wp2
     go_ret
     exact ⟨eq_, bl_⟩
 ·replace c7 := Bool.eq_false_iff.mpr c7
  subst c7
  replace H := ite_f_ H
  obtain rfl := Option.some.inj H
  go_wp2
  go_ret
  exact ⟨eq_, bl_⟩
def impl_varText.l0 : Nat → Int → List Int → Option (ByteArray)
 | 0, _, _ => none
 | k + 1, x0, x3 => if x0 > 127 then (if x3.length < 140737488355328 then (impl_varText.l0 k (x0 / 128) (x3 ++ [(Go.bits .or .i64 (Go.bits .and .i64 x0 127) 128) % 256])) else (none)) else (if x3.length < 140737488355328 then (some (strOfNums (x3 ++ [(x0) % 256]))) else (none))
def impl_varText.f (k : Nat) (a0 : Int) : Option (ByteArray) := impl_varText.l0 k a0 (([] : List Int))
set_option maxHeartbeats 8000000 in
set_option maxRecDepth 100000 in
theorem impl_varText.calls (k : Nat) (a0 : Int) (r : ByteArray) (w : World) (h : impl_varText.f k a0 = some r) :
  Calls Try.prog 46 #[.int .i64 a0] w fun e w' => e = .returned (.string r) ∧ Below w.heap.size w w' := by
 have HB := aa_ (Below.refl w.heap.size w)
 have H : (impl_varText.l0 k a0 (([] : List Int))) = some r := h
 clear h
 obtain ⟨y787, hy787⟩ : ∃ y_ : List Int, y_ = (([] : List Int)) := ⟨_, rfl⟩
 replace H : (impl_varText.l0 k a0 y787) = some r := rh_ hy787 H
 have Ny787 := aa_ hy787
 clear hy787
 have H' := aa_ H
 clear H
 go_enter Try.func46, Try.ntmps46
 go_wp2_with (first | ((with_reducible refine gD_ 4 rfl ?_); refine Kd.R_lit (Kd.int .u8) _ 5 ?hg (N := 4) ?hd (xs := ([] : List Int)) (inner := []) (ok := fun _ => True) (okp := fun _ => True) ?hr ?hp (fun _ hk => hk) trivial (Below.refl _ _) (Nat.le_refl _) (by simp) ?_; (case hd => rfl); (case hg => rfl); (case hr => first | (go_simp; done) | (go_simp; rfl)); (case hp => exact (Reps.none _ _)); intro v788 w2 ho3 hb hg_ hnew_; clear hg_ hnew_; (first | rw [← Ny787.out] at ho3 | (simp only [Int.reduceToNat] at ho3; rw [← Ny787.out] at ho3)); have HO789 := aa_ (Kd.R_lower ho3 bls_); replace HB := hbs_ hb; clear hb ho3))
 go_loopg [0, 3] k (fun kq v0 v3 w' => ∃ (x0_1 : Int) (x3_1 : List Int), v0 = .int .i64 x0_1 ∧ Aside0 (impl_varText.l0 kq x0_1 x3_1 = some r) ∧ Aside0 (kq ≤ k) ∧ Aside0 (Kd.R (Kd.int .u8) 5 w' w.heap.size (fun _ => True) v3 x3_1) ∧ Aside0 (Below w.heap.size w w'))
 case atStart => exact ⟨(a0), (y787), rf_, H', ⟨Nat.le_refl _⟩, ⟨rr_ HO789⟩, ⟨bl_⟩⟩
 case round =>
  clear H'
  try clear p2
  obtain ⟨x0_1, x3_1, rfl, HA, HK1, HO_3, HB⟩ := hrel
  cases gk with
  | zero => exact absurd HA.out (by simp [impl_varText.l0])
  | succ k1 =>
   have H := HA.out
   clear HA
   simp only [impl_varText.l0] at H
   by_cases c4 : x0_1 > 127
   ·rw [if_pos c4] at H
    have c4b0 : decide (127 < x0_1) = true := decide_eq_true c4
    clear c4
    obtain ⟨c5, H⟩ := ifn_ H
    have LMc5 := aa_ c5
    clear c5
    obtain ⟨y790, hy790⟩ : ∃ y_ : List Int, y_ = (x3_1 ++ [(Go.bits .or .i64 (Go.bits .and .i64 x0_1 127) 128) % 256]) := ⟨_, rfl⟩
    replace H : (impl_varText.l0 k1 (x0_1 / 128) y790) = some r := rh_ hy790 H
    have Ny790 := aa_ hy790
    clear hy790
    have H' := aa_ H
    clear H
    go_wp2_with (first | ((with_reducible refine gate_builtin (b := .append) (xs := #[.tmp 7, .tmp 12]) rfl ?_); at_builtin; refine Kd.R_append (Kd.int .u8) (w0 := w) w.heap.size rfl (.tmp 7) (.tmp 12) 22 5 (.int .u8 0) 1 rfl Try.underlying22 info5 rfl (by decide) (by omega) u3 x3_1 ((Go.bits .or .i64 (Go.bits .and .i64 x0_1 127) 128) % 256) [.int .u8 ((Go.bits .or .i64 (Go.bits .and .i64 x0_1 127) 128) % 256)] (fun _ => True) (fun _ => False) rfl rfl ?aP (fun _ hk => hk.elim) ?aF ?aO ?aB ?aS ?aL ?_; (case aP => exact rfl); (case aB => exact bl_); (case aF => exact (fun _ _ => trivial)); (case aO => exact (rr_ HO_3)); (case aS => exact bls_); (case aL => have := LMc5.out; omega); intro v791 w6 ho hb hg hat; rw [← Ny790.out] at ho; replace HB := aa_ (hb); have HO792 := aa_ (ho); clear HO_3; clear ho hb hg hat))
    go_roundg k1
    case measure => have := HK1.out; omega
    case rel => exact ⟨(x0_1 / 128), (y790), rf_, H', ⟨by have := HK1.out; omega⟩, ⟨rr_ HO792⟩, ⟨bl_⟩⟩
   ·rw [if_neg c4] at H
    have c4b0 : decide (127 < x0_1) = false := decide_eq_false c4
    clear c4
    obtain ⟨c7, H⟩ := ifn_ H
    have LMc7 := aa_ c7
    clear c7
    obtain ⟨y793, hy793⟩ : ∃ y_ : List Int, y_ = (x3_1 ++ [(x0_1) % 256]) := ⟨_, rfl⟩
    replace H : (some (strOfNums y793)) = some r := rh_ hy793 H
    have Ny793 := aa_ hy793
    clear hy793
    obtain rfl := Option.some.inj H
    go_wp2_with (first | ((with_reducible refine gate_builtin (b := .append) (xs := #[.tmp 16, .tmp 19]) rfl ?_); at_builtin; refine Kd.R_append (Kd.int .u8) (w0 := w) w.heap.size rfl (.tmp 16) (.tmp 19) 22 5 (.int .u8 0) 1 rfl Try.underlying22 info5 rfl (by decide) (by omega) u3 x3_1 ((x0_1) % 256) [.int .u8 ((x0_1) % 256)] (fun _ => True) (fun _ => False) rfl rfl ?aP (fun _ hk => hk.elim) ?aF ?aO ?aB ?aS ?aL ?_; (case aP => exact rfl); (case aB => exact bl_); (case aF => exact (fun _ _ => trivial)); (case aO => exact (rr_ HO_3)); (case aS => exact bls_); (case aL => have := LMc7.out; omega); intro v794 w8 ho hb hg hat; rw [← Ny793.out] at ho; replace HB := aa_ (hb); have HO795 := aa_ (ho); clear HO_3; clear ho hb hg hat; have hcv9 := own_string (P := Try.prog) Try.underlying22 Try.underlying5 Try.underlying9 (Kd.own_of_R HO795.out)))
    go_ret
    exact ⟨eq_, bl_⟩
end Go.Proofs.Ytnoklfpnmopkpaa.PE
