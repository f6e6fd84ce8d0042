import Derived.Test.YtcgnegnljffkmaaKFnExactRisingPEx0
import Derived.Test.YtcgnegnljffkmaaKFnExactRisingPEx4
-- A text of this claim: written by the session's own program out of the translation (wip/tools). Lean checks it.
namespace Go.Proofs.Ytcgnegnljffkmaa.PE
open Go.RowKit Go.Proofs.YtcgnegnljffkmaaW.PrintWords Go.Proofs.YtcgnegnljffkmaaW.PrintLast Go.Proofs.YtcgnegnljffkmaaW.PrintMore
attribute [local go_sem] max2_int min2_int max_two min_two max_three min_three max_four min_four   -- for this text's walks alone
set_option linter.unusedVariables false
set_option linter.unusedSimpArgs false
def impl_Rising.l0 : Nat → List Bool → Int → List (S105) → Option (Bool)
 | 0, _, _, _ => none
 | k + 1, x3, x4, x182000 => if x4 ≥ 0 then (if 0 ≤ x4 then (if x4 < (x182000.length : Int) then (if x4 < (x3.length : Int) then (if rdOf false x3 x4 = true then (if ((rd_T105 x182000 x4).f0) = 4 then (some false) else (if ((rd_T105 x182000 x4).f0) = 2 then (if 0 ≤ ((rd_T105 x182000 x4).f2) then (if ((rd_T105 x182000 x4).f2) < (x3.length : Int) then (if 0 ≤ ((rd_T105 x182000 x4).f3) then (if ((rd_T105 x182000 x4).f3) < (x3.length : Int) then (impl_Rising.l0 k ((x3.set (((rd_T105 x182000 x4).f2) : Int).toNat true).set (((rd_T105 x182000 x4).f3) : Int).toNat true) (wrap64 (x4 - 1)) x182000) else (none)) else (none)) else (none)) else (none)) else (if ((rd_T105 x182000 x4).f0) = 3 then (if 0 ≤ ((rd_T105 x182000 x4).f2) then (if ((rd_T105 x182000 x4).f2) < (x3.length : Int) then (if 0 ≤ ((rd_T105 x182000 x4).f3) then (if ((rd_T105 x182000 x4).f3) < (x3.length : Int) then (impl_Rising.l0 k ((x3.set (((rd_T105 x182000 x4).f2) : Int).toNat true).set (((rd_T105 x182000 x4).f3) : Int).toNat true) (wrap64 (x4 - 1)) x182000) else (none)) else (none)) else (none)) else (none)) else (impl_Rising.l0 k x3 (wrap64 (x4 - 1)) x182000)))) else (impl_Rising.l0 k x3 (wrap64 (x4 - 1)) x182000)) else (none)) else (none)) else (none)) else (some true)
def impl_Rising.f (k : Nat) (l0_0 : List (S105)) : Option (Bool) := (impl_PolicyOk.f k l0_0).bind fun t182 => (if t182 = true then (if 0 ≤ (l0_0.length : Int) then (if ((l0_0.length : Int) : Int).toNat ≤ 281474976710656 then ((some (List.replicate ((l0_0.length : Int) : Int).toNat false : List Bool)).bind fun y183 => (if 0 ≤ (wrap64 ((y183.length : Int) - 1)) then (if (wrap64 ((y183.length : Int) - 1)) < (y183.length : Int) then (impl_Rising.l0 k (y183.set ((wrap64 ((y183.length : Int) - 1)) : Int).toNat true) (wrap64 ((l0_0.length : Int) - 1)) l0_0) else (none)) else (none))) else (none)) else (none)) else (some false))
def impl_Rising.T15 : Bool × List (List Nat × List Nat) := (true, [([], []), ([], []), ([1], [1]), ([], []), ([], []), ([4], [4]), ([0, 2, 0, 1, 2], [0, 2]), ([6, 0, 1, 2], [6]), ([3, 5, 0, 1, 2, 3, 4, 5, 6, 7], [3, 5]), ([8, 7, 0, 1, 2, 3, 4, 5, 6, 7], [8])])
def impl_Rising.B15 : List Nat := [0, 0, 2, 0, 0, 16, 7, 71, 255, 511]
theorem impl_Rising.tab15 : rtab .any (opsOf Try.f26 15) = impl_Rising.T15 := by kernel_rfl
theorem impl_Rising.bits15 : waitsOk impl_Rising.T15.2 impl_Rising.B15 = true := by kernel_rfl
set_option maxHeartbeats 8000000 in
set_option maxRecDepth 100000 in
theorem impl_Rising.calls (k : Nat) (A0_0 : Option Addr) (c0_0 : Nat) (l0_0 : List (S105)) (r : Bool) (w : World) (hr0_0 : Kd.C k105 w A0_0 l0_0.length l0_0) (hc0_0 : l0_0.length ≤ c0_0) (h : impl_Rising.f k l0_0 = some r) :
  Calls Try.prog 26 #[.agg #[.slice A0_0 l0_0.length c0_0]] w fun e w' => e = .returned (.bool r) ∧ Below w.heap.size w w' := by
 have hu39 := Try.underlying39
 have hu105 := Try.underlying105
 have HR0_0 := Aside0.mk hr0_0
 have HC0_0 := Aside0.mk hc0_0
 clear hr0_0 hc0_0
 have HB := Aside0.mk (Below.refl w.heap.size w)
 have H : ((impl_PolicyOk.f k l0_0).bind fun t182 => (if t182 = true then (if 0 ≤ (l0_0.length : Int) then (if ((l0_0.length : Int) : Int).toNat ≤ 281474976710656 then ((some (List.replicate ((l0_0.length : Int) : Int).toNat false : List Bool)).bind fun y183 => (if 0 ≤ (wrap64 ((y183.length : Int) - 1)) then (if (wrap64 ((y183.length : Int) - 1)) < (y183.length : Int) then (impl_Rising.l0 k (y183.set ((wrap64 ((y183.length : Int) - 1)) : Int).toNat true) (wrap64 ((l0_0.length : Int) - 1)) l0_0) else (none)) else (none))) else (none)) else (none)) else (some false))) = some r := h
 clear h
 obtain ⟨t182, A2, H⟩ := bindE_ H
 by_cases c3 : t182 = true
 ·subst c3
  replace H := ite_t_ H
  by_cases c4 : 0 ≤ (l0_0.length : Int)
  ·rw [if_pos c4] at H
   have c4b0 := eq_true c4
   have c4b1 : decide (0 ≤ (l0_0.length : Int)) = true := decide_eq_true c4
   clear c4
   by_cases c5 : ((l0_0.length : Int) : Int).toNat ≤ 281474976710656
   ·rw [if_pos c5] at H
    have c5b0 := eq_true c5
    have c5b1 : decide (((l0_0.length : Int) : Int).toNat ≤ 281474976710656) = true := decide_eq_true c5
    clear c5
    obtain ⟨y183, hy183⟩ : ∃ y_ : List Bool, y_ = (List.replicate ((l0_0.length : Int) : Int).toNat false) := ⟨_, rfl⟩
    replace H : (if 0 ≤ (wrap64 ((y183.length : Int) - 1)) then (if (wrap64 ((y183.length : Int) - 1)) < (y183.length : Int) then (impl_Rising.l0 k (y183.set ((wrap64 ((y183.length : Int) - 1)) : Int).toNat true) (wrap64 ((l0_0.length : Int) - 1)) l0_0) else (none)) else (none)) = some r := by first | (rw [hy183]; with_reducible exact H) | (have H2_ := (Option.bind_some _ _).symm.trans H; rw [hy183]; with_reducible exact H2_) | (have H2_ := (Option.bind_some _ _).symm.trans H; with_reducible exact H2_) | with_reducible exact H | (rw [hy183]; exact H) | exact H
    have Ny183 := Aside0.mk hy183
    clear hy183
    obtain ⟨ji6, hji6⟩ : ∃ j_ : Int, (wrap64 ((y183.length : Int) - 1)) = j_ := ⟨_, rfl⟩
    replace H : (if 0 ≤ (ji6) then (if (ji6) < (y183.length : Int) then (impl_Rising.l0 k (y183.set ((ji6) : Int).toNat true) (wrap64 ((l0_0.length : Int) - 1)) l0_0) else (none)) else (none)) = some r := by first | (rw [hji6] at H; exact H) | (simp only [hji6] at H ⊢; exact H)
    (try rw [hji6] at A2)
    have hji6w : (IntKind.i64.wrap ((y183.length : Int) - 1)) = ji6 := (i64_w _).trans hji6
    by_cases c7 : 0 ≤ (ji6)
    ·rw [if_pos c7] at H
     have c7b0 : decide (0 ≤ (ji6)) = true := decide_eq_true c7
     clear c7
     by_cases c8 : (ji6) < (y183.length : Int)
     ·rw [if_pos c8] at H
      have c8b0 : decide ((ji6) < (y183.length : Int)) = true := decide_eq_true c8
      clear c8
      obtain ⟨y186, hy186⟩ : ∃ y_ : List Bool, y_ = (y183.set ((ji6) : Int).toNat true) := ⟨_, rfl⟩
      replace H : (impl_Rising.l0 k y186 (wrap64 ((l0_0.length : Int) - 1)) l0_0) = some r := by first | (rw [hy186]; with_reducible exact H) | (have H2_ := (Option.bind_some _ _).symm.trans H; rw [hy186]; with_reducible exact H2_) | (have H2_ := (Option.bind_some _ _).symm.trans H; with_reducible exact H2_) | with_reducible exact H | (rw [hy186]; exact H) | exact H
      have Ny186 := Aside0.mk hy186
      clear hy186
      have H' := Aside0.mk H
      clear H
      go_enter Try.func26, Try.ntmps26
      go_wp2_with (first | ((with_reducible refine gate_dst (N := 1) rfl ?_); refine box_event ?hg (N := 1) ?hd (cs := #[.slice A0_0 l0_0.length c0_0]) (t := 39) ?hr ?_; (case hd => rfl); (case hg => rfl); (case hr => first | (go_simp; done) | (go_simp; rfl)); intro gb181 hg w10 hbox hb; have BK181 := Aside0.mk (hbox); have GW181 := gs_ hg; have GE181 := gs_ hg; replace HB := hbs_ hb; clear hb hbox hg; have hcz11 := blk_cell BK181.out; have hfz11 := blk_frozen BK181.out) | ((with_reducible refine gate_callee (f := 21) rfl ?_); refine goesC_ (some 7) Try.func21 #[.agg #[.slice A0_0 l0_0.length c0_0]] ?_; (with_reducible refine (impl_PolicyOk.calls k _ _ l0_0 true _ ?side1 ?side2 A2.out).mono ?_); (case side1 => repeat (first | exact (Kd.C_below HR0_0.out HB.out) | (with_reducible refine Kd.C_alloc ?_ _) | (with_reducible refine Kd.C_drewN ?_ _) | (with_reducible refine Kd.C_drew ?_))); (case side2 => exact HC0_0.out); rintro e w12 ⟨rfl, hb⟩; refine ⟨_, rfl, ?_⟩; replace BK181 := bkb_ BK181 hb; replace HB := hbs_ hb; clear hb; have hcz13 := blk_cell BK181.out; have hfz13 := blk_frozen BK181.out) | ((with_reducible refine gate_dst (N := 12) rfl ?_); refine Kd.R_make Kd.bool _ 4 rfl (N := 12) rfl 109 _ _ rfl (l0_0.length : Int) rfl rfl Try.underlying109 (.bool false) 1 info4 rfl (by decide) (by omega) false (ok := fun _ => True) (okp := fun _ => True) rfl (fun _ hk => hk) trivial (of_decide_eq_true (by first | (with_reducible assumption) | assumption)) (Nat.le_trans (Nat.mul_le_mul_right _ (of_decide_eq_true (by first | (with_reducible assumption) | assumption) : (l0_0.length : Int).toNat ≤ 281474976710656)) (by omega)) (Below.refl _ _) (Nat.le_refl _) ?_; intro v184 w14 ho15 hb hg_ hnew_; clear hg_ hnew_; (first | rw [← Ny183.out] at ho15 | (simp only [Int.reduceToNat] at ho15; rw [← Ny183.out] at ho15)); have HO185 := Aside0.mk (Kd.R_lower ho15 bls_); replace BK181 := bkb_ BK181 hb; replace HB := hbs_ hb; clear hb ho15; obtain ⟨Ao16, co16, eo16⟩ := Kd.R_slice HO185.out; subst eo16; have p9 : 0 ≤ ((ji6) : Int) := of_decide_eq_true (by first | (with_reducible assumption) | assumption); have q9 : ((ji6) : Int) < ((y183.length : Int) : Int) := of_decide_eq_true (by first | (with_reducible assumption) | assumption); obtain ⟨go9, co9, eo9, gb9, gl9, cl9, HG9⟩ := Kd.R_form HO185.out (by omega); (first | cases eo9 | (injection eo9 with ea_ en_ ec_; (first | subst ea_ | (injection ea_ with ea_; subst ea_)); subst ec_; clear en_)); have GB9 := Aside0.mk gb9; have GG9 := Aside0.mk HG9; clear gb9 gl9 HG9; obtain ⟨hx9_0, hf9_0⟩ := Kd.R_celln false HO185.out ((ji6) : Int) p9 q9; replace p9 := eq_true p9; replace q9 := eq_true q9; obtain ⟨hy17_, hz17_⟩ := Kd.R_celln false HO185.out ((ji6) : Int) (of_decide_eq_true (by first | (with_reducible assumption) | assumption)) (of_decide_eq_true (by first | (with_reducible assumption) | assumption)); have HP17 := Kd.R_putg HO185.out ((ji6) : Int) true) | ((with_reducible refine gate_store (t := 4) (p := 17) rfl ?_); refine store_event (t := 4) (p := 17) (v := ?vo_w18) (w1 := (w14.setCell ⟨go9, ((ji6) : Int).toNat, none⟩ (.bool true))) ?hg ?ho ?hn ?hr ?_; (case ho => rfl); (case hg => rfl); (case hn => rfl); (case hr => first | (go_simp; done) | (go_simp; rfl)); intro w18 hw; have hg : w14.grownBy w18 (some go9) := (by rw [hw]; exact HP17.2); have hp_ : Kd.R Kd.bool 4 w18 w.heap.size (fun _ => True) (.slice (some ⟨go9, 0, none⟩) y183.length co16) y186 := (by rw [hw, Ny186.out]; exact HP17.1); clear HP17; replace BK181 := Aside0.mk (blk_grown (g := gb181) (o := .cells #[.slice A0_0 l0_0.length c0_0] 39 (0, 0)) (bk_ BK181) hg (Kd.R_ne HO185.out BK181.out (by decide))); replace HO185 := Aside0.mk (hp_); replace HB := Aside0.mk ((by rw [hw]; exact below_set (HB.out) GB9.out : Below w.heap.size w w18)); clear hg hw hp_; have hcz19 := blk_cell BK181.out; have hfz19 := blk_frozen BK181.out))
      go_loopg [4] k (fun kq v4 w' => ∃ (x3_1 : List Bool) (x4_1 : Int), v4 = .int .i64 x4_1 ∧ Aside0 (impl_Rising.l0 kq x3_1 x4_1 l0_0 = some r) ∧ Aside0 (kq ≤ k) ∧ Aside0 (Kd.R Kd.bool 4 w' w.heap.size (fun _ => True) (.slice (some ⟨go9, 0, none⟩) y183.length co16) x3_1) ∧ Aside0 (w'.heap[gb181]? = some (.cells #[(.slice A0_0 l0_0.length c0_0)] 39 (0, 0))) ∧ Aside0 (Below w.heap.size w w'))
      case atStart => exact ⟨(y186), (wrap64 ((l0_0.length : Int) - 1)), (by first | rfl | (simp; done) | (simp [*]; done)), H', ⟨Nat.le_refl _⟩, ⟨by (with_reducible repeat (first | apply Kd.R_alloc | apply Kd.R_drewN | apply Kd.R_drew)); exact HO185.out⟩, ⟨bk_ BK181⟩, ⟨bl_⟩⟩
      case round =>
       clear H'
       try clear c2
       try clear p2
       try clear c3
       try clear c4
       try clear c4b0
       try clear c4b1
       try clear c5
       try clear c5b0
       try clear c5b1
       try clear p6
       try clear c7
       try clear c7b0
       try clear c8
       try clear c8b0
       try clear p9
       try clear q9
       try clear hx9
       try clear hf9
       try clear hcz11
       try clear hcz13
       try clear hcz19
       try clear hfz11
       try clear hfz13
       try clear hfz19
       try clear hx9_0
       try clear p9
       try clear q9
       obtain ⟨x3_1, x4_1, rfl, HA, HK1, HO_3, BK181, HB⟩ := hrel
       have hl3_1 := (Kd.R_reads' HO_3.out).1
       rw [hl3_1] at HO_3
       (try simp only [hl3_1])
       (try simp only [hl3_1] at BK181)
       cases gk with
       | zero => exact absurd HA.out (by simp [impl_Rising.l0])
       | succ k1 =>
        have H := HA.out
        clear HA
        simp only [impl_Rising.l0] at H
        by_cases c20 : x4_1 ≥ 0
        ·rw [if_pos c20] at H
         have c20b0 : decide (0 ≤ x4_1) = true := decide_eq_true c20
         clear c20
         by_cases c21 : 0 ≤ x4_1
         ·rw [if_pos c21] at H
          have c21b0 : decide (0 ≤ x4_1) = true := decide_eq_true c21
          clear c21
          by_cases c22 : x4_1 < (l0_0.length : Int)
          ·rw [if_pos c22] at H
           have c22b0 : decide (x4_1 < (l0_0.length : Int)) = true := decide_eq_true c22
           clear c22
           by_cases c23 : x4_1 < (x3_1.length : Int)
           ·rw [if_pos c23] at H
            have c23b0 : decide (x4_1 < (x3_1.length : Int)) = true := decide_eq_true c23
            clear c23
            obtain ⟨bq24, hbq24⟩ : ∃ b_ : Bool, b_ = (rdOf false x3_1 x4_1) := ⟨_, rfl⟩
            replace H : (if bq24 = true then (if ((rd_T105 l0_0 x4_1).f0) = 4 then (some false) else (if ((rd_T105 l0_0 x4_1).f0) = 2 then (if 0 ≤ ((rd_T105 l0_0 x4_1).f2) then (if ((rd_T105 l0_0 x4_1).f2) < (x3_1.length : Int) then (if 0 ≤ ((rd_T105 l0_0 x4_1).f3) then (if ((rd_T105 l0_0 x4_1).f3) < (x3_1.length : Int) then (impl_Rising.l0 k1 ((x3_1.set (((rd_T105 l0_0 x4_1).f2) : Int).toNat true).set (((rd_T105 l0_0 x4_1).f3) : Int).toNat true) (wrap64 (x4_1 - 1)) l0_0) else (none)) else (none)) else (none)) else (none)) else (if ((rd_T105 l0_0 x4_1).f0) = 3 then (if 0 ≤ ((rd_T105 l0_0 x4_1).f2) then (if ((rd_T105 l0_0 x4_1).f2) < (x3_1.length : Int) then (if 0 ≤ ((rd_T105 l0_0 x4_1).f3) then (if ((rd_T105 l0_0 x4_1).f3) < (x3_1.length : Int) then (impl_Rising.l0 k1 ((x3_1.set (((rd_T105 l0_0 x4_1).f2) : Int).toNat true).set (((rd_T105 l0_0 x4_1).f3) : Int).toNat true) (wrap64 (x4_1 - 1)) l0_0) else (none)) else (none)) else (none)) else (none)) else (impl_Rising.l0 k1 x3_1 (wrap64 (x4_1 - 1)) l0_0)))) else (impl_Rising.l0 k1 x3_1 (wrap64 (x4_1 - 1)) l0_0)) = some r := by rw [← hbq24] at H; exact H
            have Nbq24 := Aside0.mk hbq24
            clear hbq24
            by_cases c25 : bq24 = true
            ·subst c25
             replace H := ite_t_ H
             by_cases c26 : ((rd_T105 l0_0 x4_1).f0) = 4
             ·rw [if_pos c26] at H
              have c26b0 : (((rd_T105 l0_0 x4_1).f0) == 4) = true := beq_iff_eq.mpr c26
              have c26b1 : (((rd_T105 l0_0 x4_1).f0) != 4) = false := bne_eq_false_iff_eq.mpr c26
              clear c26
              obtain rfl := Option.some.inj H
              have hcz27 := blk_cell BK181.out
              have hfz27 := blk_frozen BK181.out
              have p187 : 0 ≤ (x4_1 : Int) := of_decide_eq_true (by first | (with_reducible assumption) | assumption)
              have q187 : x4_1 < (l0_0.length : Int) := of_decide_eq_true (by first | (with_reducible assumption) | assumption)
              obtain ⟨ad187, e187, hx187_0, hx187_1, hx187_2, hx187_3, hx187_4⟩ := at_T105 (Kd.C_below HR0_0.out HB.out) x4_1 p187 q187
              cases e187
              replace p187 := eq_true p187
              replace q187 := eq_true q187
              go_wp2_with (first | ((with_reducible refine gate_dst (N := 5) rfl ?_); refine box_event ?hg (N := 5) ?hd (cs := #[.int .i64 0, .int .i64 0, .int .i64 0, .int .i64 0, .int .i64 0]) (t := 105) ?hr ?_; (case hd => rfl); (case hg => rfl); (case hr => first | (go_simp; done) | (go_simp; rfl)); intro gb188 hg w28 hbox hb; replace HO_3 := Aside0.mk (Kd.R_below (by (with_reducible repeat (first | apply Kd.R_alloc | apply Kd.R_drewN | apply Kd.R_drew)); exact HO_3.out) hb); have BK188 := Aside0.mk (hbox); have GW188 := gs_ hg; have GE188 := gs_ hg; replace HB := hbs_ hb; have NB181_188 := Aside0.mk ((by rw [hg]; exact Nat.ne_of_lt (blk_lt (g := gb181) (o := .cells #[.slice (some ad187) l0_0.length c0_0] 39 (0, 0)) (bk_ BK181)) : gb181 ≠ gb188)); have NB188_181 := Aside0.mk ((by rw [hg]; exact Nat.ne_of_gt (blk_lt (g := gb181) (o := .cells #[.slice (some ad187) l0_0.length c0_0] 39 (0, 0)) (bk_ BK181)) : gb188 ≠ gb181)); replace BK181 := bkb_ BK181 hb; clear hb hbox hg; have hnb29 := NB188_181.out; have hnc29 := NB181_188.out; have hcz30 := blk_cell BK188.out; have hfz30 := blk_frozen BK188.out; have p189 : 0 ≤ (x4_1 : Int) := of_decide_eq_true (by first | (with_reducible assumption) | assumption); have q189 : x4_1 < (x3_1.length : Int) := of_decide_eq_true (by first | (with_reducible assumption) | assumption); obtain ⟨ad189, e189, hx189_0⟩ := Kd.at_bool (Kd.R_reads' HO_3.out).2.2 x4_1 p189 q189; (try rw [← Nbq24.out] at hx189_0); obtain rfl : (⟨go9, 0, none⟩ : Addr) = ad189 := (by injection e189); (first | simp only [add_plain] at hx189_0 | simp only [add_at] at hx189_0 | simp only [Addr.add, Nat.zero_add] at hx189_0 | skip); have hn189_0 : (⟨go9, 0, none⟩ : Addr).block ≠ gb188 := Kd.own_blk (Kd.R_ne HO_3.out BK188.out (by decide)); have hn189_1 : (⟨go9, 0, none⟩ : Addr).block ≠ gb188 := Kd.own_blk (Kd.R_ne HO_3.out BK188.out (by decide)); have hn189_2 : (⟨go9, 0, none⟩ : Addr).block ≠ gb188 := Kd.own_blk (Kd.R_ne HO_3.out BK188.out (by decide)); have hn189_3 : (⟨go9, 0, none⟩ : Addr).block ≠ gb188 := Kd.own_blk (Kd.R_ne HO_3.out BK188.out (by decide)); have hn189_4 : (⟨go9, 0, none⟩ : Addr).block ≠ gb188 := Kd.own_blk (Kd.R_ne HO_3.out BK188.out (by decide)); replace hx189_0 := (cell_far (p := ⟨gb188, 0, none⟩) (by first | (rw [add_block]; exact hn189_0) | (show (Addr.add _ _).block ≠ _; rw [add_block]; exact hn189_0) | exact hn189_0) (.int .i64 ((rd_T105 l0_0 x4_1).f0))).trans hx189_0; replace hx189_0 := (cell_far (p := ⟨gb188, 1, none⟩) (by first | (rw [add_block]; exact hn189_1) | (show (Addr.add _ _).block ≠ _; rw [add_block]; exact hn189_1) | exact hn189_1) (.int .i64 ((rd_T105 l0_0 x4_1).f1.f0))).trans hx189_0; replace hx189_0 := (cell_far (p := ⟨gb188, 2, none⟩) (by first | (rw [add_block]; exact hn189_2) | (show (Addr.add _ _).block ≠ _; rw [add_block]; exact hn189_2) | exact hn189_2) (.int .i64 ((rd_T105 l0_0 x4_1).f1.f1))).trans hx189_0; replace hx189_0 := (cell_far (p := ⟨gb188, 3, none⟩) (by first | (rw [add_block]; exact hn189_3) | (show (Addr.add _ _).block ≠ _; rw [add_block]; exact hn189_3) | exact hn189_3) (.int .i64 ((rd_T105 l0_0 x4_1).f2))).trans hx189_0; replace hx189_0 := (cell_far (p := ⟨gb188, 4, none⟩) (by first | (rw [add_block]; exact hn189_4) | (show (Addr.add _ _).block ≠ _; rw [add_block]; exact hn189_4) | exact hn189_4) (.int .i64 ((rd_T105 l0_0 x4_1).f3))).trans hx189_0; clear hn189_0; clear hn189_1; clear hn189_2; clear hn189_3; clear hn189_4; replace p189 := eq_true p189; replace q189 := eq_true q189))
              go_ret
              exact ⟨by first | rfl | (simp [errW_none, errW_some] <;> rfl) | (simp only [← hji6]; first | rfl | (simp [errW_none, errW_some] <;> rfl)) | (simp [*, errW_none, errW_some] <;> rfl), bl_⟩
             ·rw [if_neg c26] at H
              have c26b0 : (((rd_T105 l0_0 x4_1).f0) == 4) = false := beq_eq_false_iff_ne.mpr c26
              have c26b1 : (((rd_T105 l0_0 x4_1).f0) != 4) = true := bne_iff_ne.mpr c26
              by_cases c31 : ((rd_T105 l0_0 x4_1).f0) = 2
              ·rw [if_pos c31] at H
               have c31b0 : (((rd_T105 l0_0 x4_1).f0) == 2) = true := beq_iff_eq.mpr c31
               have c31b1 : (((rd_T105 l0_0 x4_1).f0) != 2) = false := bne_eq_false_iff_eq.mpr c31
               clear c31
               by_cases c32 : 0 ≤ ((rd_T105 l0_0 x4_1).f2)
               ·rw [if_pos c32] at H
                have c32b0 : decide (0 ≤ ((rd_T105 l0_0 x4_1).f2)) = true := decide_eq_true c32
                clear c32
                by_cases c33 : ((rd_T105 l0_0 x4_1).f2) < (x3_1.length : Int)
                ·rw [if_pos c33] at H
                 have c33b0 : decide (((rd_T105 l0_0 x4_1).f2) < (x3_1.length : Int)) = true := decide_eq_true c33
                 clear c33
                 obtain ⟨y190, hy190⟩ : ∃ y_ : List Bool, y_ = (x3_1.set (((rd_T105 l0_0 x4_1).f2) : Int).toNat true) := ⟨_, rfl⟩
                 replace H : (if 0 ≤ ((rd_T105 l0_0 x4_1).f3) then (if ((rd_T105 l0_0 x4_1).f3) < (x3_1.length : Int) then (impl_Rising.l0 k1 (y190.set (((rd_T105 l0_0 x4_1).f3) : Int).toNat true) (wrap64 (x4_1 - 1)) l0_0) else (none)) else (none)) = some r := by first | (rw [hy190]; with_reducible exact H) | (have H2_ := (Option.bind_some _ _).symm.trans H; rw [hy190]; with_reducible exact H2_) | (have H2_ := (Option.bind_some _ _).symm.trans H; with_reducible exact H2_) | with_reducible exact H | (rw [hy190]; exact H) | exact H
                 have Ny190 := Aside0.mk hy190
                 clear hy190
                 by_cases c35 : 0 ≤ ((rd_T105 l0_0 x4_1).f3)
                 ·rw [if_pos c35] at H
                  have c35b0 : decide (0 ≤ ((rd_T105 l0_0 x4_1).f3)) = true := decide_eq_true c35
                  clear c35
                  by_cases c36 : ((rd_T105 l0_0 x4_1).f3) < (x3_1.length : Int)
                  ·rw [if_pos c36] at H
                   have c36b0 : decide (((rd_T105 l0_0 x4_1).f3) < (x3_1.length : Int)) = true := decide_eq_true c36
                   clear c36
                   obtain ⟨y191, hy191⟩ : ∃ y_ : List Bool, y_ = (y190.set (((rd_T105 l0_0 x4_1).f3) : Int).toNat true) := ⟨_, rfl⟩
                   replace H : (impl_Rising.l0 k1 y191 (wrap64 (x4_1 - 1)) l0_0) = some r := by first | (rw [hy191]; with_reducible exact H) | (have H2_ := (Option.bind_some _ _).symm.trans H; rw [hy191]; with_reducible exact H2_) | (have H2_ := (Option.bind_some _ _).symm.trans H; with_reducible exact H2_) | with_reducible exact H | (rw [hy191]; exact H) | exact H
                   have Ny191 := Aside0.mk hy191
                   clear hy191
                   have H' := Aside0.mk H
                   clear H
                   have hcz38 := blk_cell BK181.out
                   have hfz38 := blk_frozen BK181.out
                   have p187 : 0 ≤ (x4_1 : Int) := of_decide_eq_true (by first | (with_reducible assumption) | assumption)
                   have q187 : x4_1 < (l0_0.length : Int) := of_decide_eq_true (by first | (with_reducible assumption) | assumption)
                   obtain ⟨ad187, e187, hx187_0, hx187_1, hx187_2, hx187_3, hx187_4⟩ := at_T105 (Kd.C_below HR0_0.out HB.out) x4_1 p187 q187
                   cases e187
                   replace p187 := eq_true p187
                   replace q187 := eq_true q187
                   try go_wp2_with (first | ((with_reducible refine gate_dst (N := 5) rfl ?_); refine box_event ?hg (N := 5) ?hd (cs := #[.int .i64 0, .int .i64 0, .int .i64 0, .int .i64 0, .int .i64 0]) (t := 105) ?hr ?_; (case hd => rfl); (case hg => rfl); (case hr => first | (go_simp; done) | (go_simp; rfl)); intro gb188 hg w39 hbox hb; replace HO_3 := Aside0.mk (Kd.R_below (by (with_reducible repeat (first | apply Kd.R_alloc | apply Kd.R_drewN | apply Kd.R_drew)); exact HO_3.out) hb); have BK188 := Aside0.mk (hbox); have GW188 := gs_ hg; have GE188 := gs_ hg; replace HB := hbs_ hb; have NB181_188 := Aside0.mk ((by rw [hg]; exact Nat.ne_of_lt (blk_lt (g := gb181) (o := .cells #[.slice (some ad187) l0_0.length c0_0] 39 (0, 0)) (bk_ BK181)) : gb181 ≠ gb188)); have NB188_181 := Aside0.mk ((by rw [hg]; exact Nat.ne_of_gt (blk_lt (g := gb181) (o := .cells #[.slice (some ad187) l0_0.length c0_0] 39 (0, 0)) (bk_ BK181)) : gb188 ≠ gb181)); replace BK181 := bkb_ BK181 hb; clear hb hbox hg; have hnb40 := NB188_181.out; have hnc40 := NB181_188.out; have hcz41 := blk_cell BK188.out; have hfz41 := blk_frozen BK188.out; have p189 : 0 ≤ (x4_1 : Int) := of_decide_eq_true (by first | (with_reducible assumption) | assumption); have q189 : x4_1 < (x3_1.length : Int) := of_decide_eq_true (by first | (with_reducible assumption) | assumption); obtain ⟨ad189, e189, hx189_0⟩ := Kd.at_bool (Kd.R_reads' HO_3.out).2.2 x4_1 p189 q189; (try rw [← Nbq24.out] at hx189_0); obtain rfl : (⟨go9, 0, none⟩ : Addr) = ad189 := (by injection e189); (first | simp only [add_plain] at hx189_0 | simp only [add_at] at hx189_0 | simp only [Addr.add, Nat.zero_add] at hx189_0 | skip); have hn189_0 : (⟨go9, 0, none⟩ : Addr).block ≠ gb188 := Kd.own_blk (Kd.R_ne HO_3.out BK188.out (by decide)); have hn189_1 : (⟨go9, 0, none⟩ : Addr).block ≠ gb188 := Kd.own_blk (Kd.R_ne HO_3.out BK188.out (by decide)); have hn189_2 : (⟨go9, 0, none⟩ : Addr).block ≠ gb188 := Kd.own_blk (Kd.R_ne HO_3.out BK188.out (by decide)); have hn189_3 : (⟨go9, 0, none⟩ : Addr).block ≠ gb188 := Kd.own_blk (Kd.R_ne HO_3.out BK188.out (by decide)); have hn189_4 : (⟨go9, 0, none⟩ : Addr).block ≠ gb188 := Kd.own_blk (Kd.R_ne HO_3.out BK188.out (by decide)); replace hx189_0 := (cell_far (p := ⟨gb188, 0, none⟩) (by first | (rw [add_block]; exact hn189_0) | (show (Addr.add _ _).block ≠ _; rw [add_block]; exact hn189_0) | exact hn189_0) (.int .i64 ((rd_T105 l0_0 x4_1).f0))).trans hx189_0; replace hx189_0 := (cell_far (p := ⟨gb188, 1, none⟩) (by first | (rw [add_block]; exact hn189_1) | (show (Addr.add _ _).block ≠ _; rw [add_block]; exact hn189_1) | exact hn189_1) (.int .i64 ((rd_T105 l0_0 x4_1).f1.f0))).trans hx189_0; replace hx189_0 := (cell_far (p := ⟨gb188, 2, none⟩) (by first | (rw [add_block]; exact hn189_2) | (show (Addr.add _ _).block ≠ _; rw [add_block]; exact hn189_2) | exact hn189_2) (.int .i64 ((rd_T105 l0_0 x4_1).f1.f1))).trans hx189_0; replace hx189_0 := (cell_far (p := ⟨gb188, 3, none⟩) (by first | (rw [add_block]; exact hn189_3) | (show (Addr.add _ _).block ≠ _; rw [add_block]; exact hn189_3) | exact hn189_3) (.int .i64 ((rd_T105 l0_0 x4_1).f2))).trans hx189_0; replace hx189_0 := (cell_far (p := ⟨gb188, 4, none⟩) (by first | (rw [add_block]; exact hn189_4) | (show (Addr.add _ _).block ≠ _; rw [add_block]; exact hn189_4) | exact hn189_4) (.int .i64 ((rd_T105 l0_0 x4_1).f3))).trans hx189_0; clear hn189_0; clear hn189_1; clear hn189_2; clear hn189_3; clear hn189_4; replace p189 := eq_true p189; replace q189 := eq_true q189))
                   have n0_ : Aside0 (Kd.R Kd.bool 4 (((((w39.setCell ⟨gb188, 0, none⟩ (.int .i64 ((rd_T105 l0_0 x4_1).f0))).setCell ⟨gb188, 1, none⟩ (.int .i64 ((rd_T105 l0_0 x4_1).f1.f0))).setCell ⟨gb188, 2, none⟩ (.int .i64 ((rd_T105 l0_0 x4_1).f1.f1))).setCell ⟨gb188, 3, none⟩ (.int .i64 ((rd_T105 l0_0 x4_1).f2))).setCell ⟨gb188, 4, none⟩ (.int .i64 ((rd_T105 l0_0 x4_1).f3))) w.heap.size (fun _ => True) (.slice (some ⟨go9, 0, none⟩) x3_1.length co16) x3_1) := ⟨by (with_reducible repeat (first | apply Kd.R_alloc | apply Kd.R_drewN | apply Kd.R_drew)); exact Kd.R_mono (Kd.R_far (p := ⟨gb188, 4, none⟩) (Kd.R_far (p := ⟨gb188, 3, none⟩) (Kd.R_far (p := ⟨gb188, 2, none⟩) (Kd.R_far (p := ⟨gb188, 1, none⟩) (Kd.R_far (p := ⟨gb188, 0, none⟩) (Kd.R_types HO_3.out BK188.out (by decide)) (fun _ hk => hk.2) (.int .i64 ((rd_T105 l0_0 x4_1).f0))) (fun _ hk => hk.2) (.int .i64 ((rd_T105 l0_0 x4_1).f1.f0))) (fun _ hk => hk.2) (.int .i64 ((rd_T105 l0_0 x4_1).f1.f1))) (fun _ hk => hk.2) (.int .i64 ((rd_T105 l0_0 x4_1).f2))) (fun _ hk => hk.2) (.int .i64 ((rd_T105 l0_0 x4_1).f3))) (fun _ hk => trivial)⟩
                   have n1_ : Aside0 ((((((w39.setCell ⟨gb188, 0, none⟩ (.int .i64 ((rd_T105 l0_0 x4_1).f0))).setCell ⟨gb188, 1, none⟩ (.int .i64 ((rd_T105 l0_0 x4_1).f1.f0))).setCell ⟨gb188, 2, none⟩ (.int .i64 ((rd_T105 l0_0 x4_1).f1.f1))).setCell ⟨gb188, 3, none⟩ (.int .i64 ((rd_T105 l0_0 x4_1).f2))).setCell ⟨gb188, 4, none⟩ (.int .i64 ((rd_T105 l0_0 x4_1).f3))).heap[gb181]? = some (.cells #[.slice (some ad187) l0_0.length c0_0] 39 (0, 0))) := ⟨bk_ BK181⟩
                   have n2_ : Aside0 ((((((w39.setCell ⟨gb188, 0, none⟩ (.int .i64 ((rd_T105 l0_0 x4_1).f0))).setCell ⟨gb188, 1, none⟩ (.int .i64 ((rd_T105 l0_0 x4_1).f1.f0))).setCell ⟨gb188, 2, none⟩ (.int .i64 ((rd_T105 l0_0 x4_1).f1.f1))).setCell ⟨gb188, 3, none⟩ (.int .i64 ((rd_T105 l0_0 x4_1).f2))).setCell ⟨gb188, 4, none⟩ (.int .i64 ((rd_T105 l0_0 x4_1).f3))).heap[gb188]? = some (.cells #[.int .i64 ((rd_T105 l0_0 x4_1).f0), .int .i64 ((rd_T105 l0_0 x4_1).f1.f0), .int .i64 ((rd_T105 l0_0 x4_1).f1.f1), .int .i64 ((rd_T105 l0_0 x4_1).f2), .int .i64 ((rd_T105 l0_0 x4_1).f3)] 105 (0, 0))) := ⟨bk_ BK188⟩
                   have n3_ : Aside0 (Below w.heap.size w (((((w39.setCell ⟨gb188, 0, none⟩ (.int .i64 ((rd_T105 l0_0 x4_1).f0))).setCell ⟨gb188, 1, none⟩ (.int .i64 ((rd_T105 l0_0 x4_1).f1.f0))).setCell ⟨gb188, 2, none⟩ (.int .i64 ((rd_T105 l0_0 x4_1).f1.f1))).setCell ⟨gb188, 3, none⟩ (.int .i64 ((rd_T105 l0_0 x4_1).f2))).setCell ⟨gb188, 4, none⟩ (.int .i64 ((rd_T105 l0_0 x4_1).f3)))) := ⟨bl_⟩
                   (try clear HO_3)
                   (try clear BK181)
                   (try clear BK188)
                   (try clear HB)
                   generalize (((((w39.setCell ⟨gb188, 0, none⟩ (.int .i64 ((rd_T105 l0_0 x4_1).f0))).setCell ⟨gb188, 1, none⟩ (.int .i64 ((rd_T105 l0_0 x4_1).f1.f0))).setCell ⟨gb188, 2, none⟩ (.int .i64 ((rd_T105 l0_0 x4_1).f1.f1))).setCell ⟨gb188, 3, none⟩ (.int .i64 ((rd_T105 l0_0 x4_1).f2))).setCell ⟨gb188, 4, none⟩ (.int .i64 ((rd_T105 l0_0 x4_1).f3))) = w42 at n0_ n1_ n2_ n3_ ⊢
                   have HO_3 := n0_
                   have BK181 := n1_
                   have BK188 := n2_
                   have HB := n3_
                   clear n0_ n1_ n2_ n3_
                   replace HO_3 := Aside0.mk (Kd.R_drew HO_3.out)
                   replace BK181 := Aside0.mk (blk_drew BK181.out)
                   replace BK188 := Aside0.mk (blk_drew BK188.out)
                   replace HB := Aside0.mk (below_drew1 HB.out)
                   have p34 : 0 ≤ (((rd_T105 l0_0 x4_1).f2) : Int) := of_decide_eq_true (by first | (with_reducible assumption) | assumption)
                   have q34 : (((rd_T105 l0_0 x4_1).f2) : Int) < ((x3_1.length : Int) : Int) := of_decide_eq_true (by first | (with_reducible assumption) | assumption)
                   obtain ⟨hx34_0, hf34_0⟩ := Kd.R_celln false HO_3.out (((rd_T105 l0_0 x4_1).f2) : Int) p34 q34
                   replace p34 := eq_true p34
                   replace q34 := eq_true q34
                   have HP44 := Kd.R_putn HO_3.out (((rd_T105 l0_0 x4_1).f2) : Int) true
                   rw [← Ny190.out] at HP44
                   have HQ44 := Aside0.mk HP44
                   clear HP44
                   have p37 : 0 ≤ (((rd_T105 l0_0 x4_1).f3) : Int) := of_decide_eq_true (by first | (with_reducible assumption) | assumption)
                   have q37 : (((rd_T105 l0_0 x4_1).f3) : Int) < ((x3_1.length : Int) : Int) := of_decide_eq_true (by first | (with_reducible assumption) | assumption)
                   obtain ⟨hx37_0, hf37_0⟩ := Kd.R_celln false HQ44.out (((rd_T105 l0_0 x4_1).f3) : Int) p37 q37
                   replace p37 := eq_true p37
                   replace q37 := eq_true q37
                   have HP45 := Kd.R_putn HQ44.out (((rd_T105 l0_0 x4_1).f3) : Int) true
                   rw [← Ny191.out] at HP45
                   have HQ45 := Aside0.mk HP45
                   clear HP45
                   refine start_ (n := 10) (S := fun w' => w'.cell? ⟨gb188, 0, none⟩ = some (.int .i64 ((rd_T105 l0_0 x4_1).f0)) ∧ w'.cell? ⟨gb188, 1, none⟩ = some (.int .i64 ((rd_T105 l0_0 x4_1).f1.f0)) ∧ w'.cell? ⟨gb188, 2, none⟩ = some (.int .i64 ((rd_T105 l0_0 x4_1).f1.f1)) ∧ w'.cell? ⟨gb188, 3, none⟩ = some (.int .i64 ((rd_T105 l0_0 x4_1).f2)) ∧ w'.cell? ⟨gb188, 4, none⟩ = some (.int .i64 ((rd_T105 l0_0 x4_1).f3))) (ds := [9]) #[false, false, false, false, false, false, false, false, false, false] (by kernel_rfl) rfl rfl ⟨(blk_cell BK188.out 0).trans rfl, (blk_cell BK188.out 1).trans rfl, (blk_cell BK188.out 2).trans rfl, (blk_cell BK188.out 3).trans rfl, (blk_cell BK188.out 4).trans rfl⟩ (fun hHeld => ?_); refine with_tabW impl_Rising.tab15 impl_Rising.bits15 (fun HT_ HW_ => ?_)
                   generalize w42.drew = w43 at HO_3 BK181 BK188 HB HQ44 HQ45 hf34_0 hf37_0 hx34_0 hx37_0 hHeld ⊢
                   refine pureZ_ (i := 0) (some 43) #[true, false, false, false, false, false, false, false, false, false] (any_of HT_.out (by kernel_rfl)) ?_
                   refine pureZ_ (i := 1) (some 44) #[true, true, false, false, false, false, false, false, false, false] (any_of HT_.out (by kernel_rfl)) ?_
                   refine pureZ_ (i := 3) (some 46) #[true, true, false, true, false, false, false, false, false, false] (any_of HT_.out (by kernel_rfl)) ?_
                   refine pureZ_ (i := 4) (some 47) #[true, true, false, true, true, false, false, false, false, false] (any_of HT_.out (by kernel_rfl)) ?_
                   refine takeZ_ (i := 2) (some 45) #[true, true, true, true, true, false, false, false, false, false] (take_ofW HT_.out HW_.out (by kernel_rfl)) hHeld ?_
                   refine pureZ_ (i := 6) (some 49) #[true, true, true, true, true, false, true, false, false, false] (any_of HT_.out (by kernel_rfl)) ?_
                   refine takeZ_ (i := 5) (some 48) #[true, true, true, true, true, true, true, false, false, false] (take_ofW HT_.out HW_.out (by kernel_rfl)) hHeld ?_
                   refine one_ (i := 7) (N := none) #[true, true, true, true, true, true, true, true, false, false] rfl rfl (one_of HT_.out (by kernel_rfl)) (by decide) (fun K hK => ?_)
                   refine skip_ (w1 := ?_) (by rfl) rfl ?_ ?_
                   rotate_left
                   ·go_simp
                    rfl
                   refine hK.out _ _ ⟨((cell_far (p := ⟨go9, _, none⟩) (show gb188 ≠ go9 from Ne.symm (Kd.own_blk (ad := ⟨go9, 0, none⟩) (Kd.R_ne HO_3.out BK188.out (by decide)))) _).trans (hHeld.1)), ((cell_far (p := ⟨go9, _, none⟩) (show gb188 ≠ go9 from Ne.symm (Kd.own_blk (ad := ⟨go9, 0, none⟩) (Kd.R_ne HO_3.out BK188.out (by decide)))) _).trans (hHeld.2.1)), ((cell_far (p := ⟨go9, _, none⟩) (show gb188 ≠ go9 from Ne.symm (Kd.own_blk (ad := ⟨go9, 0, none⟩) (Kd.R_ne HO_3.out BK188.out (by decide)))) _).trans (hHeld.2.2.1)), ((cell_far (p := ⟨go9, _, none⟩) (show gb188 ≠ go9 from Ne.symm (Kd.own_blk (ad := ⟨go9, 0, none⟩) (Kd.R_ne HO_3.out BK188.out (by decide)))) _).trans (hHeld.2.2.2.1)), ((cell_far (p := ⟨go9, _, none⟩) (show gb188 ≠ go9 from Ne.symm (Kd.own_blk (ad := ⟨go9, 0, none⟩) (Kd.R_ne HO_3.out BK188.out (by decide)))) _).trans (hHeld.2.2.2.2))⟩ (fun hHeld => ?_)
                   clear hK K
                   refine pureZ_ (i := 8) (some 50) #[true, true, true, true, true, true, true, true, true, false] (any_of HT_.out (by kernel_rfl)) ?_
                   refine last_ (i := 9) (N := none) #[true, true, true, true, true, true, true, true, true, true] rfl rfl (one_of HT_.out (by kernel_rfl)) (by decide) (fun K hK => ?_)
                   refine skip_ (w1 := ?_) (by rfl) rfl ?_ ?_
                   rotate_left
                   ·go_simp
                    rfl
                   refine hK.out _ _ ?_
                   clear hK K
                   refine done_ (done_of HT_.out (by kernel_rfl)) ?_
                   try go_wp2
                   (try simp only [← hl3_1])
                   go_roundg k1
                   case measure => have := HK1.out; omega
                   case rel => exact ⟨(y191), (wrap64 (x4_1 - 1)), (by first | rfl | (simp; done) | (simp [*]; done)), H', ⟨by have := HK1.out; omega⟩, ⟨by (try simp only [hl3_1]); (with_reducible repeat (first | apply Kd.R_alloc | apply Kd.R_drewN | apply Kd.R_drew)); exact HQ45.out⟩, ⟨by (try simp only [hl3_1]); (with_reducible repeat (first | refine blk_drewN ?_ _ | refine blk_drew ?_ | refine blk_alloc ?_ _)); refine blk_far ?_ (by have h_ := Kd.R_ne HO_3.out BK181.out (by decide); intro e_; exact h_ (by rw [e_]; rfl)) _; (with_reducible repeat (first | refine blk_drewN ?_ _ | refine blk_drew ?_ | refine blk_alloc ?_ _)); refine blk_far ?_ (by have h_ := Kd.R_ne HO_3.out BK181.out (by decide); intro e_; exact h_ (by rw [e_]; rfl)) _; (with_reducible repeat (first | refine blk_drewN ?_ _ | refine blk_drew ?_ | refine blk_alloc ?_ _)); exact BK181.out⟩, ⟨by repeat (first | (with_reducible first | exact HB.out | apply below_alloc | apply pw_below_drewN | apply below_drew1 | refine below_set ?_ GB9.out | refine below_set ?_ GB9.out | refine below_set ?_ GE181.out | refine below_set ?_ GE188.out) | exact HB.out)⟩⟩
                  ·rw [if_neg c36] at H
                   exact absurd H (by simp)
                 ·rw [if_neg c35] at H
                  exact absurd H (by simp)
                ·rw [if_neg c33] at H
                 exact absurd H (by simp)
               ·rw [if_neg c32] at H
                exact absurd H (by simp)
              ·rw [if_neg c31] at H
               have c31b0 : (((rd_T105 l0_0 x4_1).f0) == 2) = false := beq_eq_false_iff_ne.mpr c31
               have c31b1 : (((rd_T105 l0_0 x4_1).f0) != 2) = true := bne_iff_ne.mpr c31
               by_cases c46 : ((rd_T105 l0_0 x4_1).f0) = 3
               ·rw [if_pos c46] at H
                have c46b0 : (((rd_T105 l0_0 x4_1).f0) == 3) = true := beq_iff_eq.mpr c46
                have c46b1 : (((rd_T105 l0_0 x4_1).f0) != 3) = false := bne_eq_false_iff_eq.mpr c46
                clear c46
                by_cases c47 : 0 ≤ ((rd_T105 l0_0 x4_1).f2)
                ·rw [if_pos c47] at H
                 have c47b0 : decide (0 ≤ ((rd_T105 l0_0 x4_1).f2)) = true := decide_eq_true c47
                 clear c47
                 by_cases c48 : ((rd_T105 l0_0 x4_1).f2) < (x3_1.length : Int)
                 ·rw [if_pos c48] at H
                  have c48b0 : decide (((rd_T105 l0_0 x4_1).f2) < (x3_1.length : Int)) = true := decide_eq_true c48
                  clear c48
                  obtain ⟨y192, hy192⟩ : ∃ y_ : List Bool, y_ = (x3_1.set (((rd_T105 l0_0 x4_1).f2) : Int).toNat true) := ⟨_, rfl⟩
                  replace H : (if 0 ≤ ((rd_T105 l0_0 x4_1).f3) then (if ((rd_T105 l0_0 x4_1).f3) < (x3_1.length : Int) then (impl_Rising.l0 k1 (y192.set (((rd_T105 l0_0 x4_1).f3) : Int).toNat true) (wrap64 (x4_1 - 1)) l0_0) else (none)) else (none)) = some r := by first | (rw [hy192]; with_reducible exact H) | (have H2_ := (Option.bind_some _ _).symm.trans H; rw [hy192]; with_reducible exact H2_) | (have H2_ := (Option.bind_some _ _).symm.trans H; with_reducible exact H2_) | with_reducible exact H | (rw [hy192]; exact H) | exact H
                  have Ny192 := Aside0.mk hy192
                  clear hy192
                  by_cases c50 : 0 ≤ ((rd_T105 l0_0 x4_1).f3)
                  ·rw [if_pos c50] at H
                   have c50b0 : decide (0 ≤ ((rd_T105 l0_0 x4_1).f3)) = true := decide_eq_true c50
                   clear c50
                   by_cases c51 : ((rd_T105 l0_0 x4_1).f3) < (x3_1.length : Int)
                   ·rw [if_pos c51] at H
                    have c51b0 : decide (((rd_T105 l0_0 x4_1).f3) < (x3_1.length : Int)) = true := decide_eq_true c51
                    clear c51
                    obtain ⟨y193, hy193⟩ : ∃ y_ : List Bool, y_ = (y192.set (((rd_T105 l0_0 x4_1).f3) : Int).toNat true) := ⟨_, rfl⟩
                    replace H : (impl_Rising.l0 k1 y193 (wrap64 (x4_1 - 1)) l0_0) = some r := by first | (rw [hy193]; with_reducible exact H) | (have H2_ := (Option.bind_some _ _).symm.trans H; rw [hy193]; with_reducible exact H2_) | (have H2_ := (Option.bind_some _ _).symm.trans H; with_reducible exact H2_) | with_reducible exact H | (rw [hy193]; exact H) | exact H
                    have Ny193 := Aside0.mk hy193
                    clear hy193
                    have H' := Aside0.mk H
                    clear H
                    have hcz53 := blk_cell BK181.out
                    have hfz53 := blk_frozen BK181.out
                    have p187 : 0 ≤ (x4_1 : Int) := of_decide_eq_true (by first | (with_reducible assumption) | assumption)
                    have q187 : x4_1 < (l0_0.length : Int) := of_decide_eq_true (by first | (with_reducible assumption) | assumption)
                    obtain ⟨ad187, e187, hx187_0, hx187_1, hx187_2, hx187_3, hx187_4⟩ := at_T105 (Kd.C_below HR0_0.out HB.out) x4_1 p187 q187
                    cases e187
                    replace p187 := eq_true p187
                    replace q187 := eq_true q187
                    try go_wp2_with (first | ((with_reducible refine gate_dst (N := 5) rfl ?_); refine box_event ?hg (N := 5) ?hd (cs := #[.int .i64 0, .int .i64 0, .int .i64 0, .int .i64 0, .int .i64 0]) (t := 105) ?hr ?_; (case hd => rfl); (case hg => rfl); (case hr => first | (go_simp; done) | (go_simp; rfl)); intro gb188 hg w54 hbox hb; replace HO_3 := Aside0.mk (Kd.R_below (by (with_reducible repeat (first | apply Kd.R_alloc | apply Kd.R_drewN | apply Kd.R_drew)); exact HO_3.out) hb); have BK188 := Aside0.mk (hbox); have GW188 := gs_ hg; have GE188 := gs_ hg; replace HB := hbs_ hb; have NB181_188 := Aside0.mk ((by rw [hg]; exact Nat.ne_of_lt (blk_lt (g := gb181) (o := .cells #[.slice (some ad187) l0_0.length c0_0] 39 (0, 0)) (bk_ BK181)) : gb181 ≠ gb188)); have NB188_181 := Aside0.mk ((by rw [hg]; exact Nat.ne_of_gt (blk_lt (g := gb181) (o := .cells #[.slice (some ad187) l0_0.length c0_0] 39 (0, 0)) (bk_ BK181)) : gb188 ≠ gb181)); replace BK181 := bkb_ BK181 hb; clear hb hbox hg; have hnb55 := NB188_181.out; have hnc55 := NB181_188.out; have hcz56 := blk_cell BK188.out; have hfz56 := blk_frozen BK188.out; have p189 : 0 ≤ (x4_1 : Int) := of_decide_eq_true (by first | (with_reducible assumption) | assumption); have q189 : x4_1 < (x3_1.length : Int) := of_decide_eq_true (by first | (with_reducible assumption) | assumption); obtain ⟨ad189, e189, hx189_0⟩ := Kd.at_bool (Kd.R_reads' HO_3.out).2.2 x4_1 p189 q189; (try rw [← Nbq24.out] at hx189_0); obtain rfl : (⟨go9, 0, none⟩ : Addr) = ad189 := (by injection e189); (first | simp only [add_plain] at hx189_0 | simp only [add_at] at hx189_0 | simp only [Addr.add, Nat.zero_add] at hx189_0 | skip); have hn189_0 : (⟨go9, 0, none⟩ : Addr).block ≠ gb188 := Kd.own_blk (Kd.R_ne HO_3.out BK188.out (by decide)); have hn189_1 : (⟨go9, 0, none⟩ : Addr).block ≠ gb188 := Kd.own_blk (Kd.R_ne HO_3.out BK188.out (by decide)); have hn189_2 : (⟨go9, 0, none⟩ : Addr).block ≠ gb188 := Kd.own_blk (Kd.R_ne HO_3.out BK188.out (by decide)); have hn189_3 : (⟨go9, 0, none⟩ : Addr).block ≠ gb188 := Kd.own_blk (Kd.R_ne HO_3.out BK188.out (by decide)); have hn189_4 : (⟨go9, 0, none⟩ : Addr).block ≠ gb188 := Kd.own_blk (Kd.R_ne HO_3.out BK188.out (by decide)); replace hx189_0 := (cell_far (p := ⟨gb188, 0, none⟩) (by first | (rw [add_block]; exact hn189_0) | (show (Addr.add _ _).block ≠ _; rw [add_block]; exact hn189_0) | exact hn189_0) (.int .i64 ((rd_T105 l0_0 x4_1).f0))).trans hx189_0; replace hx189_0 := (cell_far (p := ⟨gb188, 1, none⟩) (by first | (rw [add_block]; exact hn189_1) | (show (Addr.add _ _).block ≠ _; rw [add_block]; exact hn189_1) | exact hn189_1) (.int .i64 ((rd_T105 l0_0 x4_1).f1.f0))).trans hx189_0; replace hx189_0 := (cell_far (p := ⟨gb188, 2, none⟩) (by first | (rw [add_block]; exact hn189_2) | (show (Addr.add _ _).block ≠ _; rw [add_block]; exact hn189_2) | exact hn189_2) (.int .i64 ((rd_T105 l0_0 x4_1).f1.f1))).trans hx189_0; replace hx189_0 := (cell_far (p := ⟨gb188, 3, none⟩) (by first | (rw [add_block]; exact hn189_3) | (show (Addr.add _ _).block ≠ _; rw [add_block]; exact hn189_3) | exact hn189_3) (.int .i64 ((rd_T105 l0_0 x4_1).f2))).trans hx189_0; replace hx189_0 := (cell_far (p := ⟨gb188, 4, none⟩) (by first | (rw [add_block]; exact hn189_4) | (show (Addr.add _ _).block ≠ _; rw [add_block]; exact hn189_4) | exact hn189_4) (.int .i64 ((rd_T105 l0_0 x4_1).f3))).trans hx189_0; clear hn189_0; clear hn189_1; clear hn189_2; clear hn189_3; clear hn189_4; replace p189 := eq_true p189; replace q189 := eq_true q189))
                    have n0_ : Aside0 (Kd.R Kd.bool 4 (((((w54.setCell ⟨gb188, 0, none⟩ (.int .i64 ((rd_T105 l0_0 x4_1).f0))).setCell ⟨gb188, 1, none⟩ (.int .i64 ((rd_T105 l0_0 x4_1).f1.f0))).setCell ⟨gb188, 2, none⟩ (.int .i64 ((rd_T105 l0_0 x4_1).f1.f1))).setCell ⟨gb188, 3, none⟩ (.int .i64 ((rd_T105 l0_0 x4_1).f2))).setCell ⟨gb188, 4, none⟩ (.int .i64 ((rd_T105 l0_0 x4_1).f3))) w.heap.size (fun _ => True) (.slice (some ⟨go9, 0, none⟩) x3_1.length co16) x3_1) := ⟨by (with_reducible repeat (first | apply Kd.R_alloc | apply Kd.R_drewN | apply Kd.R_drew)); exact Kd.R_mono (Kd.R_far (p := ⟨gb188, 4, none⟩) (Kd.R_far (p := ⟨gb188, 3, none⟩) (Kd.R_far (p := ⟨gb188, 2, none⟩) (Kd.R_far (p := ⟨gb188, 1, none⟩) (Kd.R_far (p := ⟨gb188, 0, none⟩) (Kd.R_types HO_3.out BK188.out (by decide)) (fun _ hk => hk.2) (.int .i64 ((rd_T105 l0_0 x4_1).f0))) (fun _ hk => hk.2) (.int .i64 ((rd_T105 l0_0 x4_1).f1.f0))) (fun _ hk => hk.2) (.int .i64 ((rd_T105 l0_0 x4_1).f1.f1))) (fun _ hk => hk.2) (.int .i64 ((rd_T105 l0_0 x4_1).f2))) (fun _ hk => hk.2) (.int .i64 ((rd_T105 l0_0 x4_1).f3))) (fun _ hk => trivial)⟩
                    have n1_ : Aside0 ((((((w54.setCell ⟨gb188, 0, none⟩ (.int .i64 ((rd_T105 l0_0 x4_1).f0))).setCell ⟨gb188, 1, none⟩ (.int .i64 ((rd_T105 l0_0 x4_1).f1.f0))).setCell ⟨gb188, 2, none⟩ (.int .i64 ((rd_T105 l0_0 x4_1).f1.f1))).setCell ⟨gb188, 3, none⟩ (.int .i64 ((rd_T105 l0_0 x4_1).f2))).setCell ⟨gb188, 4, none⟩ (.int .i64 ((rd_T105 l0_0 x4_1).f3))).heap[gb181]? = some (.cells #[.slice (some ad187) l0_0.length c0_0] 39 (0, 0))) := ⟨bk_ BK181⟩
                    have n2_ : Aside0 ((((((w54.setCell ⟨gb188, 0, none⟩ (.int .i64 ((rd_T105 l0_0 x4_1).f0))).setCell ⟨gb188, 1, none⟩ (.int .i64 ((rd_T105 l0_0 x4_1).f1.f0))).setCell ⟨gb188, 2, none⟩ (.int .i64 ((rd_T105 l0_0 x4_1).f1.f1))).setCell ⟨gb188, 3, none⟩ (.int .i64 ((rd_T105 l0_0 x4_1).f2))).setCell ⟨gb188, 4, none⟩ (.int .i64 ((rd_T105 l0_0 x4_1).f3))).heap[gb188]? = some (.cells #[.int .i64 ((rd_T105 l0_0 x4_1).f0), .int .i64 ((rd_T105 l0_0 x4_1).f1.f0), .int .i64 ((rd_T105 l0_0 x4_1).f1.f1), .int .i64 ((rd_T105 l0_0 x4_1).f2), .int .i64 ((rd_T105 l0_0 x4_1).f3)] 105 (0, 0))) := ⟨bk_ BK188⟩
                    have n3_ : Aside0 (Below w.heap.size w (((((w54.setCell ⟨gb188, 0, none⟩ (.int .i64 ((rd_T105 l0_0 x4_1).f0))).setCell ⟨gb188, 1, none⟩ (.int .i64 ((rd_T105 l0_0 x4_1).f1.f0))).setCell ⟨gb188, 2, none⟩ (.int .i64 ((rd_T105 l0_0 x4_1).f1.f1))).setCell ⟨gb188, 3, none⟩ (.int .i64 ((rd_T105 l0_0 x4_1).f2))).setCell ⟨gb188, 4, none⟩ (.int .i64 ((rd_T105 l0_0 x4_1).f3)))) := ⟨bl_⟩
                    (try clear HO_3)
                    (try clear BK181)
                    (try clear BK188)
                    (try clear HB)
                    generalize (((((w54.setCell ⟨gb188, 0, none⟩ (.int .i64 ((rd_T105 l0_0 x4_1).f0))).setCell ⟨gb188, 1, none⟩ (.int .i64 ((rd_T105 l0_0 x4_1).f1.f0))).setCell ⟨gb188, 2, none⟩ (.int .i64 ((rd_T105 l0_0 x4_1).f1.f1))).setCell ⟨gb188, 3, none⟩ (.int .i64 ((rd_T105 l0_0 x4_1).f2))).setCell ⟨gb188, 4, none⟩ (.int .i64 ((rd_T105 l0_0 x4_1).f3))) = w57 at n0_ n1_ n2_ n3_ ⊢
                    have HO_3 := n0_
                    have BK181 := n1_
                    have BK188 := n2_
                    have HB := n3_
                    clear n0_ n1_ n2_ n3_
                    replace HO_3 := Aside0.mk (Kd.R_drew HO_3.out)
                    replace BK181 := Aside0.mk (blk_drew BK181.out)
                    replace BK188 := Aside0.mk (blk_drew BK188.out)
                    replace HB := Aside0.mk (below_drew1 HB.out)
                    have p49 : 0 ≤ (((rd_T105 l0_0 x4_1).f2) : Int) := of_decide_eq_true (by first | (with_reducible assumption) | assumption)
                    have q49 : (((rd_T105 l0_0 x4_1).f2) : Int) < ((x3_1.length : Int) : Int) := of_decide_eq_true (by first | (with_reducible assumption) | assumption)
                    obtain ⟨hx49_0, hf49_0⟩ := Kd.R_celln false HO_3.out (((rd_T105 l0_0 x4_1).f2) : Int) p49 q49
                    replace p49 := eq_true p49
                    replace q49 := eq_true q49
                    have HP59 := Kd.R_putn HO_3.out (((rd_T105 l0_0 x4_1).f2) : Int) true
                    rw [← Ny192.out] at HP59
                    have HQ59 := Aside0.mk HP59
                    clear HP59
                    have p52 : 0 ≤ (((rd_T105 l0_0 x4_1).f3) : Int) := of_decide_eq_true (by first | (with_reducible assumption) | assumption)
                    have q52 : (((rd_T105 l0_0 x4_1).f3) : Int) < ((x3_1.length : Int) : Int) := of_decide_eq_true (by first | (with_reducible assumption) | assumption)
                    obtain ⟨hx52_0, hf52_0⟩ := Kd.R_celln false HQ59.out (((rd_T105 l0_0 x4_1).f3) : Int) p52 q52
                    replace p52 := eq_true p52
                    replace q52 := eq_true q52
                    have HP60 := Kd.R_putn HQ59.out (((rd_T105 l0_0 x4_1).f3) : Int) true
                    rw [← Ny193.out] at HP60
                    have HQ60 := Aside0.mk HP60
                    clear HP60
                    refine start_ (n := 10) (S := fun w' => w'.cell? ⟨gb188, 0, none⟩ = some (.int .i64 ((rd_T105 l0_0 x4_1).f0)) ∧ w'.cell? ⟨gb188, 1, none⟩ = some (.int .i64 ((rd_T105 l0_0 x4_1).f1.f0)) ∧ w'.cell? ⟨gb188, 2, none⟩ = some (.int .i64 ((rd_T105 l0_0 x4_1).f1.f1)) ∧ w'.cell? ⟨gb188, 3, none⟩ = some (.int .i64 ((rd_T105 l0_0 x4_1).f2)) ∧ w'.cell? ⟨gb188, 4, none⟩ = some (.int .i64 ((rd_T105 l0_0 x4_1).f3))) (ds := [9]) #[false, false, false, false, false, false, false, false, false, false] (by kernel_rfl) rfl rfl ⟨(blk_cell BK188.out 0).trans rfl, (blk_cell BK188.out 1).trans rfl, (blk_cell BK188.out 2).trans rfl, (blk_cell BK188.out 3).trans rfl, (blk_cell BK188.out 4).trans rfl⟩ (fun hHeld => ?_); refine with_tabW impl_Rising.tab15 impl_Rising.bits15 (fun HT_ HW_ => ?_)
                    generalize w57.drew = w58 at HO_3 BK181 BK188 HB HQ59 HQ60 hf49_0 hf52_0 hx49_0 hx52_0 hHeld ⊢
                    refine pureZ_ (i := 0) (some 43) #[true, false, false, false, false, false, false, false, false, false] (any_of HT_.out (by kernel_rfl)) ?_
                    refine pureZ_ (i := 1) (some 44) #[true, true, false, false, false, false, false, false, false, false] (any_of HT_.out (by kernel_rfl)) ?_
                    refine pureZ_ (i := 3) (some 46) #[true, true, false, true, false, false, false, false, false, false] (any_of HT_.out (by kernel_rfl)) ?_
                    refine pureZ_ (i := 4) (some 47) #[true, true, false, true, true, false, false, false, false, false] (any_of HT_.out (by kernel_rfl)) ?_
                    refine takeZ_ (i := 2) (some 45) #[true, true, true, true, true, false, false, false, false, false] (take_ofW HT_.out HW_.out (by kernel_rfl)) hHeld ?_
                    refine pureZ_ (i := 6) (some 49) #[true, true, true, true, true, false, true, false, false, false] (any_of HT_.out (by kernel_rfl)) ?_
                    refine takeZ_ (i := 5) (some 48) #[true, true, true, true, true, true, true, false, false, false] (take_ofW HT_.out HW_.out (by kernel_rfl)) hHeld ?_
                    refine one_ (i := 7) (N := none) #[true, true, true, true, true, true, true, true, false, false] rfl rfl (one_of HT_.out (by kernel_rfl)) (by decide) (fun K hK => ?_)
                    refine skip_ (w1 := ?_) (by rfl) rfl ?_ ?_
                    rotate_left
                    ·go_simp
                     rfl
                    refine hK.out _ _ ⟨((cell_far (p := ⟨go9, _, none⟩) (show gb188 ≠ go9 from Ne.symm (Kd.own_blk (ad := ⟨go9, 0, none⟩) (Kd.R_ne HO_3.out BK188.out (by decide)))) _).trans (hHeld.1)), ((cell_far (p := ⟨go9, _, none⟩) (show gb188 ≠ go9 from Ne.symm (Kd.own_blk (ad := ⟨go9, 0, none⟩) (Kd.R_ne HO_3.out BK188.out (by decide)))) _).trans (hHeld.2.1)), ((cell_far (p := ⟨go9, _, none⟩) (show gb188 ≠ go9 from Ne.symm (Kd.own_blk (ad := ⟨go9, 0, none⟩) (Kd.R_ne HO_3.out BK188.out (by decide)))) _).trans (hHeld.2.2.1)), ((cell_far (p := ⟨go9, _, none⟩) (show gb188 ≠ go9 from Ne.symm (Kd.own_blk (ad := ⟨go9, 0, none⟩) (Kd.R_ne HO_3.out BK188.out (by decide)))) _).trans (hHeld.2.2.2.1)), ((cell_far (p := ⟨go9, _, none⟩) (show gb188 ≠ go9 from Ne.symm (Kd.own_blk (ad := ⟨go9, 0, none⟩) (Kd.R_ne HO_3.out BK188.out (by decide)))) _).trans (hHeld.2.2.2.2))⟩ (fun hHeld => ?_)
                    clear hK K
                    refine pureZ_ (i := 8) (some 50) #[true, true, true, true, true, true, true, true, true, false] (any_of HT_.out (by kernel_rfl)) ?_
                    refine last_ (i := 9) (N := none) #[true, true, true, true, true, true, true, true, true, true] rfl rfl (one_of HT_.out (by kernel_rfl)) (by decide) (fun K hK => ?_)
                    refine skip_ (w1 := ?_) (by rfl) rfl ?_ ?_
                    rotate_left
                    ·go_simp
                     rfl
                    refine hK.out _ _ ?_
                    clear hK K
                    refine done_ (done_of HT_.out (by kernel_rfl)) ?_
                    try go_wp2
                    (try simp only [← hl3_1])
                    go_roundg k1
                    case measure => have := HK1.out; omega
                    case rel => exact ⟨(y193), (wrap64 (x4_1 - 1)), (by first | rfl | (simp; done) | (simp [*]; done)), H', ⟨by have := HK1.out; omega⟩, ⟨by (try simp only [hl3_1]); (with_reducible repeat (first | apply Kd.R_alloc | apply Kd.R_drewN | apply Kd.R_drew)); exact HQ60.out⟩, ⟨by (try simp only [hl3_1]); (with_reducible repeat (first | refine blk_drewN ?_ _ | refine blk_drew ?_ | refine blk_alloc ?_ _)); refine blk_far ?_ (by have h_ := Kd.R_ne HO_3.out BK181.out (by decide); intro e_; exact h_ (by rw [e_]; rfl)) _; (with_reducible repeat (first | refine blk_drewN ?_ _ | refine blk_drew ?_ | refine blk_alloc ?_ _)); refine blk_far ?_ (by have h_ := Kd.R_ne HO_3.out BK181.out (by decide); intro e_; exact h_ (by rw [e_]; rfl)) _; (with_reducible repeat (first | refine blk_drewN ?_ _ | refine blk_drew ?_ | refine blk_alloc ?_ _)); exact BK181.out⟩, ⟨by repeat (first | (with_reducible first | exact HB.out | apply below_alloc | apply pw_below_drewN | apply below_drew1 | refine below_set ?_ GB9.out | refine below_set ?_ GB9.out | refine below_set ?_ GE181.out | refine below_set ?_ GE188.out) | exact HB.out)⟩⟩
                   ·rw [if_neg c51] at H
                    exact absurd H (by simp)
                  ·rw [if_neg c50] at H
                   exact absurd H (by simp)
                 ·rw [if_neg c48] at H
                  exact absurd H (by simp)
                ·rw [if_neg c47] at H
                 exact absurd H (by simp)
               ·rw [if_neg c46] at H
                have c46b0 : (((rd_T105 l0_0 x4_1).f0) == 3) = false := beq_eq_false_iff_ne.mpr c46
                have c46b1 : (((rd_T105 l0_0 x4_1).f0) != 3) = true := bne_iff_ne.mpr c46
                have H' := Aside0.mk H
                clear H
                have hcz61 := blk_cell BK181.out
                have hfz61 := blk_frozen BK181.out
                have p187 : 0 ≤ (x4_1 : Int) := of_decide_eq_true (by first | (with_reducible assumption) | assumption)
                have q187 : x4_1 < (l0_0.length : Int) := of_decide_eq_true (by first | (with_reducible assumption) | assumption)
                obtain ⟨ad187, e187, hx187_0, hx187_1, hx187_2, hx187_3, hx187_4⟩ := at_T105 (Kd.C_below HR0_0.out HB.out) x4_1 p187 q187
                cases e187
                replace p187 := eq_true p187
                replace q187 := eq_true q187
                go_wp2_with (first | ((with_reducible refine gate_dst (N := 5) rfl ?_); refine box_event ?hg (N := 5) ?hd (cs := #[.int .i64 0, .int .i64 0, .int .i64 0, .int .i64 0, .int .i64 0]) (t := 105) ?hr ?_; (case hd => rfl); (case hg => rfl); (case hr => first | (go_simp; done) | (go_simp; rfl)); intro gb188 hg w62 hbox hb; replace HO_3 := Aside0.mk (Kd.R_below (by (with_reducible repeat (first | apply Kd.R_alloc | apply Kd.R_drewN | apply Kd.R_drew)); exact HO_3.out) hb); have BK188 := Aside0.mk (hbox); have GW188 := gs_ hg; have GE188 := gs_ hg; replace HB := hbs_ hb; have NB181_188 := Aside0.mk ((by rw [hg]; exact Nat.ne_of_lt (blk_lt (g := gb181) (o := .cells #[.slice (some ad187) l0_0.length c0_0] 39 (0, 0)) (bk_ BK181)) : gb181 ≠ gb188)); have NB188_181 := Aside0.mk ((by rw [hg]; exact Nat.ne_of_gt (blk_lt (g := gb181) (o := .cells #[.slice (some ad187) l0_0.length c0_0] 39 (0, 0)) (bk_ BK181)) : gb188 ≠ gb181)); replace BK181 := bkb_ BK181 hb; clear hb hbox hg; have hnb63 := NB188_181.out; have hnc63 := NB181_188.out; have hcz64 := blk_cell BK188.out; have hfz64 := blk_frozen BK188.out; have p189 : 0 ≤ (x4_1 : Int) := of_decide_eq_true (by first | (with_reducible assumption) | assumption); have q189 : x4_1 < (x3_1.length : Int) := of_decide_eq_true (by first | (with_reducible assumption) | assumption); obtain ⟨ad189, e189, hx189_0⟩ := Kd.at_bool (Kd.R_reads' HO_3.out).2.2 x4_1 p189 q189; (try rw [← Nbq24.out] at hx189_0); obtain rfl : (⟨go9, 0, none⟩ : Addr) = ad189 := (by injection e189); (first | simp only [add_plain] at hx189_0 | simp only [add_at] at hx189_0 | simp only [Addr.add, Nat.zero_add] at hx189_0 | skip); have hn189_0 : (⟨go9, 0, none⟩ : Addr).block ≠ gb188 := Kd.own_blk (Kd.R_ne HO_3.out BK188.out (by decide)); have hn189_1 : (⟨go9, 0, none⟩ : Addr).block ≠ gb188 := Kd.own_blk (Kd.R_ne HO_3.out BK188.out (by decide)); have hn189_2 : (⟨go9, 0, none⟩ : Addr).block ≠ gb188 := Kd.own_blk (Kd.R_ne HO_3.out BK188.out (by decide)); have hn189_3 : (⟨go9, 0, none⟩ : Addr).block ≠ gb188 := Kd.own_blk (Kd.R_ne HO_3.out BK188.out (by decide)); have hn189_4 : (⟨go9, 0, none⟩ : Addr).block ≠ gb188 := Kd.own_blk (Kd.R_ne HO_3.out BK188.out (by decide)); replace hx189_0 := (cell_far (p := ⟨gb188, 0, none⟩) (by first | (rw [add_block]; exact hn189_0) | (show (Addr.add _ _).block ≠ _; rw [add_block]; exact hn189_0) | exact hn189_0) (.int .i64 ((rd_T105 l0_0 x4_1).f0))).trans hx189_0; replace hx189_0 := (cell_far (p := ⟨gb188, 1, none⟩) (by first | (rw [add_block]; exact hn189_1) | (show (Addr.add _ _).block ≠ _; rw [add_block]; exact hn189_1) | exact hn189_1) (.int .i64 ((rd_T105 l0_0 x4_1).f1.f0))).trans hx189_0; replace hx189_0 := (cell_far (p := ⟨gb188, 2, none⟩) (by first | (rw [add_block]; exact hn189_2) | (show (Addr.add _ _).block ≠ _; rw [add_block]; exact hn189_2) | exact hn189_2) (.int .i64 ((rd_T105 l0_0 x4_1).f1.f1))).trans hx189_0; replace hx189_0 := (cell_far (p := ⟨gb188, 3, none⟩) (by first | (rw [add_block]; exact hn189_3) | (show (Addr.add _ _).block ≠ _; rw [add_block]; exact hn189_3) | exact hn189_3) (.int .i64 ((rd_T105 l0_0 x4_1).f2))).trans hx189_0; replace hx189_0 := (cell_far (p := ⟨gb188, 4, none⟩) (by first | (rw [add_block]; exact hn189_4) | (show (Addr.add _ _).block ≠ _; rw [add_block]; exact hn189_4) | exact hn189_4) (.int .i64 ((rd_T105 l0_0 x4_1).f3))).trans hx189_0; clear hn189_0; clear hn189_1; clear hn189_2; clear hn189_3; clear hn189_4; replace p189 := eq_true p189; replace q189 := eq_true q189))
                (try simp only [← hl3_1])
                go_roundg k1
                case measure => have := HK1.out; omega
                case rel => exact ⟨(x3_1), (wrap64 (x4_1 - 1)), (by first | rfl | (simp; done) | (simp [*]; done)), H', ⟨by have := HK1.out; omega⟩, ⟨by (try simp only [hl3_1]); (with_reducible repeat (first | apply Kd.R_alloc | apply Kd.R_drewN | apply Kd.R_drew)); exact Kd.R_mono (Kd.R_far (p := ⟨gb188, 4, none⟩) (Kd.R_far (p := ⟨gb188, 3, none⟩) (Kd.R_far (p := ⟨gb188, 2, none⟩) (Kd.R_far (p := ⟨gb188, 1, none⟩) (Kd.R_far (p := ⟨gb188, 0, none⟩) (Kd.R_types HO_3.out BK188.out (by decide)) (fun _ hk => hk.2) (.int .i64 ((rd_T105 l0_0 x4_1).f0))) (fun _ hk => hk.2) (.int .i64 ((rd_T105 l0_0 x4_1).f1.f0))) (fun _ hk => hk.2) (.int .i64 ((rd_T105 l0_0 x4_1).f1.f1))) (fun _ hk => hk.2) (.int .i64 ((rd_T105 l0_0 x4_1).f2))) (fun _ hk => hk.2) (.int .i64 ((rd_T105 l0_0 x4_1).f3))) (fun _ hk => trivial)⟩, ⟨by (try simp only [hl3_1]); (with_reducible repeat (first | refine blk_drewN ?_ _ | refine blk_drew ?_ | refine blk_alloc ?_ _)); refine blk_far ?_ NB181_188.out _; (with_reducible repeat (first | refine blk_drewN ?_ _ | refine blk_drew ?_ | refine blk_alloc ?_ _)); refine blk_far ?_ NB181_188.out _; (with_reducible repeat (first | refine blk_drewN ?_ _ | refine blk_drew ?_ | refine blk_alloc ?_ _)); refine blk_far ?_ NB181_188.out _; (with_reducible repeat (first | refine blk_drewN ?_ _ | refine blk_drew ?_ | refine blk_alloc ?_ _)); refine blk_far ?_ NB181_188.out _; (with_reducible repeat (first | refine blk_drewN ?_ _ | refine blk_drew ?_ | refine blk_alloc ?_ _)); refine blk_far ?_ NB181_188.out _; (with_reducible repeat (first | refine blk_drewN ?_ _ | refine blk_drew ?_ | refine blk_alloc ?_ _)); exact BK181.out⟩, ⟨bl_⟩⟩
            ·replace c25 := Bool.eq_false_iff.mpr c25
             subst c25
             replace H := ite_f_ H
             have H' := Aside0.mk H
             clear H
             have hcz65 := blk_cell BK181.out
             have hfz65 := blk_frozen BK181.out
             have p187 : 0 ≤ (x4_1 : Int) := of_decide_eq_true (by first | (with_reducible assumption) | assumption)
             have q187 : x4_1 < (l0_0.length : Int) := of_decide_eq_true (by first | (with_reducible assumption) | assumption)
             obtain ⟨ad187, e187, hx187_0, hx187_1, hx187_2, hx187_3, hx187_4⟩ := at_T105 (Kd.C_below HR0_0.out HB.out) x4_1 p187 q187
             cases e187
             replace p187 := eq_true p187
             replace q187 := eq_true q187
             go_wp2_with (first | ((with_reducible refine gate_dst (N := 5) rfl ?_); refine box_event ?hg (N := 5) ?hd (cs := #[.int .i64 0, .int .i64 0, .int .i64 0, .int .i64 0, .int .i64 0]) (t := 105) ?hr ?_; (case hd => rfl); (case hg => rfl); (case hr => first | (go_simp; done) | (go_simp; rfl)); intro gb188 hg w66 hbox hb; replace HO_3 := Aside0.mk (Kd.R_below (by (with_reducible repeat (first | apply Kd.R_alloc | apply Kd.R_drewN | apply Kd.R_drew)); exact HO_3.out) hb); have BK188 := Aside0.mk (hbox); have GW188 := gs_ hg; have GE188 := gs_ hg; replace HB := hbs_ hb; have NB181_188 := Aside0.mk ((by rw [hg]; exact Nat.ne_of_lt (blk_lt (g := gb181) (o := .cells #[.slice (some ad187) l0_0.length c0_0] 39 (0, 0)) (bk_ BK181)) : gb181 ≠ gb188)); have NB188_181 := Aside0.mk ((by rw [hg]; exact Nat.ne_of_gt (blk_lt (g := gb181) (o := .cells #[.slice (some ad187) l0_0.length c0_0] 39 (0, 0)) (bk_ BK181)) : gb188 ≠ gb181)); replace BK181 := bkb_ BK181 hb; clear hb hbox hg; have hnb67 := NB188_181.out; have hnc67 := NB181_188.out; have hcz68 := blk_cell BK188.out; have hfz68 := blk_frozen BK188.out; have p189 : 0 ≤ (x4_1 : Int) := of_decide_eq_true (by first | (with_reducible assumption) | assumption); have q189 : x4_1 < (x3_1.length : Int) := of_decide_eq_true (by first | (with_reducible assumption) | assumption); obtain ⟨ad189, e189, hx189_0⟩ := Kd.at_bool (Kd.R_reads' HO_3.out).2.2 x4_1 p189 q189; (try rw [← Nbq24.out] at hx189_0); obtain rfl : (⟨go9, 0, none⟩ : Addr) = ad189 := (by injection e189); (first | simp only [add_plain] at hx189_0 | simp only [add_at] at hx189_0 | simp only [Addr.add, Nat.zero_add] at hx189_0 | skip); have hn189_0 : (⟨go9, 0, none⟩ : Addr).block ≠ gb188 := Kd.own_blk (Kd.R_ne HO_3.out BK188.out (by decide)); have hn189_1 : (⟨go9, 0, none⟩ : Addr).block ≠ gb188 := Kd.own_blk (Kd.R_ne HO_3.out BK188.out (by decide)); have hn189_2 : (⟨go9, 0, none⟩ : Addr).block ≠ gb188 := Kd.own_blk (Kd.R_ne HO_3.out BK188.out (by decide)); have hn189_3 : (⟨go9, 0, none⟩ : Addr).block ≠ gb188 := Kd.own_blk (Kd.R_ne HO_3.out BK188.out (by decide)); have hn189_4 : (⟨go9, 0, none⟩ : Addr).block ≠ gb188 := Kd.own_blk (Kd.R_ne HO_3.out BK188.out (by decide)); replace hx189_0 := (cell_far (p := ⟨gb188, 0, none⟩) (by first | (rw [add_block]; exact hn189_0) | (show (Addr.add _ _).block ≠ _; rw [add_block]; exact hn189_0) | exact hn189_0) (.int .i64 ((rd_T105 l0_0 x4_1).f0))).trans hx189_0; replace hx189_0 := (cell_far (p := ⟨gb188, 1, none⟩) (by first | (rw [add_block]; exact hn189_1) | (show (Addr.add _ _).block ≠ _; rw [add_block]; exact hn189_1) | exact hn189_1) (.int .i64 ((rd_T105 l0_0 x4_1).f1.f0))).trans hx189_0; replace hx189_0 := (cell_far (p := ⟨gb188, 2, none⟩) (by first | (rw [add_block]; exact hn189_2) | (show (Addr.add _ _).block ≠ _; rw [add_block]; exact hn189_2) | exact hn189_2) (.int .i64 ((rd_T105 l0_0 x4_1).f1.f1))).trans hx189_0; replace hx189_0 := (cell_far (p := ⟨gb188, 3, none⟩) (by first | (rw [add_block]; exact hn189_3) | (show (Addr.add _ _).block ≠ _; rw [add_block]; exact hn189_3) | exact hn189_3) (.int .i64 ((rd_T105 l0_0 x4_1).f2))).trans hx189_0; replace hx189_0 := (cell_far (p := ⟨gb188, 4, none⟩) (by first | (rw [add_block]; exact hn189_4) | (show (Addr.add _ _).block ≠ _; rw [add_block]; exact hn189_4) | exact hn189_4) (.int .i64 ((rd_T105 l0_0 x4_1).f3))).trans hx189_0; clear hn189_0; clear hn189_1; clear hn189_2; clear hn189_3; clear hn189_4; replace p189 := eq_true p189; replace q189 := eq_true q189))
             (try simp only [← hl3_1])
             go_roundg k1
             case measure => have := HK1.out; omega
             case rel => exact ⟨(x3_1), (wrap64 (x4_1 - 1)), (by first | rfl | (simp; done) | (simp [*]; done)), H', ⟨by have := HK1.out; omega⟩, ⟨by (try simp only [hl3_1]); (with_reducible repeat (first | apply Kd.R_alloc | apply Kd.R_drewN | apply Kd.R_drew)); exact Kd.R_mono (Kd.R_far (p := ⟨gb188, 4, none⟩) (Kd.R_far (p := ⟨gb188, 3, none⟩) (Kd.R_far (p := ⟨gb188, 2, none⟩) (Kd.R_far (p := ⟨gb188, 1, none⟩) (Kd.R_far (p := ⟨gb188, 0, none⟩) (Kd.R_types HO_3.out BK188.out (by decide)) (fun _ hk => hk.2) (.int .i64 ((rd_T105 l0_0 x4_1).f0))) (fun _ hk => hk.2) (.int .i64 ((rd_T105 l0_0 x4_1).f1.f0))) (fun _ hk => hk.2) (.int .i64 ((rd_T105 l0_0 x4_1).f1.f1))) (fun _ hk => hk.2) (.int .i64 ((rd_T105 l0_0 x4_1).f2))) (fun _ hk => hk.2) (.int .i64 ((rd_T105 l0_0 x4_1).f3))) (fun _ hk => trivial)⟩, ⟨by (try simp only [hl3_1]); (with_reducible repeat (first | refine blk_drewN ?_ _ | refine blk_drew ?_ | refine blk_alloc ?_ _)); refine blk_far ?_ NB181_188.out _; (with_reducible repeat (first | refine blk_drewN ?_ _ | refine blk_drew ?_ | refine blk_alloc ?_ _)); refine blk_far ?_ NB181_188.out _; (with_reducible repeat (first | refine blk_drewN ?_ _ | refine blk_drew ?_ | refine blk_alloc ?_ _)); refine blk_far ?_ NB181_188.out _; (with_reducible repeat (first | refine blk_drewN ?_ _ | refine blk_drew ?_ | refine blk_alloc ?_ _)); refine blk_far ?_ NB181_188.out _; (with_reducible repeat (first | refine blk_drewN ?_ _ | refine blk_drew ?_ | refine blk_alloc ?_ _)); refine blk_far ?_ NB181_188.out _; (with_reducible repeat (first | refine blk_drewN ?_ _ | refine blk_drew ?_ | refine blk_alloc ?_ _)); exact BK181.out⟩, ⟨bl_⟩⟩
           ·rw [if_neg c23] at H
            exact absurd H (by simp)
          ·rw [if_neg c22] at H
           exact absurd H (by simp)
         ·rw [if_neg c21] at H
          exact absurd H (by simp)
        ·rw [if_neg c20] at H
         have c20b0 : decide (0 ≤ x4_1) = false := decide_eq_false c20
         clear c20
         obtain rfl := Option.some.inj H
         go_wp2
         go_ret
         exact ⟨by first | rfl | (simp [errW_none, errW_some] <;> rfl) | (simp only [← hji6]; first | rfl | (simp [errW_none, errW_some] <;> rfl)) | (simp [*, errW_none, errW_some] <;> rfl), bl_⟩
     ·rw [if_neg c8] at H
      exact absurd H (by simp)
    ·rw [if_neg c7] at H
     exact absurd H (by simp)
   ·rw [if_neg c5] at H
    exact absurd H (by simp)
  ·rw [if_neg c4] at H
   exact absurd H (by simp)
 ·replace c3 := Bool.eq_false_iff.mpr c3
  subst c3
  replace H := ite_f_ H
  obtain rfl := Option.some.inj H
  go_enter Try.func26, Try.ntmps26
  go_wp2_with (first | ((with_reducible refine gate_dst (N := 1) rfl ?_); refine box_event ?hg (N := 1) ?hd (cs := #[.slice A0_0 l0_0.length c0_0]) (t := 39) ?hr ?_; (case hd => rfl); (case hg => rfl); (case hr => first | (go_simp; done) | (go_simp; rfl)); intro gb181 hg w69 hbox hb; have BK181 := Aside0.mk (hbox); have GW181 := gs_ hg; have GE181 := gs_ hg; replace HB := hbs_ hb; clear hb hbox hg; have hcz70 := blk_cell BK181.out; have hfz70 := blk_frozen BK181.out) | ((with_reducible refine gate_callee (f := 21) rfl ?_); refine goesC_ (some 7) Try.func21 #[.agg #[.slice A0_0 l0_0.length c0_0]] ?_; (with_reducible refine (impl_PolicyOk.calls k _ _ l0_0 false _ ?side1 ?side2 A2.out).mono ?_); (case side1 => repeat (first | exact (Kd.C_below HR0_0.out HB.out) | (with_reducible refine Kd.C_alloc ?_ _) | (with_reducible refine Kd.C_drewN ?_ _) | (with_reducible refine Kd.C_drew ?_))); (case side2 => exact HC0_0.out); rintro e w71 ⟨rfl, hb⟩; refine ⟨_, rfl, ?_⟩; replace BK181 := bkb_ BK181 hb; replace HB := hbs_ hb; clear hb))
  go_ret
  exact ⟨eq_, bl_⟩
end Go.Proofs.Ytcgnegnljffkmaa.PE
