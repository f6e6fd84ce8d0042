import Derived.Test.YtppdmcimddhbaaaKFnPoliciesPEx0
import Derived.Test.YtppdmcimddhbaaaKFnPoliciesPEx4
import Derived.Test.YtppdmcimddhbaaaKFnPoliciesPEx9
-- A text of this claim: written by the session's own program out of the translation (wip/tools). Lean checks it.
namespace Go.Proofs.Ytppdmcimddhbaaa.PE
open Go.RowKit Go.Proofs.YtppdmcimddhbaaaW.PrintWords Go.Proofs.YtppdmcimddhbaaaW.PrintLast Go.Proofs.YtppdmcimddhbaaaW.PrintMore
attribute [local go_sem] max2_int min2_int max_two min_two max_three min_three max_four min_four   -- for this text's walks alone
set_option linter.unusedVariables false
set_option linter.unusedSimpArgs false
attribute [local go_sem high] eqA71
def impl_Rising.l0 : Nat → List Bool → Int → List (S71) → Option (Bool)
 | 0, _, _, _ => none
 | k + 1, x3, x4, x478000 => if x4 ≥ 0 then (if 0 ≤ x4 then (if x4 < (x478000.length : Int) then (if x4 < (x3.length : Int) then (if rdOf false x3 x4 = true then (if ((rd_T71 x478000 x4).f0) = 4 then (some false) else (if ((rd_T71 x478000 x4).f0) = 2 then (if 0 ≤ ((rd_T71 x478000 x4).f2) then (if ((rd_T71 x478000 x4).f2) < (x3.length : Int) then (if 0 ≤ ((rd_T71 x478000 x4).f3) then (if ((rd_T71 x478000 x4).f3) < (x3.length : Int) then (impl_Rising.l0 k ((x3.set (((rd_T71 x478000 x4).f2) : Int).toNat true).set (((rd_T71 x478000 x4).f3) : Int).toNat true) (wrap64 (x4 - 1)) x478000) else (none)) else (none)) else (none)) else (none)) else (if ((rd_T71 x478000 x4).f0) = 3 then (if 0 ≤ ((rd_T71 x478000 x4).f2) then (if ((rd_T71 x478000 x4).f2) < (x3.length : Int) then (if 0 ≤ ((rd_T71 x478000 x4).f3) then (if ((rd_T71 x478000 x4).f3) < (x3.length : Int) then (impl_Rising.l0 k ((x3.set (((rd_T71 x478000 x4).f2) : Int).toNat true).set (((rd_T71 x478000 x4).f3) : Int).toNat true) (wrap64 (x4 - 1)) x478000) else (none)) else (none)) else (none)) else (none)) else (impl_Rising.l0 k x3 (wrap64 (x4 - 1)) x478000)))) else (impl_Rising.l0 k x3 (wrap64 (x4 - 1)) x478000)) else (none)) else (none)) else (none)) else (some true)
def impl_Rising.f (k : Nat) (l0_0 : List (S71)) : Option (Bool) := (impl_PolicyOk.f k l0_0).bind fun t478 => (if t478 = true then (if 0 ≤ (l0_0.length : Int) then (if ((l0_0.length : Int) : Int).toNat ≤ 281474976710656 then ((some (List.replicate ((l0_0.length : Int) : Int).toNat false : List Bool)).bind fun y479 => (if 0 ≤ (wrap64 ((y479.length : Int) - 1)) then (if (wrap64 ((y479.length : Int) - 1)) < (y479.length : Int) then (impl_Rising.l0 k (y479.set ((wrap64 ((y479.length : Int) - 1)) : Int).toNat true) (wrap64 ((l0_0.length : Int) - 1)) l0_0) else (none)) else (none))) else (none)) else (none)) else (some false))
def impl_Rising.T15 : Bool × List (List Nat × List Nat) := (true, [([], []), ([], []), ([1], [1]), ([], []), ([], []), ([4], [4]), ([0, 2, 0, 1, 2], [0, 2]), ([6, 0, 1, 2], [6]), ([3, 5, 0, 1, 2, 3, 4, 5, 6, 7], [3, 5]), ([8, 7, 0, 1, 2, 3, 4, 5, 6, 7], [8])])
def impl_Rising.B15 : List Nat := [0, 0, 2, 0, 0, 16, 7, 71, 255, 511]
theorem impl_Rising.tab15 : rtab .any (opsOf Try.f48 15) = impl_Rising.T15 := by kernel_rfl
theorem impl_Rising.bits15 : waitsOk impl_Rising.T15.2 impl_Rising.B15 = true := by kernel_rfl
set_option maxHeartbeats 8000000 in
set_option maxRecDepth 100000 in
theorem impl_Rising.calls (k : Nat) (A0_0 : Option Addr) (c0_0 : Nat) (l0_0 : List (S71)) (r : Bool) (w : World) (hr0_0 : Kd.C k71 w A0_0 l0_0.length l0_0) (hc0_0 : l0_0.length ≤ c0_0) (h : impl_Rising.f k l0_0 = some r) :
  Calls Try.prog 48 #[.agg #[.slice A0_0 l0_0.length c0_0]] w fun e w' => e = .returned (.bool r) ∧ Below w.heap.size w w' := by
 have hu68 := Try.underlying68
 have hu71 := Try.underlying71
 have HR0_0 := Aside0.mk hr0_0
 have HC0_0 := Aside0.mk hc0_0
 clear hr0_0 hc0_0
 have HB := Aside0.mk (Below.refl w.heap.size w)
 have H : ((impl_PolicyOk.f k l0_0).bind fun t478 => (if t478 = true then (if 0 ≤ (l0_0.length : Int) then (if ((l0_0.length : Int) : Int).toNat ≤ 281474976710656 then ((some (List.replicate ((l0_0.length : Int) : Int).toNat false : List Bool)).bind fun y479 => (if 0 ≤ (wrap64 ((y479.length : Int) - 1)) then (if (wrap64 ((y479.length : Int) - 1)) < (y479.length : Int) then (impl_Rising.l0 k (y479.set ((wrap64 ((y479.length : Int) - 1)) : Int).toNat true) (wrap64 ((l0_0.length : Int) - 1)) l0_0) else (none)) else (none))) else (none)) else (none)) else (some false))) = some r := h
 clear h
 obtain ⟨t478, A2, H⟩ := bindE_ H
 by_cases c3 : t478 = true
 ·subst c3
  replace H := ite_t_ H
  by_cases c4 : 0 ≤ (l0_0.length : Int)
  ·rw [if_pos c4] at H
   have c4b0 := eq_true c4
   have c4b1 : decide (0 ≤ (l0_0.length : Int)) = true := decide_eq_true c4
   clear c4
   by_cases c5 : ((l0_0.length : Int) : Int).toNat ≤ 281474976710656
   ·rw [if_pos c5] at H
    have c5b0 := eq_true c5
    have c5b1 : decide (((l0_0.length : Int) : Int).toNat ≤ 281474976710656) = true := decide_eq_true c5
    clear c5
    obtain ⟨y479, hy479⟩ : ∃ y_ : List Bool, y_ = (List.replicate ((l0_0.length : Int) : Int).toNat false) := ⟨_, rfl⟩
    replace H : (if 0 ≤ (wrap64 ((y479.length : Int) - 1)) then (if (wrap64 ((y479.length : Int) - 1)) < (y479.length : Int) then (impl_Rising.l0 k (y479.set ((wrap64 ((y479.length : Int) - 1)) : Int).toNat true) (wrap64 ((l0_0.length : Int) - 1)) l0_0) else (none)) else (none)) = some r := by first | (rw [hy479]; with_reducible exact H) | (have H2_ := (Option.bind_some _ _).symm.trans H; rw [hy479]; with_reducible exact H2_) | (have H2_ := (Option.bind_some _ _).symm.trans H; with_reducible exact H2_) | with_reducible exact H | (rw [hy479]; exact H) | exact H
    have Ny479 := Aside0.mk hy479
    clear hy479
    obtain ⟨ji6, hji6⟩ : ∃ j_ : Int, (wrap64 ((y479.length : Int) - 1)) = j_ := ⟨_, rfl⟩
    replace H : (if 0 ≤ (ji6) then (if (ji6) < (y479.length : Int) then (impl_Rising.l0 k (y479.set ((ji6) : Int).toNat true) (wrap64 ((l0_0.length : Int) - 1)) l0_0) else (none)) else (none)) = some r := by first | (rw [hji6] at H; exact H) | (simp only [hji6] at H ⊢; exact H)
    (try rw [hji6] at A2)
    have hji6w : (IntKind.i64.wrap ((y479.length : Int) - 1)) = ji6 := (i64_w _).trans hji6
    by_cases c7 : 0 ≤ (ji6)
    ·rw [if_pos c7] at H
     have c7b0 : decide (0 ≤ (ji6)) = true := decide_eq_true c7
     clear c7
     by_cases c8 : (ji6) < (y479.length : Int)
     ·rw [if_pos c8] at H
      have c8b0 : decide ((ji6) < (y479.length : Int)) = true := decide_eq_true c8
      clear c8
      obtain ⟨y482, hy482⟩ : ∃ y_ : List Bool, y_ = (y479.set ((ji6) : Int).toNat true) := ⟨_, rfl⟩
      replace H : (impl_Rising.l0 k y482 (wrap64 ((l0_0.length : Int) - 1)) l0_0) = some r := by first | (rw [hy482]; with_reducible exact H) | (have H2_ := (Option.bind_some _ _).symm.trans H; rw [hy482]; with_reducible exact H2_) | (have H2_ := (Option.bind_some _ _).symm.trans H; with_reducible exact H2_) | with_reducible exact H | (rw [hy482]; exact H) | exact H
      have Ny482 := Aside0.mk hy482
      clear hy482
      have H' := Aside0.mk H
      clear H
      go_enter Try.func48, Try.ntmps48
      go_wp2_with (first | ((with_reducible refine gate_dst (N := 1) rfl ?_); refine box_event ?hg (N := 1) ?hd (cs := #[.slice A0_0 l0_0.length c0_0]) (t := 68) ?hr ?_; (case hd => rfl); (case hg => rfl); (case hr => first | (go_simp; done) | (go_simp; rfl)); intro gb477 hg w10 hbox hb; have BK477 := Aside0.mk (hbox); have GW477 := gs_ hg; have GE477 := gs_ hg; replace HB := hbs_ hb; clear hb hbox hg; have hcz11 := blk_cell BK477.out; have hfz11 := blk_frozen BK477.out) | ((with_reducible refine gate_callee (f := 49) rfl ?_); refine goesC_ (some 7) Try.func49 #[.agg #[.slice A0_0 l0_0.length c0_0]] ?_; (with_reducible refine (impl_PolicyOk.calls k _ _ l0_0 true _ ?side1 ?side2 A2.out).mono ?_); (case side1 => repeat (first | exact (Kd.C_below HR0_0.out HB.out) | (with_reducible refine Kd.C_alloc ?_ _) | (with_reducible refine Kd.C_drewN ?_ _) | (with_reducible refine Kd.C_drew ?_))); (case side2 => exact HC0_0.out); rintro e w12 ⟨rfl, hb⟩; refine ⟨_, rfl, ?_⟩; replace BK477 := bkb_ BK477 hb; replace HB := hbs_ hb; clear hb; have hcz13 := blk_cell BK477.out; have hfz13 := blk_frozen BK477.out) | ((with_reducible refine gate_dst (N := 12) rfl ?_); refine Kd.R_make Kd.bool _ 4 rfl (N := 12) rfl 103 _ _ rfl (l0_0.length : Int) rfl rfl Try.underlying103 (.bool false) 1 info4 rfl (by decide) (by omega) false (ok := fun _ => True) (okp := fun _ => True) rfl (fun _ hk => hk) trivial (of_decide_eq_true (by first | (with_reducible assumption) | assumption)) (Nat.le_trans (Nat.mul_le_mul_right _ (of_decide_eq_true (by first | (with_reducible assumption) | assumption) : (l0_0.length : Int).toNat ≤ 281474976710656)) (by omega)) (Below.refl _ _) (Nat.le_refl _) ?_; intro v480 w14 ho15 hb hg_ hnew_; clear hg_ hnew_; (first | rw [← Ny479.out] at ho15 | (simp only [Int.reduceToNat] at ho15; rw [← Ny479.out] at ho15)); have HO481 := Aside0.mk (Kd.R_lower ho15 bls_); replace BK477 := bkb_ BK477 hb; replace HB := hbs_ hb; clear hb ho15; obtain ⟨Ao16, co16, eo16⟩ := Kd.R_slice HO481.out; subst eo16; have p9 : 0 ≤ ((ji6) : Int) := of_decide_eq_true (by first | (with_reducible assumption) | assumption); have q9 : ((ji6) : Int) < ((y479.length : Int) : Int) := of_decide_eq_true (by first | (with_reducible assumption) | assumption); obtain ⟨go9, co9, eo9, gb9, gl9, cl9, HG9⟩ := Kd.R_form HO481.out (by omega); (first | cases eo9 | (injection eo9 with ea_ en_ ec_; (first | subst ea_ | (injection ea_ with ea_; subst ea_)); subst ec_; clear en_)); have GB9 := Aside0.mk gb9; have GG9 := Aside0.mk HG9; clear gb9 gl9 HG9; obtain ⟨hx9_0, hf9_0⟩ := Kd.R_celln false HO481.out ((ji6) : Int) p9 q9; replace p9 := eq_true p9; replace q9 := eq_true q9; obtain ⟨hy17_, hz17_⟩ := Kd.R_celln false HO481.out ((ji6) : Int) (of_decide_eq_true (by first | (with_reducible assumption) | assumption)) (of_decide_eq_true (by first | (with_reducible assumption) | assumption)); have HP17 := Kd.R_putg HO481.out ((ji6) : Int) true) | ((with_reducible refine gate_store (t := 4) (p := 17) rfl ?_); refine store_event (t := 4) (p := 17) (v := ?vo_w18) (w1 := (w14.setCell ⟨go9, ((ji6) : Int).toNat, none⟩ (.bool true))) ?hg ?ho ?hn ?hr ?_; (case ho => rfl); (case hg => rfl); (case hn => rfl); (case hr => first | (go_simp; done) | (go_simp; rfl)); intro w18 hw; have hg : w14.grownBy w18 (some go9) := (by rw [hw]; exact HP17.2); have hp_ : Kd.R Kd.bool 4 w18 w.heap.size (fun _ => True) (.slice (some ⟨go9, 0, none⟩) y479.length co16) y482 := (by rw [hw, Ny482.out]; exact HP17.1); clear HP17; replace BK477 := Aside0.mk (blk_grown (g := gb477) (o := .cells #[.slice A0_0 l0_0.length c0_0] 68 (0, 0)) (bk_ BK477) hg (Kd.R_ne HO481.out BK477.out (by decide))); replace HO481 := Aside0.mk (hp_); replace HB := Aside0.mk ((by rw [hw]; exact below_set (HB.out) GB9.out : Below w.heap.size w w18)); clear hg hw hp_; have hcz19 := blk_cell BK477.out; have hfz19 := blk_frozen BK477.out))
      go_loopg [4] k (fun kq v4 w' => ∃ (x3_1 : List Bool) (x4_1 : Int), v4 = .int .i64 x4_1 ∧ Aside0 (impl_Rising.l0 kq x3_1 x4_1 l0_0 = some r) ∧ Aside0 (kq ≤ k) ∧ Aside0 (Kd.R Kd.bool 4 w' w.heap.size (fun _ => True) (.slice (some ⟨go9, 0, none⟩) y479.length co16) x3_1) ∧ Aside0 (w'.heap[gb477]? = some (.cells #[(.slice A0_0 l0_0.length c0_0)] 68 (0, 0))) ∧ Aside0 (Below w.heap.size w w'))
      case atStart => exact ⟨(y482), (wrap64 ((l0_0.length : Int) - 1)), (by first | rfl | (simp; done) | (simp [*]; done)), H', ⟨Nat.le_refl _⟩, ⟨by (with_reducible repeat (first | apply Kd.R_alloc | apply Kd.R_drewN | apply Kd.R_drew)); exact HO481.out⟩, ⟨bk_ BK477⟩, ⟨bl_⟩⟩
      case round =>
       clear H'
       try clear p2
       try clear c3
       try clear c4
       try clear c4b0
       try clear c4b1
       try clear c5
       try clear c5b0
       try clear c5b1
       try clear p6
       try clear c7
       try clear c7b0
       try clear c8
       try clear c8b0
       try clear p9
       try clear q9
       try clear hx9
       try clear hf9
       try clear hcz11
       try clear hcz13
       try clear hcz19
       try clear hfz11
       try clear hfz13
       try clear hfz19
       try clear hx9_0
       try clear p9
       try clear q9
       obtain ⟨x3_1, x4_1, rfl, HA, HK1, HO_3, BK477, HB⟩ := hrel
       have hl3_1 := (Kd.R_reads' HO_3.out).1
       rw [hl3_1] at HO_3
       (try simp only [hl3_1])
       (try simp only [hl3_1] at BK477)
       cases gk with
       | zero => exact absurd HA.out (by simp [impl_Rising.l0])
       | succ k1 =>
        have H := HA.out
        clear HA
        simp only [impl_Rising.l0] at H
        by_cases c20 : x4_1 ≥ 0
        ·rw [if_pos c20] at H
         have c20b0 : decide (0 ≤ x4_1) = true := decide_eq_true c20
         clear c20
         by_cases c21 : 0 ≤ x4_1
         ·rw [if_pos c21] at H
          have c21b0 : decide (0 ≤ x4_1) = true := decide_eq_true c21
          clear c21
          by_cases c22 : x4_1 < (l0_0.length : Int)
          ·rw [if_pos c22] at H
           have c22b0 : decide (x4_1 < (l0_0.length : Int)) = true := decide_eq_true c22
           clear c22
           by_cases c23 : x4_1 < (x3_1.length : Int)
           ·rw [if_pos c23] at H
            have c23b0 : decide (x4_1 < (x3_1.length : Int)) = true := decide_eq_true c23
            clear c23
            obtain ⟨bq24, hbq24⟩ : ∃ b_ : Bool, b_ = (rdOf false x3_1 x4_1) := ⟨_, rfl⟩
            replace H : (if bq24 = true then (if ((rd_T71 l0_0 x4_1).f0) = 4 then (some false) else (if ((rd_T71 l0_0 x4_1).f0) = 2 then (if 0 ≤ ((rd_T71 l0_0 x4_1).f2) then (if ((rd_T71 l0_0 x4_1).f2) < (x3_1.length : Int) then (if 0 ≤ ((rd_T71 l0_0 x4_1).f3) then (if ((rd_T71 l0_0 x4_1).f3) < (x3_1.length : Int) then (impl_Rising.l0 k1 ((x3_1.set (((rd_T71 l0_0 x4_1).f2) : Int).toNat true).set (((rd_T71 l0_0 x4_1).f3) : Int).toNat true) (wrap64 (x4_1 - 1)) l0_0) else (none)) else (none)) else (none)) else (none)) else (if ((rd_T71 l0_0 x4_1).f0) = 3 then (if 0 ≤ ((rd_T71 l0_0 x4_1).f2) then (if ((rd_T71 l0_0 x4_1).f2) < (x3_1.length : Int) then (if 0 ≤ ((rd_T71 l0_0 x4_1).f3) then (if ((rd_T71 l0_0 x4_1).f3) < (x3_1.length : Int) then (impl_Rising.l0 k1 ((x3_1.set (((rd_T71 l0_0 x4_1).f2) : Int).toNat true).set (((rd_T71 l0_0 x4_1).f3) : Int).toNat true) (wrap64 (x4_1 - 1)) l0_0) else (none)) else (none)) else (none)) else (none)) else (impl_Rising.l0 k1 x3_1 (wrap64 (x4_1 - 1)) l0_0)))) else (impl_Rising.l0 k1 x3_1 (wrap64 (x4_1 - 1)) l0_0)) = some r := by rw [← hbq24] at H; exact H
            have Nbq24 := Aside0.mk hbq24
            clear hbq24
            by_cases c25 : bq24 = true
            ·subst c25
             replace H := ite_t_ H
             by_cases c26 : ((rd_T71 l0_0 x4_1).f0) = 4
             ·rw [if_pos c26] at H
              have c26b0 : (((rd_T71 l0_0 x4_1).f0) == 4) = true := beq_iff_eq.mpr c26
              have c26b1 : (((rd_T71 l0_0 x4_1).f0) != 4) = false := bne_eq_false_iff_eq.mpr c26
              clear c26
              obtain rfl := Option.some.inj H
              have hcz27 := blk_cell BK477.out
              have hfz27 := blk_frozen BK477.out
              have p483 : 0 ≤ (x4_1 : Int) := of_decide_eq_true (by first | (with_reducible assumption) | assumption)
              have q483 : x4_1 < (l0_0.length : Int) := of_decide_eq_true (by first | (with_reducible assumption) | assumption)
              obtain ⟨ad483, e483, hx483_0, hx483_1, hx483_2, hx483_3, hx483_4⟩ := at_T71 (Kd.C_below HR0_0.out HB.out) x4_1 p483 q483
              cases e483
              replace p483 := eq_true p483
              replace q483 := eq_true q483
              go_wp2_with (first | ((with_reducible refine gate_dst (N := 5) rfl ?_); refine box_event ?hg (N := 5) ?hd (cs := #[.int .i64 0, .int .i64 0, .int .i64 0, .int .i64 0, .int .i64 0]) (t := 71) ?hr ?_; (case hd => rfl); (case hg => rfl); (case hr => first | (go_simp; done) | (go_simp; rfl)); intro gb484 hg w28 hbox hb; replace HO_3 := Aside0.mk (Kd.R_below (by (with_reducible repeat (first | apply Kd.R_alloc | apply Kd.R_drewN | apply Kd.R_drew)); exact HO_3.out) hb); have BK484 := Aside0.mk (hbox); have GW484 := gs_ hg; have GE484 := gs_ hg; replace HB := hbs_ hb; have NB477_484 := Aside0.mk ((by rw [hg]; exact Nat.ne_of_lt (blk_lt (g := gb477) (o := .cells #[.slice (some ad483) l0_0.length c0_0] 68 (0, 0)) (bk_ BK477)) : gb477 ≠ gb484)); have NB484_477 := Aside0.mk ((by rw [hg]; exact Nat.ne_of_gt (blk_lt (g := gb477) (o := .cells #[.slice (some ad483) l0_0.length c0_0] 68 (0, 0)) (bk_ BK477)) : gb484 ≠ gb477)); replace BK477 := bkb_ BK477 hb; clear hb hbox hg; have hnb29 := NB484_477.out; have hnc29 := NB477_484.out; have hcz30 := blk_cell BK484.out; have hfz30 := blk_frozen BK484.out; have p485 : 0 ≤ (x4_1 : Int) := of_decide_eq_true (by first | (with_reducible assumption) | assumption); have q485 : x4_1 < (x3_1.length : Int) := of_decide_eq_true (by first | (with_reducible assumption) | assumption); obtain ⟨ad485, e485, hx485_0⟩ := Kd.at_bool (Kd.R_reads' HO_3.out).2.2 x4_1 p485 q485; (try rw [← Nbq24.out] at hx485_0); obtain rfl : (⟨go9, 0, none⟩ : Addr) = ad485 := (by injection e485); (first | simp only [add_plain] at hx485_0 | simp only [add_at] at hx485_0 | simp only [Addr.add, Nat.zero_add] at hx485_0 | skip); have hn485_0 : (⟨go9, 0, none⟩ : Addr).block ≠ gb484 := Kd.own_blk (Kd.R_ne HO_3.out BK484.out (by decide)); have hn485_1 : (⟨go9, 0, none⟩ : Addr).block ≠ gb484 := Kd.own_blk (Kd.R_ne HO_3.out BK484.out (by decide)); have hn485_2 : (⟨go9, 0, none⟩ : Addr).block ≠ gb484 := Kd.own_blk (Kd.R_ne HO_3.out BK484.out (by decide)); have hn485_3 : (⟨go9, 0, none⟩ : Addr).block ≠ gb484 := Kd.own_blk (Kd.R_ne HO_3.out BK484.out (by decide)); have hn485_4 : (⟨go9, 0, none⟩ : Addr).block ≠ gb484 := Kd.own_blk (Kd.R_ne HO_3.out BK484.out (by decide)); replace hx485_0 := (cell_far (p := ⟨gb484, 0, none⟩) (by first | (rw [add_block]; exact hn485_0) | (show (Addr.add _ _).block ≠ _; rw [add_block]; exact hn485_0) | exact hn485_0) (.int .i64 ((rd_T71 l0_0 x4_1).f0))).trans hx485_0; replace hx485_0 := (cell_far (p := ⟨gb484, 1, none⟩) (by first | (rw [add_block]; exact hn485_1) | (show (Addr.add _ _).block ≠ _; rw [add_block]; exact hn485_1) | exact hn485_1) (.int .i64 ((rd_T71 l0_0 x4_1).f1.f0))).trans hx485_0; replace hx485_0 := (cell_far (p := ⟨gb484, 2, none⟩) (by first | (rw [add_block]; exact hn485_2) | (show (Addr.add _ _).block ≠ _; rw [add_block]; exact hn485_2) | exact hn485_2) (.int .i64 ((rd_T71 l0_0 x4_1).f1.f1))).trans hx485_0; replace hx485_0 := (cell_far (p := ⟨gb484, 3, none⟩) (by first | (rw [add_block]; exact hn485_3) | (show (Addr.add _ _).block ≠ _; rw [add_block]; exact hn485_3) | exact hn485_3) (.int .i64 ((rd_T71 l0_0 x4_1).f2))).trans hx485_0; replace hx485_0 := (cell_far (p := ⟨gb484, 4, none⟩) (by first | (rw [add_block]; exact hn485_4) | (show (Addr.add _ _).block ≠ _; rw [add_block]; exact hn485_4) | exact hn485_4) (.int .i64 ((rd_T71 l0_0 x4_1).f3))).trans hx485_0; clear hn485_0; clear hn485_1; clear hn485_2; clear hn485_3; clear hn485_4; replace p485 := eq_true p485; replace q485 := eq_true q485))
              go_ret
              exact ⟨by first | rfl | (simp [errW_none, errW_some] <;> rfl) | (simp only [← hji6]; first | rfl | (simp [errW_none, errW_some] <;> rfl)) | (simp [*, errW_none, errW_some] <;> rfl), bl_⟩
             ·rw [if_neg c26] at H
              have c26b0 : (((rd_T71 l0_0 x4_1).f0) == 4) = false := beq_eq_false_iff_ne.mpr c26
              have c26b1 : (((rd_T71 l0_0 x4_1).f0) != 4) = true := bne_iff_ne.mpr c26
              by_cases c31 : ((rd_T71 l0_0 x4_1).f0) = 2
              ·rw [if_pos c31] at H
               have c31b0 : (((rd_T71 l0_0 x4_1).f0) == 2) = true := beq_iff_eq.mpr c31
               have c31b1 : (((rd_T71 l0_0 x4_1).f0) != 2) = false := bne_eq_false_iff_eq.mpr c31
               clear c31
               by_cases c32 : 0 ≤ ((rd_T71 l0_0 x4_1).f2)
               ·rw [if_pos c32] at H
                have c32b0 : decide (0 ≤ ((rd_T71 l0_0 x4_1).f2)) = true := decide_eq_true c32
                clear c32
                by_cases c33 : ((rd_T71 l0_0 x4_1).f2) < (x3_1.length : Int)
                ·rw [if_pos c33] at H
                 have c33b0 : decide (((rd_T71 l0_0 x4_1).f2) < (x3_1.length : Int)) = true := decide_eq_true c33
                 clear c33
                 obtain ⟨y486, hy486⟩ : ∃ y_ : List Bool, y_ = (x3_1.set (((rd_T71 l0_0 x4_1).f2) : Int).toNat true) := ⟨_, rfl⟩
                 replace H : (if 0 ≤ ((rd_T71 l0_0 x4_1).f3) then (if ((rd_T71 l0_0 x4_1).f3) < (x3_1.length : Int) then (impl_Rising.l0 k1 (y486.set (((rd_T71 l0_0 x4_1).f3) : Int).toNat true) (wrap64 (x4_1 - 1)) l0_0) else (none)) else (none)) = some r := by first | (rw [hy486]; with_reducible exact H) | (have H2_ := (Option.bind_some _ _).symm.trans H; rw [hy486]; with_reducible exact H2_) | (have H2_ := (Option.bind_some _ _).symm.trans H; with_reducible exact H2_) | with_reducible exact H | (rw [hy486]; exact H) | exact H
                 have Ny486 := Aside0.mk hy486
                 clear hy486
                 by_cases c35 : 0 ≤ ((rd_T71 l0_0 x4_1).f3)
                 ·rw [if_pos c35] at H
                  have c35b0 : decide (0 ≤ ((rd_T71 l0_0 x4_1).f3)) = true := decide_eq_true c35
                  clear c35
                  by_cases c36 : ((rd_T71 l0_0 x4_1).f3) < (x3_1.length : Int)
                  ·rw [if_pos c36] at H
                   have c36b0 : decide (((rd_T71 l0_0 x4_1).f3) < (x3_1.length : Int)) = true := decide_eq_true c36
                   clear c36
                   obtain ⟨y487, hy487⟩ : ∃ y_ : List Bool, y_ = (y486.set (((rd_T71 l0_0 x4_1).f3) : Int).toNat true) := ⟨_, rfl⟩
                   replace H : (impl_Rising.l0 k1 y487 (wrap64 (x4_1 - 1)) l0_0) = some r := by first | (rw [hy487]; with_reducible exact H) | (have H2_ := (Option.bind_some _ _).symm.trans H; rw [hy487]; with_reducible exact H2_) | (have H2_ := (Option.bind_some _ _).symm.trans H; with_reducible exact H2_) | with_reducible exact H | (rw [hy487]; exact H) | exact H
                   have Ny487 := Aside0.mk hy487
                   clear hy487
                   have H' := Aside0.mk H
                   clear H
                   have hcz38 := blk_cell BK477.out
                   have hfz38 := blk_frozen BK477.out
                   have p483 : 0 ≤ (x4_1 : Int) := of_decide_eq_true (by first | (with_reducible assumption) | assumption)
                   have q483 : x4_1 < (l0_0.length : Int) := of_decide_eq_true (by first | (with_reducible assumption) | assumption)
                   obtain ⟨ad483, e483, hx483_0, hx483_1, hx483_2, hx483_3, hx483_4⟩ := at_T71 (Kd.C_below HR0_0.out HB.out) x4_1 p483 q483
                   cases e483
                   replace p483 := eq_true p483
                   replace q483 := eq_true q483
                   try go_wp2_with (first | ((with_reducible refine gate_dst (N := 5) rfl ?_); refine box_event ?hg (N := 5) ?hd (cs := #[.int .i64 0, .int .i64 0, .int .i64 0, .int .i64 0, .int .i64 0]) (t := 71) ?hr ?_; (case hd => rfl); (case hg => rfl); (case hr => first | (go_simp; done) | (go_simp; rfl)); intro gb484 hg w39 hbox hb; replace HO_3 := Aside0.mk (Kd.R_below (by (with_reducible repeat (first | apply Kd.R_alloc | apply Kd.R_drewN | apply Kd.R_drew)); exact HO_3.out) hb); have BK484 := Aside0.mk (hbox); have GW484 := gs_ hg; have GE484 := gs_ hg; replace HB := hbs_ hb; have NB477_484 := Aside0.mk ((by rw [hg]; exact Nat.ne_of_lt (blk_lt (g := gb477) (o := .cells #[.slice (some ad483) l0_0.length c0_0] 68 (0, 0)) (bk_ BK477)) : gb477 ≠ gb484)); have NB484_477 := Aside0.mk ((by rw [hg]; exact Nat.ne_of_gt (blk_lt (g := gb477) (o := .cells #[.slice (some ad483) l0_0.length c0_0] 68 (0, 0)) (bk_ BK477)) : gb484 ≠ gb477)); replace BK477 := bkb_ BK477 hb; clear hb hbox hg; have hnb40 := NB484_477.out; have hnc40 := NB477_484.out; have hcz41 := blk_cell BK484.out; have hfz41 := blk_frozen BK484.out; have p485 : 0 ≤ (x4_1 : Int) := of_decide_eq_true (by first | (with_reducible assumption) | assumption); have q485 : x4_1 < (x3_1.length : Int) := of_decide_eq_true (by first | (with_reducible assumption) | assumption); obtain ⟨ad485, e485, hx485_0⟩ := Kd.at_bool (Kd.R_reads' HO_3.out).2.2 x4_1 p485 q485; (try rw [← Nbq24.out] at hx485_0); obtain rfl : (⟨go9, 0, none⟩ : Addr) = ad485 := (by injection e485); (first | simp only [add_plain] at hx485_0 | simp only [add_at] at hx485_0 | simp only [Addr.add, Nat.zero_add] at hx485_0 | skip); have hn485_0 : (⟨go9, 0, none⟩ : Addr).block ≠ gb484 := Kd.own_blk (Kd.R_ne HO_3.out BK484.out (by decide)); have hn485_1 : (⟨go9, 0, none⟩ : Addr).block ≠ gb484 := Kd.own_blk (Kd.R_ne HO_3.out BK484.out (by decide)); have hn485_2 : (⟨go9, 0, none⟩ : Addr).block ≠ gb484 := Kd.own_blk (Kd.R_ne HO_3.out BK484.out (by decide)); have hn485_3 : (⟨go9, 0, none⟩ : Addr).block ≠ gb484 := Kd.own_blk (Kd.R_ne HO_3.out BK484.out (by decide)); have hn485_4 : (⟨go9, 0, none⟩ : Addr).block ≠ gb484 := Kd.own_blk (Kd.R_ne HO_3.out BK484.out (by decide)); replace hx485_0 := (cell_far (p := ⟨gb484, 0, none⟩) (by first | (rw [add_block]; exact hn485_0) | (show (Addr.add _ _).block ≠ _; rw [add_block]; exact hn485_0) | exact hn485_0) (.int .i64 ((rd_T71 l0_0 x4_1).f0))).trans hx485_0; replace hx485_0 := (cell_far (p := ⟨gb484, 1, none⟩) (by first | (rw [add_block]; exact hn485_1) | (show (Addr.add _ _).block ≠ _; rw [add_block]; exact hn485_1) | exact hn485_1) (.int .i64 ((rd_T71 l0_0 x4_1).f1.f0))).trans hx485_0; replace hx485_0 := (cell_far (p := ⟨gb484, 2, none⟩) (by first | (rw [add_block]; exact hn485_2) | (show (Addr.add _ _).block ≠ _; rw [add_block]; exact hn485_2) | exact hn485_2) (.int .i64 ((rd_T71 l0_0 x4_1).f1.f1))).trans hx485_0; replace hx485_0 := (cell_far (p := ⟨gb484, 3, none⟩) (by first | (rw [add_block]; exact hn485_3) | (show (Addr.add _ _).block ≠ _; rw [add_block]; exact hn485_3) | exact hn485_3) (.int .i64 ((rd_T71 l0_0 x4_1).f2))).trans hx485_0; replace hx485_0 := (cell_far (p := ⟨gb484, 4, none⟩) (by first | (rw [add_block]; exact hn485_4) | (show (Addr.add _ _).block ≠ _; rw [add_block]; exact hn485_4) | exact hn485_4) (.int .i64 ((rd_T71 l0_0 x4_1).f3))).trans hx485_0; clear hn485_0; clear hn485_1; clear hn485_2; clear hn485_3; clear hn485_4; replace p485 := eq_true p485; replace q485 := eq_true q485))
                   have n0_ : Aside0 (Kd.R Kd.bool 4 (((((w39.setCell ⟨gb484, 0, none⟩ (.int .i64 ((rd_T71 l0_0 x4_1).f0))).setCell ⟨gb484, 1, none⟩ (.int .i64 ((rd_T71 l0_0 x4_1).f1.f0))).setCell ⟨gb484, 2, none⟩ (.int .i64 ((rd_T71 l0_0 x4_1).f1.f1))).setCell ⟨gb484, 3, none⟩ (.int .i64 ((rd_T71 l0_0 x4_1).f2))).setCell ⟨gb484, 4, none⟩ (.int .i64 ((rd_T71 l0_0 x4_1).f3))) w.heap.size (fun _ => True) (.slice (some ⟨go9, 0, none⟩) x3_1.length co16) x3_1) := ⟨by (with_reducible repeat (first | apply Kd.R_alloc | apply Kd.R_drewN | apply Kd.R_drew)); exact Kd.R_mono (Kd.R_far (p := ⟨gb484, 4, none⟩) (Kd.R_far (p := ⟨gb484, 3, none⟩) (Kd.R_far (p := ⟨gb484, 2, none⟩) (Kd.R_far (p := ⟨gb484, 1, none⟩) (Kd.R_far (p := ⟨gb484, 0, none⟩) (Kd.R_types HO_3.out BK484.out (by decide)) (fun _ hk => hk.2) (.int .i64 ((rd_T71 l0_0 x4_1).f0))) (fun _ hk => hk.2) (.int .i64 ((rd_T71 l0_0 x4_1).f1.f0))) (fun _ hk => hk.2) (.int .i64 ((rd_T71 l0_0 x4_1).f1.f1))) (fun _ hk => hk.2) (.int .i64 ((rd_T71 l0_0 x4_1).f2))) (fun _ hk => hk.2) (.int .i64 ((rd_T71 l0_0 x4_1).f3))) (fun _ hk => trivial)⟩
                   have n1_ : Aside0 ((((((w39.setCell ⟨gb484, 0, none⟩ (.int .i64 ((rd_T71 l0_0 x4_1).f0))).setCell ⟨gb484, 1, none⟩ (.int .i64 ((rd_T71 l0_0 x4_1).f1.f0))).setCell ⟨gb484, 2, none⟩ (.int .i64 ((rd_T71 l0_0 x4_1).f1.f1))).setCell ⟨gb484, 3, none⟩ (.int .i64 ((rd_T71 l0_0 x4_1).f2))).setCell ⟨gb484, 4, none⟩ (.int .i64 ((rd_T71 l0_0 x4_1).f3))).heap[gb477]? = some (.cells #[.slice (some ad483) l0_0.length c0_0] 68 (0, 0))) := ⟨bk_ BK477⟩
                   have n2_ : Aside0 ((((((w39.setCell ⟨gb484, 0, none⟩ (.int .i64 ((rd_T71 l0_0 x4_1).f0))).setCell ⟨gb484, 1, none⟩ (.int .i64 ((rd_T71 l0_0 x4_1).f1.f0))).setCell ⟨gb484, 2, none⟩ (.int .i64 ((rd_T71 l0_0 x4_1).f1.f1))).setCell ⟨gb484, 3, none⟩ (.int .i64 ((rd_T71 l0_0 x4_1).f2))).setCell ⟨gb484, 4, none⟩ (.int .i64 ((rd_T71 l0_0 x4_1).f3))).heap[gb484]? = some (.cells #[.int .i64 ((rd_T71 l0_0 x4_1).f0), .int .i64 ((rd_T71 l0_0 x4_1).f1.f0), .int .i64 ((rd_T71 l0_0 x4_1).f1.f1), .int .i64 ((rd_T71 l0_0 x4_1).f2), .int .i64 ((rd_T71 l0_0 x4_1).f3)] 71 (0, 0))) := ⟨bk_ BK484⟩
                   have n3_ : Aside0 (Below w.heap.size w (((((w39.setCell ⟨gb484, 0, none⟩ (.int .i64 ((rd_T71 l0_0 x4_1).f0))).setCell ⟨gb484, 1, none⟩ (.int .i64 ((rd_T71 l0_0 x4_1).f1.f0))).setCell ⟨gb484, 2, none⟩ (.int .i64 ((rd_T71 l0_0 x4_1).f1.f1))).setCell ⟨gb484, 3, none⟩ (.int .i64 ((rd_T71 l0_0 x4_1).f2))).setCell ⟨gb484, 4, none⟩ (.int .i64 ((rd_T71 l0_0 x4_1).f3)))) := ⟨bl_⟩
                   (try clear HO_3)
                   (try clear BK477)
                   (try clear BK484)
                   (try clear HB)
                   generalize (((((w39.setCell ⟨gb484, 0, none⟩ (.int .i64 ((rd_T71 l0_0 x4_1).f0))).setCell ⟨gb484, 1, none⟩ (.int .i64 ((rd_T71 l0_0 x4_1).f1.f0))).setCell ⟨gb484, 2, none⟩ (.int .i64 ((rd_T71 l0_0 x4_1).f1.f1))).setCell ⟨gb484, 3, none⟩ (.int .i64 ((rd_T71 l0_0 x4_1).f2))).setCell ⟨gb484, 4, none⟩ (.int .i64 ((rd_T71 l0_0 x4_1).f3))) = w42 at n0_ n1_ n2_ n3_ ⊢
                   have HO_3 := n0_
                   have BK477 := n1_
                   have BK484 := n2_
                   have HB := n3_
                   clear n0_ n1_ n2_ n3_
                   replace HO_3 := Aside0.mk (Kd.R_drew HO_3.out)
                   replace BK477 := Aside0.mk (blk_drew BK477.out)
                   replace BK484 := Aside0.mk (blk_drew BK484.out)
                   replace HB := Aside0.mk (below_drew1 HB.out)
                   have p34 : 0 ≤ (((rd_T71 l0_0 x4_1).f2) : Int) := of_decide_eq_true (by first | (with_reducible assumption) | assumption)
                   have q34 : (((rd_T71 l0_0 x4_1).f2) : Int) < ((x3_1.length : Int) : Int) := of_decide_eq_true (by first | (with_reducible assumption) | assumption)
                   obtain ⟨hx34_0, hf34_0⟩ := Kd.R_celln false HO_3.out (((rd_T71 l0_0 x4_1).f2) : Int) p34 q34
                   replace p34 := eq_true p34
                   replace q34 := eq_true q34
                   have HP44 := Kd.R_putn HO_3.out (((rd_T71 l0_0 x4_1).f2) : Int) true
                   rw [← Ny486.out] at HP44
                   have HQ44 := Aside0.mk HP44
                   clear HP44
                   have p37 : 0 ≤ (((rd_T71 l0_0 x4_1).f3) : Int) := of_decide_eq_true (by first | (with_reducible assumption) | assumption)
                   have q37 : (((rd_T71 l0_0 x4_1).f3) : Int) < ((x3_1.length : Int) : Int) := of_decide_eq_true (by first | (with_reducible assumption) | assumption)
                   obtain ⟨hx37_0, hf37_0⟩ := Kd.R_celln false HQ44.out (((rd_T71 l0_0 x4_1).f3) : Int) p37 q37
                   replace p37 := eq_true p37
                   replace q37 := eq_true q37
                   have HP45 := Kd.R_putn HQ44.out (((rd_T71 l0_0 x4_1).f3) : Int) true
                   rw [← Ny487.out] at HP45
                   have HQ45 := Aside0.mk HP45
                   clear HP45
                   refine start_ (n := 10) (S := fun w' => w'.cell? ⟨gb484, 0, none⟩ = some (.int .i64 ((rd_T71 l0_0 x4_1).f0)) ∧ w'.cell? ⟨gb484, 1, none⟩ = some (.int .i64 ((rd_T71 l0_0 x4_1).f1.f0)) ∧ w'.cell? ⟨gb484, 2, none⟩ = some (.int .i64 ((rd_T71 l0_0 x4_1).f1.f1)) ∧ w'.cell? ⟨gb484, 3, none⟩ = some (.int .i64 ((rd_T71 l0_0 x4_1).f2)) ∧ w'.cell? ⟨gb484, 4, none⟩ = some (.int .i64 ((rd_T71 l0_0 x4_1).f3))) (ds := [9]) #[false, false, false, false, false, false, false, false, false, false] (by kernel_rfl) rfl rfl ⟨(blk_cell BK484.out 0).trans rfl, (blk_cell BK484.out 1).trans rfl, (blk_cell BK484.out 2).trans rfl, (blk_cell BK484.out 3).trans rfl, (blk_cell BK484.out 4).trans rfl⟩ (fun hHeld => ?_); refine with_tabW impl_Rising.tab15 impl_Rising.bits15 (fun HT_ HW_ => ?_)
                   generalize w42.drew = w43 at HO_3 BK477 BK484 HB HQ44 HQ45 hf34_0 hf37_0 hx34_0 hx37_0 hHeld ⊢
                   refine pureZ_ (i := 0) (some 43) #[true, false, false, false, false, false, false, false, false, false] (any_of HT_.out (by kernel_rfl)) ?_
                   refine pureZ_ (i := 1) (some 44) #[true, true, false, false, false, false, false, false, false, false] (any_of HT_.out (by kernel_rfl)) ?_
                   refine pureZ_ (i := 3) (some 46) #[true, true, false, true, false, false, false, false, false, false] (any_of HT_.out (by kernel_rfl)) ?_
                   refine pureZ_ (i := 4) (some 47) #[true, true, false, true, true, false, false, false, false, false] (any_of HT_.out (by kernel_rfl)) ?_
                   refine takeZ_ (i := 2) (some 45) #[true, true, true, true, true, false, false, false, false, false] (take_ofW HT_.out HW_.out (by kernel_rfl)) hHeld ?_
                   refine pureZ_ (i := 6) (some 49) #[true, true, true, true, true, false, true, false, false, false] (any_of HT_.out (by kernel_rfl)) ?_
                   refine takeZ_ (i := 5) (some 48) #[true, true, true, true, true, true, true, false, false, false] (take_ofW HT_.out HW_.out (by kernel_rfl)) hHeld ?_
                   refine one_ (i := 7) (N := none) #[true, true, true, true, true, true, true, true, false, false] rfl rfl (one_of HT_.out (by kernel_rfl)) (by decide) (fun K hK => ?_)
                   refine skip_ (w1 := ?_) (by rfl) rfl ?_ ?_
                   rotate_left
                   ·go_simp
                    rfl
                   refine hK.out _ _ ⟨((cell_far (p := ⟨go9, _, none⟩) (show gb484 ≠ go9 from Ne.symm (Kd.own_blk (ad := ⟨go9, 0, none⟩) (Kd.R_ne HO_3.out BK484.out (by decide)))) _).trans (hHeld.1)), ((cell_far (p := ⟨go9, _, none⟩) (show gb484 ≠ go9 from Ne.symm (Kd.own_blk (ad := ⟨go9, 0, none⟩) (Kd.R_ne HO_3.out BK484.out (by decide)))) _).trans (hHeld.2.1)), ((cell_far (p := ⟨go9, _, none⟩) (show gb484 ≠ go9 from Ne.symm (Kd.own_blk (ad := ⟨go9, 0, none⟩) (Kd.R_ne HO_3.out BK484.out (by decide)))) _).trans (hHeld.2.2.1)), ((cell_far (p := ⟨go9, _, none⟩) (show gb484 ≠ go9 from Ne.symm (Kd.own_blk (ad := ⟨go9, 0, none⟩) (Kd.R_ne HO_3.out BK484.out (by decide)))) _).trans (hHeld.2.2.2.1)), ((cell_far (p := ⟨go9, _, none⟩) (show gb484 ≠ go9 from Ne.symm (Kd.own_blk (ad := ⟨go9, 0, none⟩) (Kd.R_ne HO_3.out BK484.out (by decide)))) _).trans (hHeld.2.2.2.2))⟩ (fun hHeld => ?_)
                   clear hK K
                   refine pureZ_ (i := 8) (some 50) #[true, true, true, true, true, true, true, true, true, false] (any_of HT_.out (by kernel_rfl)) ?_
                   refine last_ (i := 9) (N := none) #[true, true, true, true, true, true, true, true, true, true] rfl rfl (one_of HT_.out (by kernel_rfl)) (by decide) (fun K hK => ?_)
                   refine skip_ (w1 := ?_) (by rfl) rfl ?_ ?_
                   rotate_left
                   ·go_simp
                    rfl
                   refine hK.out _ _ ?_
                   clear hK K
                   refine done_ (done_of HT_.out (by kernel_rfl)) ?_
                   try go_wp2
                   (try simp only [← hl3_1])
                   go_roundg k1
                   case measure => have := HK1.out; omega
                   case rel => exact ⟨(y487), (wrap64 (x4_1 - 1)), (by first | rfl | (simp; done) | (simp [*]; done)), H', ⟨by have := HK1.out; omega⟩, ⟨by (try simp only [hl3_1]); (with_reducible repeat (first | apply Kd.R_alloc | apply Kd.R_drewN | apply Kd.R_drew)); exact HQ45.out⟩, ⟨by (try simp only [hl3_1]); (with_reducible repeat (first | refine blk_drewN ?_ _ | refine blk_drew ?_ | refine blk_alloc ?_ _)); refine blk_far ?_ (by have h_ := Kd.R_ne HO_3.out BK477.out (by decide); intro e_; exact h_ (by rw [e_]; rfl)) _; (with_reducible repeat (first | refine blk_drewN ?_ _ | refine blk_drew ?_ | refine blk_alloc ?_ _)); refine blk_far ?_ (by have h_ := Kd.R_ne HO_3.out BK477.out (by decide); intro e_; exact h_ (by rw [e_]; rfl)) _; (with_reducible repeat (first | refine blk_drewN ?_ _ | refine blk_drew ?_ | refine blk_alloc ?_ _)); exact BK477.out⟩, ⟨by repeat (first | (with_reducible first | exact HB.out | apply below_alloc | apply pw_below_drewN | apply below_drew1 | refine below_set ?_ GB9.out | refine below_set ?_ GB9.out | refine below_set ?_ GE477.out | refine below_set ?_ GE484.out) | exact HB.out)⟩⟩
                  ·rw [if_neg c36] at H
                   exact absurd H (by simp)
                 ·rw [if_neg c35] at H
                  exact absurd H (by simp)
                ·rw [if_neg c33] at H
                 exact absurd H (by simp)
               ·rw [if_neg c32] at H
                exact absurd H (by simp)
              ·rw [if_neg c31] at H
               have c31b0 : (((rd_T71 l0_0 x4_1).f0) == 2) = false := beq_eq_false_iff_ne.mpr c31
               have c31b1 : (((rd_T71 l0_0 x4_1).f0) != 2) = true := bne_iff_ne.mpr c31
               by_cases c46 : ((rd_T71 l0_0 x4_1).f0) = 3
               ·rw [if_pos c46] at H
                have c46b0 : (((rd_T71 l0_0 x4_1).f0) == 3) = true := beq_iff_eq.mpr c46
                have c46b1 : (((rd_T71 l0_0 x4_1).f0) != 3) = false := bne_eq_false_iff_eq.mpr c46
                clear c46
                by_cases c47 : 0 ≤ ((rd_T71 l0_0 x4_1).f2)
                ·rw [if_pos c47] at H
                 have c47b0 : decide (0 ≤ ((rd_T71 l0_0 x4_1).f2)) = true := decide_eq_true c47
                 clear c47
                 by_cases c48 : ((rd_T71 l0_0 x4_1).f2) < (x3_1.length : Int)
                 ·rw [if_pos c48] at H
                  have c48b0 : decide (((rd_T71 l0_0 x4_1).f2) < (x3_1.length : Int)) = true := decide_eq_true c48
                  clear c48
                  obtain ⟨y488, hy488⟩ : ∃ y_ : List Bool, y_ = (x3_1.set (((rd_T71 l0_0 x4_1).f2) : Int).toNat true) := ⟨_, rfl⟩
                  replace H : (if 0 ≤ ((rd_T71 l0_0 x4_1).f3) then (if ((rd_T71 l0_0 x4_1).f3) < (x3_1.length : Int) then (impl_Rising.l0 k1 (y488.set (((rd_T71 l0_0 x4_1).f3) : Int).toNat true) (wrap64 (x4_1 - 1)) l0_0) else (none)) else (none)) = some r := by first | (rw [hy488]; with_reducible exact H) | (have H2_ := (Option.bind_some _ _).symm.trans H; rw [hy488]; with_reducible exact H2_) | (have H2_ := (Option.bind_some _ _).symm.trans H; with_reducible exact H2_) | with_reducible exact H | (rw [hy488]; exact H) | exact H
                  have Ny488 := Aside0.mk hy488
                  clear hy488
                  by_cases c50 : 0 ≤ ((rd_T71 l0_0 x4_1).f3)
                  ·rw [if_pos c50] at H
                   have c50b0 : decide (0 ≤ ((rd_T71 l0_0 x4_1).f3)) = true := decide_eq_true c50
                   clear c50
                   by_cases c51 : ((rd_T71 l0_0 x4_1).f3) < (x3_1.length : Int)
                   ·rw [if_pos c51] at H
                    have c51b0 : decide (((rd_T71 l0_0 x4_1).f3) < (x3_1.length : Int)) = true := decide_eq_true c51
                    clear c51
                    obtain ⟨y489, hy489⟩ : ∃ y_ : List Bool, y_ = (y488.set (((rd_T71 l0_0 x4_1).f3) : Int).toNat true) := ⟨_, rfl⟩
                    replace H : (impl_Rising.l0 k1 y489 (wrap64 (x4_1 - 1)) l0_0) = some r := by first | (rw [hy489]; with_reducible exact H) | (have H2_ := (Option.bind_some _ _).symm.trans H; rw [hy489]; with_reducible exact H2_) | (have H2_ := (Option.bind_some _ _).symm.trans H; with_reducible exact H2_) | with_reducible exact H | (rw [hy489]; exact H) | exact H
                    have Ny489 := Aside0.mk hy489
                    clear hy489
                    have H' := Aside0.mk H
                    clear H
                    have hcz53 := blk_cell BK477.out
                    have hfz53 := blk_frozen BK477.out
                    have p483 : 0 ≤ (x4_1 : Int) := of_decide_eq_true (by first | (with_reducible assumption) | assumption)
                    have q483 : x4_1 < (l0_0.length : Int) := of_decide_eq_true (by first | (with_reducible assumption) | assumption)
                    obtain ⟨ad483, e483, hx483_0, hx483_1, hx483_2, hx483_3, hx483_4⟩ := at_T71 (Kd.C_below HR0_0.out HB.out) x4_1 p483 q483
                    cases e483
                    replace p483 := eq_true p483
                    replace q483 := eq_true q483
                    try go_wp2_with (first | ((with_reducible refine gate_dst (N := 5) rfl ?_); refine box_event ?hg (N := 5) ?hd (cs := #[.int .i64 0, .int .i64 0, .int .i64 0, .int .i64 0, .int .i64 0]) (t := 71) ?hr ?_; (case hd => rfl); (case hg => rfl); (case hr => first | (go_simp; done) | (go_simp; rfl)); intro gb484 hg w54 hbox hb; replace HO_3 := Aside0.mk (Kd.R_below (by (with_reducible repeat (first | apply Kd.R_alloc | apply Kd.R_drewN | apply Kd.R_drew)); exact HO_3.out) hb); have BK484 := Aside0.mk (hbox); have GW484 := gs_ hg; have GE484 := gs_ hg; replace HB := hbs_ hb; have NB477_484 := Aside0.mk ((by rw [hg]; exact Nat.ne_of_lt (blk_lt (g := gb477) (o := .cells #[.slice (some ad483) l0_0.length c0_0] 68 (0, 0)) (bk_ BK477)) : gb477 ≠ gb484)); have NB484_477 := Aside0.mk ((by rw [hg]; exact Nat.ne_of_gt (blk_lt (g := gb477) (o := .cells #[.slice (some ad483) l0_0.length c0_0] 68 (0, 0)) (bk_ BK477)) : gb484 ≠ gb477)); replace BK477 := bkb_ BK477 hb; clear hb hbox hg; have hnb55 := NB484_477.out; have hnc55 := NB477_484.out; have hcz56 := blk_cell BK484.out; have hfz56 := blk_frozen BK484.out; have p485 : 0 ≤ (x4_1 : Int) := of_decide_eq_true (by first | (with_reducible assumption) | assumption); have q485 : x4_1 < (x3_1.length : Int) := of_decide_eq_true (by first | (with_reducible assumption) | assumption); obtain ⟨ad485, e485, hx485_0⟩ := Kd.at_bool (Kd.R_reads' HO_3.out).2.2 x4_1 p485 q485; (try rw [← Nbq24.out] at hx485_0); obtain rfl : (⟨go9, 0, none⟩ : Addr) = ad485 := (by injection e485); (first | simp only [add_plain] at hx485_0 | simp only [add_at] at hx485_0 | simp only [Addr.add, Nat.zero_add] at hx485_0 | skip); have hn485_0 : (⟨go9, 0, none⟩ : Addr).block ≠ gb484 := Kd.own_blk (Kd.R_ne HO_3.out BK484.out (by decide)); have hn485_1 : (⟨go9, 0, none⟩ : Addr).block ≠ gb484 := Kd.own_blk (Kd.R_ne HO_3.out BK484.out (by decide)); have hn485_2 : (⟨go9, 0, none⟩ : Addr).block ≠ gb484 := Kd.own_blk (Kd.R_ne HO_3.out BK484.out (by decide)); have hn485_3 : (⟨go9, 0, none⟩ : Addr).block ≠ gb484 := Kd.own_blk (Kd.R_ne HO_3.out BK484.out (by decide)); have hn485_4 : (⟨go9, 0, none⟩ : Addr).block ≠ gb484 := Kd.own_blk (Kd.R_ne HO_3.out BK484.out (by decide)); replace hx485_0 := (cell_far (p := ⟨gb484, 0, none⟩) (by first | (rw [add_block]; exact hn485_0) | (show (Addr.add _ _).block ≠ _; rw [add_block]; exact hn485_0) | exact hn485_0) (.int .i64 ((rd_T71 l0_0 x4_1).f0))).trans hx485_0; replace hx485_0 := (cell_far (p := ⟨gb484, 1, none⟩) (by first | (rw [add_block]; exact hn485_1) | (show (Addr.add _ _).block ≠ _; rw [add_block]; exact hn485_1) | exact hn485_1) (.int .i64 ((rd_T71 l0_0 x4_1).f1.f0))).trans hx485_0; replace hx485_0 := (cell_far (p := ⟨gb484, 2, none⟩) (by first | (rw [add_block]; exact hn485_2) | (show (Addr.add _ _).block ≠ _; rw [add_block]; exact hn485_2) | exact hn485_2) (.int .i64 ((rd_T71 l0_0 x4_1).f1.f1))).trans hx485_0; replace hx485_0 := (cell_far (p := ⟨gb484, 3, none⟩) (by first | (rw [add_block]; exact hn485_3) | (show (Addr.add _ _).block ≠ _; rw [add_block]; exact hn485_3) | exact hn485_3) (.int .i64 ((rd_T71 l0_0 x4_1).f2))).trans hx485_0; replace hx485_0 := (cell_far (p := ⟨gb484, 4, none⟩) (by first | (rw [add_block]; exact hn485_4) | (show (Addr.add _ _).block ≠ _; rw [add_block]; exact hn485_4) | exact hn485_4) (.int .i64 ((rd_T71 l0_0 x4_1).f3))).trans hx485_0; clear hn485_0; clear hn485_1; clear hn485_2; clear hn485_3; clear hn485_4; replace p485 := eq_true p485; replace q485 := eq_true q485))
                    have n0_ : Aside0 (Kd.R Kd.bool 4 (((((w54.setCell ⟨gb484, 0, none⟩ (.int .i64 ((rd_T71 l0_0 x4_1).f0))).setCell ⟨gb484, 1, none⟩ (.int .i64 ((rd_T71 l0_0 x4_1).f1.f0))).setCell ⟨gb484, 2, none⟩ (.int .i64 ((rd_T71 l0_0 x4_1).f1.f1))).setCell ⟨gb484, 3, none⟩ (.int .i64 ((rd_T71 l0_0 x4_1).f2))).setCell ⟨gb484, 4, none⟩ (.int .i64 ((rd_T71 l0_0 x4_1).f3))) w.heap.size (fun _ => True) (.slice (some ⟨go9, 0, none⟩) x3_1.length co16) x3_1) := ⟨by (with_reducible repeat (first | apply Kd.R_alloc | apply Kd.R_drewN | apply Kd.R_drew)); exact Kd.R_mono (Kd.R_far (p := ⟨gb484, 4, none⟩) (Kd.R_far (p := ⟨gb484, 3, none⟩) (Kd.R_far (p := ⟨gb484, 2, none⟩) (Kd.R_far (p := ⟨gb484, 1, none⟩) (Kd.R_far (p := ⟨gb484, 0, none⟩) (Kd.R_types HO_3.out BK484.out (by decide)) (fun _ hk => hk.2) (.int .i64 ((rd_T71 l0_0 x4_1).f0))) (fun _ hk => hk.2) (.int .i64 ((rd_T71 l0_0 x4_1).f1.f0))) (fun _ hk => hk.2) (.int .i64 ((rd_T71 l0_0 x4_1).f1.f1))) (fun _ hk => hk.2) (.int .i64 ((rd_T71 l0_0 x4_1).f2))) (fun _ hk => hk.2) (.int .i64 ((rd_T71 l0_0 x4_1).f3))) (fun _ hk => trivial)⟩
                    have n1_ : Aside0 ((((((w54.setCell ⟨gb484, 0, none⟩ (.int .i64 ((rd_T71 l0_0 x4_1).f0))).setCell ⟨gb484, 1, none⟩ (.int .i64 ((rd_T71 l0_0 x4_1).f1.f0))).setCell ⟨gb484, 2, none⟩ (.int .i64 ((rd_T71 l0_0 x4_1).f1.f1))).setCell ⟨gb484, 3, none⟩ (.int .i64 ((rd_T71 l0_0 x4_1).f2))).setCell ⟨gb484, 4, none⟩ (.int .i64 ((rd_T71 l0_0 x4_1).f3))).heap[gb477]? = some (.cells #[.slice (some ad483) l0_0.length c0_0] 68 (0, 0))) := ⟨bk_ BK477⟩
                    have n2_ : Aside0 ((((((w54.setCell ⟨gb484, 0, none⟩ (.int .i64 ((rd_T71 l0_0 x4_1).f0))).setCell ⟨gb484, 1, none⟩ (.int .i64 ((rd_T71 l0_0 x4_1).f1.f0))).setCell ⟨gb484, 2, none⟩ (.int .i64 ((rd_T71 l0_0 x4_1).f1.f1))).setCell ⟨gb484, 3, none⟩ (.int .i64 ((rd_T71 l0_0 x4_1).f2))).setCell ⟨gb484, 4, none⟩ (.int .i64 ((rd_T71 l0_0 x4_1).f3))).heap[gb484]? = some (.cells #[.int .i64 ((rd_T71 l0_0 x4_1).f0), .int .i64 ((rd_T71 l0_0 x4_1).f1.f0), .int .i64 ((rd_T71 l0_0 x4_1).f1.f1), .int .i64 ((rd_T71 l0_0 x4_1).f2), .int .i64 ((rd_T71 l0_0 x4_1).f3)] 71 (0, 0))) := ⟨bk_ BK484⟩
                    have n3_ : Aside0 (Below w.heap.size w (((((w54.setCell ⟨gb484, 0, none⟩ (.int .i64 ((rd_T71 l0_0 x4_1).f0))).setCell ⟨gb484, 1, none⟩ (.int .i64 ((rd_T71 l0_0 x4_1).f1.f0))).setCell ⟨gb484, 2, none⟩ (.int .i64 ((rd_T71 l0_0 x4_1).f1.f1))).setCell ⟨gb484, 3, none⟩ (.int .i64 ((rd_T71 l0_0 x4_1).f2))).setCell ⟨gb484, 4, none⟩ (.int .i64 ((rd_T71 l0_0 x4_1).f3)))) := ⟨bl_⟩
                    (try clear HO_3)
                    (try clear BK477)
                    (try clear BK484)
                    (try clear HB)
                    generalize (((((w54.setCell ⟨gb484, 0, none⟩ (.int .i64 ((rd_T71 l0_0 x4_1).f0))).setCell ⟨gb484, 1, none⟩ (.int .i64 ((rd_T71 l0_0 x4_1).f1.f0))).setCell ⟨gb484, 2, none⟩ (.int .i64 ((rd_T71 l0_0 x4_1).f1.f1))).setCell ⟨gb484, 3, none⟩ (.int .i64 ((rd_T71 l0_0 x4_1).f2))).setCell ⟨gb484, 4, none⟩ (.int .i64 ((rd_T71 l0_0 x4_1).f3))) = w57 at n0_ n1_ n2_ n3_ ⊢
                    have HO_3 := n0_
                    have BK477 := n1_
                    have BK484 := n2_
                    have HB := n3_
                    clear n0_ n1_ n2_ n3_
                    replace HO_3 := Aside0.mk (Kd.R_drew HO_3.out)
                    replace BK477 := Aside0.mk (blk_drew BK477.out)
                    replace BK484 := Aside0.mk (blk_drew BK484.out)
                    replace HB := Aside0.mk (below_drew1 HB.out)
                    have p49 : 0 ≤ (((rd_T71 l0_0 x4_1).f2) : Int) := of_decide_eq_true (by first | (with_reducible assumption) | assumption)
                    have q49 : (((rd_T71 l0_0 x4_1).f2) : Int) < ((x3_1.length : Int) : Int) := of_decide_eq_true (by first | (with_reducible assumption) | assumption)
                    obtain ⟨hx49_0, hf49_0⟩ := Kd.R_celln false HO_3.out (((rd_T71 l0_0 x4_1).f2) : Int) p49 q49
                    replace p49 := eq_true p49
                    replace q49 := eq_true q49
                    have HP59 := Kd.R_putn HO_3.out (((rd_T71 l0_0 x4_1).f2) : Int) true
                    rw [← Ny488.out] at HP59
                    have HQ59 := Aside0.mk HP59
                    clear HP59
                    have p52 : 0 ≤ (((rd_T71 l0_0 x4_1).f3) : Int) := of_decide_eq_true (by first | (with_reducible assumption) | assumption)
                    have q52 : (((rd_T71 l0_0 x4_1).f3) : Int) < ((x3_1.length : Int) : Int) := of_decide_eq_true (by first | (with_reducible assumption) | assumption)
                    obtain ⟨hx52_0, hf52_0⟩ := Kd.R_celln false HQ59.out (((rd_T71 l0_0 x4_1).f3) : Int) p52 q52
                    replace p52 := eq_true p52
                    replace q52 := eq_true q52
                    have HP60 := Kd.R_putn HQ59.out (((rd_T71 l0_0 x4_1).f3) : Int) true
                    rw [← Ny489.out] at HP60
                    have HQ60 := Aside0.mk HP60
                    clear HP60
                    refine start_ (n := 10) (S := fun w' => w'.cell? ⟨gb484, 0, none⟩ = some (.int .i64 ((rd_T71 l0_0 x4_1).f0)) ∧ w'.cell? ⟨gb484, 1, none⟩ = some (.int .i64 ((rd_T71 l0_0 x4_1).f1.f0)) ∧ w'.cell? ⟨gb484, 2, none⟩ = some (.int .i64 ((rd_T71 l0_0 x4_1).f1.f1)) ∧ w'.cell? ⟨gb484, 3, none⟩ = some (.int .i64 ((rd_T71 l0_0 x4_1).f2)) ∧ w'.cell? ⟨gb484, 4, none⟩ = some (.int .i64 ((rd_T71 l0_0 x4_1).f3))) (ds := [9]) #[false, false, false, false, false, false, false, false, false, false] (by kernel_rfl) rfl rfl ⟨(blk_cell BK484.out 0).trans rfl, (blk_cell BK484.out 1).trans rfl, (blk_cell BK484.out 2).trans rfl, (blk_cell BK484.out 3).trans rfl, (blk_cell BK484.out 4).trans rfl⟩ (fun hHeld => ?_); refine with_tabW impl_Rising.tab15 impl_Rising.bits15 (fun HT_ HW_ => ?_)
                    generalize w57.drew = w58 at HO_3 BK477 BK484 HB HQ59 HQ60 hf49_0 hf52_0 hx49_0 hx52_0 hHeld ⊢
                    refine pureZ_ (i := 0) (some 43) #[true, false, false, false, false, false, false, false, false, false] (any_of HT_.out (by kernel_rfl)) ?_
                    refine pureZ_ (i := 1) (some 44) #[true, true, false, false, false, false, false, false, false, false] (any_of HT_.out (by kernel_rfl)) ?_
                    refine pureZ_ (i := 3) (some 46) #[true, true, false, true, false, false, false, false, false, false] (any_of HT_.out (by kernel_rfl)) ?_
                    refine pureZ_ (i := 4) (some 47) #[true, true, false, true, true, false, false, false, false, false] (any_of HT_.out (by kernel_rfl)) ?_
                    refine takeZ_ (i := 2) (some 45) #[true, true, true, true, true, false, false, false, false, false] (take_ofW HT_.out HW_.out (by kernel_rfl)) hHeld ?_
                    refine pureZ_ (i := 6) (some 49) #[true, true, true, true, true, false, true, false, false, false] (any_of HT_.out (by kernel_rfl)) ?_
                    refine takeZ_ (i := 5) (some 48) #[true, true, true, true, true, true, true, false, false, false] (take_ofW HT_.out HW_.out (by kernel_rfl)) hHeld ?_
                    refine one_ (i := 7) (N := none) #[true, true, true, true, true, true, true, true, false, false] rfl rfl (one_of HT_.out (by kernel_rfl)) (by decide) (fun K hK => ?_)
                    refine skip_ (w1 := ?_) (by rfl) rfl ?_ ?_
                    rotate_left
                    ·go_simp
                     rfl
                    refine hK.out _ _ ⟨((cell_far (p := ⟨go9, _, none⟩) (show gb484 ≠ go9 from Ne.symm (Kd.own_blk (ad := ⟨go9, 0, none⟩) (Kd.R_ne HO_3.out BK484.out (by decide)))) _).trans (hHeld.1)), ((cell_far (p := ⟨go9, _, none⟩) (show gb484 ≠ go9 from Ne.symm (Kd.own_blk (ad := ⟨go9, 0, none⟩) (Kd.R_ne HO_3.out BK484.out (by decide)))) _).trans (hHeld.2.1)), ((cell_far (p := ⟨go9, _, none⟩) (show gb484 ≠ go9 from Ne.symm (Kd.own_blk (ad := ⟨go9, 0, none⟩) (Kd.R_ne HO_3.out BK484.out (by decide)))) _).trans (hHeld.2.2.1)), ((cell_far (p := ⟨go9, _, none⟩) (show gb484 ≠ go9 from Ne.symm (Kd.own_blk (ad := ⟨go9, 0, none⟩) (Kd.R_ne HO_3.out BK484.out (by decide)))) _).trans (hHeld.2.2.2.1)), ((cell_far (p := ⟨go9, _, none⟩) (show gb484 ≠ go9 from Ne.symm (Kd.own_blk (ad := ⟨go9, 0, none⟩) (Kd.R_ne HO_3.out BK484.out (by decide)))) _).trans (hHeld.2.2.2.2))⟩ (fun hHeld => ?_)
                    clear hK K
                    refine pureZ_ (i := 8) (some 50) #[true, true, true, true, true, true, true, true, true, false] (any_of HT_.out (by kernel_rfl)) ?_
                    refine last_ (i := 9) (N := none) #[true, true, true, true, true, true, true, true, true, true] rfl rfl (one_of HT_.out (by kernel_rfl)) (by decide) (fun K hK => ?_)
                    refine skip_ (w1 := ?_) (by rfl) rfl ?_ ?_
                    rotate_left
                    ·go_simp
                     rfl
                    refine hK.out _ _ ?_
                    clear hK K
                    refine done_ (done_of HT_.out (by kernel_rfl)) ?_
                    try go_wp2
                    (try simp only [← hl3_1])
                    go_roundg k1
                    case measure => have := HK1.out; omega
                    case rel => exact ⟨(y489), (wrap64 (x4_1 - 1)), (by first | rfl | (simp; done) | (simp [*]; done)), H', ⟨by have := HK1.out; omega⟩, ⟨by (try simp only [hl3_1]); (with_reducible repeat (first | apply Kd.R_alloc | apply Kd.R_drewN | apply Kd.R_drew)); exact HQ60.out⟩, ⟨by (try simp only [hl3_1]); (with_reducible repeat (first | refine blk_drewN ?_ _ | refine blk_drew ?_ | refine blk_alloc ?_ _)); refine blk_far ?_ (by have h_ := Kd.R_ne HO_3.out BK477.out (by decide); intro e_; exact h_ (by rw [e_]; rfl)) _; (with_reducible repeat (first | refine blk_drewN ?_ _ | refine blk_drew ?_ | refine blk_alloc ?_ _)); refine blk_far ?_ (by have h_ := Kd.R_ne HO_3.out BK477.out (by decide); intro e_; exact h_ (by rw [e_]; rfl)) _; (with_reducible repeat (first | refine blk_drewN ?_ _ | refine blk_drew ?_ | refine blk_alloc ?_ _)); exact BK477.out⟩, ⟨by repeat (first | (with_reducible first | exact HB.out | apply below_alloc | apply pw_below_drewN | apply below_drew1 | refine below_set ?_ GB9.out | refine below_set ?_ GB9.out | refine below_set ?_ GE477.out | refine below_set ?_ GE484.out) | exact HB.out)⟩⟩
                   ·rw [if_neg c51] at H
                    exact absurd H (by simp)
                  ·rw [if_neg c50] at H
                   exact absurd H (by simp)
                 ·rw [if_neg c48] at H
                  exact absurd H (by simp)
                ·rw [if_neg c47] at H
                 exact absurd H (by simp)
               ·rw [if_neg c46] at H
                have c46b0 : (((rd_T71 l0_0 x4_1).f0) == 3) = false := beq_eq_false_iff_ne.mpr c46
                have c46b1 : (((rd_T71 l0_0 x4_1).f0) != 3) = true := bne_iff_ne.mpr c46
                have H' := Aside0.mk H
                clear H
                have hcz61 := blk_cell BK477.out
                have hfz61 := blk_frozen BK477.out
                have p483 : 0 ≤ (x4_1 : Int) := of_decide_eq_true (by first | (with_reducible assumption) | assumption)
                have q483 : x4_1 < (l0_0.length : Int) := of_decide_eq_true (by first | (with_reducible assumption) | assumption)
                obtain ⟨ad483, e483, hx483_0, hx483_1, hx483_2, hx483_3, hx483_4⟩ := at_T71 (Kd.C_below HR0_0.out HB.out) x4_1 p483 q483
                cases e483
                replace p483 := eq_true p483
                replace q483 := eq_true q483
                go_wp2_with (first | ((with_reducible refine gate_dst (N := 5) rfl ?_); refine box_event ?hg (N := 5) ?hd (cs := #[.int .i64 0, .int .i64 0, .int .i64 0, .int .i64 0, .int .i64 0]) (t := 71) ?hr ?_; (case hd => rfl); (case hg => rfl); (case hr => first | (go_simp; done) | (go_simp; rfl)); intro gb484 hg w62 hbox hb; replace HO_3 := Aside0.mk (Kd.R_below (by (with_reducible repeat (first | apply Kd.R_alloc | apply Kd.R_drewN | apply Kd.R_drew)); exact HO_3.out) hb); have BK484 := Aside0.mk (hbox); have GW484 := gs_ hg; have GE484 := gs_ hg; replace HB := hbs_ hb; have NB477_484 := Aside0.mk ((by rw [hg]; exact Nat.ne_of_lt (blk_lt (g := gb477) (o := .cells #[.slice (some ad483) l0_0.length c0_0] 68 (0, 0)) (bk_ BK477)) : gb477 ≠ gb484)); have NB484_477 := Aside0.mk ((by rw [hg]; exact Nat.ne_of_gt (blk_lt (g := gb477) (o := .cells #[.slice (some ad483) l0_0.length c0_0] 68 (0, 0)) (bk_ BK477)) : gb484 ≠ gb477)); replace BK477 := bkb_ BK477 hb; clear hb hbox hg; have hnb63 := NB484_477.out; have hnc63 := NB477_484.out; have hcz64 := blk_cell BK484.out; have hfz64 := blk_frozen BK484.out; have p485 : 0 ≤ (x4_1 : Int) := of_decide_eq_true (by first | (with_reducible assumption) | assumption); have q485 : x4_1 < (x3_1.length : Int) := of_decide_eq_true (by first | (with_reducible assumption) | assumption); obtain ⟨ad485, e485, hx485_0⟩ := Kd.at_bool (Kd.R_reads' HO_3.out).2.2 x4_1 p485 q485; (try rw [← Nbq24.out] at hx485_0); obtain rfl : (⟨go9, 0, none⟩ : Addr) = ad485 := (by injection e485); (first | simp only [add_plain] at hx485_0 | simp only [add_at] at hx485_0 | simp only [Addr.add, Nat.zero_add] at hx485_0 | skip); have hn485_0 : (⟨go9, 0, none⟩ : Addr).block ≠ gb484 := Kd.own_blk (Kd.R_ne HO_3.out BK484.out (by decide)); have hn485_1 : (⟨go9, 0, none⟩ : Addr).block ≠ gb484 := Kd.own_blk (Kd.R_ne HO_3.out BK484.out (by decide)); have hn485_2 : (⟨go9, 0, none⟩ : Addr).block ≠ gb484 := Kd.own_blk (Kd.R_ne HO_3.out BK484.out (by decide)); have hn485_3 : (⟨go9, 0, none⟩ : Addr).block ≠ gb484 := Kd.own_blk (Kd.R_ne HO_3.out BK484.out (by decide)); have hn485_4 : (⟨go9, 0, none⟩ : Addr).block ≠ gb484 := Kd.own_blk (Kd.R_ne HO_3.out BK484.out (by decide)); replace hx485_0 := (cell_far (p := ⟨gb484, 0, none⟩) (by first | (rw [add_block]; exact hn485_0) | (show (Addr.add _ _).block ≠ _; rw [add_block]; exact hn485_0) | exact hn485_0) (.int .i64 ((rd_T71 l0_0 x4_1).f0))).trans hx485_0; replace hx485_0 := (cell_far (p := ⟨gb484, 1, none⟩) (by first | (rw [add_block]; exact hn485_1) | (show (Addr.add _ _).block ≠ _; rw [add_block]; exact hn485_1) | exact hn485_1) (.int .i64 ((rd_T71 l0_0 x4_1).f1.f0))).trans hx485_0; replace hx485_0 := (cell_far (p := ⟨gb484, 2, none⟩) (by first | (rw [add_block]; exact hn485_2) | (show (Addr.add _ _).block ≠ _; rw [add_block]; exact hn485_2) | exact hn485_2) (.int .i64 ((rd_T71 l0_0 x4_1).f1.f1))).trans hx485_0; replace hx485_0 := (cell_far (p := ⟨gb484, 3, none⟩) (by first | (rw [add_block]; exact hn485_3) | (show (Addr.add _ _).block ≠ _; rw [add_block]; exact hn485_3) | exact hn485_3) (.int .i64 ((rd_T71 l0_0 x4_1).f2))).trans hx485_0; replace hx485_0 := (cell_far (p := ⟨gb484, 4, none⟩) (by first | (rw [add_block]; exact hn485_4) | (show (Addr.add _ _).block ≠ _; rw [add_block]; exact hn485_4) | exact hn485_4) (.int .i64 ((rd_T71 l0_0 x4_1).f3))).trans hx485_0; clear hn485_0; clear hn485_1; clear hn485_2; clear hn485_3; clear hn485_4; replace p485 := eq_true p485; replace q485 := eq_true q485))
                (try simp only [← hl3_1])
                go_roundg k1
                case measure => have := HK1.out; omega
                case rel => exact ⟨(x3_1), (wrap64 (x4_1 - 1)), (by first | rfl | (simp; done) | (simp [*]; done)), H', ⟨by have := HK1.out; omega⟩, ⟨by (try simp only [hl3_1]); (with_reducible repeat (first | apply Kd.R_alloc | apply Kd.R_drewN | apply Kd.R_drew)); exact Kd.R_mono (Kd.R_far (p := ⟨gb484, 4, none⟩) (Kd.R_far (p := ⟨gb484, 3, none⟩) (Kd.R_far (p := ⟨gb484, 2, none⟩) (Kd.R_far (p := ⟨gb484, 1, none⟩) (Kd.R_far (p := ⟨gb484, 0, none⟩) (Kd.R_types HO_3.out BK484.out (by decide)) (fun _ hk => hk.2) (.int .i64 ((rd_T71 l0_0 x4_1).f0))) (fun _ hk => hk.2) (.int .i64 ((rd_T71 l0_0 x4_1).f1.f0))) (fun _ hk => hk.2) (.int .i64 ((rd_T71 l0_0 x4_1).f1.f1))) (fun _ hk => hk.2) (.int .i64 ((rd_T71 l0_0 x4_1).f2))) (fun _ hk => hk.2) (.int .i64 ((rd_T71 l0_0 x4_1).f3))) (fun _ hk => trivial)⟩, ⟨by (try simp only [hl3_1]); (with_reducible repeat (first | refine blk_drewN ?_ _ | refine blk_drew ?_ | refine blk_alloc ?_ _)); refine blk_far ?_ NB477_484.out _; (with_reducible repeat (first | refine blk_drewN ?_ _ | refine blk_drew ?_ | refine blk_alloc ?_ _)); refine blk_far ?_ NB477_484.out _; (with_reducible repeat (first | refine blk_drewN ?_ _ | refine blk_drew ?_ | refine blk_alloc ?_ _)); refine blk_far ?_ NB477_484.out _; (with_reducible repeat (first | refine blk_drewN ?_ _ | refine blk_drew ?_ | refine blk_alloc ?_ _)); refine blk_far ?_ NB477_484.out _; (with_reducible repeat (first | refine blk_drewN ?_ _ | refine blk_drew ?_ | refine blk_alloc ?_ _)); refine blk_far ?_ NB477_484.out _; (with_reducible repeat (first | refine blk_drewN ?_ _ | refine blk_drew ?_ | refine blk_alloc ?_ _)); exact BK477.out⟩, ⟨bl_⟩⟩
            ·replace c25 := Bool.eq_false_iff.mpr c25
             subst c25
             replace H := ite_f_ H
             have H' := Aside0.mk H
             clear H
             have hcz65 := blk_cell BK477.out
             have hfz65 := blk_frozen BK477.out
             have p483 : 0 ≤ (x4_1 : Int) := of_decide_eq_true (by first | (with_reducible assumption) | assumption)
             have q483 : x4_1 < (l0_0.length : Int) := of_decide_eq_true (by first | (with_reducible assumption) | assumption)
             obtain ⟨ad483, e483, hx483_0, hx483_1, hx483_2, hx483_3, hx483_4⟩ := at_T71 (Kd.C_below HR0_0.out HB.out) x4_1 p483 q483
             cases e483
             replace p483 := eq_true p483
             replace q483 := eq_true q483
             go_wp2_with (first | ((with_reducible refine gate_dst (N := 5) rfl ?_); refine box_event ?hg (N := 5) ?hd (cs := #[.int .i64 0, .int .i64 0, .int .i64 0, .int .i64 0, .int .i64 0]) (t := 71) ?hr ?_; (case hd => rfl); (case hg => rfl); (case hr => first | (go_simp; done) | (go_simp; rfl)); intro gb484 hg w66 hbox hb; replace HO_3 := Aside0.mk (Kd.R_below (by (with_reducible repeat (first | apply Kd.R_alloc | apply Kd.R_drewN | apply Kd.R_drew)); exact HO_3.out) hb); have BK484 := Aside0.mk (hbox); have GW484 := gs_ hg; have GE484 := gs_ hg; replace HB := hbs_ hb; have NB477_484 := Aside0.mk ((by rw [hg]; exact Nat.ne_of_lt (blk_lt (g := gb477) (o := .cells #[.slice (some ad483) l0_0.length c0_0] 68 (0, 0)) (bk_ BK477)) : gb477 ≠ gb484)); have NB484_477 := Aside0.mk ((by rw [hg]; exact Nat.ne_of_gt (blk_lt (g := gb477) (o := .cells #[.slice (some ad483) l0_0.length c0_0] 68 (0, 0)) (bk_ BK477)) : gb484 ≠ gb477)); replace BK477 := bkb_ BK477 hb; clear hb hbox hg; have hnb67 := NB484_477.out; have hnc67 := NB477_484.out; have hcz68 := blk_cell BK484.out; have hfz68 := blk_frozen BK484.out; have p485 : 0 ≤ (x4_1 : Int) := of_decide_eq_true (by first | (with_reducible assumption) | assumption); have q485 : x4_1 < (x3_1.length : Int) := of_decide_eq_true (by first | (with_reducible assumption) | assumption); obtain ⟨ad485, e485, hx485_0⟩ := Kd.at_bool (Kd.R_reads' HO_3.out).2.2 x4_1 p485 q485; (try rw [← Nbq24.out] at hx485_0); obtain rfl : (⟨go9, 0, none⟩ : Addr) = ad485 := (by injection e485); (first | simp only [add_plain] at hx485_0 | simp only [add_at] at hx485_0 | simp only [Addr.add, Nat.zero_add] at hx485_0 | skip); have hn485_0 : (⟨go9, 0, none⟩ : Addr).block ≠ gb484 := Kd.own_blk (Kd.R_ne HO_3.out BK484.out (by decide)); have hn485_1 : (⟨go9, 0, none⟩ : Addr).block ≠ gb484 := Kd.own_blk (Kd.R_ne HO_3.out BK484.out (by decide)); have hn485_2 : (⟨go9, 0, none⟩ : Addr).block ≠ gb484 := Kd.own_blk (Kd.R_ne HO_3.out BK484.out (by decide)); have hn485_3 : (⟨go9, 0, none⟩ : Addr).block ≠ gb484 := Kd.own_blk (Kd.R_ne HO_3.out BK484.out (by decide)); have hn485_4 : (⟨go9, 0, none⟩ : Addr).block ≠ gb484 := Kd.own_blk (Kd.R_ne HO_3.out BK484.out (by decide)); replace hx485_0 := (cell_far (p := ⟨gb484, 0, none⟩) (by first | (rw [add_block]; exact hn485_0) | (show (Addr.add _ _).block ≠ _; rw [add_block]; exact hn485_0) | exact hn485_0) (.int .i64 ((rd_T71 l0_0 x4_1).f0))).trans hx485_0; replace hx485_0 := (cell_far (p := ⟨gb484, 1, none⟩) (by first | (rw [add_block]; exact hn485_1) | (show (Addr.add _ _).block ≠ _; rw [add_block]; exact hn485_1) | exact hn485_1) (.int .i64 ((rd_T71 l0_0 x4_1).f1.f0))).trans hx485_0; replace hx485_0 := (cell_far (p := ⟨gb484, 2, none⟩) (by first | (rw [add_block]; exact hn485_2) | (show (Addr.add _ _).block ≠ _; rw [add_block]; exact hn485_2) | exact hn485_2) (.int .i64 ((rd_T71 l0_0 x4_1).f1.f1))).trans hx485_0; replace hx485_0 := (cell_far (p := ⟨gb484, 3, none⟩) (by first | (rw [add_block]; exact hn485_3) | (show (Addr.add _ _).block ≠ _; rw [add_block]; exact hn485_3) | exact hn485_3) (.int .i64 ((rd_T71 l0_0 x4_1).f2))).trans hx485_0; replace hx485_0 := (cell_far (p := ⟨gb484, 4, none⟩) (by first | (rw [add_block]; exact hn485_4) | (show (Addr.add _ _).block ≠ _; rw [add_block]; exact hn485_4) | exact hn485_4) (.int .i64 ((rd_T71 l0_0 x4_1).f3))).trans hx485_0; clear hn485_0; clear hn485_1; clear hn485_2; clear hn485_3; clear hn485_4; replace p485 := eq_true p485; replace q485 := eq_true q485))
             (try simp only [← hl3_1])
             go_roundg k1
             case measure => have := HK1.out; omega
             case rel => exact ⟨(x3_1), (wrap64 (x4_1 - 1)), (by first | rfl | (simp; done) | (simp [*]; done)), H', ⟨by have := HK1.out; omega⟩, ⟨by (try simp only [hl3_1]); (with_reducible repeat (first | apply Kd.R_alloc | apply Kd.R_drewN | apply Kd.R_drew)); exact Kd.R_mono (Kd.R_far (p := ⟨gb484, 4, none⟩) (Kd.R_far (p := ⟨gb484, 3, none⟩) (Kd.R_far (p := ⟨gb484, 2, none⟩) (Kd.R_far (p := ⟨gb484, 1, none⟩) (Kd.R_far (p := ⟨gb484, 0, none⟩) (Kd.R_types HO_3.out BK484.out (by decide)) (fun _ hk => hk.2) (.int .i64 ((rd_T71 l0_0 x4_1).f0))) (fun _ hk => hk.2) (.int .i64 ((rd_T71 l0_0 x4_1).f1.f0))) (fun _ hk => hk.2) (.int .i64 ((rd_T71 l0_0 x4_1).f1.f1))) (fun _ hk => hk.2) (.int .i64 ((rd_T71 l0_0 x4_1).f2))) (fun _ hk => hk.2) (.int .i64 ((rd_T71 l0_0 x4_1).f3))) (fun _ hk => trivial)⟩, ⟨by (try simp only [hl3_1]); (with_reducible repeat (first | refine blk_drewN ?_ _ | refine blk_drew ?_ | refine blk_alloc ?_ _)); refine blk_far ?_ NB477_484.out _; (with_reducible repeat (first | refine blk_drewN ?_ _ | refine blk_drew ?_ | refine blk_alloc ?_ _)); refine blk_far ?_ NB477_484.out _; (with_reducible repeat (first | refine blk_drewN ?_ _ | refine blk_drew ?_ | refine blk_alloc ?_ _)); refine blk_far ?_ NB477_484.out _; (with_reducible repeat (first | refine blk_drewN ?_ _ | refine blk_drew ?_ | refine blk_alloc ?_ _)); refine blk_far ?_ NB477_484.out _; (with_reducible repeat (first | refine blk_drewN ?_ _ | refine blk_drew ?_ | refine blk_alloc ?_ _)); refine blk_far ?_ NB477_484.out _; (with_reducible repeat (first | refine blk_drewN ?_ _ | refine blk_drew ?_ | refine blk_alloc ?_ _)); exact BK477.out⟩, ⟨bl_⟩⟩
           ·rw [if_neg c23] at H
            exact absurd H (by simp)
          ·rw [if_neg c22] at H
           exact absurd H (by simp)
         ·rw [if_neg c21] at H
          exact absurd H (by simp)
        ·rw [if_neg c20] at H
         have c20b0 : decide (0 ≤ x4_1) = false := decide_eq_false c20
         clear c20
         obtain rfl := Option.some.inj H
         go_wp2
         go_ret
         exact ⟨by first | rfl | (simp [errW_none, errW_some] <;> rfl) | (simp only [← hji6]; first | rfl | (simp [errW_none, errW_some] <;> rfl)) | (simp [*, errW_none, errW_some] <;> rfl), bl_⟩
     ·rw [if_neg c8] at H
      exact absurd H (by simp)
    ·rw [if_neg c7] at H
     exact absurd H (by simp)
   ·rw [if_neg c5] at H
    exact absurd H (by simp)
  ·rw [if_neg c4] at H
   exact absurd H (by simp)
 ·replace c3 := Bool.eq_false_iff.mpr c3
  subst c3
  replace H := ite_f_ H
  obtain rfl := Option.some.inj H
  go_enter Try.func48, Try.ntmps48
  go_wp2_with (first | ((with_reducible refine gate_dst (N := 1) rfl ?_); refine box_event ?hg (N := 1) ?hd (cs := #[.slice A0_0 l0_0.length c0_0]) (t := 68) ?hr ?_; (case hd => rfl); (case hg => rfl); (case hr => first | (go_simp; done) | (go_simp; rfl)); intro gb477 hg w69 hbox hb; have BK477 := Aside0.mk (hbox); have GW477 := gs_ hg; have GE477 := gs_ hg; replace HB := hbs_ hb; clear hb hbox hg; have hcz70 := blk_cell BK477.out; have hfz70 := blk_frozen BK477.out) | ((with_reducible refine gate_callee (f := 49) rfl ?_); refine goesC_ (some 7) Try.func49 #[.agg #[.slice A0_0 l0_0.length c0_0]] ?_; (with_reducible refine (impl_PolicyOk.calls k _ _ l0_0 false _ ?side1 ?side2 A2.out).mono ?_); (case side1 => repeat (first | exact (Kd.C_below HR0_0.out HB.out) | (with_reducible refine Kd.C_alloc ?_ _) | (with_reducible refine Kd.C_drewN ?_ _) | (with_reducible refine Kd.C_drew ?_))); (case side2 => exact HC0_0.out); rintro e w71 ⟨rfl, hb⟩; refine ⟨_, rfl, ?_⟩; replace BK477 := bkb_ BK477 hb; replace HB := hbs_ hb; clear hb))
  go_ret
  exact ⟨eq_, bl_⟩
def laws_samePolicy.l0 : Nat → Int → List (S71) → List (S71) → Option (Bool)
 | 0, _, _, _ => none
 | k + 1, x5, x491000, x492000 => if x5 < (x491000.length : Int) then (if 0 ≤ x5 then (if x5 < (x492000.length : Int) then (if (!(((rd_T71 x491000 x5).f0) == ((rd_T71 x492000 x5).f0)) || ((!(((rd_T71 x491000 x5).f1.f0) == ((rd_T71 x492000 x5).f1.f0)) || (!(((rd_T71 x491000 x5).f1.f1) == ((rd_T71 x492000 x5).f1.f1)))) || (!(((rd_T71 x491000 x5).f2) == ((rd_T71 x492000 x5).f2)) || (!(((rd_T71 x491000 x5).f3) == ((rd_T71 x492000 x5).f3)))))) = true then (some false) else (laws_samePolicy.l0 k (wrap64 (x5 + 1)) x491000 x492000)) else (none)) else (none)) else (some true)
def laws_samePolicy.f (k : Nat) (l0_0 : List (S71)) (l1_0 : List (S71)) : Option (Bool) := if (l0_0.length : Int) = (l1_0.length : Int) then (laws_samePolicy.l0 k 0 l0_0 l1_0) else (some false)
set_option maxHeartbeats 8000000 in
set_option maxRecDepth 100000 in
theorem laws_samePolicy.calls (k : Nat) (A0_0 : Option Addr) (c0_0 : Nat) (l0_0 : List (S71)) (A1_0 : Option Addr) (c1_0 : Nat) (l1_0 : List (S71)) (r : Bool) (w : World) (hr0_0 : Kd.C k71 w A0_0 l0_0.length l0_0) (hc0_0 : l0_0.length ≤ c0_0) (hr1_0 : Kd.C k71 w A1_0 l1_0.length l1_0) (hc1_0 : l1_0.length ≤ c1_0) (h : laws_samePolicy.f k l0_0 l1_0 = some r) :
  Calls Try.prog 50 #[.agg #[.slice A0_0 l0_0.length c0_0], .agg #[.slice A1_0 l1_0.length c1_0]] w fun e w' => e = .returned (.bool r) ∧ Below w.heap.size w w' := by
 have hu68 := Try.underlying68
 have hu71 := Try.underlying71
 have HR0_0 := Aside0.mk hr0_0
 have HC0_0 := Aside0.mk hc0_0
 clear hr0_0 hc0_0
 have HR1_0 := Aside0.mk hr1_0
 have HC1_0 := Aside0.mk hc1_0
 clear hr1_0 hc1_0
 have HB := Aside0.mk (Below.refl w.heap.size w)
 have H : (if (l0_0.length : Int) = (l1_0.length : Int) then (laws_samePolicy.l0 k 0 l0_0 l1_0) else (some false)) = some r := h
 clear h
 by_cases c3 : (l0_0.length : Int) = (l1_0.length : Int)
 ·rw [if_pos c3] at H
  have c3b0 : ((l0_0.length : Int) == (l1_0.length : Int)) = true := beq_iff_eq.mpr c3
  have c3b1 : ((l0_0.length : Int) != (l1_0.length : Int)) = false := bne_eq_false_iff_eq.mpr c3
  have c3b2 : (l0_0.length == l1_0.length) = true := by first | simpa using c3 | (simp at c3 ⊢; omega)
  clear c3
  have H' := Aside0.mk H
  clear H
  go_enter Try.func50, Try.ntmps50
  go_wp2_with (first | ((with_reducible refine gate_dst (N := 2) rfl ?_); refine box_event ?hg (N := 2) ?hd (cs := #[.slice A0_0 l0_0.length c0_0]) (t := 68) ?hr ?_; (case hd => rfl); (case hg => rfl); (case hr => first | (go_simp; done) | (go_simp; rfl)); intro gb490 hg w4 hbox hb; have BK490 := Aside0.mk (hbox); have GW490 := gs_ hg; have GE490 := gs_ hg; replace HB := hbs_ hb; clear hb hbox hg) | ((with_reducible refine gate_dst (N := 3) rfl ?_); refine box_event ?hg (N := 3) ?hd (cs := #[.slice A1_0 l1_0.length c1_0]) (t := 68) ?hr ?_; (case hd => rfl); (case hg => rfl); (case hr => first | (go_simp; done) | (go_simp; rfl)); intro gb491 hg w5 hbox hb; have BK491 := Aside0.mk (hbox); have GW491 := gs_ hg; have GE491 := gs_ hg; replace HB := hbs_ hb; have NB490_491 := Aside0.mk ((by rw [hg]; exact Nat.ne_of_lt (blk_lt (g := gb490) (o := .cells #[.slice A0_0 l0_0.length c0_0] 68 (0, 0)) (bk_ BK490)) : gb490 ≠ gb491)); have NB491_490 := Aside0.mk ((by rw [hg]; exact Nat.ne_of_gt (blk_lt (g := gb490) (o := .cells #[.slice A0_0 l0_0.length c0_0] 68 (0, 0)) (bk_ BK490)) : gb491 ≠ gb490)); replace BK490 := bkb_ BK490 hb; clear hb hbox hg; have hnb6 := NB490_491.out; have hnc6 := NB491_490.out; have hcz7 := blk_cell BK490.out; have hfz7 := blk_frozen BK490.out; have hcz8 := blk_cell BK491.out; have hfz8 := blk_frozen BK491.out))
  repeat (go_quiet (first | ((with_reducible refine gate_dst (N := 2) rfl ?_); refine box_event ?hg (N := 2) ?hd (cs := #[.slice A0_0 l0_0.length c0_0]) (t := 68) ?hr ?_; (case hd => rfl); (case hg => rfl); (case hr => first | (go_simp; done) | (go_simp; rfl)); intro gb490 hg w4 hbox hb; have BK490 := Aside0.mk (hbox); have GW490 := gs_ hg; have GE490 := gs_ hg; replace HB := hbs_ hb; clear hb hbox hg) | ((with_reducible refine gate_dst (N := 3) rfl ?_); refine box_event ?hg (N := 3) ?hd (cs := #[.slice A1_0 l1_0.length c1_0]) (t := 68) ?hr ?_; (case hd => rfl); (case hg => rfl); (case hr => first | (go_simp; done) | (go_simp; rfl)); intro gb491 hg w5 hbox hb; have BK491 := Aside0.mk (hbox); have GW491 := gs_ hg; have GE491 := gs_ hg; replace HB := hbs_ hb; have NB490_491 := Aside0.mk ((by rw [hg]; exact Nat.ne_of_lt (blk_lt (g := gb490) (o := .cells #[.slice A0_0 l0_0.length c0_0] 68 (0, 0)) (bk_ BK490)) : gb490 ≠ gb491)); have NB491_490 := Aside0.mk ((by rw [hg]; exact Nat.ne_of_gt (blk_lt (g := gb490) (o := .cells #[.slice A0_0 l0_0.length c0_0] 68 (0, 0)) (bk_ BK490)) : gb491 ≠ gb490)); replace BK490 := bkb_ BK490 hb; clear hb hbox hg; have hnb6 := NB490_491.out; have hnc6 := NB491_490.out; have hcz7 := blk_cell BK490.out; have hfz7 := blk_frozen BK490.out; have hcz8 := blk_cell BK491.out; have hfz8 := blk_frozen BK491.out)); try go_wp2_with (first | ((with_reducible refine gate_dst (N := 2) rfl ?_); refine box_event ?hg (N := 2) ?hd (cs := #[.slice A0_0 l0_0.length c0_0]) (t := 68) ?hr ?_; (case hd => rfl); (case hg => rfl); (case hr => first | (go_simp; done) | (go_simp; rfl)); intro gb490 hg w4 hbox hb; have BK490 := Aside0.mk (hbox); have GW490 := gs_ hg; have GE490 := gs_ hg; replace HB := hbs_ hb; clear hb hbox hg) | ((with_reducible refine gate_dst (N := 3) rfl ?_); refine box_event ?hg (N := 3) ?hd (cs := #[.slice A1_0 l1_0.length c1_0]) (t := 68) ?hr ?_; (case hd => rfl); (case hg => rfl); (case hr => first | (go_simp; done) | (go_simp; rfl)); intro gb491 hg w5 hbox hb; have BK491 := Aside0.mk (hbox); have GW491 := gs_ hg; have GE491 := gs_ hg; replace HB := hbs_ hb; have NB490_491 := Aside0.mk ((by rw [hg]; exact Nat.ne_of_lt (blk_lt (g := gb490) (o := .cells #[.slice A0_0 l0_0.length c0_0] 68 (0, 0)) (bk_ BK490)) : gb490 ≠ gb491)); have NB491_490 := Aside0.mk ((by rw [hg]; exact Nat.ne_of_gt (blk_lt (g := gb490) (o := .cells #[.slice A0_0 l0_0.length c0_0] 68 (0, 0)) (bk_ BK490)) : gb491 ≠ gb490)); replace BK490 := bkb_ BK490 hb; clear hb hbox hg; have hnb6 := NB490_491.out; have hnc6 := NB491_490.out; have hcz7 := blk_cell BK490.out; have hfz7 := blk_frozen BK490.out; have hcz8 := blk_cell BK491.out; have hfz8 := blk_frozen BK491.out)))
  go_loopg [5] k (fun kq v5 w' => ∃ (x5_1 : Int), v5 = .int .i64 x5_1 ∧ Aside0 (laws_samePolicy.l0 kq x5_1 l0_0 l1_0 = some r) ∧ Aside0 (kq ≤ k) ∧ Aside0 (w'.heap[gb490]? = some (.cells #[(.slice A0_0 l0_0.length c0_0)] 68 (0, 0))) ∧ Aside0 (w'.heap[gb491]? = some (.cells #[(.slice A1_0 l1_0.length c1_0)] 68 (0, 0))) ∧ Aside0 (Below w.heap.size w w'))
  case atStart => exact ⟨(0), (by first | rfl | (simp; done) | (simp [*]; done)), H', ⟨Nat.le_refl _⟩, ⟨bk_ BK490⟩, ⟨bk_ BK491⟩, ⟨bl_⟩⟩
  case round =>
   clear H'
   try clear c1
   try clear p2
   try clear c3
   try clear c3b0
   try clear c3b1
   try clear c3b2
   try clear c5
   try clear c6
   try clear hcz7
   try clear hcz8
   try clear hfz7
   try clear hfz8
   obtain ⟨x5_1, rfl, HA, HK1, BK490, BK491, HB⟩ := hrel
   cases gk with
   | zero => exact absurd HA.out (by simp [laws_samePolicy.l0])
   | succ k1 =>
    have H := HA.out
    clear HA
    simp only [laws_samePolicy.l0] at H
    by_cases c9 : x5_1 < (l0_0.length : Int)
    ·rw [if_pos c9] at H
     have c9b0 : decide (x5_1 < (l0_0.length : Int)) = true := decide_eq_true c9
     clear c9
     by_cases c10 : 0 ≤ x5_1
     ·rw [if_pos c10] at H
      have c10b0 : decide (0 ≤ x5_1) = true := decide_eq_true c10
      clear c10
      by_cases c11 : x5_1 < (l1_0.length : Int)
      ·rw [if_pos c11] at H
       have c11b0 : decide (x5_1 < (l1_0.length : Int)) = true := decide_eq_true c11
       clear c11
       by_cases c12 : (!(((rd_T71 l0_0 x5_1).f0) == ((rd_T71 l1_0 x5_1).f0)) || ((!(((rd_T71 l0_0 x5_1).f1.f0) == ((rd_T71 l1_0 x5_1).f1.f0)) || (!(((rd_T71 l0_0 x5_1).f1.f1) == ((rd_T71 l1_0 x5_1).f1.f1)))) || (!(((rd_T71 l0_0 x5_1).f2) == ((rd_T71 l1_0 x5_1).f2)) || (!(((rd_T71 l0_0 x5_1).f3) == ((rd_T71 l1_0 x5_1).f3)))))) = true
       ·rw [if_pos c12] at H
        have c12b0 : (!(((rd_T71 l0_0 x5_1).f0) == ((rd_T71 l1_0 x5_1).f0)) || ((!(((rd_T71 l0_0 x5_1).f1.f0) == ((rd_T71 l1_0 x5_1).f1.f0)) || (!(((rd_T71 l0_0 x5_1).f1.f1) == ((rd_T71 l1_0 x5_1).f1.f1)))) || (!(((rd_T71 l0_0 x5_1).f2) == ((rd_T71 l1_0 x5_1).f2)) || (!(((rd_T71 l0_0 x5_1).f3) == ((rd_T71 l1_0 x5_1).f3)))))) = true := c12
        clear c12
        obtain rfl := Option.some.inj H
        have hnb13 := NB490_491.out
        have hnc13 := NB491_490.out
        have hcz14 := blk_cell BK490.out
        have hfz14 := blk_frozen BK490.out
        have p492 : 0 ≤ (x5_1 : Int) := of_decide_eq_true (by first | (with_reducible assumption) | assumption)
        have q492 : x5_1 < (l0_0.length : Int) := of_decide_eq_true (by first | (with_reducible assumption) | assumption)
        obtain ⟨ad492, e492, hx492_0, hx492_1, hx492_2, hx492_3, hx492_4⟩ := at_T71 (Kd.C_below HR0_0.out HB.out) x5_1 p492 q492
        cases e492
        replace p492 := eq_true p492
        replace q492 := eq_true q492
        have hcz15 := blk_cell BK491.out
        have hfz15 := blk_frozen BK491.out
        have p493 : 0 ≤ (x5_1 : Int) := of_decide_eq_true (by first | (with_reducible assumption) | assumption)
        have q493 : x5_1 < (l1_0.length : Int) := of_decide_eq_true (by first | (with_reducible assumption) | assumption)
        obtain ⟨ad493, e493, hx493_0, hx493_1, hx493_2, hx493_3, hx493_4⟩ := at_T71 (Kd.C_below HR1_0.out HB.out) x5_1 p493 q493
        cases e493
        replace p493 := eq_true p493
        replace q493 := eq_true q493
        go_wp2
        repeat (go_quiet (fail); try go_wp2)
        go_ret
        exact ⟨eq_, bl_⟩
       ·rw [if_neg c12] at H
        have c12b0 : (!(((rd_T71 l0_0 x5_1).f0) == ((rd_T71 l1_0 x5_1).f0)) || ((!(((rd_T71 l0_0 x5_1).f1.f0) == ((rd_T71 l1_0 x5_1).f1.f0)) || (!(((rd_T71 l0_0 x5_1).f1.f1) == ((rd_T71 l1_0 x5_1).f1.f1)))) || (!(((rd_T71 l0_0 x5_1).f2) == ((rd_T71 l1_0 x5_1).f2)) || (!(((rd_T71 l0_0 x5_1).f3) == ((rd_T71 l1_0 x5_1).f3)))))) = false := by simpa using c12
        clear c12
        have H' := Aside0.mk H
        clear H
        have hnb16 := NB490_491.out
        have hnc16 := NB491_490.out
        have hcz17 := blk_cell BK490.out
        have hfz17 := blk_frozen BK490.out
        have p492 : 0 ≤ (x5_1 : Int) := of_decide_eq_true (by first | (with_reducible assumption) | assumption)
        have q492 : x5_1 < (l0_0.length : Int) := of_decide_eq_true (by first | (with_reducible assumption) | assumption)
        obtain ⟨ad492, e492, hx492_0, hx492_1, hx492_2, hx492_3, hx492_4⟩ := at_T71 (Kd.C_below HR0_0.out HB.out) x5_1 p492 q492
        cases e492
        replace p492 := eq_true p492
        replace q492 := eq_true q492
        have hcz18 := blk_cell BK491.out
        have hfz18 := blk_frozen BK491.out
        have p493 : 0 ≤ (x5_1 : Int) := of_decide_eq_true (by first | (with_reducible assumption) | assumption)
        have q493 : x5_1 < (l1_0.length : Int) := of_decide_eq_true (by first | (with_reducible assumption) | assumption)
        obtain ⟨ad493, e493, hx493_0, hx493_1, hx493_2, hx493_3, hx493_4⟩ := at_T71 (Kd.C_below HR1_0.out HB.out) x5_1 p493 q493
        cases e493
        replace p493 := eq_true p493
        replace q493 := eq_true q493
        go_wp2
        repeat (go_quiet (fail); try go_wp2)
        go_roundg k1
        case measure => have := HK1.out; omega
        case rel => exact ⟨(wrap64 (x5_1 + 1)), (by first | rfl | (simp; done) | (simp [*]; done)), H', ⟨by have := HK1.out; omega⟩, ⟨bk_ BK490⟩, ⟨bk_ BK491⟩, ⟨bl_⟩⟩
      ·rw [if_neg c11] at H
       exact absurd H (by simp)
     ·rw [if_neg c10] at H
      exact absurd H (by simp)
    ·rw [if_neg c9] at H
     have c9b0 : decide (x5_1 < (l0_0.length : Int)) = false := decide_eq_false c9
     clear c9
     obtain rfl := Option.some.inj H
     have hnb19 := NB490_491.out
     have hnc19 := NB491_490.out
     have hcz20 := blk_cell BK490.out
     have hfz20 := blk_frozen BK490.out
     go_wp2
     repeat (go_quiet (fail); try go_wp2)
     go_ret
     exact ⟨eq_, bl_⟩
 ·rw [if_neg c3] at H
  have c3b0 : ((l0_0.length : Int) == (l1_0.length : Int)) = false := beq_eq_false_iff_ne.mpr c3
  have c3b1 : ((l0_0.length : Int) != (l1_0.length : Int)) = true := bne_iff_ne.mpr c3
  have c3b2 : (l0_0.length == l1_0.length) = false := by first | simpa using c3 | (simp at c3 ⊢; omega)
  obtain rfl := Option.some.inj H
  go_enter Try.func50, Try.ntmps50
  go_wp2_with (first | ((with_reducible refine gate_dst (N := 2) rfl ?_); refine box_event ?hg (N := 2) ?hd (cs := #[.slice A0_0 l0_0.length c0_0]) (t := 68) ?hr ?_; (case hd => rfl); (case hg => rfl); (case hr => first | (go_simp; done) | (go_simp; rfl)); intro gb490 hg w21 hbox hb; have BK490 := Aside0.mk (hbox); have GW490 := gs_ hg; have GE490 := gs_ hg; replace HB := hbs_ hb; clear hb hbox hg) | ((with_reducible refine gate_dst (N := 3) rfl ?_); refine box_event ?hg (N := 3) ?hd (cs := #[.slice A1_0 l1_0.length c1_0]) (t := 68) ?hr ?_; (case hd => rfl); (case hg => rfl); (case hr => first | (go_simp; done) | (go_simp; rfl)); intro gb491 hg w22 hbox hb; have BK491 := Aside0.mk (hbox); have GW491 := gs_ hg; have GE491 := gs_ hg; replace HB := hbs_ hb; have NB490_491 := Aside0.mk ((by rw [hg]; exact Nat.ne_of_lt (blk_lt (g := gb490) (o := .cells #[.slice A0_0 l0_0.length c0_0] 68 (0, 0)) (bk_ BK490)) : gb490 ≠ gb491)); have NB491_490 := Aside0.mk ((by rw [hg]; exact Nat.ne_of_gt (blk_lt (g := gb490) (o := .cells #[.slice A0_0 l0_0.length c0_0] 68 (0, 0)) (bk_ BK490)) : gb491 ≠ gb490)); replace BK490 := bkb_ BK490 hb; clear hb hbox hg; have hnb23 := NB490_491.out; have hnc23 := NB491_490.out; have hcz24 := blk_cell BK490.out; have hfz24 := blk_frozen BK490.out; have hcz25 := blk_cell BK491.out; have hfz25 := blk_frozen BK491.out))
  repeat (go_quiet (first | ((with_reducible refine gate_dst (N := 2) rfl ?_); refine box_event ?hg (N := 2) ?hd (cs := #[.slice A0_0 l0_0.length c0_0]) (t := 68) ?hr ?_; (case hd => rfl); (case hg => rfl); (case hr => first | (go_simp; done) | (go_simp; rfl)); intro gb490 hg w21 hbox hb; have BK490 := Aside0.mk (hbox); have GW490 := gs_ hg; have GE490 := gs_ hg; replace HB := hbs_ hb; clear hb hbox hg) | ((with_reducible refine gate_dst (N := 3) rfl ?_); refine box_event ?hg (N := 3) ?hd (cs := #[.slice A1_0 l1_0.length c1_0]) (t := 68) ?hr ?_; (case hd => rfl); (case hg => rfl); (case hr => first | (go_simp; done) | (go_simp; rfl)); intro gb491 hg w22 hbox hb; have BK491 := Aside0.mk (hbox); have GW491 := gs_ hg; have GE491 := gs_ hg; replace HB := hbs_ hb; have NB490_491 := Aside0.mk ((by rw [hg]; exact Nat.ne_of_lt (blk_lt (g := gb490) (o := .cells #[.slice A0_0 l0_0.length c0_0] 68 (0, 0)) (bk_ BK490)) : gb490 ≠ gb491)); have NB491_490 := Aside0.mk ((by rw [hg]; exact Nat.ne_of_gt (blk_lt (g := gb490) (o := .cells #[.slice A0_0 l0_0.length c0_0] 68 (0, 0)) (bk_ BK490)) : gb491 ≠ gb490)); replace BK490 := bkb_ BK490 hb; clear hb hbox hg; have hnb23 := NB490_491.out; have hnc23 := NB491_490.out; have hcz24 := blk_cell BK490.out; have hfz24 := blk_frozen BK490.out; have hcz25 := blk_cell BK491.out; have hfz25 := blk_frozen BK491.out)); try go_wp2_with (first | ((with_reducible refine gate_dst (N := 2) rfl ?_); refine box_event ?hg (N := 2) ?hd (cs := #[.slice A0_0 l0_0.length c0_0]) (t := 68) ?hr ?_; (case hd => rfl); (case hg => rfl); (case hr => first | (go_simp; done) | (go_simp; rfl)); intro gb490 hg w21 hbox hb; have BK490 := Aside0.mk (hbox); have GW490 := gs_ hg; have GE490 := gs_ hg; replace HB := hbs_ hb; clear hb hbox hg) | ((with_reducible refine gate_dst (N := 3) rfl ?_); refine box_event ?hg (N := 3) ?hd (cs := #[.slice A1_0 l1_0.length c1_0]) (t := 68) ?hr ?_; (case hd => rfl); (case hg => rfl); (case hr => first | (go_simp; done) | (go_simp; rfl)); intro gb491 hg w22 hbox hb; have BK491 := Aside0.mk (hbox); have GW491 := gs_ hg; have GE491 := gs_ hg; replace HB := hbs_ hb; have NB490_491 := Aside0.mk ((by rw [hg]; exact Nat.ne_of_lt (blk_lt (g := gb490) (o := .cells #[.slice A0_0 l0_0.length c0_0] 68 (0, 0)) (bk_ BK490)) : gb490 ≠ gb491)); have NB491_490 := Aside0.mk ((by rw [hg]; exact Nat.ne_of_gt (blk_lt (g := gb490) (o := .cells #[.slice A0_0 l0_0.length c0_0] 68 (0, 0)) (bk_ BK490)) : gb491 ≠ gb490)); replace BK490 := bkb_ BK490 hb; clear hb hbox hg; have hnb23 := NB490_491.out; have hnc23 := NB491_490.out; have hcz24 := blk_cell BK490.out; have hfz24 := blk_frozen BK490.out; have hcz25 := blk_cell BK491.out; have hfz25 := blk_frozen BK491.out)))
  go_ret
  exact ⟨eq_, bl_⟩
end Go.Proofs.Ytppdmcimddhbaaa.PE
