import Derived.Test.YtppdmcimddhbaaaKFnPoliciesPEx0
import Derived.Test.YtppdmcimddhbaaaKFnPoliciesPEx9
import Derived.Test.YtppdmcimddhbaaaKFnPoliciesPEx11
import Derived.Test.YtppdmcimddhbaaaKFnPoliciesPEx13
-- A text of this claim: written by the session's own program out of the translation (wip/tools). Lean checks it.
namespace Go.Proofs.Ytppdmcimddhbaaa.PE
open Go.RowKit Go.Proofs.YtppdmcimddhbaaaW.PrintWords Go.Proofs.YtppdmcimddhbaaaW.PrintLast Go.Proofs.YtppdmcimddhbaaaW.PrintMore
attribute [local go_sem] max2_int min2_int max_two min_two max_three min_three max_four min_four   -- for this text's walks alone
set_option linter.unusedVariables false
set_option linter.unusedSimpArgs false
def impl_Decides.l0 : Nat → Int → List (S29) → List Bool → List (S71) → Int → Int → Option (Bool)
 | 0, _, _, _, _, _, _ => none
 | k + 1, x2, x7, x8, x21, x22, x23 => if x23 < x22 then (if 0 ≤ x23 then (if x23 < (x21.length : Int) then (if ((rd_T71 x21 x23).f0) = 1 then ((impl_Fact_102.f k x7 ((rd_T71 x21 x23).f1.f0) ((rd_T71 x21 x23).f1.f1) x2).bind fun t465 => (if x23 < (x8.length : Int) then (impl_Decides.l0 k x2 x7 (x8.set (x23 : Int).toNat t465) x21 x22 (wrap64 (x23 + 1))) else (none))) else (if ((rd_T71 x21 x23).f0) = 2 then (if 0 ≤ ((rd_T71 x21 x23).f2) then (if ((rd_T71 x21 x23).f2) < (x8.length : Int) then (if rdOf false x8 ((rd_T71 x21 x23).f2) = true then (if 0 ≤ ((rd_T71 x21 x23).f3) then (if ((rd_T71 x21 x23).f3) < (x8.length : Int) then (if x23 < (x8.length : Int) then (impl_Decides.l0 k x2 x7 (x8.set (x23 : Int).toNat (rdOf false x8 ((rd_T71 x21 x23).f3))) x21 x22 (wrap64 (x23 + 1))) else (none)) else (none)) else (none)) else (if x23 < (x8.length : Int) then (impl_Decides.l0 k x2 x7 (x8.set (x23 : Int).toNat false) x21 x22 (wrap64 (x23 + 1))) else (none))) else (none)) else (none)) else (if ((rd_T71 x21 x23).f0) = 3 then (if 0 ≤ ((rd_T71 x21 x23).f2) then (if ((rd_T71 x21 x23).f2) < (x8.length : Int) then (if rdOf false x8 ((rd_T71 x21 x23).f2) = true then (if x23 < (x8.length : Int) then (impl_Decides.l0 k x2 x7 (x8.set (x23 : Int).toNat true) x21 x22 (wrap64 (x23 + 1))) else (none)) else (if 0 ≤ ((rd_T71 x21 x23).f3) then (if ((rd_T71 x21 x23).f3) < (x8.length : Int) then (if x23 < (x8.length : Int) then (impl_Decides.l0 k x2 x7 (x8.set (x23 : Int).toNat (rdOf false x8 ((rd_T71 x21 x23).f3))) x21 x22 (wrap64 (x23 + 1))) else (none)) else (none)) else (none))) else (none)) else (none)) else (if ((rd_T71 x21 x23).f0) = 4 then (if 0 ≤ ((rd_T71 x21 x23).f2) then (if ((rd_T71 x21 x23).f2) < (x8.length : Int) then (if x23 < (x8.length : Int) then (impl_Decides.l0 k x2 x7 (x8.set (x23 : Int).toNat (!(rdOf false x8 ((rd_T71 x21 x23).f2)))) x21 x22 (wrap64 (x23 + 1))) else (none)) else (none)) else (none)) else (impl_Decides.l0 k x2 x7 x8 x21 x22 (wrap64 (x23 + 1))))))) else (none)) else (none)) else (if 0 ≤ (wrap64 ((x8.length : Int) - 1)) then (if (wrap64 ((x8.length : Int) - 1)) < (x8.length : Int) then (some (rdOf false x8 (wrap64 ((x8.length : Int) - 1)))) else (none)) else (none))
def impl_Decides.f (k : Nat) (l0 : List (S46)) (l1_0 : List (S71)) (a2 : Int) : Option (Bool) := (impl_PolicyOk.f k l1_0).bind fun t455 => (if t455 = true then ((impl_FactsOf.f k l0).bind fun t456 => (if 0 ≤ (l1_0.length : Int) then (if ((l1_0.length : Int) : Int).toNat ≤ 281474976710656 then (impl_Decides.l0 k a2 t456 (List.replicate ((l1_0.length : Int) : Int).toNat false) l1_0 (l1_0.length : Int) 0) else (none)) else (none))) else (some false))
set_option maxHeartbeats 8000000 in
set_option maxRecDepth 100000 in
theorem impl_Decides.calls (k : Nat) (A0 : Option Addr) (c0 : Nat) (l0 : List (S46)) (A1_0 : Option Addr) (c1_0 : Nat) (l1_0 : List (S71)) (a2 : Int) (r : Bool) (w : World) (hr0 : Kd.C k46 w A0 l0.length l0) (hc0 : l0.length ≤ c0) (hr1_0 : Kd.C k71 w A1_0 l1_0.length l1_0) (hc1_0 : l1_0.length ≤ c1_0) (h : impl_Decides.f k l0 l1_0 a2 = some r) :
  Calls Try.prog 47 #[.slice A0 l0.length c0, .agg #[.slice A1_0 l1_0.length c1_0], .int .i64 a2] w fun e w' => e = .returned (.bool r) ∧ Below w.heap.size w w' := by
 have hu68 := Try.underlying68
 have hu71 := Try.underlying71
 have hu27 := Try.underlying27
 have hu29 := Try.underlying29
 have HR0 := Aside0.mk hr0
 have HC0 := Aside0.mk hc0
 clear hr0 hc0
 have HR1_0 := Aside0.mk hr1_0
 have HC1_0 := Aside0.mk hc1_0
 clear hr1_0 hc1_0
 have HB := Aside0.mk (Below.refl w.heap.size w)
 have H : ((impl_PolicyOk.f k l1_0).bind fun t455 => (if t455 = true then ((impl_FactsOf.f k l0).bind fun t456 => (if 0 ≤ (l1_0.length : Int) then (if ((l1_0.length : Int) : Int).toNat ≤ 281474976710656 then (impl_Decides.l0 k a2 t456 (List.replicate ((l1_0.length : Int) : Int).toNat false) l1_0 (l1_0.length : Int) 0) else (none)) else (none))) else (some false))) = some r := h
 clear h
 obtain ⟨t455, A4, H⟩ := bindE_ H
 by_cases c5 : t455 = true
 ·subst c5
  replace H := ite_t_ H
  obtain ⟨t456, A6, H⟩ := bindE_ H
  by_cases c7 : 0 ≤ (l1_0.length : Int)
  ·rw [if_pos c7] at H
   have c7b0 := eq_true c7
   have c7b1 : decide (0 ≤ (l1_0.length : Int)) = true := decide_eq_true c7
   clear c7
   by_cases c8 : ((l1_0.length : Int) : Int).toNat ≤ 281474976710656
   ·rw [if_pos c8] at H
    have c8b0 := eq_true c8
    have c8b1 : decide (((l1_0.length : Int) : Int).toNat ≤ 281474976710656) = true := decide_eq_true c8
    clear c8
    obtain ⟨y459, hy459⟩ : ∃ y_ : List Bool, y_ = (List.replicate ((l1_0.length : Int) : Int).toNat false) := ⟨_, rfl⟩
    replace H : (impl_Decides.l0 k a2 t456 y459 l1_0 (l1_0.length : Int) 0) = some r := by first | (rw [hy459]; with_reducible exact H) | (have H2_ := (Option.bind_some _ _).symm.trans H; rw [hy459]; with_reducible exact H2_) | (have H2_ := (Option.bind_some _ _).symm.trans H; with_reducible exact H2_) | with_reducible exact H | (rw [hy459]; exact H) | exact H
    have Ny459 := Aside0.mk hy459
    clear hy459
    have H' := Aside0.mk H
    clear H
    go_enter Try.func47, Try.ntmps47
    go_wp2_with (first | ((with_reducible refine gate_dst (N := 4) rfl ?_); refine box_event ?hg (N := 4) ?hd (cs := #[.slice A1_0 l1_0.length c1_0]) (t := 68) ?hr ?_; (case hd => rfl); (case hg => rfl); (case hr => first | (go_simp; done) | (go_simp; rfl)); intro gb454 hg w9 hbox hb; have BK454 := Aside0.mk (hbox); have GW454 := gs_ hg; have GE454 := gs_ hg; replace HB := hbs_ hb; clear hb hbox hg; have hcz10 := blk_cell BK454.out; have hfz10 := blk_frozen BK454.out) | ((with_reducible refine gate_callee (f := 49) rfl ?_); refine goesC_ (some 12) Try.func49 #[.agg #[.slice A1_0 l1_0.length c1_0]] ?_; (with_reducible refine (impl_PolicyOk.calls k _ _ l1_0 true _ ?side1 ?side2 A4.out).mono ?_); (case side1 => repeat (first | exact (Kd.C_below HR1_0.out HB.out) | (with_reducible refine Kd.C_alloc ?_ _) | (with_reducible refine Kd.C_drewN ?_ _) | (with_reducible refine Kd.C_drew ?_))); (case side2 => exact HC1_0.out); rintro e w11 ⟨rfl, hb⟩; refine ⟨_, rfl, ?_⟩; replace BK454 := bkb_ BK454 hb; replace HB := hbs_ hb; clear hb) | ((with_reducible refine gate_callee (f := 101) rfl ?_); refine goesC_ (some 15) Try.func101 #[.slice A0 l0.length c0] ?_; (with_reducible refine (impl_FactsOf.calls k _ _ l0 t456 _ ?side1 ?side2 A6.out).mono ?_); (case side1 => repeat (first | exact (Kd.C_below HR0.out HB.out) | (with_reducible refine Kd.C_alloc ?_ _) | (with_reducible refine Kd.C_drewN ?_ _) | (with_reducible refine Kd.C_drew ?_))); (case side2 => exact HC0.out); rintro e w12 ⟨v457, rfl, ho0, hb⟩; refine ⟨_, rfl, ?_⟩; have HO458 := Aside0.mk (Kd.R_lower ho0 bls_); replace BK454 := bkb_ BK454 hb; replace HB := hbs_ hb; (try clear hb); (try clear hb2); (try clear hk); (try clear hi); (try clear ho0); have hcz13 := blk_cell BK454.out; have hfz13 := blk_frozen BK454.out) | ((with_reducible refine gate_dst (N := 19) rfl ?_); refine Kd.R_make Kd.bool _ 4 rfl (N := 19) rfl 103 _ _ rfl (l1_0.length : Int) rfl rfl Try.underlying103 (.bool false) 1 info4 rfl (by decide) (by omega) false (ok := fun _ => True) (okp := fun _ => True) rfl (fun _ hk => hk) trivial (of_decide_eq_true (by first | (with_reducible assumption) | assumption)) (Nat.le_trans (Nat.mul_le_mul_right _ (of_decide_eq_true (by first | (with_reducible assumption) | assumption) : (l1_0.length : Int).toNat ≤ 281474976710656)) (by omega)) (Below.refl _ _) (Nat.le_refl _) ?_; intro v460 w14 ho15 hb hg_ hnew_; clear hg_ hnew_; (first | rw [← Ny459.out] at ho15 | (simp only [Int.reduceToNat] at ho15; rw [← Ny459.out] at ho15)); replace HO458 := Aside0.mk (Kd.R_below (by (with_reducible repeat (first | apply Kd.R_alloc | apply Kd.R_drewN | apply Kd.R_drew)); exact HO458.out) hb); have HO461 := Aside0.mk (Kd.R_lower ho15 bls_); replace BK454 := bkb_ BK454 hb; replace HB := hbs_ hb; clear hb ho15; have hcz16 := blk_cell BK454.out; have hfz16 := blk_frozen BK454.out))
    go_loopg [23] k (fun kq v23 w' => ∃ (x8_1 : List Bool) (x23_1 : Int), v23 = .int .i64 x23_1 ∧ Aside0 (impl_Decides.l0 kq a2 t456 x8_1 l1_0 (l1_0.length : Int) x23_1 = some r) ∧ Aside0 (kq ≤ k) ∧ Aside0 (Kd.R k29 29 w' w.heap.size (fun _ => True) v457 t456) ∧ Aside0 (Kd.R Kd.bool 4 w' w.heap.size (fun _ => True) v460 x8_1) ∧ Aside0 (w'.heap[gb454]? = some (.cells #[(.slice A1_0 l1_0.length c1_0)] 68 (0, 0))) ∧ Aside0 (Below w.heap.size w w'))
    case atStart => exact ⟨(y459), (0), (by first | rfl | (simp; done) | (simp [*]; done)), H', ⟨Nat.le_refl _⟩, ⟨by (with_reducible repeat (first | apply Kd.R_alloc | apply Kd.R_drewN | apply Kd.R_drew)); exact HO458.out⟩, ⟨by (with_reducible repeat (first | apply Kd.R_alloc | apply Kd.R_drewN | apply Kd.R_drew)); exact HO461.out⟩, ⟨bk_ BK454⟩, ⟨bl_⟩⟩
    case round =>
     clear H'
     try clear c1
     try clear p2
     try clear c4
     try clear c5
     try clear c7
     try clear c7b0
     try clear c7b1
     try clear c8
     try clear c8b0
     try clear c8b1
     try clear c10
     try clear hcz10
     try clear hcz13
     try clear hcz16
     try clear hfz10
     try clear hfz13
     try clear hfz16
     obtain ⟨x8_1, x23_1, rfl, HA, HK1, HO_7, HO_8, BK454, HB⟩ := hrel
     cases gk with
     | zero => exact absurd HA.out (by simp [impl_Decides.l0])
     | succ k1 =>
      have H := HA.out
      clear HA
      simp only [impl_Decides.l0] at H
      by_cases c17 : x23_1 < (l1_0.length : Int)
      ·rw [if_pos c17] at H
       have c17b0 : decide (x23_1 < (l1_0.length : Int)) = true := decide_eq_true c17
       clear c17
       by_cases c18 : 0 ≤ x23_1
       ·rw [if_pos c18] at H
        have c18b0 : decide (0 ≤ x23_1) = true := decide_eq_true c18
        clear c18
        by_cases c19 : x23_1 < (l1_0.length : Int)
        ·rw [if_pos c19] at H
         have c19b0 : decide (x23_1 < (l1_0.length : Int)) = true := decide_eq_true c19
         clear c19
         by_cases c20 : ((rd_T71 l1_0 x23_1).f0) = 1
         ·rw [if_pos c20] at H
          have c20b0 : (((rd_T71 l1_0 x23_1).f0) == 1) = true := beq_iff_eq.mpr c20
          have c20b1 : (((rd_T71 l1_0 x23_1).f0) != 1) = false := bne_eq_false_iff_eq.mpr c20
          clear c20
          obtain ⟨t465, A21, H⟩ := bindE_ H
          by_cases c22 : x23_1 < (x8_1.length : Int)
          ·rw [if_pos c22] at H
           have c22b0 : decide (x23_1 < (x8_1.length : Int)) = true := decide_eq_true c22
           clear c22
           obtain ⟨y466, hy466⟩ : ∃ y_ : List Bool, y_ = (x8_1.set (x23_1 : Int).toNat t465) := ⟨_, rfl⟩
           replace H : (impl_Decides.l0 k1 a2 t456 y466 l1_0 (l1_0.length : Int) (wrap64 (x23_1 + 1))) = some r := by first | (rw [hy466]; with_reducible exact H) | (have H2_ := (Option.bind_some _ _).symm.trans H; rw [hy466]; with_reducible exact H2_) | (have H2_ := (Option.bind_some _ _).symm.trans H; with_reducible exact H2_) | with_reducible exact H | (rw [hy466]; exact H) | exact H
           have Ny466 := Aside0.mk hy466
           clear hy466
           have H' := Aside0.mk H
           clear H
           have p463 : 0 ≤ (x23_1 : Int) := of_decide_eq_true (by first | (with_reducible assumption) | assumption)
           have q463 : x23_1 < (l1_0.length : Int) := of_decide_eq_true (by first | (with_reducible assumption) | assumption)
           obtain ⟨ad463, e463, hx463_0, hx463_1, hx463_2, hx463_3, hx463_4⟩ := at_T71 (Kd.C_below HR1_0.out HB.out) x23_1 p463 q463
           cases e463
           replace p463 := eq_true p463
           replace q463 := eq_true q463
           go_wp2_with (first | ((with_reducible refine gate_dst (N := 10) rfl ?_); refine box_event ?hg (N := 10) ?hd (cs := #[.int .i64 0, .int .i64 0, .int .i64 0, .int .i64 0, .int .i64 0]) (t := 71) ?hr ?_; (case hd => rfl); (case hg => rfl); (case hr => first | (go_simp; done) | (go_simp; rfl)); intro gb464 hg w24 hbox hb; replace HO_7 := Aside0.mk (Kd.R_below (by (with_reducible repeat (first | apply Kd.R_alloc | apply Kd.R_drewN | apply Kd.R_drew)); exact HO_7.out) hb); replace HO_8 := Aside0.mk (Kd.R_below (by (with_reducible repeat (first | apply Kd.R_alloc | apply Kd.R_drewN | apply Kd.R_drew)); exact HO_8.out) hb); have BK464 := Aside0.mk (hbox); have GW464 := gs_ hg; have GE464 := gs_ hg; replace HB := hbs_ hb; have NB454_464 := Aside0.mk ((by rw [hg]; exact Nat.ne_of_lt (blk_lt (g := gb454) (o := .cells #[.slice (some ad463) l1_0.length c1_0] 68 (0, 0)) (bk_ BK454)) : gb454 ≠ gb464)); have NB464_454 := Aside0.mk ((by rw [hg]; exact Nat.ne_of_gt (blk_lt (g := gb454) (o := .cells #[.slice (some ad463) l1_0.length c1_0] 68 (0, 0)) (bk_ BK454)) : gb464 ≠ gb454)); replace BK454 := bkb_ BK454 hb; clear hb hbox hg; have hnb25 := NB464_454.out; have hnc25 := NB454_464.out; have hcz26 := blk_cell BK464.out; have hfz26 := blk_frozen BK464.out; obtain ⟨Ao27, co27, eo27⟩ := Kd.R_slice HO_7.out; subst eo27) | ((with_reducible refine gate_callee (f := 102) rfl ?_); refine goesC_ (some 39) Try.func102 #[.slice Ao27 t456.length co27, .agg #[.int .i64 ((rd_T71 l1_0 x23_1).f1.f0), .int .i64 ((rd_T71 l1_0 x23_1).f1.f1), .int .i64 a2]] ?_; (with_reducible refine (impl_Fact_102.calls k1 _ _ t456 ((rd_T71 l1_0 x23_1).f1.f0) ((rd_T71 l1_0 x23_1).f1.f1) a2 t465 _ ?side1 ?side2 A21.out).mono ?_); (case side1 => refine (Kd.R_reads' (e := 29) (base := w.heap.size) (ok := fun k_ => True) (n := t456.length) (c := co27) ?_).2.2; exact (by (with_reducible repeat (first | apply Kd.R_alloc | apply Kd.R_drewN | apply Kd.R_drew)); exact (Kd.R_mono (Kd.R_far (p := ⟨gb464, 4, none⟩) (Kd.R_far (p := ⟨gb464, 3, none⟩) (Kd.R_far (p := ⟨gb464, 2, none⟩) (Kd.R_far (p := ⟨gb464, 1, none⟩) (Kd.R_far (p := ⟨gb464, 0, none⟩) (Kd.R_types HO_7.out BK464.out (by decide)) (fun _ hk => hk.2) (.int .i64 ((rd_T71 l1_0 x23_1).f0))) (fun _ hk => hk.2) (.int .i64 ((rd_T71 l1_0 x23_1).f1.f0))) (fun _ hk => hk.2) (.int .i64 ((rd_T71 l1_0 x23_1).f1.f1))) (fun _ hk => hk.2) (.int .i64 ((rd_T71 l1_0 x23_1).f2))) (fun _ hk => hk.2) (.int .i64 ((rd_T71 l1_0 x23_1).f3))) (fun _ h_ => h_.1)))); (case side2 => exact (Kd.R_reads' HO_7.out).2.1); rintro e w28 ⟨rfl, hb⟩; refine ⟨_, rfl, ?_⟩; replace HO_7 := Aside0.mk (Kd.R_below (by (with_reducible repeat (first | apply Kd.R_alloc | apply Kd.R_drewN | apply Kd.R_drew)); exact (Kd.R_mono (Kd.R_far (p := ⟨gb464, 4, none⟩) (Kd.R_far (p := ⟨gb464, 3, none⟩) (Kd.R_far (p := ⟨gb464, 2, none⟩) (Kd.R_far (p := ⟨gb464, 1, none⟩) (Kd.R_far (p := ⟨gb464, 0, none⟩) (Kd.R_types HO_7.out BK464.out (by decide)) (fun _ hk => hk.2) (.int .i64 ((rd_T71 l1_0 x23_1).f0))) (fun _ hk => hk.2) (.int .i64 ((rd_T71 l1_0 x23_1).f1.f0))) (fun _ hk => hk.2) (.int .i64 ((rd_T71 l1_0 x23_1).f1.f1))) (fun _ hk => hk.2) (.int .i64 ((rd_T71 l1_0 x23_1).f2))) (fun _ hk => hk.2) (.int .i64 ((rd_T71 l1_0 x23_1).f3))) (fun _ h_ => h_.1))) hb); replace HO_8 := Aside0.mk (Kd.R_below (by (with_reducible repeat (first | apply Kd.R_alloc | apply Kd.R_drewN | apply Kd.R_drew)); exact (Kd.R_mono (Kd.R_far (p := ⟨gb464, 4, none⟩) (Kd.R_far (p := ⟨gb464, 3, none⟩) (Kd.R_far (p := ⟨gb464, 2, none⟩) (Kd.R_far (p := ⟨gb464, 1, none⟩) (Kd.R_far (p := ⟨gb464, 0, none⟩) (Kd.R_types HO_8.out BK464.out (by decide)) (fun _ hk => hk.2) (.int .i64 ((rd_T71 l1_0 x23_1).f0))) (fun _ hk => hk.2) (.int .i64 ((rd_T71 l1_0 x23_1).f1.f0))) (fun _ hk => hk.2) (.int .i64 ((rd_T71 l1_0 x23_1).f1.f1))) (fun _ hk => hk.2) (.int .i64 ((rd_T71 l1_0 x23_1).f2))) (fun _ hk => hk.2) (.int .i64 ((rd_T71 l1_0 x23_1).f3))) (fun _ h_ => h_.1))) hb); replace BK454 := Aside0.mk (blk_below (g := gb454) (o := .cells #[.slice (some ad463) l1_0.length c1_0] 68 (0, 0)) (bk_ BK454) hb); replace BK464 := Aside0.mk (blk_below (g := gb464) (o := .cells #[.int .i64 ((rd_T71 l1_0 x23_1).f0), .int .i64 ((rd_T71 l1_0 x23_1).f1.f0), .int .i64 ((rd_T71 l1_0 x23_1).f1.f1), .int .i64 ((rd_T71 l1_0 x23_1).f2), .int .i64 ((rd_T71 l1_0 x23_1).f3)] 71 (0, 0)) (bk_ BK464) hb); replace HB := hbs_ hb; clear hb; have p23 : 0 ≤ (x23_1 : Int) := of_decide_eq_true (by first | (with_reducible assumption) | assumption); have q23 : (x23_1 : Int) < ((x8_1.length : Int) : Int) := of_decide_eq_true (by first | (with_reducible assumption) | assumption); obtain ⟨go23, co23, eo23, gb23, gl23, cl23, HG23⟩ := Kd.R_form HO_8.out (by omega); (first | cases eo23 | (injection eo23 with ea_ en_ ec_; (first | subst ea_ | (injection ea_ with ea_; subst ea_)); subst ec_; clear en_)); have GB23 := Aside0.mk gb23; have GG23 := Aside0.mk HG23; clear gb23 gl23 HG23; obtain ⟨hx23_0, hf23_0⟩ := Kd.R_celln false HO_8.out (x23_1 : Int) p23 q23; replace p23 := eq_true p23; replace q23 := eq_true q23; obtain ⟨hy29_, hz29_⟩ := Kd.R_celln false HO_8.out (x23_1 : Int) (of_decide_eq_true (by first | (with_reducible assumption) | assumption)) (of_decide_eq_true (by first | (with_reducible assumption) | assumption)); have HP29 := Kd.R_putg HO_8.out (x23_1 : Int) t465) | ((with_reducible refine gate_store (t := 4) (p := 40) rfl ?_); refine store_event (t := 4) (p := 40) (v := ?vo_w30) (w1 := (w28.setCell ⟨go23, (x23_1 : Int).toNat, none⟩ (.bool t465))) ?hg ?ho ?hn ?hr ?_; (case ho => rfl); (case hg => rfl); (case hn => rfl); (case hr => first | (go_simp; done) | (go_simp; rfl)); intro w30 hw; have hg : w28.grownBy w30 (some go23) := (by rw [hw]; exact HP29.2); have hp_ : Kd.R Kd.bool 4 w30 w.heap.size (fun _ => True) (.slice (some ⟨go23, 0, none⟩) x8_1.length co23) y466 := (by rw [hw, Ny466.out]; exact HP29.1); clear HP29; replace HO_7 := Aside0.mk (Kd.R_over' (v := (.slice (some ⟨go23, 0, none⟩) x8_1.length co23)) (by (with_reducible repeat (first | apply Kd.R_alloc | apply Kd.R_drewN | apply Kd.R_drew)); exact HO_7.out) (Kd.R_typed HO_8.out) (by decide) hg); replace BK454 := Aside0.mk (blk_grown (g := gb454) (o := .cells #[.slice (some ad463) l1_0.length c1_0] 68 (0, 0)) (bk_ BK454) hg (Kd.R_ne HO_8.out BK454.out (by decide))); replace BK464 := Aside0.mk (blk_grown (g := gb464) (o := .cells #[.int .i64 ((rd_T71 l1_0 x23_1).f0), .int .i64 ((rd_T71 l1_0 x23_1).f1.f0), .int .i64 ((rd_T71 l1_0 x23_1).f1.f1), .int .i64 ((rd_T71 l1_0 x23_1).f2), .int .i64 ((rd_T71 l1_0 x23_1).f3)] 71 (0, 0)) (bk_ BK464) hg (Kd.R_ne HO_8.out BK464.out (by decide))); replace HO_8 := Aside0.mk (hp_); replace HB := Aside0.mk ((by rw [hw]; exact below_set (HB.out) GB23.out : Below w.heap.size w w30)); clear hg hw hp_))
           go_roundg k1
           case measure => have := HK1.out; omega
           case rel => exact ⟨(y466), (wrap64 (x23_1 + 1)), (by first | rfl | (simp; done) | (simp [*]; done)), H', ⟨by have := HK1.out; omega⟩, ⟨by (with_reducible repeat (first | apply Kd.R_alloc | apply Kd.R_drewN | apply Kd.R_drew)); exact HO_7.out⟩, ⟨by (with_reducible repeat (first | apply Kd.R_alloc | apply Kd.R_drewN | apply Kd.R_drew)); exact HO_8.out⟩, ⟨bk_ BK454⟩, ⟨bl_⟩⟩
          ·rw [if_neg c22] at H
           exact absurd H (by simp)
         ·rw [if_neg c20] at H
          have c20b0 : (((rd_T71 l1_0 x23_1).f0) == 1) = false := beq_eq_false_iff_ne.mpr c20
          have c20b1 : (((rd_T71 l1_0 x23_1).f0) != 1) = true := bne_iff_ne.mpr c20
          by_cases c31 : ((rd_T71 l1_0 x23_1).f0) = 2
          ·rw [if_pos c31] at H
           have c31b0 : (((rd_T71 l1_0 x23_1).f0) == 2) = true := beq_iff_eq.mpr c31
           have c31b1 : (((rd_T71 l1_0 x23_1).f0) != 2) = false := bne_eq_false_iff_eq.mpr c31
           clear c31
           by_cases c32 : 0 ≤ ((rd_T71 l1_0 x23_1).f2)
           ·rw [if_pos c32] at H
            have c32b0 : decide (0 ≤ ((rd_T71 l1_0 x23_1).f2)) = true := decide_eq_true c32
            clear c32
            by_cases c33 : ((rd_T71 l1_0 x23_1).f2) < (x8_1.length : Int)
            ·rw [if_pos c33] at H
             have c33b0 : decide (((rd_T71 l1_0 x23_1).f2) < (x8_1.length : Int)) = true := decide_eq_true c33
             clear c33
             obtain ⟨bq34, hbq34⟩ : ∃ b_ : Bool, b_ = (rdOf false x8_1 ((rd_T71 l1_0 x23_1).f2)) := ⟨_, rfl⟩
             replace H : (if bq34 = true then (if 0 ≤ ((rd_T71 l1_0 x23_1).f3) then (if ((rd_T71 l1_0 x23_1).f3) < (x8_1.length : Int) then (if x23_1 < (x8_1.length : Int) then (impl_Decides.l0 k1 a2 t456 (x8_1.set (x23_1 : Int).toNat (rdOf false x8_1 ((rd_T71 l1_0 x23_1).f3))) l1_0 (l1_0.length : Int) (wrap64 (x23_1 + 1))) else (none)) else (none)) else (none)) else (if x23_1 < (x8_1.length : Int) then (impl_Decides.l0 k1 a2 t456 (x8_1.set (x23_1 : Int).toNat false) l1_0 (l1_0.length : Int) (wrap64 (x23_1 + 1))) else (none))) = some r := by rw [← hbq34] at H; exact H
             have Nbq34 := Aside0.mk hbq34
             clear hbq34
             by_cases c35 : bq34 = true
             ·subst c35
              replace H := ite_t_ H
              by_cases c36 : 0 ≤ ((rd_T71 l1_0 x23_1).f3)
              ·rw [if_pos c36] at H
               have c36b0 : decide (0 ≤ ((rd_T71 l1_0 x23_1).f3)) = true := decide_eq_true c36
               clear c36
               by_cases c37 : ((rd_T71 l1_0 x23_1).f3) < (x8_1.length : Int)
               ·rw [if_pos c37] at H
                have c37b0 : decide (((rd_T71 l1_0 x23_1).f3) < (x8_1.length : Int)) = true := decide_eq_true c37
                clear c37
                by_cases c38 : x23_1 < (x8_1.length : Int)
                ·rw [if_pos c38] at H
                 have c38b0 : decide (x23_1 < (x8_1.length : Int)) = true := decide_eq_true c38
                 clear c38
                 obtain ⟨y469, hy469⟩ : ∃ y_ : List Bool, y_ = (x8_1.set (x23_1 : Int).toNat (rdOf false x8_1 ((rd_T71 l1_0 x23_1).f3))) := ⟨_, rfl⟩
                 replace H : (impl_Decides.l0 k1 a2 t456 y469 l1_0 (l1_0.length : Int) (wrap64 (x23_1 + 1))) = some r := by first | (rw [hy469]; with_reducible exact H) | (have H2_ := (Option.bind_some _ _).symm.trans H; rw [hy469]; with_reducible exact H2_) | (have H2_ := (Option.bind_some _ _).symm.trans H; with_reducible exact H2_) | with_reducible exact H | (rw [hy469]; exact H) | exact H
                 have Ny469 := Aside0.mk hy469
                 clear hy469
                 have H' := Aside0.mk H
                 clear H
                 have p463 : 0 ≤ (x23_1 : Int) := of_decide_eq_true (by first | (with_reducible assumption) | assumption)
                 have q463 : x23_1 < (l1_0.length : Int) := of_decide_eq_true (by first | (with_reducible assumption) | assumption)
                 obtain ⟨ad463, e463, hx463_0, hx463_1, hx463_2, hx463_3, hx463_4⟩ := at_T71 (Kd.C_below HR1_0.out HB.out) x23_1 p463 q463
                 cases e463
                 replace p463 := eq_true p463
                 replace q463 := eq_true q463
                 go_wp2_with (first | ((with_reducible refine gate_dst (N := 10) rfl ?_); refine box_event ?hg (N := 10) ?hd (cs := #[.int .i64 0, .int .i64 0, .int .i64 0, .int .i64 0, .int .i64 0]) (t := 71) ?hr ?_; (case hd => rfl); (case hg => rfl); (case hr => first | (go_simp; done) | (go_simp; rfl)); intro gb464 hg w40 hbox hb; replace HO_7 := Aside0.mk (Kd.R_below (by (with_reducible repeat (first | apply Kd.R_alloc | apply Kd.R_drewN | apply Kd.R_drew)); exact HO_7.out) hb); replace HO_8 := Aside0.mk (Kd.R_below (by (with_reducible repeat (first | apply Kd.R_alloc | apply Kd.R_drewN | apply Kd.R_drew)); exact HO_8.out) hb); have BK464 := Aside0.mk (hbox); have GW464 := gs_ hg; have GE464 := gs_ hg; replace HB := hbs_ hb; have NB454_464 := Aside0.mk ((by rw [hg]; exact Nat.ne_of_lt (blk_lt (g := gb454) (o := .cells #[.slice (some ad463) l1_0.length c1_0] 68 (0, 0)) (bk_ BK454)) : gb454 ≠ gb464)); have NB464_454 := Aside0.mk ((by rw [hg]; exact Nat.ne_of_gt (blk_lt (g := gb454) (o := .cells #[.slice (some ad463) l1_0.length c1_0] 68 (0, 0)) (bk_ BK454)) : gb464 ≠ gb454)); replace BK454 := bkb_ BK454 hb; clear hb hbox hg; have hnb41 := NB464_454.out; have hnc41 := NB454_464.out; have hcz42 := blk_cell BK464.out; have hfz42 := blk_frozen BK464.out) | ((with_reducible refine gate_store (t := 71) (p := 10) rfl ?_); refine store_event (t := 71) (p := 10) (v := ?vo_w43) (w1 := (((((w40.setCell ⟨gb464, 0, none⟩ (.int .i64 ((rd_T71 l1_0 x23_1).f0))).setCell ⟨gb464, 1, none⟩ (.int .i64 ((rd_T71 l1_0 x23_1).f1.f0))).setCell ⟨gb464, 2, none⟩ (.int .i64 ((rd_T71 l1_0 x23_1).f1.f1))).setCell ⟨gb464, 3, none⟩ (.int .i64 ((rd_T71 l1_0 x23_1).f2))).setCell ⟨gb464, 4, none⟩ (.int .i64 ((rd_T71 l1_0 x23_1).f3)))) ?hg ?ho ?hn ?hr ?_; (case ho => rfl); (case hg => rfl); (case hn => rfl); (case hr => first | (go_simp; done) | (go_simp; rfl)); intro w43 hw; have n0_ : Aside0 (Kd.R k29 29 w43 w.heap.size (fun _ => True) v457 t456) := ⟨(by rw [hw]; exact (by (with_reducible repeat (first | apply Kd.R_alloc | apply Kd.R_drewN | apply Kd.R_drew)); exact Kd.R_mono (Kd.R_far (p := ⟨gb464, 4, none⟩) (Kd.R_far (p := ⟨gb464, 3, none⟩) (Kd.R_far (p := ⟨gb464, 2, none⟩) (Kd.R_far (p := ⟨gb464, 1, none⟩) (Kd.R_far (p := ⟨gb464, 0, none⟩) (Kd.R_types HO_7.out BK464.out (by decide)) (fun _ hk => hk.2) (.int .i64 ((rd_T71 l1_0 x23_1).f0))) (fun _ hk => hk.2) (.int .i64 ((rd_T71 l1_0 x23_1).f1.f0))) (fun _ hk => hk.2) (.int .i64 ((rd_T71 l1_0 x23_1).f1.f1))) (fun _ hk => hk.2) (.int .i64 ((rd_T71 l1_0 x23_1).f2))) (fun _ hk => hk.2) (.int .i64 ((rd_T71 l1_0 x23_1).f3))) (fun _ hk => trivial)))⟩; have n1_ : Aside0 (Kd.R Kd.bool 4 w43 w.heap.size (fun _ => True) v460 x8_1) := ⟨(by rw [hw]; exact (by (with_reducible repeat (first | apply Kd.R_alloc | apply Kd.R_drewN | apply Kd.R_drew)); exact Kd.R_mono (Kd.R_far (p := ⟨gb464, 4, none⟩) (Kd.R_far (p := ⟨gb464, 3, none⟩) (Kd.R_far (p := ⟨gb464, 2, none⟩) (Kd.R_far (p := ⟨gb464, 1, none⟩) (Kd.R_far (p := ⟨gb464, 0, none⟩) (Kd.R_types HO_8.out BK464.out (by decide)) (fun _ hk => hk.2) (.int .i64 ((rd_T71 l1_0 x23_1).f0))) (fun _ hk => hk.2) (.int .i64 ((rd_T71 l1_0 x23_1).f1.f0))) (fun _ hk => hk.2) (.int .i64 ((rd_T71 l1_0 x23_1).f1.f1))) (fun _ hk => hk.2) (.int .i64 ((rd_T71 l1_0 x23_1).f2))) (fun _ hk => hk.2) (.int .i64 ((rd_T71 l1_0 x23_1).f3))) (fun _ hk => trivial)))⟩; have n2_ : Aside0 (w43.heap[gb454]? = some (.cells #[.slice (some ad463) l1_0.length c1_0] 68 (0, 0))) := ⟨(by rw [hw]; exact (bk_ BK454))⟩; have n3_ : Aside0 (w43.heap[gb464]? = some (.cells #[.int .i64 ((rd_T71 l1_0 x23_1).f0), .int .i64 ((rd_T71 l1_0 x23_1).f1.f0), .int .i64 ((rd_T71 l1_0 x23_1).f1.f1), .int .i64 ((rd_T71 l1_0 x23_1).f2), .int .i64 ((rd_T71 l1_0 x23_1).f3)] 71 (0, 0))) := ⟨(by rw [hw]; exact (bk_ BK464))⟩; have n4_ : Aside0 (Below w.heap.size w w43) := ⟨(by rw [hw]; exact bl_)⟩; clear hw; clear HO_7; clear HO_8; clear BK454; clear BK464; clear HB; have HO_7 := n0_; have HO_8 := n1_; have BK454 := n2_; have BK464 := n3_; have HB := n4_; clear n0_ n1_ n2_ n3_ n4_; have hcz44 := blk_cell BK464.out; have hfz44 := blk_frozen BK464.out; obtain ⟨Ao45, co45, eo45⟩ := Kd.R_slice HO_8.out; subst eo45; have p467 : 0 ≤ (((rd_T71 l1_0 x23_1).f2) : Int) := of_decide_eq_true (by first | (with_reducible assumption) | assumption); have q467 : ((rd_T71 l1_0 x23_1).f2) < (x8_1.length : Int) := of_decide_eq_true (by first | (with_reducible assumption) | assumption); obtain ⟨ad467, e467, hx467_0⟩ := Kd.at_bool (Kd.R_reads' HO_8.out).2.2 ((rd_T71 l1_0 x23_1).f2) p467 q467; (try rw [← Nbq34.out] at hx467_0); cases e467; replace p467 := eq_true p467; replace q467 := eq_true q467; have p468 : 0 ≤ (((rd_T71 l1_0 x23_1).f3) : Int) := of_decide_eq_true (by first | (with_reducible assumption) | assumption); have q468 : ((rd_T71 l1_0 x23_1).f3) < (x8_1.length : Int) := of_decide_eq_true (by first | (with_reducible assumption) | assumption); obtain ⟨ad468, e468, hx468_0⟩ := Kd.at_bool (Kd.R_reads' HO_8.out).2.2 ((rd_T71 l1_0 x23_1).f3) p468 q468; (try rw [← Nbq34.out] at hx468_0); obtain rfl : ad467 = ad468 := (by injection e468); replace p468 := eq_true p468; replace q468 := eq_true q468; have p39 : 0 ≤ (x23_1 : Int) := of_decide_eq_true (by first | (with_reducible assumption) | assumption); have q39 : (x23_1 : Int) < ((x8_1.length : Int) : Int) := of_decide_eq_true (by first | (with_reducible assumption) | assumption); obtain ⟨go39, co39, eo39, gb39, gl39, cl39, HG39⟩ := Kd.R_form HO_8.out (by omega); (first | cases eo39 | (injection eo39 with ea_ en_ ec_; (first | subst ea_ | (injection ea_ with ea_; subst ea_)); subst ec_; clear en_)); have GB39 := Aside0.mk gb39; have GG39 := Aside0.mk HG39; clear gb39 gl39 HG39; (first | simp only [add_plain] at hx467_0 | skip); (first | simp only [add_plain] at hx468_0 | skip); obtain ⟨hx39_0, hf39_0⟩ := Kd.R_celln false HO_8.out (x23_1 : Int) p39 q39; replace p39 := eq_true p39; replace q39 := eq_true q39; obtain ⟨hy46_, hz46_⟩ := Kd.R_celln false HO_8.out (x23_1 : Int) (of_decide_eq_true (by first | (with_reducible assumption) | assumption)) (of_decide_eq_true (by first | (with_reducible assumption) | assumption)); have HP46 := Kd.R_putg HO_8.out (x23_1 : Int) (rdOf false x8_1 ((rd_T71 l1_0 x23_1).f3))) | ((with_reducible refine gate_store (t := 4) (p := 57) rfl ?_); refine store_event (t := 4) (p := 57) (v := ?vo_w47) (w1 := (w43.setCell ⟨go39, (x23_1 : Int).toNat, none⟩ (.bool (rdOf false x8_1 ((rd_T71 l1_0 x23_1).f3))))) ?hg ?ho ?hn ?hr ?_; (case ho => rfl); (case hg => rfl); (case hn => rfl); (case hr => first | (go_simp; done) | (go_simp; rfl)); intro w47 hw; have hg : w43.grownBy w47 (some go39) := (by rw [hw]; exact HP46.2); have hp_ : Kd.R Kd.bool 4 w47 w.heap.size (fun _ => True) (.slice (some ⟨go39, 0, none⟩) x8_1.length co45) y469 := (by rw [hw, Ny469.out]; exact HP46.1); clear HP46; replace HO_7 := Aside0.mk (Kd.R_over' (v := (.slice (some ⟨go39, 0, none⟩) x8_1.length co45)) (by (with_reducible repeat (first | apply Kd.R_alloc | apply Kd.R_drewN | apply Kd.R_drew)); exact HO_7.out) (Kd.R_typed HO_8.out) (by decide) hg); replace BK454 := Aside0.mk (blk_grown (g := gb454) (o := .cells #[.slice (some ad463) l1_0.length c1_0] 68 (0, 0)) (bk_ BK454) hg (Kd.R_ne HO_8.out BK454.out (by decide))); replace BK464 := Aside0.mk (blk_grown (g := gb464) (o := .cells #[.int .i64 ((rd_T71 l1_0 x23_1).f0), .int .i64 ((rd_T71 l1_0 x23_1).f1.f0), .int .i64 ((rd_T71 l1_0 x23_1).f1.f1), .int .i64 ((rd_T71 l1_0 x23_1).f2), .int .i64 ((rd_T71 l1_0 x23_1).f3)] 71 (0, 0)) (bk_ BK464) hg (Kd.R_ne HO_8.out BK464.out (by decide))); replace HO_8 := Aside0.mk (hp_); replace HB := Aside0.mk ((by rw [hw]; exact below_set (HB.out) GB39.out : Below w.heap.size w w47)); clear hg hw hp_))
                 go_roundg k1
                 case measure => have := HK1.out; omega
                 case rel => exact ⟨(y469), (wrap64 (x23_1 + 1)), (by first | rfl | (simp; done) | (simp [*]; done)), H', ⟨by have := HK1.out; omega⟩, ⟨by (with_reducible repeat (first | apply Kd.R_alloc | apply Kd.R_drewN | apply Kd.R_drew)); exact HO_7.out⟩, ⟨by (with_reducible repeat (first | apply Kd.R_alloc | apply Kd.R_drewN | apply Kd.R_drew)); exact HO_8.out⟩, ⟨bk_ BK454⟩, ⟨bl_⟩⟩
                ·rw [if_neg c38] at H
                 exact absurd H (by simp)
               ·rw [if_neg c37] at H
                exact absurd H (by simp)
              ·rw [if_neg c36] at H
               exact absurd H (by simp)
             ·replace c35 := Bool.eq_false_iff.mpr c35
              subst c35
              replace H := ite_f_ H
              by_cases c48 : x23_1 < (x8_1.length : Int)
              ·rw [if_pos c48] at H
               have c48b0 : decide (x23_1 < (x8_1.length : Int)) = true := decide_eq_true c48
               clear c48
               obtain ⟨y470, hy470⟩ : ∃ y_ : List Bool, y_ = (x8_1.set (x23_1 : Int).toNat false) := ⟨_, rfl⟩
               replace H : (impl_Decides.l0 k1 a2 t456 y470 l1_0 (l1_0.length : Int) (wrap64 (x23_1 + 1))) = some r := by first | (rw [hy470]; with_reducible exact H) | (have H2_ := (Option.bind_some _ _).symm.trans H; rw [hy470]; with_reducible exact H2_) | (have H2_ := (Option.bind_some _ _).symm.trans H; with_reducible exact H2_) | with_reducible exact H | (rw [hy470]; exact H) | exact H
               have Ny470 := Aside0.mk hy470
               clear hy470
               have H' := Aside0.mk H
               clear H
               have p463 : 0 ≤ (x23_1 : Int) := of_decide_eq_true (by first | (with_reducible assumption) | assumption)
               have q463 : x23_1 < (l1_0.length : Int) := of_decide_eq_true (by first | (with_reducible assumption) | assumption)
               obtain ⟨ad463, e463, hx463_0, hx463_1, hx463_2, hx463_3, hx463_4⟩ := at_T71 (Kd.C_below HR1_0.out HB.out) x23_1 p463 q463
               cases e463
               replace p463 := eq_true p463
               replace q463 := eq_true q463
               go_wp2_with (first | ((with_reducible refine gate_dst (N := 10) rfl ?_); refine box_event ?hg (N := 10) ?hd (cs := #[.int .i64 0, .int .i64 0, .int .i64 0, .int .i64 0, .int .i64 0]) (t := 71) ?hr ?_; (case hd => rfl); (case hg => rfl); (case hr => first | (go_simp; done) | (go_simp; rfl)); intro gb464 hg w50 hbox hb; replace HO_7 := Aside0.mk (Kd.R_below (by (with_reducible repeat (first | apply Kd.R_alloc | apply Kd.R_drewN | apply Kd.R_drew)); exact HO_7.out) hb); replace HO_8 := Aside0.mk (Kd.R_below (by (with_reducible repeat (first | apply Kd.R_alloc | apply Kd.R_drewN | apply Kd.R_drew)); exact HO_8.out) hb); have BK464 := Aside0.mk (hbox); have GW464 := gs_ hg; have GE464 := gs_ hg; replace HB := hbs_ hb; have NB454_464 := Aside0.mk ((by rw [hg]; exact Nat.ne_of_lt (blk_lt (g := gb454) (o := .cells #[.slice (some ad463) l1_0.length c1_0] 68 (0, 0)) (bk_ BK454)) : gb454 ≠ gb464)); have NB464_454 := Aside0.mk ((by rw [hg]; exact Nat.ne_of_gt (blk_lt (g := gb454) (o := .cells #[.slice (some ad463) l1_0.length c1_0] 68 (0, 0)) (bk_ BK454)) : gb464 ≠ gb454)); replace BK454 := bkb_ BK454 hb; clear hb hbox hg; have hnb51 := NB464_454.out; have hnc51 := NB454_464.out; have hcz52 := blk_cell BK464.out; have hfz52 := blk_frozen BK464.out) | ((with_reducible refine gate_store (t := 71) (p := 10) rfl ?_); refine store_event (t := 71) (p := 10) (v := ?vo_w53) (w1 := (((((w50.setCell ⟨gb464, 0, none⟩ (.int .i64 ((rd_T71 l1_0 x23_1).f0))).setCell ⟨gb464, 1, none⟩ (.int .i64 ((rd_T71 l1_0 x23_1).f1.f0))).setCell ⟨gb464, 2, none⟩ (.int .i64 ((rd_T71 l1_0 x23_1).f1.f1))).setCell ⟨gb464, 3, none⟩ (.int .i64 ((rd_T71 l1_0 x23_1).f2))).setCell ⟨gb464, 4, none⟩ (.int .i64 ((rd_T71 l1_0 x23_1).f3)))) ?hg ?ho ?hn ?hr ?_; (case ho => rfl); (case hg => rfl); (case hn => rfl); (case hr => first | (go_simp; done) | (go_simp; rfl)); intro w53 hw; have n0_ : Aside0 (Kd.R k29 29 w53 w.heap.size (fun _ => True) v457 t456) := ⟨(by rw [hw]; exact (by (with_reducible repeat (first | apply Kd.R_alloc | apply Kd.R_drewN | apply Kd.R_drew)); exact Kd.R_mono (Kd.R_far (p := ⟨gb464, 4, none⟩) (Kd.R_far (p := ⟨gb464, 3, none⟩) (Kd.R_far (p := ⟨gb464, 2, none⟩) (Kd.R_far (p := ⟨gb464, 1, none⟩) (Kd.R_far (p := ⟨gb464, 0, none⟩) (Kd.R_types HO_7.out BK464.out (by decide)) (fun _ hk => hk.2) (.int .i64 ((rd_T71 l1_0 x23_1).f0))) (fun _ hk => hk.2) (.int .i64 ((rd_T71 l1_0 x23_1).f1.f0))) (fun _ hk => hk.2) (.int .i64 ((rd_T71 l1_0 x23_1).f1.f1))) (fun _ hk => hk.2) (.int .i64 ((rd_T71 l1_0 x23_1).f2))) (fun _ hk => hk.2) (.int .i64 ((rd_T71 l1_0 x23_1).f3))) (fun _ hk => trivial)))⟩; have n1_ : Aside0 (Kd.R Kd.bool 4 w53 w.heap.size (fun _ => True) v460 x8_1) := ⟨(by rw [hw]; exact (by (with_reducible repeat (first | apply Kd.R_alloc | apply Kd.R_drewN | apply Kd.R_drew)); exact Kd.R_mono (Kd.R_far (p := ⟨gb464, 4, none⟩) (Kd.R_far (p := ⟨gb464, 3, none⟩) (Kd.R_far (p := ⟨gb464, 2, none⟩) (Kd.R_far (p := ⟨gb464, 1, none⟩) (Kd.R_far (p := ⟨gb464, 0, none⟩) (Kd.R_types HO_8.out BK464.out (by decide)) (fun _ hk => hk.2) (.int .i64 ((rd_T71 l1_0 x23_1).f0))) (fun _ hk => hk.2) (.int .i64 ((rd_T71 l1_0 x23_1).f1.f0))) (fun _ hk => hk.2) (.int .i64 ((rd_T71 l1_0 x23_1).f1.f1))) (fun _ hk => hk.2) (.int .i64 ((rd_T71 l1_0 x23_1).f2))) (fun _ hk => hk.2) (.int .i64 ((rd_T71 l1_0 x23_1).f3))) (fun _ hk => trivial)))⟩; have n2_ : Aside0 (w53.heap[gb454]? = some (.cells #[.slice (some ad463) l1_0.length c1_0] 68 (0, 0))) := ⟨(by rw [hw]; exact (bk_ BK454))⟩; have n3_ : Aside0 (w53.heap[gb464]? = some (.cells #[.int .i64 ((rd_T71 l1_0 x23_1).f0), .int .i64 ((rd_T71 l1_0 x23_1).f1.f0), .int .i64 ((rd_T71 l1_0 x23_1).f1.f1), .int .i64 ((rd_T71 l1_0 x23_1).f2), .int .i64 ((rd_T71 l1_0 x23_1).f3)] 71 (0, 0))) := ⟨(by rw [hw]; exact (bk_ BK464))⟩; have n4_ : Aside0 (Below w.heap.size w w53) := ⟨(by rw [hw]; exact bl_)⟩; clear hw; clear HO_7; clear HO_8; clear BK454; clear BK464; clear HB; have HO_7 := n0_; have HO_8 := n1_; have BK454 := n2_; have BK464 := n3_; have HB := n4_; clear n0_ n1_ n2_ n3_ n4_; have hcz54 := blk_cell BK464.out; have hfz54 := blk_frozen BK464.out; obtain ⟨Ao55, co55, eo55⟩ := Kd.R_slice HO_8.out; subst eo55; have p467 : 0 ≤ (((rd_T71 l1_0 x23_1).f2) : Int) := of_decide_eq_true (by first | (with_reducible assumption) | assumption); have q467 : ((rd_T71 l1_0 x23_1).f2) < (x8_1.length : Int) := of_decide_eq_true (by first | (with_reducible assumption) | assumption); obtain ⟨ad467, e467, hx467_0⟩ := Kd.at_bool (Kd.R_reads' HO_8.out).2.2 ((rd_T71 l1_0 x23_1).f2) p467 q467; (try rw [← Nbq34.out] at hx467_0); cases e467; replace p467 := eq_true p467; replace q467 := eq_true q467; have p49 : 0 ≤ (x23_1 : Int) := of_decide_eq_true (by first | (with_reducible assumption) | assumption); have q49 : (x23_1 : Int) < ((x8_1.length : Int) : Int) := of_decide_eq_true (by first | (with_reducible assumption) | assumption); obtain ⟨go49, co49, eo49, gb49, gl49, cl49, HG49⟩ := Kd.R_form HO_8.out (by omega); (first | cases eo49 | (injection eo49 with ea_ en_ ec_; (first | subst ea_ | (injection ea_ with ea_; subst ea_)); subst ec_; clear en_)); have GB49 := Aside0.mk gb49; have GG49 := Aside0.mk HG49; clear gb49 gl49 HG49; (first | simp only [add_plain] at hx467_0 | skip); obtain ⟨hx49_0, hf49_0⟩ := Kd.R_celln false HO_8.out (x23_1 : Int) p49 q49; replace p49 := eq_true p49; replace q49 := eq_true q49; obtain ⟨hy56_, hz56_⟩ := Kd.R_celln false HO_8.out (x23_1 : Int) (of_decide_eq_true (by first | (with_reducible assumption) | assumption)) (of_decide_eq_true (by first | (with_reducible assumption) | assumption)); have HP56 := Kd.R_putg HO_8.out (x23_1 : Int) false) | ((with_reducible refine gate_store (t := 4) (p := 57) rfl ?_); refine store_event (t := 4) (p := 57) (v := ?vo_w57) (w1 := (w53.setCell ⟨go49, (x23_1 : Int).toNat, none⟩ (.bool false))) ?hg ?ho ?hn ?hr ?_; (case ho => rfl); (case hg => rfl); (case hn => rfl); (case hr => first | (go_simp; done) | (go_simp; rfl)); intro w57 hw; have hg : w53.grownBy w57 (some go49) := (by rw [hw]; exact HP56.2); have hp_ : Kd.R Kd.bool 4 w57 w.heap.size (fun _ => True) (.slice (some ⟨go49, 0, none⟩) x8_1.length co55) y470 := (by rw [hw, Ny470.out]; exact HP56.1); clear HP56; replace HO_7 := Aside0.mk (Kd.R_over' (v := (.slice (some ⟨go49, 0, none⟩) x8_1.length co55)) (by (with_reducible repeat (first | apply Kd.R_alloc | apply Kd.R_drewN | apply Kd.R_drew)); exact HO_7.out) (Kd.R_typed HO_8.out) (by decide) hg); replace BK454 := Aside0.mk (blk_grown (g := gb454) (o := .cells #[.slice (some ad463) l1_0.length c1_0] 68 (0, 0)) (bk_ BK454) hg (Kd.R_ne HO_8.out BK454.out (by decide))); replace BK464 := Aside0.mk (blk_grown (g := gb464) (o := .cells #[.int .i64 ((rd_T71 l1_0 x23_1).f0), .int .i64 ((rd_T71 l1_0 x23_1).f1.f0), .int .i64 ((rd_T71 l1_0 x23_1).f1.f1), .int .i64 ((rd_T71 l1_0 x23_1).f2), .int .i64 ((rd_T71 l1_0 x23_1).f3)] 71 (0, 0)) (bk_ BK464) hg (Kd.R_ne HO_8.out BK464.out (by decide))); replace HO_8 := Aside0.mk (hp_); replace HB := Aside0.mk ((by rw [hw]; exact below_set (HB.out) GB49.out : Below w.heap.size w w57)); clear hg hw hp_))
               go_roundg k1
               case measure => have := HK1.out; omega
               case rel => exact ⟨(y470), (wrap64 (x23_1 + 1)), (by first | rfl | (simp; done) | (simp [*]; done)), H', ⟨by have := HK1.out; omega⟩, ⟨by (with_reducible repeat (first | apply Kd.R_alloc | apply Kd.R_drewN | apply Kd.R_drew)); exact HO_7.out⟩, ⟨by (with_reducible repeat (first | apply Kd.R_alloc | apply Kd.R_drewN | apply Kd.R_drew)); exact HO_8.out⟩, ⟨bk_ BK454⟩, ⟨bl_⟩⟩
              ·rw [if_neg c48] at H
               exact absurd H (by simp)
            ·rw [if_neg c33] at H
             exact absurd H (by simp)
           ·rw [if_neg c32] at H
            exact absurd H (by simp)
          ·rw [if_neg c31] at H
           have c31b0 : (((rd_T71 l1_0 x23_1).f0) == 2) = false := beq_eq_false_iff_ne.mpr c31
           have c31b1 : (((rd_T71 l1_0 x23_1).f0) != 2) = true := bne_iff_ne.mpr c31
           by_cases c58 : ((rd_T71 l1_0 x23_1).f0) = 3
           ·rw [if_pos c58] at H
            have c58b0 : (((rd_T71 l1_0 x23_1).f0) == 3) = true := beq_iff_eq.mpr c58
            have c58b1 : (((rd_T71 l1_0 x23_1).f0) != 3) = false := bne_eq_false_iff_eq.mpr c58
            clear c58
            by_cases c59 : 0 ≤ ((rd_T71 l1_0 x23_1).f2)
            ·rw [if_pos c59] at H
             have c59b0 : decide (0 ≤ ((rd_T71 l1_0 x23_1).f2)) = true := decide_eq_true c59
             clear c59
             by_cases c60 : ((rd_T71 l1_0 x23_1).f2) < (x8_1.length : Int)
             ·rw [if_pos c60] at H
              have c60b0 : decide (((rd_T71 l1_0 x23_1).f2) < (x8_1.length : Int)) = true := decide_eq_true c60
              clear c60
              obtain ⟨bq61, hbq61⟩ : ∃ b_ : Bool, b_ = (rdOf false x8_1 ((rd_T71 l1_0 x23_1).f2)) := ⟨_, rfl⟩
              replace H : (if bq61 = true then (if x23_1 < (x8_1.length : Int) then (impl_Decides.l0 k1 a2 t456 (x8_1.set (x23_1 : Int).toNat true) l1_0 (l1_0.length : Int) (wrap64 (x23_1 + 1))) else (none)) else (if 0 ≤ ((rd_T71 l1_0 x23_1).f3) then (if ((rd_T71 l1_0 x23_1).f3) < (x8_1.length : Int) then (if x23_1 < (x8_1.length : Int) then (impl_Decides.l0 k1 a2 t456 (x8_1.set (x23_1 : Int).toNat (rdOf false x8_1 ((rd_T71 l1_0 x23_1).f3))) l1_0 (l1_0.length : Int) (wrap64 (x23_1 + 1))) else (none)) else (none)) else (none))) = some r := by rw [← hbq61] at H; exact H
              have Nbq61 := Aside0.mk hbq61
              clear hbq61
              by_cases c62 : bq61 = true
              ·subst c62
               replace H := ite_t_ H
               by_cases c63 : x23_1 < (x8_1.length : Int)
               ·rw [if_pos c63] at H
                have c63b0 : decide (x23_1 < (x8_1.length : Int)) = true := decide_eq_true c63
                clear c63
                obtain ⟨y472, hy472⟩ : ∃ y_ : List Bool, y_ = (x8_1.set (x23_1 : Int).toNat true) := ⟨_, rfl⟩
                replace H : (impl_Decides.l0 k1 a2 t456 y472 l1_0 (l1_0.length : Int) (wrap64 (x23_1 + 1))) = some r := by first | (rw [hy472]; with_reducible exact H) | (have H2_ := (Option.bind_some _ _).symm.trans H; rw [hy472]; with_reducible exact H2_) | (have H2_ := (Option.bind_some _ _).symm.trans H; with_reducible exact H2_) | with_reducible exact H | (rw [hy472]; exact H) | exact H
                have Ny472 := Aside0.mk hy472
                clear hy472
                have H' := Aside0.mk H
                clear H
                have p463 : 0 ≤ (x23_1 : Int) := of_decide_eq_true (by first | (with_reducible assumption) | assumption)
                have q463 : x23_1 < (l1_0.length : Int) := of_decide_eq_true (by first | (with_reducible assumption) | assumption)
                obtain ⟨ad463, e463, hx463_0, hx463_1, hx463_2, hx463_3, hx463_4⟩ := at_T71 (Kd.C_below HR1_0.out HB.out) x23_1 p463 q463
                cases e463
                replace p463 := eq_true p463
                replace q463 := eq_true q463
                go_wp2_with (first | ((with_reducible refine gate_dst (N := 10) rfl ?_); refine box_event ?hg (N := 10) ?hd (cs := #[.int .i64 0, .int .i64 0, .int .i64 0, .int .i64 0, .int .i64 0]) (t := 71) ?hr ?_; (case hd => rfl); (case hg => rfl); (case hr => first | (go_simp; done) | (go_simp; rfl)); intro gb464 hg w65 hbox hb; replace HO_7 := Aside0.mk (Kd.R_below (by (with_reducible repeat (first | apply Kd.R_alloc | apply Kd.R_drewN | apply Kd.R_drew)); exact HO_7.out) hb); replace HO_8 := Aside0.mk (Kd.R_below (by (with_reducible repeat (first | apply Kd.R_alloc | apply Kd.R_drewN | apply Kd.R_drew)); exact HO_8.out) hb); have BK464 := Aside0.mk (hbox); have GW464 := gs_ hg; have GE464 := gs_ hg; replace HB := hbs_ hb; have NB454_464 := Aside0.mk ((by rw [hg]; exact Nat.ne_of_lt (blk_lt (g := gb454) (o := .cells #[.slice (some ad463) l1_0.length c1_0] 68 (0, 0)) (bk_ BK454)) : gb454 ≠ gb464)); have NB464_454 := Aside0.mk ((by rw [hg]; exact Nat.ne_of_gt (blk_lt (g := gb454) (o := .cells #[.slice (some ad463) l1_0.length c1_0] 68 (0, 0)) (bk_ BK454)) : gb464 ≠ gb454)); replace BK454 := bkb_ BK454 hb; clear hb hbox hg; have hnb66 := NB464_454.out; have hnc66 := NB454_464.out; have hcz67 := blk_cell BK464.out; have hfz67 := blk_frozen BK464.out) | ((with_reducible refine gate_store (t := 71) (p := 10) rfl ?_); refine store_event (t := 71) (p := 10) (v := ?vo_w68) (w1 := (((((w65.setCell ⟨gb464, 0, none⟩ (.int .i64 ((rd_T71 l1_0 x23_1).f0))).setCell ⟨gb464, 1, none⟩ (.int .i64 ((rd_T71 l1_0 x23_1).f1.f0))).setCell ⟨gb464, 2, none⟩ (.int .i64 ((rd_T71 l1_0 x23_1).f1.f1))).setCell ⟨gb464, 3, none⟩ (.int .i64 ((rd_T71 l1_0 x23_1).f2))).setCell ⟨gb464, 4, none⟩ (.int .i64 ((rd_T71 l1_0 x23_1).f3)))) ?hg ?ho ?hn ?hr ?_; (case ho => rfl); (case hg => rfl); (case hn => rfl); (case hr => first | (go_simp; done) | (go_simp; rfl)); intro w68 hw; have n0_ : Aside0 (Kd.R k29 29 w68 w.heap.size (fun _ => True) v457 t456) := ⟨(by rw [hw]; exact (by (with_reducible repeat (first | apply Kd.R_alloc | apply Kd.R_drewN | apply Kd.R_drew)); exact Kd.R_mono (Kd.R_far (p := ⟨gb464, 4, none⟩) (Kd.R_far (p := ⟨gb464, 3, none⟩) (Kd.R_far (p := ⟨gb464, 2, none⟩) (Kd.R_far (p := ⟨gb464, 1, none⟩) (Kd.R_far (p := ⟨gb464, 0, none⟩) (Kd.R_types HO_7.out BK464.out (by decide)) (fun _ hk => hk.2) (.int .i64 ((rd_T71 l1_0 x23_1).f0))) (fun _ hk => hk.2) (.int .i64 ((rd_T71 l1_0 x23_1).f1.f0))) (fun _ hk => hk.2) (.int .i64 ((rd_T71 l1_0 x23_1).f1.f1))) (fun _ hk => hk.2) (.int .i64 ((rd_T71 l1_0 x23_1).f2))) (fun _ hk => hk.2) (.int .i64 ((rd_T71 l1_0 x23_1).f3))) (fun _ hk => trivial)))⟩; have n1_ : Aside0 (Kd.R Kd.bool 4 w68 w.heap.size (fun _ => True) v460 x8_1) := ⟨(by rw [hw]; exact (by (with_reducible repeat (first | apply Kd.R_alloc | apply Kd.R_drewN | apply Kd.R_drew)); exact Kd.R_mono (Kd.R_far (p := ⟨gb464, 4, none⟩) (Kd.R_far (p := ⟨gb464, 3, none⟩) (Kd.R_far (p := ⟨gb464, 2, none⟩) (Kd.R_far (p := ⟨gb464, 1, none⟩) (Kd.R_far (p := ⟨gb464, 0, none⟩) (Kd.R_types HO_8.out BK464.out (by decide)) (fun _ hk => hk.2) (.int .i64 ((rd_T71 l1_0 x23_1).f0))) (fun _ hk => hk.2) (.int .i64 ((rd_T71 l1_0 x23_1).f1.f0))) (fun _ hk => hk.2) (.int .i64 ((rd_T71 l1_0 x23_1).f1.f1))) (fun _ hk => hk.2) (.int .i64 ((rd_T71 l1_0 x23_1).f2))) (fun _ hk => hk.2) (.int .i64 ((rd_T71 l1_0 x23_1).f3))) (fun _ hk => trivial)))⟩; have n2_ : Aside0 (w68.heap[gb454]? = some (.cells #[.slice (some ad463) l1_0.length c1_0] 68 (0, 0))) := ⟨(by rw [hw]; exact (bk_ BK454))⟩; have n3_ : Aside0 (w68.heap[gb464]? = some (.cells #[.int .i64 ((rd_T71 l1_0 x23_1).f0), .int .i64 ((rd_T71 l1_0 x23_1).f1.f0), .int .i64 ((rd_T71 l1_0 x23_1).f1.f1), .int .i64 ((rd_T71 l1_0 x23_1).f2), .int .i64 ((rd_T71 l1_0 x23_1).f3)] 71 (0, 0))) := ⟨(by rw [hw]; exact (bk_ BK464))⟩; have n4_ : Aside0 (Below w.heap.size w w68) := ⟨(by rw [hw]; exact bl_)⟩; clear hw; clear HO_7; clear HO_8; clear BK454; clear BK464; clear HB; have HO_7 := n0_; have HO_8 := n1_; have BK454 := n2_; have BK464 := n3_; have HB := n4_; clear n0_ n1_ n2_ n3_ n4_; have hcz69 := blk_cell BK464.out; have hfz69 := blk_frozen BK464.out; obtain ⟨Ao70, co70, eo70⟩ := Kd.R_slice HO_8.out; subst eo70; have p471 : 0 ≤ (((rd_T71 l1_0 x23_1).f2) : Int) := of_decide_eq_true (by first | (with_reducible assumption) | assumption); have q471 : ((rd_T71 l1_0 x23_1).f2) < (x8_1.length : Int) := of_decide_eq_true (by first | (with_reducible assumption) | assumption); obtain ⟨ad471, e471, hx471_0⟩ := Kd.at_bool (Kd.R_reads' HO_8.out).2.2 ((rd_T71 l1_0 x23_1).f2) p471 q471; (try rw [← Nbq61.out] at hx471_0); cases e471; replace p471 := eq_true p471; replace q471 := eq_true q471; have p64 : 0 ≤ (x23_1 : Int) := of_decide_eq_true (by first | (with_reducible assumption) | assumption); have q64 : (x23_1 : Int) < ((x8_1.length : Int) : Int) := of_decide_eq_true (by first | (with_reducible assumption) | assumption); obtain ⟨go64, co64, eo64, gb64, gl64, cl64, HG64⟩ := Kd.R_form HO_8.out (by omega); (first | cases eo64 | (injection eo64 with ea_ en_ ec_; (first | subst ea_ | (injection ea_ with ea_; subst ea_)); subst ec_; clear en_)); have GB64 := Aside0.mk gb64; have GG64 := Aside0.mk HG64; clear gb64 gl64 HG64; (first | simp only [add_plain] at hx471_0 | skip); obtain ⟨hx64_0, hf64_0⟩ := Kd.R_celln false HO_8.out (x23_1 : Int) p64 q64; replace p64 := eq_true p64; replace q64 := eq_true q64; obtain ⟨hy71_, hz71_⟩ := Kd.R_celln false HO_8.out (x23_1 : Int) (of_decide_eq_true (by first | (with_reducible assumption) | assumption)) (of_decide_eq_true (by first | (with_reducible assumption) | assumption)); have HP71 := Kd.R_putg HO_8.out (x23_1 : Int) true) | ((with_reducible refine gate_store (t := 4) (p := 74) rfl ?_); refine store_event (t := 4) (p := 74) (v := ?vo_w72) (w1 := (w68.setCell ⟨go64, (x23_1 : Int).toNat, none⟩ (.bool true))) ?hg ?ho ?hn ?hr ?_; (case ho => rfl); (case hg => rfl); (case hn => rfl); (case hr => first | (go_simp; done) | (go_simp; rfl)); intro w72 hw; have hg : w68.grownBy w72 (some go64) := (by rw [hw]; exact HP71.2); have hp_ : Kd.R Kd.bool 4 w72 w.heap.size (fun _ => True) (.slice (some ⟨go64, 0, none⟩) x8_1.length co70) y472 := (by rw [hw, Ny472.out]; exact HP71.1); clear HP71; replace HO_7 := Aside0.mk (Kd.R_over' (v := (.slice (some ⟨go64, 0, none⟩) x8_1.length co70)) (by (with_reducible repeat (first | apply Kd.R_alloc | apply Kd.R_drewN | apply Kd.R_drew)); exact HO_7.out) (Kd.R_typed HO_8.out) (by decide) hg); replace BK454 := Aside0.mk (blk_grown (g := gb454) (o := .cells #[.slice (some ad463) l1_0.length c1_0] 68 (0, 0)) (bk_ BK454) hg (Kd.R_ne HO_8.out BK454.out (by decide))); replace BK464 := Aside0.mk (blk_grown (g := gb464) (o := .cells #[.int .i64 ((rd_T71 l1_0 x23_1).f0), .int .i64 ((rd_T71 l1_0 x23_1).f1.f0), .int .i64 ((rd_T71 l1_0 x23_1).f1.f1), .int .i64 ((rd_T71 l1_0 x23_1).f2), .int .i64 ((rd_T71 l1_0 x23_1).f3)] 71 (0, 0)) (bk_ BK464) hg (Kd.R_ne HO_8.out BK464.out (by decide))); replace HO_8 := Aside0.mk (hp_); replace HB := Aside0.mk ((by rw [hw]; exact below_set (HB.out) GB64.out : Below w.heap.size w w72)); clear hg hw hp_))
                go_roundg k1
                case measure => have := HK1.out; omega
                case rel => exact ⟨(y472), (wrap64 (x23_1 + 1)), (by first | rfl | (simp; done) | (simp [*]; done)), H', ⟨by have := HK1.out; omega⟩, ⟨by (with_reducible repeat (first | apply Kd.R_alloc | apply Kd.R_drewN | apply Kd.R_drew)); exact HO_7.out⟩, ⟨by (with_reducible repeat (first | apply Kd.R_alloc | apply Kd.R_drewN | apply Kd.R_drew)); exact HO_8.out⟩, ⟨bk_ BK454⟩, ⟨bl_⟩⟩
               ·rw [if_neg c63] at H
                exact absurd H (by simp)
              ·replace c62 := Bool.eq_false_iff.mpr c62
               subst c62
               replace H := ite_f_ H
               by_cases c73 : 0 ≤ ((rd_T71 l1_0 x23_1).f3)
               ·rw [if_pos c73] at H
                have c73b0 : decide (0 ≤ ((rd_T71 l1_0 x23_1).f3)) = true := decide_eq_true c73
                clear c73
                by_cases c74 : ((rd_T71 l1_0 x23_1).f3) < (x8_1.length : Int)
                ·rw [if_pos c74] at H
                 have c74b0 : decide (((rd_T71 l1_0 x23_1).f3) < (x8_1.length : Int)) = true := decide_eq_true c74
                 clear c74
                 by_cases c75 : x23_1 < (x8_1.length : Int)
                 ·rw [if_pos c75] at H
                  have c75b0 : decide (x23_1 < (x8_1.length : Int)) = true := decide_eq_true c75
                  clear c75
                  obtain ⟨y474, hy474⟩ : ∃ y_ : List Bool, y_ = (x8_1.set (x23_1 : Int).toNat (rdOf false x8_1 ((rd_T71 l1_0 x23_1).f3))) := ⟨_, rfl⟩
                  replace H : (impl_Decides.l0 k1 a2 t456 y474 l1_0 (l1_0.length : Int) (wrap64 (x23_1 + 1))) = some r := by first | (rw [hy474]; with_reducible exact H) | (have H2_ := (Option.bind_some _ _).symm.trans H; rw [hy474]; with_reducible exact H2_) | (have H2_ := (Option.bind_some _ _).symm.trans H; with_reducible exact H2_) | with_reducible exact H | (rw [hy474]; exact H) | exact H
                  have Ny474 := Aside0.mk hy474
                  clear hy474
                  have H' := Aside0.mk H
                  clear H
                  have p463 : 0 ≤ (x23_1 : Int) := of_decide_eq_true (by first | (with_reducible assumption) | assumption)
                  have q463 : x23_1 < (l1_0.length : Int) := of_decide_eq_true (by first | (with_reducible assumption) | assumption)
                  obtain ⟨ad463, e463, hx463_0, hx463_1, hx463_2, hx463_3, hx463_4⟩ := at_T71 (Kd.C_below HR1_0.out HB.out) x23_1 p463 q463
                  cases e463
                  replace p463 := eq_true p463
                  replace q463 := eq_true q463
                  go_wp2_with (first | ((with_reducible refine gate_dst (N := 10) rfl ?_); refine box_event ?hg (N := 10) ?hd (cs := #[.int .i64 0, .int .i64 0, .int .i64 0, .int .i64 0, .int .i64 0]) (t := 71) ?hr ?_; (case hd => rfl); (case hg => rfl); (case hr => first | (go_simp; done) | (go_simp; rfl)); intro gb464 hg w77 hbox hb; replace HO_7 := Aside0.mk (Kd.R_below (by (with_reducible repeat (first | apply Kd.R_alloc | apply Kd.R_drewN | apply Kd.R_drew)); exact HO_7.out) hb); replace HO_8 := Aside0.mk (Kd.R_below (by (with_reducible repeat (first | apply Kd.R_alloc | apply Kd.R_drewN | apply Kd.R_drew)); exact HO_8.out) hb); have BK464 := Aside0.mk (hbox); have GW464 := gs_ hg; have GE464 := gs_ hg; replace HB := hbs_ hb; have NB454_464 := Aside0.mk ((by rw [hg]; exact Nat.ne_of_lt (blk_lt (g := gb454) (o := .cells #[.slice (some ad463) l1_0.length c1_0] 68 (0, 0)) (bk_ BK454)) : gb454 ≠ gb464)); have NB464_454 := Aside0.mk ((by rw [hg]; exact Nat.ne_of_gt (blk_lt (g := gb454) (o := .cells #[.slice (some ad463) l1_0.length c1_0] 68 (0, 0)) (bk_ BK454)) : gb464 ≠ gb454)); replace BK454 := bkb_ BK454 hb; clear hb hbox hg; have hnb78 := NB464_454.out; have hnc78 := NB454_464.out; have hcz79 := blk_cell BK464.out; have hfz79 := blk_frozen BK464.out) | ((with_reducible refine gate_store (t := 71) (p := 10) rfl ?_); refine store_event (t := 71) (p := 10) (v := ?vo_w80) (w1 := (((((w77.setCell ⟨gb464, 0, none⟩ (.int .i64 ((rd_T71 l1_0 x23_1).f0))).setCell ⟨gb464, 1, none⟩ (.int .i64 ((rd_T71 l1_0 x23_1).f1.f0))).setCell ⟨gb464, 2, none⟩ (.int .i64 ((rd_T71 l1_0 x23_1).f1.f1))).setCell ⟨gb464, 3, none⟩ (.int .i64 ((rd_T71 l1_0 x23_1).f2))).setCell ⟨gb464, 4, none⟩ (.int .i64 ((rd_T71 l1_0 x23_1).f3)))) ?hg ?ho ?hn ?hr ?_; (case ho => rfl); (case hg => rfl); (case hn => rfl); (case hr => first | (go_simp; done) | (go_simp; rfl)); intro w80 hw; have n0_ : Aside0 (Kd.R k29 29 w80 w.heap.size (fun _ => True) v457 t456) := ⟨(by rw [hw]; exact (by (with_reducible repeat (first | apply Kd.R_alloc | apply Kd.R_drewN | apply Kd.R_drew)); exact Kd.R_mono (Kd.R_far (p := ⟨gb464, 4, none⟩) (Kd.R_far (p := ⟨gb464, 3, none⟩) (Kd.R_far (p := ⟨gb464, 2, none⟩) (Kd.R_far (p := ⟨gb464, 1, none⟩) (Kd.R_far (p := ⟨gb464, 0, none⟩) (Kd.R_types HO_7.out BK464.out (by decide)) (fun _ hk => hk.2) (.int .i64 ((rd_T71 l1_0 x23_1).f0))) (fun _ hk => hk.2) (.int .i64 ((rd_T71 l1_0 x23_1).f1.f0))) (fun _ hk => hk.2) (.int .i64 ((rd_T71 l1_0 x23_1).f1.f1))) (fun _ hk => hk.2) (.int .i64 ((rd_T71 l1_0 x23_1).f2))) (fun _ hk => hk.2) (.int .i64 ((rd_T71 l1_0 x23_1).f3))) (fun _ hk => trivial)))⟩; have n1_ : Aside0 (Kd.R Kd.bool 4 w80 w.heap.size (fun _ => True) v460 x8_1) := ⟨(by rw [hw]; exact (by (with_reducible repeat (first | apply Kd.R_alloc | apply Kd.R_drewN | apply Kd.R_drew)); exact Kd.R_mono (Kd.R_far (p := ⟨gb464, 4, none⟩) (Kd.R_far (p := ⟨gb464, 3, none⟩) (Kd.R_far (p := ⟨gb464, 2, none⟩) (Kd.R_far (p := ⟨gb464, 1, none⟩) (Kd.R_far (p := ⟨gb464, 0, none⟩) (Kd.R_types HO_8.out BK464.out (by decide)) (fun _ hk => hk.2) (.int .i64 ((rd_T71 l1_0 x23_1).f0))) (fun _ hk => hk.2) (.int .i64 ((rd_T71 l1_0 x23_1).f1.f0))) (fun _ hk => hk.2) (.int .i64 ((rd_T71 l1_0 x23_1).f1.f1))) (fun _ hk => hk.2) (.int .i64 ((rd_T71 l1_0 x23_1).f2))) (fun _ hk => hk.2) (.int .i64 ((rd_T71 l1_0 x23_1).f3))) (fun _ hk => trivial)))⟩; have n2_ : Aside0 (w80.heap[gb454]? = some (.cells #[.slice (some ad463) l1_0.length c1_0] 68 (0, 0))) := ⟨(by rw [hw]; exact (bk_ BK454))⟩; have n3_ : Aside0 (w80.heap[gb464]? = some (.cells #[.int .i64 ((rd_T71 l1_0 x23_1).f0), .int .i64 ((rd_T71 l1_0 x23_1).f1.f0), .int .i64 ((rd_T71 l1_0 x23_1).f1.f1), .int .i64 ((rd_T71 l1_0 x23_1).f2), .int .i64 ((rd_T71 l1_0 x23_1).f3)] 71 (0, 0))) := ⟨(by rw [hw]; exact (bk_ BK464))⟩; have n4_ : Aside0 (Below w.heap.size w w80) := ⟨(by rw [hw]; exact bl_)⟩; clear hw; clear HO_7; clear HO_8; clear BK454; clear BK464; clear HB; have HO_7 := n0_; have HO_8 := n1_; have BK454 := n2_; have BK464 := n3_; have HB := n4_; clear n0_ n1_ n2_ n3_ n4_; have hcz81 := blk_cell BK464.out; have hfz81 := blk_frozen BK464.out; obtain ⟨Ao82, co82, eo82⟩ := Kd.R_slice HO_8.out; subst eo82; have p471 : 0 ≤ (((rd_T71 l1_0 x23_1).f2) : Int) := of_decide_eq_true (by first | (with_reducible assumption) | assumption); have q471 : ((rd_T71 l1_0 x23_1).f2) < (x8_1.length : Int) := of_decide_eq_true (by first | (with_reducible assumption) | assumption); obtain ⟨ad471, e471, hx471_0⟩ := Kd.at_bool (Kd.R_reads' HO_8.out).2.2 ((rd_T71 l1_0 x23_1).f2) p471 q471; (try rw [← Nbq61.out] at hx471_0); cases e471; replace p471 := eq_true p471; replace q471 := eq_true q471; have p473 : 0 ≤ (((rd_T71 l1_0 x23_1).f3) : Int) := of_decide_eq_true (by first | (with_reducible assumption) | assumption); have q473 : ((rd_T71 l1_0 x23_1).f3) < (x8_1.length : Int) := of_decide_eq_true (by first | (with_reducible assumption) | assumption); obtain ⟨ad473, e473, hx473_0⟩ := Kd.at_bool (Kd.R_reads' HO_8.out).2.2 ((rd_T71 l1_0 x23_1).f3) p473 q473; (try rw [← Nbq61.out] at hx473_0); obtain rfl : ad471 = ad473 := (by injection e473); replace p473 := eq_true p473; replace q473 := eq_true q473; have p76 : 0 ≤ (x23_1 : Int) := of_decide_eq_true (by first | (with_reducible assumption) | assumption); have q76 : (x23_1 : Int) < ((x8_1.length : Int) : Int) := of_decide_eq_true (by first | (with_reducible assumption) | assumption); obtain ⟨go76, co76, eo76, gb76, gl76, cl76, HG76⟩ := Kd.R_form HO_8.out (by omega); (first | cases eo76 | (injection eo76 with ea_ en_ ec_; (first | subst ea_ | (injection ea_ with ea_; subst ea_)); subst ec_; clear en_)); have GB76 := Aside0.mk gb76; have GG76 := Aside0.mk HG76; clear gb76 gl76 HG76; (first | simp only [add_plain] at hx471_0 | skip); (first | simp only [add_plain] at hx473_0 | skip); obtain ⟨hx76_0, hf76_0⟩ := Kd.R_celln false HO_8.out (x23_1 : Int) p76 q76; replace p76 := eq_true p76; replace q76 := eq_true q76; obtain ⟨hy83_, hz83_⟩ := Kd.R_celln false HO_8.out (x23_1 : Int) (of_decide_eq_true (by first | (with_reducible assumption) | assumption)) (of_decide_eq_true (by first | (with_reducible assumption) | assumption)); have HP83 := Kd.R_putg HO_8.out (x23_1 : Int) (rdOf false x8_1 ((rd_T71 l1_0 x23_1).f3))) | ((with_reducible refine gate_store (t := 4) (p := 74) rfl ?_); refine store_event (t := 4) (p := 74) (v := ?vo_w84) (w1 := (w80.setCell ⟨go76, (x23_1 : Int).toNat, none⟩ (.bool (rdOf false x8_1 ((rd_T71 l1_0 x23_1).f3))))) ?hg ?ho ?hn ?hr ?_; (case ho => rfl); (case hg => rfl); (case hn => rfl); (case hr => first | (go_simp; done) | (go_simp; rfl)); intro w84 hw; have hg : w80.grownBy w84 (some go76) := (by rw [hw]; exact HP83.2); have hp_ : Kd.R Kd.bool 4 w84 w.heap.size (fun _ => True) (.slice (some ⟨go76, 0, none⟩) x8_1.length co82) y474 := (by rw [hw, Ny474.out]; exact HP83.1); clear HP83; replace HO_7 := Aside0.mk (Kd.R_over' (v := (.slice (some ⟨go76, 0, none⟩) x8_1.length co82)) (by (with_reducible repeat (first | apply Kd.R_alloc | apply Kd.R_drewN | apply Kd.R_drew)); exact HO_7.out) (Kd.R_typed HO_8.out) (by decide) hg); replace BK454 := Aside0.mk (blk_grown (g := gb454) (o := .cells #[.slice (some ad463) l1_0.length c1_0] 68 (0, 0)) (bk_ BK454) hg (Kd.R_ne HO_8.out BK454.out (by decide))); replace BK464 := Aside0.mk (blk_grown (g := gb464) (o := .cells #[.int .i64 ((rd_T71 l1_0 x23_1).f0), .int .i64 ((rd_T71 l1_0 x23_1).f1.f0), .int .i64 ((rd_T71 l1_0 x23_1).f1.f1), .int .i64 ((rd_T71 l1_0 x23_1).f2), .int .i64 ((rd_T71 l1_0 x23_1).f3)] 71 (0, 0)) (bk_ BK464) hg (Kd.R_ne HO_8.out BK464.out (by decide))); replace HO_8 := Aside0.mk (hp_); replace HB := Aside0.mk ((by rw [hw]; exact below_set (HB.out) GB76.out : Below w.heap.size w w84)); clear hg hw hp_))
                  go_roundg k1
                  case measure => have := HK1.out; omega
                  case rel => exact ⟨(y474), (wrap64 (x23_1 + 1)), (by first | rfl | (simp; done) | (simp [*]; done)), H', ⟨by have := HK1.out; omega⟩, ⟨by (with_reducible repeat (first | apply Kd.R_alloc | apply Kd.R_drewN | apply Kd.R_drew)); exact HO_7.out⟩, ⟨by (with_reducible repeat (first | apply Kd.R_alloc | apply Kd.R_drewN | apply Kd.R_drew)); exact HO_8.out⟩, ⟨bk_ BK454⟩, ⟨bl_⟩⟩
                 ·rw [if_neg c75] at H
                  exact absurd H (by simp)
                ·rw [if_neg c74] at H
                 exact absurd H (by simp)
               ·rw [if_neg c73] at H
                exact absurd H (by simp)
             ·rw [if_neg c60] at H
              exact absurd H (by simp)
            ·rw [if_neg c59] at H
             exact absurd H (by simp)
           ·rw [if_neg c58] at H
            have c58b0 : (((rd_T71 l1_0 x23_1).f0) == 3) = false := beq_eq_false_iff_ne.mpr c58
            have c58b1 : (((rd_T71 l1_0 x23_1).f0) != 3) = true := bne_iff_ne.mpr c58
            by_cases c85 : ((rd_T71 l1_0 x23_1).f0) = 4
            ·rw [if_pos c85] at H
             have c85b0 : (((rd_T71 l1_0 x23_1).f0) == 4) = true := beq_iff_eq.mpr c85
             have c85b1 : (((rd_T71 l1_0 x23_1).f0) != 4) = false := bne_eq_false_iff_eq.mpr c85
             clear c85
             by_cases c86 : 0 ≤ ((rd_T71 l1_0 x23_1).f2)
             ·rw [if_pos c86] at H
              have c86b0 : decide (0 ≤ ((rd_T71 l1_0 x23_1).f2)) = true := decide_eq_true c86
              clear c86
              by_cases c87 : ((rd_T71 l1_0 x23_1).f2) < (x8_1.length : Int)
              ·rw [if_pos c87] at H
               have c87b0 : decide (((rd_T71 l1_0 x23_1).f2) < (x8_1.length : Int)) = true := decide_eq_true c87
               clear c87
               by_cases c88 : x23_1 < (x8_1.length : Int)
               ·rw [if_pos c88] at H
                have c88b0 : decide (x23_1 < (x8_1.length : Int)) = true := decide_eq_true c88
                clear c88
                obtain ⟨y476, hy476⟩ : ∃ y_ : List Bool, y_ = (x8_1.set (x23_1 : Int).toNat (!(rdOf false x8_1 ((rd_T71 l1_0 x23_1).f2)))) := ⟨_, rfl⟩
                replace H : (impl_Decides.l0 k1 a2 t456 y476 l1_0 (l1_0.length : Int) (wrap64 (x23_1 + 1))) = some r := by first | (rw [hy476]; with_reducible exact H) | (have H2_ := (Option.bind_some _ _).symm.trans H; rw [hy476]; with_reducible exact H2_) | (have H2_ := (Option.bind_some _ _).symm.trans H; with_reducible exact H2_) | with_reducible exact H | (rw [hy476]; exact H) | exact H
                have Ny476 := Aside0.mk hy476
                clear hy476
                have H' := Aside0.mk H
                clear H
                have p463 : 0 ≤ (x23_1 : Int) := of_decide_eq_true (by first | (with_reducible assumption) | assumption)
                have q463 : x23_1 < (l1_0.length : Int) := of_decide_eq_true (by first | (with_reducible assumption) | assumption)
                obtain ⟨ad463, e463, hx463_0, hx463_1, hx463_2, hx463_3, hx463_4⟩ := at_T71 (Kd.C_below HR1_0.out HB.out) x23_1 p463 q463
                cases e463
                replace p463 := eq_true p463
                replace q463 := eq_true q463
                go_wp2_with (first | ((with_reducible refine gate_dst (N := 10) rfl ?_); refine box_event ?hg (N := 10) ?hd (cs := #[.int .i64 0, .int .i64 0, .int .i64 0, .int .i64 0, .int .i64 0]) (t := 71) ?hr ?_; (case hd => rfl); (case hg => rfl); (case hr => first | (go_simp; done) | (go_simp; rfl)); intro gb464 hg w90 hbox hb; replace HO_7 := Aside0.mk (Kd.R_below (by (with_reducible repeat (first | apply Kd.R_alloc | apply Kd.R_drewN | apply Kd.R_drew)); exact HO_7.out) hb); replace HO_8 := Aside0.mk (Kd.R_below (by (with_reducible repeat (first | apply Kd.R_alloc | apply Kd.R_drewN | apply Kd.R_drew)); exact HO_8.out) hb); have BK464 := Aside0.mk (hbox); have GW464 := gs_ hg; have GE464 := gs_ hg; replace HB := hbs_ hb; have NB454_464 := Aside0.mk ((by rw [hg]; exact Nat.ne_of_lt (blk_lt (g := gb454) (o := .cells #[.slice (some ad463) l1_0.length c1_0] 68 (0, 0)) (bk_ BK454)) : gb454 ≠ gb464)); have NB464_454 := Aside0.mk ((by rw [hg]; exact Nat.ne_of_gt (blk_lt (g := gb454) (o := .cells #[.slice (some ad463) l1_0.length c1_0] 68 (0, 0)) (bk_ BK454)) : gb464 ≠ gb454)); replace BK454 := bkb_ BK454 hb; clear hb hbox hg; have hnb91 := NB464_454.out; have hnc91 := NB454_464.out; have hcz92 := blk_cell BK464.out; have hfz92 := blk_frozen BK464.out) | ((with_reducible refine gate_store (t := 71) (p := 10) rfl ?_); refine store_event (t := 71) (p := 10) (v := ?vo_w93) (w1 := (((((w90.setCell ⟨gb464, 0, none⟩ (.int .i64 ((rd_T71 l1_0 x23_1).f0))).setCell ⟨gb464, 1, none⟩ (.int .i64 ((rd_T71 l1_0 x23_1).f1.f0))).setCell ⟨gb464, 2, none⟩ (.int .i64 ((rd_T71 l1_0 x23_1).f1.f1))).setCell ⟨gb464, 3, none⟩ (.int .i64 ((rd_T71 l1_0 x23_1).f2))).setCell ⟨gb464, 4, none⟩ (.int .i64 ((rd_T71 l1_0 x23_1).f3)))) ?hg ?ho ?hn ?hr ?_; (case ho => rfl); (case hg => rfl); (case hn => rfl); (case hr => first | (go_simp; done) | (go_simp; rfl)); intro w93 hw; have n0_ : Aside0 (Kd.R k29 29 w93 w.heap.size (fun _ => True) v457 t456) := ⟨(by rw [hw]; exact (by (with_reducible repeat (first | apply Kd.R_alloc | apply Kd.R_drewN | apply Kd.R_drew)); exact Kd.R_mono (Kd.R_far (p := ⟨gb464, 4, none⟩) (Kd.R_far (p := ⟨gb464, 3, none⟩) (Kd.R_far (p := ⟨gb464, 2, none⟩) (Kd.R_far (p := ⟨gb464, 1, none⟩) (Kd.R_far (p := ⟨gb464, 0, none⟩) (Kd.R_types HO_7.out BK464.out (by decide)) (fun _ hk => hk.2) (.int .i64 ((rd_T71 l1_0 x23_1).f0))) (fun _ hk => hk.2) (.int .i64 ((rd_T71 l1_0 x23_1).f1.f0))) (fun _ hk => hk.2) (.int .i64 ((rd_T71 l1_0 x23_1).f1.f1))) (fun _ hk => hk.2) (.int .i64 ((rd_T71 l1_0 x23_1).f2))) (fun _ hk => hk.2) (.int .i64 ((rd_T71 l1_0 x23_1).f3))) (fun _ hk => trivial)))⟩; have n1_ : Aside0 (Kd.R Kd.bool 4 w93 w.heap.size (fun _ => True) v460 x8_1) := ⟨(by rw [hw]; exact (by (with_reducible repeat (first | apply Kd.R_alloc | apply Kd.R_drewN | apply Kd.R_drew)); exact Kd.R_mono (Kd.R_far (p := ⟨gb464, 4, none⟩) (Kd.R_far (p := ⟨gb464, 3, none⟩) (Kd.R_far (p := ⟨gb464, 2, none⟩) (Kd.R_far (p := ⟨gb464, 1, none⟩) (Kd.R_far (p := ⟨gb464, 0, none⟩) (Kd.R_types HO_8.out BK464.out (by decide)) (fun _ hk => hk.2) (.int .i64 ((rd_T71 l1_0 x23_1).f0))) (fun _ hk => hk.2) (.int .i64 ((rd_T71 l1_0 x23_1).f1.f0))) (fun _ hk => hk.2) (.int .i64 ((rd_T71 l1_0 x23_1).f1.f1))) (fun _ hk => hk.2) (.int .i64 ((rd_T71 l1_0 x23_1).f2))) (fun _ hk => hk.2) (.int .i64 ((rd_T71 l1_0 x23_1).f3))) (fun _ hk => trivial)))⟩; have n2_ : Aside0 (w93.heap[gb454]? = some (.cells #[.slice (some ad463) l1_0.length c1_0] 68 (0, 0))) := ⟨(by rw [hw]; exact (bk_ BK454))⟩; have n3_ : Aside0 (w93.heap[gb464]? = some (.cells #[.int .i64 ((rd_T71 l1_0 x23_1).f0), .int .i64 ((rd_T71 l1_0 x23_1).f1.f0), .int .i64 ((rd_T71 l1_0 x23_1).f1.f1), .int .i64 ((rd_T71 l1_0 x23_1).f2), .int .i64 ((rd_T71 l1_0 x23_1).f3)] 71 (0, 0))) := ⟨(by rw [hw]; exact (bk_ BK464))⟩; have n4_ : Aside0 (Below w.heap.size w w93) := ⟨(by rw [hw]; exact bl_)⟩; clear hw; clear HO_7; clear HO_8; clear BK454; clear BK464; clear HB; have HO_7 := n0_; have HO_8 := n1_; have BK454 := n2_; have BK464 := n3_; have HB := n4_; clear n0_ n1_ n2_ n3_ n4_; have hcz94 := blk_cell BK464.out; have hfz94 := blk_frozen BK464.out; obtain ⟨Ao95, co95, eo95⟩ := Kd.R_slice HO_8.out; subst eo95; have p475 : 0 ≤ (((rd_T71 l1_0 x23_1).f2) : Int) := of_decide_eq_true (by first | (with_reducible assumption) | assumption); have q475 : ((rd_T71 l1_0 x23_1).f2) < (x8_1.length : Int) := of_decide_eq_true (by first | (with_reducible assumption) | assumption); obtain ⟨ad475, e475, hx475_0⟩ := Kd.at_bool (Kd.R_reads' HO_8.out).2.2 ((rd_T71 l1_0 x23_1).f2) p475 q475; cases e475; replace p475 := eq_true p475; replace q475 := eq_true q475; have p89 : 0 ≤ (x23_1 : Int) := of_decide_eq_true (by first | (with_reducible assumption) | assumption); have q89 : (x23_1 : Int) < ((x8_1.length : Int) : Int) := of_decide_eq_true (by first | (with_reducible assumption) | assumption); obtain ⟨go89, co89, eo89, gb89, gl89, cl89, HG89⟩ := Kd.R_form HO_8.out (by omega); (first | cases eo89 | (injection eo89 with ea_ en_ ec_; (first | subst ea_ | (injection ea_ with ea_; subst ea_)); subst ec_; clear en_)); have GB89 := Aside0.mk gb89; have GG89 := Aside0.mk HG89; clear gb89 gl89 HG89; (first | simp only [add_plain] at hx475_0 | skip); obtain ⟨hx89_0, hf89_0⟩ := Kd.R_celln false HO_8.out (x23_1 : Int) p89 q89; replace p89 := eq_true p89; replace q89 := eq_true q89; obtain ⟨hy96_, hz96_⟩ := Kd.R_celln false HO_8.out (x23_1 : Int) (of_decide_eq_true (by first | (with_reducible assumption) | assumption)) (of_decide_eq_true (by first | (with_reducible assumption) | assumption)); have HP96 := Kd.R_putg HO_8.out (x23_1 : Int) (!(rdOf false x8_1 ((rd_T71 l1_0 x23_1).f2)))) | ((with_reducible refine gate_store (t := 4) (p := 85) rfl ?_); refine store_event (t := 4) (p := 85) (v := ?vo_w97) (w1 := (w93.setCell ⟨go89, (x23_1 : Int).toNat, none⟩ (.bool (!(rdOf false x8_1 ((rd_T71 l1_0 x23_1).f2)))))) ?hg ?ho ?hn ?hr ?_; (case ho => rfl); (case hg => rfl); (case hn => rfl); (case hr => first | (go_simp; done) | (go_simp; rfl)); intro w97 hw; have hg : w93.grownBy w97 (some go89) := (by rw [hw]; exact HP96.2); have hp_ : Kd.R Kd.bool 4 w97 w.heap.size (fun _ => True) (.slice (some ⟨go89, 0, none⟩) x8_1.length co95) y476 := (by rw [hw, Ny476.out]; exact HP96.1); clear HP96; replace HO_7 := Aside0.mk (Kd.R_over' (v := (.slice (some ⟨go89, 0, none⟩) x8_1.length co95)) (by (with_reducible repeat (first | apply Kd.R_alloc | apply Kd.R_drewN | apply Kd.R_drew)); exact HO_7.out) (Kd.R_typed HO_8.out) (by decide) hg); replace BK454 := Aside0.mk (blk_grown (g := gb454) (o := .cells #[.slice (some ad463) l1_0.length c1_0] 68 (0, 0)) (bk_ BK454) hg (Kd.R_ne HO_8.out BK454.out (by decide))); replace BK464 := Aside0.mk (blk_grown (g := gb464) (o := .cells #[.int .i64 ((rd_T71 l1_0 x23_1).f0), .int .i64 ((rd_T71 l1_0 x23_1).f1.f0), .int .i64 ((rd_T71 l1_0 x23_1).f1.f1), .int .i64 ((rd_T71 l1_0 x23_1).f2), .int .i64 ((rd_T71 l1_0 x23_1).f3)] 71 (0, 0)) (bk_ BK464) hg (Kd.R_ne HO_8.out BK464.out (by decide))); replace HO_8 := Aside0.mk (hp_); replace HB := Aside0.mk ((by rw [hw]; exact below_set (HB.out) GB89.out : Below w.heap.size w w97)); clear hg hw hp_))
                go_roundg k1
                case measure => have := HK1.out; omega
                case rel => exact ⟨(y476), (wrap64 (x23_1 + 1)), (by first | rfl | (simp; done) | (simp [*]; done)), H', ⟨by have := HK1.out; omega⟩, ⟨by (with_reducible repeat (first | apply Kd.R_alloc | apply Kd.R_drewN | apply Kd.R_drew)); exact HO_7.out⟩, ⟨by (with_reducible repeat (first | apply Kd.R_alloc | apply Kd.R_drewN | apply Kd.R_drew)); exact HO_8.out⟩, ⟨bk_ BK454⟩, ⟨bl_⟩⟩
               ·rw [if_neg c88] at H
                exact absurd H (by simp)
              ·rw [if_neg c87] at H
               exact absurd H (by simp)
             ·rw [if_neg c86] at H
              exact absurd H (by simp)
            ·rw [if_neg c85] at H
             have c85b0 : (((rd_T71 l1_0 x23_1).f0) == 4) = false := beq_eq_false_iff_ne.mpr c85
             have c85b1 : (((rd_T71 l1_0 x23_1).f0) != 4) = true := bne_iff_ne.mpr c85
             have H' := Aside0.mk H
             clear H
             have p463 : 0 ≤ (x23_1 : Int) := of_decide_eq_true (by first | (with_reducible assumption) | assumption)
             have q463 : x23_1 < (l1_0.length : Int) := of_decide_eq_true (by first | (with_reducible assumption) | assumption)
             obtain ⟨ad463, e463, hx463_0, hx463_1, hx463_2, hx463_3, hx463_4⟩ := at_T71 (Kd.C_below HR1_0.out HB.out) x23_1 p463 q463
             cases e463
             replace p463 := eq_true p463
             replace q463 := eq_true q463
             go_wp2_with (first | ((with_reducible refine gate_dst (N := 10) rfl ?_); refine box_event ?hg (N := 10) ?hd (cs := #[.int .i64 0, .int .i64 0, .int .i64 0, .int .i64 0, .int .i64 0]) (t := 71) ?hr ?_; (case hd => rfl); (case hg => rfl); (case hr => first | (go_simp; done) | (go_simp; rfl)); intro gb464 hg w98 hbox hb; replace HO_7 := Aside0.mk (Kd.R_below (by (with_reducible repeat (first | apply Kd.R_alloc | apply Kd.R_drewN | apply Kd.R_drew)); exact HO_7.out) hb); replace HO_8 := Aside0.mk (Kd.R_below (by (with_reducible repeat (first | apply Kd.R_alloc | apply Kd.R_drewN | apply Kd.R_drew)); exact HO_8.out) hb); have BK464 := Aside0.mk (hbox); have GW464 := gs_ hg; have GE464 := gs_ hg; replace HB := hbs_ hb; have NB454_464 := Aside0.mk ((by rw [hg]; exact Nat.ne_of_lt (blk_lt (g := gb454) (o := .cells #[.slice (some ad463) l1_0.length c1_0] 68 (0, 0)) (bk_ BK454)) : gb454 ≠ gb464)); have NB464_454 := Aside0.mk ((by rw [hg]; exact Nat.ne_of_gt (blk_lt (g := gb454) (o := .cells #[.slice (some ad463) l1_0.length c1_0] 68 (0, 0)) (bk_ BK454)) : gb464 ≠ gb454)); replace BK454 := bkb_ BK454 hb; clear hb hbox hg; have hnb99 := NB464_454.out; have hnc99 := NB454_464.out; have hcz100 := blk_cell BK464.out; have hfz100 := blk_frozen BK464.out))
             go_roundg k1
             case measure => have := HK1.out; omega
             case rel => exact ⟨(x8_1), (wrap64 (x23_1 + 1)), (by first | rfl | (simp; done) | (simp [*]; done)), H', ⟨by have := HK1.out; omega⟩, ⟨by (with_reducible repeat (first | apply Kd.R_alloc | apply Kd.R_drewN | apply Kd.R_drew)); exact Kd.R_mono (Kd.R_far (p := ⟨gb464, 4, none⟩) (Kd.R_far (p := ⟨gb464, 3, none⟩) (Kd.R_far (p := ⟨gb464, 2, none⟩) (Kd.R_far (p := ⟨gb464, 1, none⟩) (Kd.R_far (p := ⟨gb464, 0, none⟩) (Kd.R_types HO_7.out BK464.out (by decide)) (fun _ hk => hk.2) (.int .i64 ((rd_T71 l1_0 x23_1).f0))) (fun _ hk => hk.2) (.int .i64 ((rd_T71 l1_0 x23_1).f1.f0))) (fun _ hk => hk.2) (.int .i64 ((rd_T71 l1_0 x23_1).f1.f1))) (fun _ hk => hk.2) (.int .i64 ((rd_T71 l1_0 x23_1).f2))) (fun _ hk => hk.2) (.int .i64 ((rd_T71 l1_0 x23_1).f3))) (fun _ hk => trivial)⟩, ⟨by (with_reducible repeat (first | apply Kd.R_alloc | apply Kd.R_drewN | apply Kd.R_drew)); exact Kd.R_mono (Kd.R_far (p := ⟨gb464, 4, none⟩) (Kd.R_far (p := ⟨gb464, 3, none⟩) (Kd.R_far (p := ⟨gb464, 2, none⟩) (Kd.R_far (p := ⟨gb464, 1, none⟩) (Kd.R_far (p := ⟨gb464, 0, none⟩) (Kd.R_types HO_8.out BK464.out (by decide)) (fun _ hk => hk.2) (.int .i64 ((rd_T71 l1_0 x23_1).f0))) (fun _ hk => hk.2) (.int .i64 ((rd_T71 l1_0 x23_1).f1.f0))) (fun _ hk => hk.2) (.int .i64 ((rd_T71 l1_0 x23_1).f1.f1))) (fun _ hk => hk.2) (.int .i64 ((rd_T71 l1_0 x23_1).f2))) (fun _ hk => hk.2) (.int .i64 ((rd_T71 l1_0 x23_1).f3))) (fun _ hk => trivial)⟩, ⟨bk_ BK454⟩, ⟨bl_⟩⟩
        ·rw [if_neg c19] at H
         exact absurd H (by simp)
       ·rw [if_neg c18] at H
        exact absurd H (by simp)
      ·rw [if_neg c17] at H
       have c17b0 : decide (x23_1 < (l1_0.length : Int)) = false := decide_eq_false c17
       clear c17
       obtain ⟨ji101, hji101⟩ : ∃ j_ : Int, (wrap64 ((x8_1.length : Int) - 1)) = j_ := ⟨_, rfl⟩
       replace H : (if 0 ≤ (ji101) then (if (ji101) < (x8_1.length : Int) then (some (rdOf false x8_1 (ji101))) else (none)) else (none)) = some r := by first | (rw [hji101] at H; exact H) | (simp only [hji101] at H ⊢; exact H)
       have hji101w : (IntKind.i64.wrap ((x8_1.length : Int) - 1)) = ji101 := (i64_w _).trans hji101
       by_cases c102 : 0 ≤ (ji101)
       ·rw [if_pos c102] at H
        have c102b0 : decide (0 ≤ (ji101)) = true := decide_eq_true c102
        clear c102
        by_cases c103 : (ji101) < (x8_1.length : Int)
        ·rw [if_pos c103] at H
         have c103b0 : decide ((ji101) < (x8_1.length : Int)) = true := decide_eq_true c103
         clear c103
         obtain rfl := Option.some.inj H
         obtain ⟨Ao104, co104, eo104⟩ := Kd.R_slice HO_8.out
         subst eo104
         have p462 : 0 ≤ ((ji101) : Int) := of_decide_eq_true (by first | (with_reducible assumption) | assumption)
         have q462 : (ji101) < (x8_1.length : Int) := of_decide_eq_true (by first | (with_reducible assumption) | assumption)
         obtain ⟨ad462, e462, hx462_0⟩ := Kd.at_bool (Kd.R_reads' HO_8.out).2.2 (ji101) p462 q462
         cases e462
         replace p462 := eq_true p462
         replace q462 := eq_true q462
         go_wp2
         go_ret
         exact ⟨by first | rfl | (simp [errW_none, errW_some] <;> rfl) | (simp only [← hji101]; first | rfl | (simp [errW_none, errW_some] <;> rfl)) | (simp [*, errW_none, errW_some] <;> rfl), bl_⟩
        ·rw [if_neg c103] at H
         exact absurd H (by simp)
       ·rw [if_neg c102] at H
        exact absurd H (by simp)
   ·rw [if_neg c8] at H
    exact absurd H (by simp)
  ·rw [if_neg c7] at H
   exact absurd H (by simp)
 ·replace c5 := Bool.eq_false_iff.mpr c5
  subst c5
  replace H := ite_f_ H
  obtain rfl := Option.some.inj H
  go_enter Try.func47, Try.ntmps47
  go_wp2_with (first | ((with_reducible refine gate_dst (N := 4) rfl ?_); refine box_event ?hg (N := 4) ?hd (cs := #[.slice A1_0 l1_0.length c1_0]) (t := 68) ?hr ?_; (case hd => rfl); (case hg => rfl); (case hr => first | (go_simp; done) | (go_simp; rfl)); intro gb454 hg w105 hbox hb; have BK454 := Aside0.mk (hbox); have GW454 := gs_ hg; have GE454 := gs_ hg; replace HB := hbs_ hb; clear hb hbox hg; have hcz106 := blk_cell BK454.out; have hfz106 := blk_frozen BK454.out) | ((with_reducible refine gate_callee (f := 49) rfl ?_); refine goesC_ (some 12) Try.func49 #[.agg #[.slice A1_0 l1_0.length c1_0]] ?_; (with_reducible refine (impl_PolicyOk.calls k _ _ l1_0 false _ ?side1 ?side2 A4.out).mono ?_); (case side1 => repeat (first | exact (Kd.C_below HR1_0.out HB.out) | (with_reducible refine Kd.C_alloc ?_ _) | (with_reducible refine Kd.C_drewN ?_ _) | (with_reducible refine Kd.C_drew ?_))); (case side2 => exact HC1_0.out); rintro e w107 ⟨rfl, hb⟩; refine ⟨_, rfl, ?_⟩; replace BK454 := bkb_ BK454 hb; replace HB := hbs_ hb; clear hb))
  go_ret
  exact ⟨eq_, bl_⟩
end Go.Proofs.Ytppdmcimddhbaaa.PE
