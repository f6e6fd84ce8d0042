import Derived.Test.YtcgnegnljffkmaaKFnExactProofTextPAx0
import Derived.Test.YtcgnegnljffkmaaKFnExactProofTextPAx14
import Derived.Test.YtcgnegnljffkmaaKFnExactProofTextPAx15
-- A text of this claim: written by the session's own program out of the translation (wip/tools). Lean checks it.
namespace Go.Proofs.Ytcgnegnljffkmaa.PA
open Go.RowKit Go.Proofs.YtcgnegnljffkmaaW.PrintWords Go.Proofs.YtcgnegnljffkmaaW.PrintLast Go.Proofs.YtcgnegnljffkmaaW.PrintMore
attribute [local go_sem] max2_int min2_int max_two min_two max_three min_three max_four min_four   -- for this text's walks alone
set_option linter.unusedVariables false
set_option linter.unusedSimpArgs false
def laws_toStepS.l0 : Nat → List (S72) → List (S77) → Int → Option ((List (S77)))
 | 0, _, _, _ => none
 | k + 1, x0, x3, x4 => if x4 < (x0.length : Int) then (if 0 ≤ x4 then ((laws_toStep.f k ((rd_T72 x0 x4).f0.f0) ((rd_T72 x0 x4).f0.f1.f0) ((rd_T72 x0 x4).f0.f1.f1) ((rd_T72 x0 x4).f0.f2) ((rd_T72 x0 x4).f0.f3.f0) ((rd_T72 x0 x4).f0.f3.f1) ((rd_T72 x0 x4).f0.f4.f0) ((rd_T72 x0 x4).f0.f4.f1) ((rd_T72 x0 x4).f0.f5) ((rd_T72 x0 x4).f0.f6) ((rd_T72 x0 x4).f1.f0.f0) ((rd_T72 x0 x4).f1.f0.f1) ((rd_T72 x0 x4).f1.f1) ((rd_T72 x0 x4).f2)).bind fun bt724 => (if x4 < (x3.length : Int) then (laws_toStepS.l0 k x0 (x3.set (x4 : Int).toNat (⟨(⟨bt724.1, (⟨bt724.2.1, bt724.2.2.1⟩ : S27), bt724.2.2.2.1, (⟨bt724.2.2.2.2.1, bt724.2.2.2.2.2.1⟩ : S27), (⟨bt724.2.2.2.2.2.2.1, bt724.2.2.2.2.2.2.2.1⟩ : S27), bt724.2.2.2.2.2.2.2.2.1, bt724.2.2.2.2.2.2.2.2.2.1⟩ : S29), (⟨(⟨bt724.2.2.2.2.2.2.2.2.2.2.1, bt724.2.2.2.2.2.2.2.2.2.2.2.1⟩ : S27), bt724.2.2.2.2.2.2.2.2.2.2.2.2.1⟩ : S55), bt724.2.2.2.2.2.2.2.2.2.2.2.2.2⟩ : S77)) (wrap64 (x4 + 1))) else (none))) else (none)) else (some x3)
def laws_toStepS.f (k : Nat) (l0 : List (S72)) : Option ((List (S77))) := if 0 ≤ (l0.length : Int) then (if ((l0.length : Int) : Int).toNat ≤ 2199023255552 then (laws_toStepS.l0 k l0 (List.replicate ((l0.length : Int) : Int).toNat z77) 0) else (none)) else (none)
set_option maxHeartbeats 8000000 in
set_option maxRecDepth 100000 in
theorem laws_toStepS.calls (k : Nat) (A0 : Option Addr) (c0 : Nat) (l0 : List (S72)) (r : List (S77)) (w : World) (hr0 : Kd.C k72 w A0 l0.length l0) (hc0 : l0.length ≤ c0) (h : laws_toStepS.f k l0 = some r) :
  Calls Try.prog 60 #[.slice A0 l0.length c0] w fun e w' => ∃ v0_ : Value, e = .returned (v0_) ∧ Kd.S k77 77 w' w.heap.size (fun _ => True) v0_ r ∧ Below w.heap.size w w' := by
 have hu72 := Try.underlying72
 have hu77 := Try.underlying77
 have HR0 := Aside0.mk hr0
 have HC0 := Aside0.mk hc0
 clear hr0 hc0
 have HB := Aside0.mk (Below.refl w.heap.size w)
 have H : (if 0 ≤ (l0.length : Int) then (if ((l0.length : Int) : Int).toNat ≤ 2199023255552 then (laws_toStepS.l0 k l0 (List.replicate ((l0.length : Int) : Int).toNat z77) 0) else (none)) else (none)) = some r := h
 clear h
 by_cases c2 : 0 ≤ (l0.length : Int)
 ·rw [if_pos c2] at H
  have c2b0 := eq_true c2
  have c2b1 : decide (0 ≤ (l0.length : Int)) = true := decide_eq_true c2
  clear c2
  by_cases c3 : ((l0.length : Int) : Int).toNat ≤ 2199023255552
  ·rw [if_pos c3] at H
   have c3b0 := eq_true c3
   have c3b1 : decide (((l0.length : Int) : Int).toNat ≤ 2199023255552) = true := decide_eq_true c3
   clear c3
   obtain ⟨y720, hy720⟩ : ∃ y_ : List (S77), y_ = (List.replicate ((l0.length : Int) : Int).toNat z77) := ⟨_, rfl⟩
   replace H : (laws_toStepS.l0 k l0 y720 0) = some r := by first | (rw [hy720]; with_reducible exact H) | (have H2_ := (Option.bind_some _ _).symm.trans H; rw [hy720]; with_reducible exact H2_) | (have H2_ := (Option.bind_some _ _).symm.trans H; with_reducible exact H2_) | with_reducible exact H | (rw [hy720]; exact H) | exact H
   have Ny720 := Aside0.mk hy720
   clear hy720
   have H' := Aside0.mk H
   clear H
   go_enter Try.func60, Try.ntmps60
   go_wp2_with (first | ((with_reducible refine gate_dst (N := 7) rfl ?_); refine Kd.S_make k77 _ 77 rfl (N := 7) rfl 58 _ _ rfl (l0.length : Int) rfl rfl Try.underlying58 (.agg #[(.int .i64 0), (.int .i64 0), (.int .i64 0), (.int .i64 0), (.int .i64 0), (.int .i64 0), (.int .i64 0), (.int .i64 0), (.int .i64 0), (.int .i64 0), (.int .i64 0), (.int .i64 0), (.int .i64 0), (.slice none 0 0)]) 128 info77 rfl (by decide) (by omega) z77 (ok := fun _ => True) (okp := fun _ => True) (k77_mkM _ _ _ z77 (Kd.R_nil _ _ _ _ _)) (fun _ hk => hk) trivial (of_decide_eq_true (by first | (with_reducible assumption) | assumption)) (Nat.le_trans (Nat.mul_le_mul_right _ (of_decide_eq_true (by first | (with_reducible assumption) | assumption) : (l0.length : Int).toNat ≤ 2199023255552)) (by omega)) (Below.refl _ _) (Nat.le_refl _) ?_; intro v721 w4 ho5 hb hg_ hnew_; clear hg_ hnew_; (first | rw [← Ny720.out] at ho5 | (simp only [Int.reduceToNat] at ho5; rw [← Ny720.out] at ho5)); have HO722 := Aside0.mk (Kd.S_lower ho5 bls_); replace HB := hbs_ hb; clear hb ho5))
   go_loopg [4] k (fun kq v4 w' => ∃ (x3_1 : List (S77)) (x4_1 : Int), v4 = .int .i64 x4_1 ∧ Aside0 (laws_toStepS.l0 kq l0 x3_1 x4_1 = some r) ∧ Aside0 (kq ≤ k) ∧ Aside0 (Kd.S k77 77 w' w.heap.size (fun _ => True) v721 x3_1) ∧ Aside0 (Below w.heap.size w w'))
   case atStart => exact ⟨(y720), (0), (by first | rfl | (simp; done) | (simp [*]; done)), H', ⟨Nat.le_refl _⟩, ⟨by (with_reducible repeat (first | apply Kd.S_alloc | apply Kd.S_drewN | apply Kd.S_drew)); exact HO722.out⟩, ⟨bl_⟩⟩
   case round =>
    clear H'
    try clear c2
    try clear c2b0
    try clear c2b1
    try clear p2
    try clear c3
    try clear c3b0
    try clear c3b1
    obtain ⟨x3_1, x4_1, rfl, HA, HK1, HO_3, HB⟩ := hrel
    cases gk with
    | zero => exact absurd HA.out (by simp [laws_toStepS.l0])
    | succ k1 =>
     have H := HA.out
     clear HA
     simp only [laws_toStepS.l0] at H
     by_cases c6 : x4_1 < (l0.length : Int)
     ·rw [if_pos c6] at H
      have c6b0 : decide (x4_1 < (l0.length : Int)) = true := decide_eq_true c6
      clear c6
      by_cases c7 : 0 ≤ x4_1
      ·rw [if_pos c7] at H
       have c7b0 : decide (0 ≤ x4_1) = true := decide_eq_true c7
       clear c7
       obtain ⟨⟨t724, t725, t726, t727, t728, t729, t730, t731, t732, t733, t734, t735, t736, t737⟩, A8, H⟩ := bindE_ H
       replace H : (if x4_1 < (x3_1.length : Int) then (laws_toStepS.l0 k1 l0 (x3_1.set (x4_1 : Int).toNat (⟨(⟨t724, (⟨t725, t726⟩ : S27), t727, (⟨t728, t729⟩ : S27), (⟨t730, t731⟩ : S27), t732, t733⟩ : S29), (⟨(⟨t734, t735⟩ : S27), t736⟩ : S55), t737⟩ : S77)) (wrap64 (x4_1 + 1))) else (none)) = some r := H
       by_cases c9 : x4_1 < (x3_1.length : Int)
       ·rw [if_pos c9] at H
        have c9b0 : decide (x4_1 < (x3_1.length : Int)) = true := decide_eq_true c9
        clear c9
        obtain ⟨y740, hy740⟩ : ∃ y_ : List (S77), y_ = (x3_1.set (x4_1 : Int).toNat (⟨(⟨t724, (⟨t725, t726⟩ : S27), t727, (⟨t728, t729⟩ : S27), (⟨t730, t731⟩ : S27), t732, t733⟩ : S29), (⟨(⟨t734, t735⟩ : S27), t736⟩ : S55), t737⟩ : S77)) := ⟨_, rfl⟩
        replace H : (laws_toStepS.l0 k1 l0 y740 (wrap64 (x4_1 + 1))) = some r := by first | (rw [hy740]; with_reducible exact H) | (have H2_ := (Option.bind_some _ _).symm.trans H; rw [hy740]; with_reducible exact H2_) | (have H2_ := (Option.bind_some _ _).symm.trans H; with_reducible exact H2_) | with_reducible exact H | (rw [hy740]; exact H) | exact H
        have Ny740 := Aside0.mk hy740
        clear hy740
        have H' := Aside0.mk H
        clear H
        have p723 : 0 ≤ (x4_1 : Int) := of_decide_eq_true (by first | (with_reducible assumption) | assumption)
        have q723 : x4_1 < (l0.length : Int) := of_decide_eq_true (by first | (with_reducible assumption) | assumption)
        obtain ⟨ad723, A723_13, c723_13, e723, hx723_0, hx723_1, hx723_2, hx723_3, hx723_4, hx723_5, hx723_6, hx723_7, hx723_8, hx723_9, hx723_10, hx723_11, hx723_12, hx723_13, hl723_13, hi723_13⟩ := at_T72 HR0.out x4_1 p723 q723
        cases e723
        replace hx723_0 := cb_ HB hx723_0
        replace hx723_1 := cb_ HB hx723_1
        replace hx723_2 := cb_ HB hx723_2
        replace hx723_3 := cb_ HB hx723_3
        replace hx723_4 := cb_ HB hx723_4
        replace hx723_5 := cb_ HB hx723_5
        replace hx723_6 := cb_ HB hx723_6
        replace hx723_7 := cb_ HB hx723_7
        replace hx723_8 := cb_ HB hx723_8
        replace hx723_9 := cb_ HB hx723_9
        replace hx723_10 := cb_ HB hx723_10
        replace hx723_11 := cb_ HB hx723_11
        replace hx723_12 := cb_ HB hx723_12
        replace hx723_13 := cb_ HB hx723_13
        have HR723_13 := Aside0.mk hi723_13
        have HC723_13 := Aside0.mk hl723_13
        clear hi723_13 hl723_13
        replace p723 := eq_true p723
        replace q723 := eq_true q723
        go_wp2_with (first | ((with_reducible refine gate_callee (f := 46) rfl ?_); refine goesC_ (some 20) Try.func46 #[.agg #[.int .i64 ((rd_T72 l0 x4_1).f0.f0), .int .i64 ((rd_T72 l0 x4_1).f0.f1.f0), .int .i64 ((rd_T72 l0 x4_1).f0.f1.f1), .int .i64 ((rd_T72 l0 x4_1).f0.f2), .int .i64 ((rd_T72 l0 x4_1).f0.f3.f0), .int .i64 ((rd_T72 l0 x4_1).f0.f3.f1), .int .i64 ((rd_T72 l0 x4_1).f0.f4.f0), .int .i64 ((rd_T72 l0 x4_1).f0.f4.f1), .int .i64 ((rd_T72 l0 x4_1).f0.f5), .int .i64 ((rd_T72 l0 x4_1).f0.f6), .int .i64 ((rd_T72 l0 x4_1).f1.f0.f0), .int .i64 ((rd_T72 l0 x4_1).f1.f0.f1), .int .i64 ((rd_T72 l0 x4_1).f1.f1), .slice A723_13 ((rd_T72 l0 x4_1).f2).length c723_13]] ?_; (with_reducible refine (laws_toStep.calls k1 ((rd_T72 l0 x4_1).f0.f0) ((rd_T72 l0 x4_1).f0.f1.f0) ((rd_T72 l0 x4_1).f0.f1.f1) ((rd_T72 l0 x4_1).f0.f2) ((rd_T72 l0 x4_1).f0.f3.f0) ((rd_T72 l0 x4_1).f0.f3.f1) ((rd_T72 l0 x4_1).f0.f4.f0) ((rd_T72 l0 x4_1).f0.f4.f1) ((rd_T72 l0 x4_1).f0.f5) ((rd_T72 l0 x4_1).f0.f6) ((rd_T72 l0 x4_1).f1.f0.f0) ((rd_T72 l0 x4_1).f1.f0.f1) ((rd_T72 l0 x4_1).f1.f1) _ _ ((rd_T72 l0 x4_1).f2) t724 t725 t726 t727 t728 t729 t730 t731 t732 t733 t734 t735 t736 t737 _ ?side1 ?side2 A8.out).mono ?_); (case side1 => repeat (first | exact (Kd.C_below HR723_13.out HB.out) | (with_reducible refine Kd.C_alloc ?_ _) | (with_reducible refine Kd.C_drewN ?_ _) | (with_reducible refine Kd.C_drew ?_))); (case side2 => exact HC723_13.out); rintro e w11 ⟨v738, rfl, ho0, hb⟩; refine ⟨_, rfl, ?_⟩; replace HO_3 := Aside0.mk (Kd.S_elder' (by (with_reducible repeat (first | apply Kd.S_alloc | apply Kd.S_drewN | apply Kd.S_drew)); exact HO_3.out) (Kd.R_base ho0) hb); have HO739 := Aside0.mk (Kd.R_lower ho0 bls_); replace HB := hbs_ hb; (try clear hb); (try clear hb2); (try clear hk); (try clear hi); (try clear ho0); have p10 : 0 ≤ (x4_1 : Int) := of_decide_eq_true (by first | (with_reducible assumption) | assumption); have q10 : (x4_1 : Int) < ((x3_1.length : Int) : Int) := of_decide_eq_true (by first | (with_reducible assumption) | assumption); obtain ⟨go10, co10, eo10, gb10, gl10, cl10, HG10⟩ := Kd.S_form HO_3.out (by omega); (first | cases eo10 | (injection eo10 with ea_ en_ ec_; (first | subst ea_ | (injection ea_ with ea_; subst ea_)); subst ec_; clear en_)); have GB10 := Aside0.mk gb10; have GG10 := Aside0.mk HG10; clear gb10 gl10 HG10; obtain ⟨_, ce10, hcl10, hM10, hcc10, hfr10, _, _⟩ := Kd.S_elem HO_3.out z77 (x4_1 : Int) p10 q10; obtain ⟨ve10_13, rfl, ge10_13⟩ := k77_openM hM10; have hx10_0 : w11.cell? ⟨go10, (x4_1 : Int).toNat * 14, none⟩ = some (.int .i64 ((rd_T77 x3_1 x4_1).f0.f0)) := hcc10 0 _ rfl; have hx10_1 : w11.cell? ⟨go10, (x4_1 : Int).toNat * 14 + 1, none⟩ = some (.int .i64 ((rd_T77 x3_1 x4_1).f0.f1.f0)) := hcc10 1 _ rfl; have hx10_2 : w11.cell? ⟨go10, (x4_1 : Int).toNat * 14 + 2, none⟩ = some (.int .i64 ((rd_T77 x3_1 x4_1).f0.f1.f1)) := hcc10 2 _ rfl; have hx10_3 : w11.cell? ⟨go10, (x4_1 : Int).toNat * 14 + 3, none⟩ = some (.int .i64 ((rd_T77 x3_1 x4_1).f0.f2)) := hcc10 3 _ rfl; have hx10_4 : w11.cell? ⟨go10, (x4_1 : Int).toNat * 14 + 4, none⟩ = some (.int .i64 ((rd_T77 x3_1 x4_1).f0.f3.f0)) := hcc10 4 _ rfl; have hx10_5 : w11.cell? ⟨go10, (x4_1 : Int).toNat * 14 + 5, none⟩ = some (.int .i64 ((rd_T77 x3_1 x4_1).f0.f3.f1)) := hcc10 5 _ rfl; have hx10_6 : w11.cell? ⟨go10, (x4_1 : Int).toNat * 14 + 6, none⟩ = some (.int .i64 ((rd_T77 x3_1 x4_1).f0.f4.f0)) := hcc10 6 _ rfl; have hx10_7 : w11.cell? ⟨go10, (x4_1 : Int).toNat * 14 + 7, none⟩ = some (.int .i64 ((rd_T77 x3_1 x4_1).f0.f4.f1)) := hcc10 7 _ rfl; have hx10_8 : w11.cell? ⟨go10, (x4_1 : Int).toNat * 14 + 8, none⟩ = some (.int .i64 ((rd_T77 x3_1 x4_1).f0.f5)) := hcc10 8 _ rfl; have hx10_9 : w11.cell? ⟨go10, (x4_1 : Int).toNat * 14 + 9, none⟩ = some (.int .i64 ((rd_T77 x3_1 x4_1).f0.f6)) := hcc10 9 _ rfl; have hx10_10 : w11.cell? ⟨go10, (x4_1 : Int).toNat * 14 + 10, none⟩ = some (.int .i64 ((rd_T77 x3_1 x4_1).f1.f0.f0)) := hcc10 10 _ rfl; have hx10_11 : w11.cell? ⟨go10, (x4_1 : Int).toNat * 14 + 11, none⟩ = some (.int .i64 ((rd_T77 x3_1 x4_1).f1.f0.f1)) := hcc10 11 _ rfl; have hx10_12 : w11.cell? ⟨go10, (x4_1 : Int).toNat * 14 + 12, none⟩ = some (.int .i64 ((rd_T77 x3_1 x4_1).f1.f1)) := hcc10 12 _ rfl; have hx10_13 : w11.cell? ⟨go10, (x4_1 : Int).toNat * 14 + 13, none⟩ = some (ve10_13) := hcc10 13 _ rfl; have hf10_0 : w11.frozen? ⟨go10, (x4_1 : Int).toNat * 14, none⟩ = false := hfr10 0; have hf10_1 : w11.frozen? ⟨go10, (x4_1 : Int).toNat * 14 + 1, none⟩ = false := hfr10 1; have hf10_2 : w11.frozen? ⟨go10, (x4_1 : Int).toNat * 14 + 2, none⟩ = false := hfr10 2; have hf10_3 : w11.frozen? ⟨go10, (x4_1 : Int).toNat * 14 + 3, none⟩ = false := hfr10 3; have hf10_4 : w11.frozen? ⟨go10, (x4_1 : Int).toNat * 14 + 4, none⟩ = false := hfr10 4; have hf10_5 : w11.frozen? ⟨go10, (x4_1 : Int).toNat * 14 + 5, none⟩ = false := hfr10 5; have hf10_6 : w11.frozen? ⟨go10, (x4_1 : Int).toNat * 14 + 6, none⟩ = false := hfr10 6; have hf10_7 : w11.frozen? ⟨go10, (x4_1 : Int).toNat * 14 + 7, none⟩ = false := hfr10 7; have hf10_8 : w11.frozen? ⟨go10, (x4_1 : Int).toNat * 14 + 8, none⟩ = false := hfr10 8; have hf10_9 : w11.frozen? ⟨go10, (x4_1 : Int).toNat * 14 + 9, none⟩ = false := hfr10 9; have hf10_10 : w11.frozen? ⟨go10, (x4_1 : Int).toNat * 14 + 10, none⟩ = false := hfr10 10; have hf10_11 : w11.frozen? ⟨go10, (x4_1 : Int).toNat * 14 + 11, none⟩ = false := hfr10 11; have hf10_12 : w11.frozen? ⟨go10, (x4_1 : Int).toNat * 14 + 12, none⟩ = false := hfr10 12; have hf10_13 : w11.frozen? ⟨go10, (x4_1 : Int).toNat * 14 + 13, none⟩ = false := hfr10 13; clear hcl10 hcc10 hfr10 hM10; replace p10 := eq_true p10; replace q10 := eq_true q10; have n_ := Aside0.mk (Kd.S_mono (ok' := (fun k_ => some k_ ≠ (v738 : Value).ownBlock)) HO_3.out (fun k_ hk => hk.2)); clear HO_3; have HO_3 := n_; clear n_; have honeo14 := one_R_ Try.prog HO739.out; have HX12 := Aside0.mk (show Kd.S k77 77 w11 w.heap.size (fun k_ => ((fun _ => True)) k_ ∧ ¬ ((fun k_ => some k_ = (v738 : Value).ownBlock)) k_) (.slice (some ⟨go10, 0, none⟩) x3_1.length co10) x3_1 from (by (with_reducible repeat (first | apply Kd.S_alloc | apply Kd.S_drewN | apply Kd.S_drew)); exact Kd.S_mono HO_3.out (fun k_ hk => ⟨trivial, fun e_ => hk e_⟩))); obtain ⟨oki12, ce12, hcl12, hM12, hcc12, hfr12, hoki12, hH12⟩ := Kd.S_elem HX12.out z77 (x4_1 : Int) (of_decide_eq_true (by first | (with_reducible assumption) | assumption)) (by have h_ : (x4_1 : Int) < ((x3_1.length : Int) : Int) := of_decide_eq_true (by first | (with_reducible assumption) | assumption); first | exact h_ | (have e_ := (Kd.S_reads' HO_3.out).1; omega) | simpa using h_); obtain ⟨ve12_13, rfl, ge12_13⟩ := k77_openM hM12; have HP12 := Kd.S_seg hH12 (of_decide_eq_true (by first | (with_reducible assumption) | assumption)) (by have h_ : (x4_1 : Int) < ((x3_1.length : Int) : Int) := of_decide_eq_true (by first | (with_reducible assumption) | assumption); first | exact h_ | (have e_ := (Kd.S_reads' HO_3.out).1; omega) | simpa using h_) (seg := [.int .i64 t724, .int .i64 t725, .int .i64 t726, .int .i64 t727, .int .i64 t728, .int .i64 t729, .int .i64 t730, .int .i64 t731, .int .i64 t732, .int .i64 t733, .int .i64 t734, .int .i64 t735, .int .i64 t736, v738]) (j := 0) (show 14 ≤ 14 from by decide) (x' := (⟨(⟨t724, (⟨t725, t726⟩ : S27), t727, (⟨t728, t729⟩ : S27), (⟨t730, t731⟩ : S27), t732, t733⟩ : S29), (⟨(⟨t734, t735⟩ : S27), t736⟩ : S55), t737⟩ : S77)) (k77_mkM _ _ _ (⟨(⟨t724, (⟨t725, t726⟩ : S27), t727, (⟨t728, t729⟩ : S27), (⟨t730, t731⟩ : S27), t732, t733⟩ : S29), (⟨(⟨t734, t735⟩ : S27), t736⟩ : S55), t737⟩ : S77) (Kd.R_mono (Kd.R_tight rfl (Kd.R_mono (ok' := fun k_ => ((fun _ => True)) k_ ∧ k_ ≠ go10) (Kd.R_apart' (HO739.out) (Kd.S_typed HO_3.out) (by decide)) (fun k_ hk => ⟨trivial, fun e_ => (hk.2) (by rw [e_]; rfl)⟩))) (fun _ h_ => Or.inr (h_)))) (fun _ hk => hk) (fun k_ hk_ => ((Kd.R_mono (ok' := fun k_ => ((fun _ => True)) k_ ∧ k_ ≠ go10) (Kd.R_apart' (HO739.out) (Kd.S_typed HO_3.out) (by decide)) (fun k_ hk => ⟨trivial, fun e_ => (hk.2) (by rw [e_]; rfl)⟩))).1 k_ hk_.symm); have hx12_0 := hcc12 0 _ rfl; (try simp only [show (k77).sz = 14 from rfl, Nat.mul_one, Nat.add_zero] at hx12_0); have hf12_0 := hfr12 0; (try simp only [show (k77).sz = 14 from rfl, Nat.mul_one, Nat.add_zero] at hf12_0); have hx12_1 := hcc12 1 _ rfl; (try simp only [show (k77).sz = 14 from rfl, Nat.mul_one, Nat.add_zero] at hx12_1); have hf12_1 := hfr12 1; (try simp only [show (k77).sz = 14 from rfl, Nat.mul_one, Nat.add_zero] at hf12_1); have hx12_2 := hcc12 2 _ rfl; (try simp only [show (k77).sz = 14 from rfl, Nat.mul_one, Nat.add_zero] at hx12_2); have hf12_2 := hfr12 2; (try simp only [show (k77).sz = 14 from rfl, Nat.mul_one, Nat.add_zero] at hf12_2); have hx12_3 := hcc12 3 _ rfl; (try simp only [show (k77).sz = 14 from rfl, Nat.mul_one, Nat.add_zero] at hx12_3); have hf12_3 := hfr12 3; (try simp only [show (k77).sz = 14 from rfl, Nat.mul_one, Nat.add_zero] at hf12_3); have hx12_4 := hcc12 4 _ rfl; (try simp only [show (k77).sz = 14 from rfl, Nat.mul_one, Nat.add_zero] at hx12_4); have hf12_4 := hfr12 4; (try simp only [show (k77).sz = 14 from rfl, Nat.mul_one, Nat.add_zero] at hf12_4); have hx12_5 := hcc12 5 _ rfl; (try simp only [show (k77).sz = 14 from rfl, Nat.mul_one, Nat.add_zero] at hx12_5); have hf12_5 := hfr12 5; (try simp only [show (k77).sz = 14 from rfl, Nat.mul_one, Nat.add_zero] at hf12_5); have hx12_6 := hcc12 6 _ rfl; (try simp only [show (k77).sz = 14 from rfl, Nat.mul_one, Nat.add_zero] at hx12_6); have hf12_6 := hfr12 6; (try simp only [show (k77).sz = 14 from rfl, Nat.mul_one, Nat.add_zero] at hf12_6); have hx12_7 := hcc12 7 _ rfl; (try simp only [show (k77).sz = 14 from rfl, Nat.mul_one, Nat.add_zero] at hx12_7); have hf12_7 := hfr12 7; (try simp only [show (k77).sz = 14 from rfl, Nat.mul_one, Nat.add_zero] at hf12_7); have hx12_8 := hcc12 8 _ rfl; (try simp only [show (k77).sz = 14 from rfl, Nat.mul_one, Nat.add_zero] at hx12_8); have hf12_8 := hfr12 8; (try simp only [show (k77).sz = 14 from rfl, Nat.mul_one, Nat.add_zero] at hf12_8); have hx12_9 := hcc12 9 _ rfl; (try simp only [show (k77).sz = 14 from rfl, Nat.mul_one, Nat.add_zero] at hx12_9); have hf12_9 := hfr12 9; (try simp only [show (k77).sz = 14 from rfl, Nat.mul_one, Nat.add_zero] at hf12_9); have hx12_10 := hcc12 10 _ rfl; (try simp only [show (k77).sz = 14 from rfl, Nat.mul_one, Nat.add_zero] at hx12_10); have hf12_10 := hfr12 10; (try simp only [show (k77).sz = 14 from rfl, Nat.mul_one, Nat.add_zero] at hf12_10); have hx12_11 := hcc12 11 _ rfl; (try simp only [show (k77).sz = 14 from rfl, Nat.mul_one, Nat.add_zero] at hx12_11); have hf12_11 := hfr12 11; (try simp only [show (k77).sz = 14 from rfl, Nat.mul_one, Nat.add_zero] at hf12_11); have hx12_12 := hcc12 12 _ rfl; (try simp only [show (k77).sz = 14 from rfl, Nat.mul_one, Nat.add_zero] at hx12_12); have hf12_12 := hfr12 12; (try simp only [show (k77).sz = 14 from rfl, Nat.mul_one, Nat.add_zero] at hf12_12); have hx12_13 := hcc12 13 _ rfl; (try simp only [show (k77).sz = 14 from rfl, Nat.mul_one, Nat.add_zero] at hx12_13); have hf12_13 := hfr12 13; (try simp only [show (k77).sz = 14 from rfl, Nat.mul_one, Nat.add_zero] at hf12_13); clear hcl12 hcc12 hfr12 hM12 hoki12 hH12) | ((with_reducible refine gate_store (t := 77) (p := 21) rfl ?_); refine store_event (t := 77) (p := 21) (v := ?vo_w13) (w1 := ((((((((((((((w11.setCell ⟨go10, (x4_1 : Int).toNat * 14, none⟩ (.int .i64 t724)).setCell ⟨go10, (x4_1 : Int).toNat * 14 + 1, none⟩ (.int .i64 t725)).setCell ⟨go10, (x4_1 : Int).toNat * 14 + 2, none⟩ (.int .i64 t726)).setCell ⟨go10, (x4_1 : Int).toNat * 14 + 3, none⟩ (.int .i64 t727)).setCell ⟨go10, (x4_1 : Int).toNat * 14 + 4, none⟩ (.int .i64 t728)).setCell ⟨go10, (x4_1 : Int).toNat * 14 + 5, none⟩ (.int .i64 t729)).setCell ⟨go10, (x4_1 : Int).toNat * 14 + 6, none⟩ (.int .i64 t730)).setCell ⟨go10, (x4_1 : Int).toNat * 14 + 7, none⟩ (.int .i64 t731)).setCell ⟨go10, (x4_1 : Int).toNat * 14 + 8, none⟩ (.int .i64 t732)).setCell ⟨go10, (x4_1 : Int).toNat * 14 + 9, none⟩ (.int .i64 t733)).setCell ⟨go10, (x4_1 : Int).toNat * 14 + 10, none⟩ (.int .i64 t734)).setCell ⟨go10, (x4_1 : Int).toNat * 14 + 11, none⟩ (.int .i64 t735)).setCell ⟨go10, (x4_1 : Int).toNat * 14 + 12, none⟩ (.int .i64 t736)).setCell ⟨go10, (x4_1 : Int).toNat * 14 + 13, none⟩ (v738))) ?hg ?ho ?hn ?hr ?_; (case ho => rfl); (case hg => rfl); (case hn => rfl); (case hr => first | (go_simp; done) | (go_simp; rfl)); intro w13 hw; have hg : w11.grownBy w13 (some go10) := (by rw [hw]; exact HP12.2); have hp_ : Kd.S k77 77 w13 w.heap.size (fun _ => True) (.slice (some ⟨go10, 0, none⟩) x3_1.length co10) y740 := (by rw [hw, Ny740.out]; exact HP12.1); clear HP12; replace HO_3 := Aside0.mk (hp_); replace HB := Aside0.mk ((by rw [hw]; exact below_set (below_set (below_set (below_set (below_set (below_set (below_set (below_set (below_set (below_set (below_set (below_set (below_set (below_set (HB.out) GB10.out) GB10.out) GB10.out) GB10.out) GB10.out) GB10.out) GB10.out) GB10.out) GB10.out) GB10.out) GB10.out) GB10.out) GB10.out) GB10.out : Below w.heap.size w w13)); clear HO739; clear hg hw hp_))
        go_roundg k1
        case measure => have := HK1.out; omega
        case rel => exact ⟨(y740), (wrap64 (x4_1 + 1)), (by first | rfl | (simp; done) | (simp [*]; done)), H', ⟨by have := HK1.out; omega⟩, ⟨by (with_reducible repeat (first | apply Kd.S_alloc | apply Kd.S_drewN | apply Kd.S_drew)); exact HO_3.out⟩, ⟨bl_⟩⟩
       ·rw [if_neg c9] at H
        exact absurd H (by simp)
      ·rw [if_neg c7] at H
       exact absurd H (by simp)
     ·rw [if_neg c6] at H
      have c6b0 : decide (x4_1 < (l0.length : Int)) = false := decide_eq_false c6
      clear c6
      obtain rfl := Option.some.inj H
      go_wp2
      go_ret
      exact ⟨_, eq_, by (with_reducible repeat (first | apply Kd.S_alloc | apply Kd.S_drewN | apply Kd.S_drew)); exact HO_3.out, bl_⟩
  ·rw [if_neg c3] at H
   exact absurd H (by simp)
 ·rw [if_neg c2] at H
  exact absurd H (by simp)
def impl_ProofText.l0 : Nat → ByteArray → List (S77) → Int → Int → Option (ByteArray × Bool)
 | 0, _, _, _, _ => none
 | k + 1, x4, x12, x13, x14 => if x14 < x13 then (if 0 ≤ x14 then (if x14 < (x12.length : Int) then ((impl_StepText.f k ((rd_T77 x12 x14).f0.f0) ((rd_T77 x12 x14).f0.f1.f0) ((rd_T77 x12 x14).f0.f1.f1) ((rd_T77 x12 x14).f0.f2) ((rd_T77 x12 x14).f0.f3.f0) ((rd_T77 x12 x14).f0.f3.f1) ((rd_T77 x12 x14).f0.f4.f0) ((rd_T77 x12 x14).f0.f4.f1) ((rd_T77 x12 x14).f0.f5) ((rd_T77 x12 x14).f0.f6) ((rd_T77 x12 x14).f1.f0.f0) ((rd_T77 x12 x14).f1.f0.f1) ((rd_T77 x12 x14).f1.f1) ((rd_T77 x12 x14).f2)).bind fun bt743 => (if bt743.2 = true then (if x4.size + bt743.1.size ≤ 9223372036854775807 then (impl_ProofText.l0 k (x4 ++ bt743.1) x12 x13 (wrap64 (x14 + 1))) else (none)) else (some ((⟨#[]⟩ : ByteArray), false)))) else (none)) else (none)) else (some (x4, true))
def impl_ProofText.f (k : Nat) (l0 : List (S77)) : Option (ByteArray × Bool) := if (l0.length : Int) > 200 then (some ((⟨#[]⟩ : ByteArray), false)) else (impl_ProofText.l0 k (⟨#[]⟩ : ByteArray) l0 (l0.length : Int) 0)
set_option maxHeartbeats 8000000 in
set_option maxRecDepth 100000 in
theorem impl_ProofText.calls (k : Nat) (A0 : Option Addr) (c0 : Nat) (l0 : List (S77)) (r1 : ByteArray) (r2 : Bool) (w : World) (hr0 : Kd.C k77 w A0 l0.length l0) (hc0 : l0.length ≤ c0) (h : impl_ProofText.f k l0 = some (r1, r2)) :
  Calls Try.prog 61 #[.slice A0 l0.length c0] w fun e w' => e = .returned (.tuple #[.string r1, .bool r2]) ∧ Below w.heap.size w w' := by
 have hu77 := Try.underlying77
 have HR0 := Aside0.mk hr0
 have HC0 := Aside0.mk hc0
 clear hr0 hc0
 have HB := Aside0.mk (Below.refl w.heap.size w)
 have H : (if (l0.length : Int) > 200 then (some ((⟨#[]⟩ : ByteArray), false)) else (impl_ProofText.l0 k (⟨#[]⟩ : ByteArray) l0 (l0.length : Int) 0)) = some (r1, r2) := h
 clear h
 by_cases c2 : (l0.length : Int) > 200
 ·rw [if_pos c2] at H
  have c2b0 : decide (200 < (l0.length : Int)) = true := decide_eq_true c2
  have c2b1 : decide (200 < l0.length) = true := decide_eq_true (by omega)
  clear c2
  simp only [Option.some.injEq, Prod.mk.injEq] at H
  obtain ⟨rfl, rfl⟩ := H
  go_enter Try.func61, Try.ntmps61
  go_wp2
  go_ret2
  exact ⟨eq_, bl_⟩
 ·rw [if_neg c2] at H
  have c2b0 : decide (200 < (l0.length : Int)) = false := decide_eq_false c2
  have c2b1 : decide (200 < l0.length) = false := decide_eq_false (by omega)
  clear c2
  have H' := Aside0.mk H
  clear H
  go_enter Try.func61, Try.ntmps61
  go_wp2
  go_loopg [4, 14] k (fun kq v4 v14 w' => ∃ (x4_1 : ByteArray) (x14_1 : Int), v4 = .string x4_1 ∧ v14 = .int .i64 x14_1 ∧ Aside0 (impl_ProofText.l0 kq x4_1 l0 (l0.length : Int) x14_1 = some (r1, r2)) ∧ Aside0 (kq ≤ k) ∧ Aside0 (Below w.heap.size w w'))
  case atStart => exact ⟨((⟨#[]⟩ : ByteArray)), (0), (by first | rfl | (simp; done) | (simp [*]; done)), (by first | rfl | (simp; done) | (simp [*]; done)), H', ⟨Nat.le_refl _⟩, ⟨bl_⟩⟩
  case round =>
   clear H'
   try clear c2
   try clear c2b0
   try clear c2b1
   try clear p2
   obtain ⟨x4_1, x14_1, rfl, rfl, HA, HK1, HB⟩ := hrel
   cases gk with
   | zero => exact absurd HA.out (by simp [impl_ProofText.l0])
   | succ k1 =>
    have H := HA.out
    clear HA
    simp only [impl_ProofText.l0] at H
    by_cases c3 : x14_1 < (l0.length : Int)
    ·rw [if_pos c3] at H
     have c3b0 : decide (x14_1 < (l0.length : Int)) = true := decide_eq_true c3
     clear c3
     by_cases c4 : 0 ≤ x14_1
     ·rw [if_pos c4] at H
      have c4b0 : decide (0 ≤ x14_1) = true := decide_eq_true c4
      clear c4
      by_cases c5 : x14_1 < (l0.length : Int)
      ·rw [if_pos c5] at H
       have c5b0 : decide (x14_1 < (l0.length : Int)) = true := decide_eq_true c5
       clear c5
       obtain ⟨⟨t743, t744⟩, A6, H⟩ := bindE_ H
       replace H : (if t744 = true then (if x4_1.size + t743.size ≤ 9223372036854775807 then (impl_ProofText.l0 k1 (x4_1 ++ t743) l0 (l0.length : Int) (wrap64 (x14_1 + 1))) else (none)) else (some ((⟨#[]⟩ : ByteArray), false))) = some (r1, r2) := H
       by_cases c7 : t744 = true
       ·subst c7
        replace H := ite_t_ H
        by_cases c8 : x4_1.size + t743.size ≤ 9223372036854775807
        ·rw [if_pos c8] at H
         have c8b0 := eq_true c8
         have c8b1 : decide (x4_1.size + t743.size ≤ 9223372036854775807) = true := decide_eq_true c8
         try have c8b2 : (9223372036854775807 < x4_1.size + t743.size) = False := eq_false (Nat.not_lt.2 c8)
         have H' := Aside0.mk H
         clear H
         have p741 : 0 ≤ (x14_1 : Int) := of_decide_eq_true (by first | (with_reducible assumption) | assumption)
         have q741 : x14_1 < (l0.length : Int) := of_decide_eq_true (by first | (with_reducible assumption) | assumption)
         obtain ⟨ad741, A741_13, c741_13, e741, hx741_0, hx741_1, hx741_2, hx741_3, hx741_4, hx741_5, hx741_6, hx741_7, hx741_8, hx741_9, hx741_10, hx741_11, hx741_12, hx741_13, hl741_13, hi741_13⟩ := at_T77 HR0.out x14_1 p741 q741
         cases e741
         replace hx741_0 := cb_ HB hx741_0
         replace hx741_1 := cb_ HB hx741_1
         replace hx741_2 := cb_ HB hx741_2
         replace hx741_3 := cb_ HB hx741_3
         replace hx741_4 := cb_ HB hx741_4
         replace hx741_5 := cb_ HB hx741_5
         replace hx741_6 := cb_ HB hx741_6
         replace hx741_7 := cb_ HB hx741_7
         replace hx741_8 := cb_ HB hx741_8
         replace hx741_9 := cb_ HB hx741_9
         replace hx741_10 := cb_ HB hx741_10
         replace hx741_11 := cb_ HB hx741_11
         replace hx741_12 := cb_ HB hx741_12
         replace hx741_13 := cb_ HB hx741_13
         have HR741_13 := Aside0.mk hi741_13
         have HC741_13 := Aside0.mk hl741_13
         clear hi741_13 hl741_13
         replace p741 := eq_true p741
         replace q741 := eq_true q741
         go_wp2_with (first | ((with_reducible refine gate_dst (N := 6) rfl ?_); refine box_event ?hg (N := 6) ?hd (cs := #[.int .i64 0, .int .i64 0, .int .i64 0, .int .i64 0, .int .i64 0, .int .i64 0, .int .i64 0, .int .i64 0, .int .i64 0, .int .i64 0, .int .i64 0, .int .i64 0, .int .i64 0, .slice none 0 0]) (t := 77) ?hr ?_; (case hd => rfl); (case hg => rfl); (case hr => first | (go_simp; done) | (go_simp; rfl)); intro gb742 hg w9 hbox hb; have BK742 := Aside0.mk (hbox); have GW742 := gs_ hg; have GE742 := gs_ hg; replace HB := hbs_ hb; clear hb hbox hg; have hcz10 := blk_cell BK742.out; have hfz10 := blk_frozen BK742.out) | ((with_reducible refine gate_callee (f := 47) rfl ?_); refine goesC_ (some 20) Try.func47 #[.agg #[.int .i64 ((rd_T77 l0 x14_1).f0.f0), .int .i64 ((rd_T77 l0 x14_1).f0.f1.f0), .int .i64 ((rd_T77 l0 x14_1).f0.f1.f1), .int .i64 ((rd_T77 l0 x14_1).f0.f2), .int .i64 ((rd_T77 l0 x14_1).f0.f3.f0), .int .i64 ((rd_T77 l0 x14_1).f0.f3.f1), .int .i64 ((rd_T77 l0 x14_1).f0.f4.f0), .int .i64 ((rd_T77 l0 x14_1).f0.f4.f1), .int .i64 ((rd_T77 l0 x14_1).f0.f5), .int .i64 ((rd_T77 l0 x14_1).f0.f6), .int .i64 ((rd_T77 l0 x14_1).f1.f0.f0), .int .i64 ((rd_T77 l0 x14_1).f1.f0.f1), .int .i64 ((rd_T77 l0 x14_1).f1.f1), .slice A741_13 ((rd_T77 l0 x14_1).f2).length c741_13]] ?_; (with_reducible refine (impl_StepText.calls k1 ((rd_T77 l0 x14_1).f0.f0) ((rd_T77 l0 x14_1).f0.f1.f0) ((rd_T77 l0 x14_1).f0.f1.f1) ((rd_T77 l0 x14_1).f0.f2) ((rd_T77 l0 x14_1).f0.f3.f0) ((rd_T77 l0 x14_1).f0.f3.f1) ((rd_T77 l0 x14_1).f0.f4.f0) ((rd_T77 l0 x14_1).f0.f4.f1) ((rd_T77 l0 x14_1).f0.f5) ((rd_T77 l0 x14_1).f0.f6) ((rd_T77 l0 x14_1).f1.f0.f0) ((rd_T77 l0 x14_1).f1.f0.f1) ((rd_T77 l0 x14_1).f1.f1) _ _ ((rd_T77 l0 x14_1).f2) t743 true _ ?side1 ?side2 A6.out).mono ?_); (case side1 => exact Kd.C_below HR741_13.out bl_); (case side2 => exact HC741_13.out); rintro e w11 ⟨rfl, hb⟩; refine ⟨_, rfl, ?_⟩; replace BK742 := Aside0.mk (blk_below (g := gb742) (o := .cells #[.int .i64 ((rd_T77 l0 x14_1).f0.f0), .int .i64 ((rd_T77 l0 x14_1).f0.f1.f0), .int .i64 ((rd_T77 l0 x14_1).f0.f1.f1), .int .i64 ((rd_T77 l0 x14_1).f0.f2), .int .i64 ((rd_T77 l0 x14_1).f0.f3.f0), .int .i64 ((rd_T77 l0 x14_1).f0.f3.f1), .int .i64 ((rd_T77 l0 x14_1).f0.f4.f0), .int .i64 ((rd_T77 l0 x14_1).f0.f4.f1), .int .i64 ((rd_T77 l0 x14_1).f0.f5), .int .i64 ((rd_T77 l0 x14_1).f0.f6), .int .i64 ((rd_T77 l0 x14_1).f1.f0.f0), .int .i64 ((rd_T77 l0 x14_1).f1.f0.f1), .int .i64 ((rd_T77 l0 x14_1).f1.f1), .slice A741_13 ((rd_T77 l0 x14_1).f2).length c741_13] 77 (0, 0)) (bk_ BK742) hb); replace HB := hbs_ hb; clear hb))
         go_roundg k1
         case measure => have := HK1.out; omega
         case rel => exact ⟨(x4_1 ++ t743), (wrap64 (x14_1 + 1)), (by first | rfl | (simp; done) | (simp [*]; done)), (by first | rfl | (simp; done) | (simp [*]; done)), H', ⟨by have := HK1.out; omega⟩, ⟨bl_⟩⟩
        ·rw [if_neg c8] at H
         exact absurd H (by simp)
       ·replace c7 := Bool.eq_false_iff.mpr c7
        subst c7
        replace H := ite_f_ H
        simp only [Option.some.injEq, Prod.mk.injEq] at H
        obtain ⟨rfl, rfl⟩ := H
        have p741 : 0 ≤ (x14_1 : Int) := of_decide_eq_true (by first | (with_reducible assumption) | assumption)
        have q741 : x14_1 < (l0.length : Int) := of_decide_eq_true (by first | (with_reducible assumption) | assumption)
        obtain ⟨ad741, A741_13, c741_13, e741, hx741_0, hx741_1, hx741_2, hx741_3, hx741_4, hx741_5, hx741_6, hx741_7, hx741_8, hx741_9, hx741_10, hx741_11, hx741_12, hx741_13, hl741_13, hi741_13⟩ := at_T77 HR0.out x14_1 p741 q741
        cases e741
        replace hx741_0 := cb_ HB hx741_0
        replace hx741_1 := cb_ HB hx741_1
        replace hx741_2 := cb_ HB hx741_2
        replace hx741_3 := cb_ HB hx741_3
        replace hx741_4 := cb_ HB hx741_4
        replace hx741_5 := cb_ HB hx741_5
        replace hx741_6 := cb_ HB hx741_6
        replace hx741_7 := cb_ HB hx741_7
        replace hx741_8 := cb_ HB hx741_8
        replace hx741_9 := cb_ HB hx741_9
        replace hx741_10 := cb_ HB hx741_10
        replace hx741_11 := cb_ HB hx741_11
        replace hx741_12 := cb_ HB hx741_12
        replace hx741_13 := cb_ HB hx741_13
        have HR741_13 := Aside0.mk hi741_13
        have HC741_13 := Aside0.mk hl741_13
        clear hi741_13 hl741_13
        replace p741 := eq_true p741
        replace q741 := eq_true q741
        go_wp2_with (first | ((with_reducible refine gate_dst (N := 6) rfl ?_); refine box_event ?hg (N := 6) ?hd (cs := #[.int .i64 0, .int .i64 0, .int .i64 0, .int .i64 0, .int .i64 0, .int .i64 0, .int .i64 0, .int .i64 0, .int .i64 0, .int .i64 0, .int .i64 0, .int .i64 0, .int .i64 0, .slice none 0 0]) (t := 77) ?hr ?_; (case hd => rfl); (case hg => rfl); (case hr => first | (go_simp; done) | (go_simp; rfl)); intro gb742 hg w12 hbox hb; have BK742 := Aside0.mk (hbox); have GW742 := gs_ hg; have GE742 := gs_ hg; replace HB := hbs_ hb; clear hb hbox hg; have hcz13 := blk_cell BK742.out; have hfz13 := blk_frozen BK742.out) | ((with_reducible refine gate_callee (f := 47) rfl ?_); refine goesC_ (some 20) Try.func47 #[.agg #[.int .i64 ((rd_T77 l0 x14_1).f0.f0), .int .i64 ((rd_T77 l0 x14_1).f0.f1.f0), .int .i64 ((rd_T77 l0 x14_1).f0.f1.f1), .int .i64 ((rd_T77 l0 x14_1).f0.f2), .int .i64 ((rd_T77 l0 x14_1).f0.f3.f0), .int .i64 ((rd_T77 l0 x14_1).f0.f3.f1), .int .i64 ((rd_T77 l0 x14_1).f0.f4.f0), .int .i64 ((rd_T77 l0 x14_1).f0.f4.f1), .int .i64 ((rd_T77 l0 x14_1).f0.f5), .int .i64 ((rd_T77 l0 x14_1).f0.f6), .int .i64 ((rd_T77 l0 x14_1).f1.f0.f0), .int .i64 ((rd_T77 l0 x14_1).f1.f0.f1), .int .i64 ((rd_T77 l0 x14_1).f1.f1), .slice A741_13 ((rd_T77 l0 x14_1).f2).length c741_13]] ?_; (with_reducible refine (impl_StepText.calls k1 ((rd_T77 l0 x14_1).f0.f0) ((rd_T77 l0 x14_1).f0.f1.f0) ((rd_T77 l0 x14_1).f0.f1.f1) ((rd_T77 l0 x14_1).f0.f2) ((rd_T77 l0 x14_1).f0.f3.f0) ((rd_T77 l0 x14_1).f0.f3.f1) ((rd_T77 l0 x14_1).f0.f4.f0) ((rd_T77 l0 x14_1).f0.f4.f1) ((rd_T77 l0 x14_1).f0.f5) ((rd_T77 l0 x14_1).f0.f6) ((rd_T77 l0 x14_1).f1.f0.f0) ((rd_T77 l0 x14_1).f1.f0.f1) ((rd_T77 l0 x14_1).f1.f1) _ _ ((rd_T77 l0 x14_1).f2) t743 false _ ?side1 ?side2 A6.out).mono ?_); (case side1 => exact Kd.C_below HR741_13.out bl_); (case side2 => exact HC741_13.out); rintro e w14 ⟨rfl, hb⟩; refine ⟨_, rfl, ?_⟩; replace BK742 := Aside0.mk (blk_below (g := gb742) (o := .cells #[.int .i64 ((rd_T77 l0 x14_1).f0.f0), .int .i64 ((rd_T77 l0 x14_1).f0.f1.f0), .int .i64 ((rd_T77 l0 x14_1).f0.f1.f1), .int .i64 ((rd_T77 l0 x14_1).f0.f2), .int .i64 ((rd_T77 l0 x14_1).f0.f3.f0), .int .i64 ((rd_T77 l0 x14_1).f0.f3.f1), .int .i64 ((rd_T77 l0 x14_1).f0.f4.f0), .int .i64 ((rd_T77 l0 x14_1).f0.f4.f1), .int .i64 ((rd_T77 l0 x14_1).f0.f5), .int .i64 ((rd_T77 l0 x14_1).f0.f6), .int .i64 ((rd_T77 l0 x14_1).f1.f0.f0), .int .i64 ((rd_T77 l0 x14_1).f1.f0.f1), .int .i64 ((rd_T77 l0 x14_1).f1.f1), .slice A741_13 ((rd_T77 l0 x14_1).f2).length c741_13] 77 (0, 0)) (bk_ BK742) hb); replace HB := hbs_ hb; clear hb))
        go_ret2
        exact ⟨eq_, bl_⟩
      ·rw [if_neg c5] at H
       exact absurd H (by simp)
     ·rw [if_neg c4] at H
      exact absurd H (by simp)
    ·rw [if_neg c3] at H
     have c3b0 : decide (x14_1 < (l0.length : Int)) = false := decide_eq_false c3
     clear c3
     simp only [Option.some.injEq, Prod.mk.injEq] at H
     obtain ⟨rfl, rfl⟩ := H
     go_wp2
     go_ret2
     exact ⟨eq_, bl_⟩
def laws_eqStepS.l0 : Nat → List (S77) → List (S77) → Int → Option (Bool)
 | 0, _, _, _ => none
 | k + 1, x0, x1, x5 => if x5 < (x0.length : Int) then (if 0 ≤ x5 then (if x5 < (x1.length : Int) then ((laws_eqStep.f k ((rd_T77 x0 x5).f0.f0) ((rd_T77 x0 x5).f0.f1.f0) ((rd_T77 x0 x5).f0.f1.f1) ((rd_T77 x0 x5).f0.f2) ((rd_T77 x0 x5).f0.f3.f0) ((rd_T77 x0 x5).f0.f3.f1) ((rd_T77 x0 x5).f0.f4.f0) ((rd_T77 x0 x5).f0.f4.f1) ((rd_T77 x0 x5).f0.f5) ((rd_T77 x0 x5).f0.f6) ((rd_T77 x0 x5).f1.f0.f0) ((rd_T77 x0 x5).f1.f0.f1) ((rd_T77 x0 x5).f1.f1) ((rd_T77 x0 x5).f2) ((rd_T77 x1 x5).f0.f0) ((rd_T77 x1 x5).f0.f1.f0) ((rd_T77 x1 x5).f0.f1.f1) ((rd_T77 x1 x5).f0.f2) ((rd_T77 x1 x5).f0.f3.f0) ((rd_T77 x1 x5).f0.f3.f1) ((rd_T77 x1 x5).f0.f4.f0) ((rd_T77 x1 x5).f0.f4.f1) ((rd_T77 x1 x5).f0.f5) ((rd_T77 x1 x5).f0.f6) ((rd_T77 x1 x5).f1.f0.f0) ((rd_T77 x1 x5).f1.f0.f1) ((rd_T77 x1 x5).f1.f1) ((rd_T77 x1 x5).f2)).bind fun t747 => (if t747 = true then (laws_eqStepS.l0 k x0 x1 (wrap64 (x5 + 1))) else (some false))) else (none)) else (none)) else (some true)
def laws_eqStepS.f (k : Nat) (l0 : List (S77)) (l1 : List (S77)) : Option (Bool) := if (l0.length : Int) = (l1.length : Int) then (laws_eqStepS.l0 k l0 l1 0) else (some false)
def laws_eqStepS.T6 : Bool × List (List Nat × List Nat) := (true, [([], []), ([], []), ([0, 1], [0, 1]), ([2], [2]), ([], []), ([], []), ([4, 5], [4, 5]), ([6], [6]), ([3, 7], [3, 7]), ([8], [8])])
def laws_eqStepS.B6 : List Nat := [0, 0, 3, 7, 0, 0, 48, 112, 255, 511]
theorem laws_eqStepS.tab6 : rtab .any (opsOf Try.f62 6) = laws_eqStepS.T6 := by kernel_rfl
theorem laws_eqStepS.bits6 : waitsOk laws_eqStepS.T6.2 laws_eqStepS.B6 = true := by kernel_rfl
set_option maxHeartbeats 8000000 in
set_option maxRecDepth 100000 in
theorem laws_eqStepS.calls (k : Nat) (A0 : Option Addr) (c0 : Nat) (l0 : List (S77)) (A1 : Option Addr) (c1 : Nat) (l1 : List (S77)) (r : Bool) (w : World) (hr0 : Kd.C k77 w A0 l0.length l0) (hc0 : l0.length ≤ c0) (hr1 : Kd.C k77 w A1 l1.length l1) (hc1 : l1.length ≤ c1) (h : laws_eqStepS.f k l0 l1 = some r) :
  Calls Try.prog 62 #[.slice A0 l0.length c0, .slice A1 l1.length c1] w fun e w' => e = .returned (.bool r) ∧ Below w.heap.size w w' := by
 have hu77 := Try.underlying77
 have HR0 := Aside0.mk hr0
 have HC0 := Aside0.mk hc0
 clear hr0 hc0
 have HR1 := Aside0.mk hr1
 have HC1 := Aside0.mk hc1
 clear hr1 hc1
 have HB := Aside0.mk (Below.refl w.heap.size w)
 have H : (if (l0.length : Int) = (l1.length : Int) then (laws_eqStepS.l0 k l0 l1 0) else (some false)) = some r := h
 clear h
 by_cases c3 : (l0.length : Int) = (l1.length : Int)
 ·rw [if_pos c3] at H
  have c3b0 : ((l0.length : Int) == (l1.length : Int)) = true := beq_iff_eq.mpr c3
  have c3b1 : ((l0.length : Int) != (l1.length : Int)) = false := bne_eq_false_iff_eq.mpr c3
  have c3b2 : (l0.length == l1.length) = true := by first | simpa using c3 | (simp at c3 ⊢; omega)
  clear c3
  have H' := Aside0.mk H
  clear H
  go_enter Try.func62, Try.ntmps62
  go_wp2
  go_loopg [5] k (fun kq v5 w' => ∃ (x5_1 : Int), v5 = .int .i64 x5_1 ∧ Aside0 (laws_eqStepS.l0 kq l0 l1 x5_1 = some r) ∧ Aside0 (kq ≤ k) ∧ Aside0 (Below w.heap.size w w'))
  case atStart => exact ⟨(0), (by first | rfl | (simp; done) | (simp [*]; done)), H', ⟨Nat.le_refl _⟩, ⟨bl_⟩⟩
  case round =>
   clear H'
   try clear c1
   try clear p2
   try clear c3
   try clear c3b0
   try clear c3b1
   try clear c3b2
   obtain ⟨x5_1, rfl, HA, HK1, HB⟩ := hrel
   cases gk with
   | zero => exact absurd HA.out (by simp [laws_eqStepS.l0])
   | succ k1 =>
    have H := HA.out
    clear HA
    simp only [laws_eqStepS.l0] at H
    by_cases c4 : x5_1 < (l0.length : Int)
    ·rw [if_pos c4] at H
     have c4b0 : decide (x5_1 < (l0.length : Int)) = true := decide_eq_true c4
     clear c4
     by_cases c5 : 0 ≤ x5_1
     ·rw [if_pos c5] at H
      have c5b0 : decide (0 ≤ x5_1) = true := decide_eq_true c5
      clear c5
      by_cases c6 : x5_1 < (l1.length : Int)
      ·rw [if_pos c6] at H
       have c6b0 : decide (x5_1 < (l1.length : Int)) = true := decide_eq_true c6
       clear c6
       obtain ⟨t747, A7, H⟩ := bindE_ H
       by_cases c8 : t747 = true
       ·subst c8
        replace H := ite_t_ H
        have H' := Aside0.mk H
        clear H
        try go_wp2
        replace HB := Aside0.mk (below_drew1 HB.out)
        have p745 : 0 ≤ (x5_1 : Int) := of_decide_eq_true (by first | (with_reducible assumption) | assumption)
        have q745 : x5_1 < (l0.length : Int) := of_decide_eq_true (by first | (with_reducible assumption) | assumption)
        obtain ⟨ad745, A745_13, c745_13, e745, hx745_0, hx745_1, hx745_2, hx745_3, hx745_4, hx745_5, hx745_6, hx745_7, hx745_8, hx745_9, hx745_10, hx745_11, hx745_12, hx745_13, hl745_13, hi745_13⟩ := at_T77 HR0.out x5_1 p745 q745
        have hw745_13 := hx745_13
        have hw745_12 := hx745_12
        have hw745_11 := hx745_11
        have hw745_10 := hx745_10
        have hw745_9 := hx745_9
        have hw745_8 := hx745_8
        have hw745_7 := hx745_7
        have hw745_6 := hx745_6
        have hw745_5 := hx745_5
        have hw745_4 := hx745_4
        have hw745_3 := hx745_3
        have hw745_2 := hx745_2
        have hw745_1 := hx745_1
        have hw745_0 := hx745_0
        cases e745
        replace hx745_0 := cb_ HB hx745_0
        replace hx745_1 := cb_ HB hx745_1
        replace hx745_2 := cb_ HB hx745_2
        replace hx745_3 := cb_ HB hx745_3
        replace hx745_4 := cb_ HB hx745_4
        replace hx745_5 := cb_ HB hx745_5
        replace hx745_6 := cb_ HB hx745_6
        replace hx745_7 := cb_ HB hx745_7
        replace hx745_8 := cb_ HB hx745_8
        replace hx745_9 := cb_ HB hx745_9
        replace hx745_10 := cb_ HB hx745_10
        replace hx745_11 := cb_ HB hx745_11
        replace hx745_12 := cb_ HB hx745_12
        replace hx745_13 := cb_ HB hx745_13
        have HR745_13 := Aside0.mk hi745_13
        have HC745_13 := Aside0.mk hl745_13
        clear hi745_13 hl745_13
        replace p745 := eq_true p745
        replace q745 := eq_true q745
        have p746 : 0 ≤ (x5_1 : Int) := of_decide_eq_true (by first | (with_reducible assumption) | assumption)
        have q746 : x5_1 < (l1.length : Int) := of_decide_eq_true (by first | (with_reducible assumption) | assumption)
        obtain ⟨ad746, A746_13, c746_13, e746, hx746_0, hx746_1, hx746_2, hx746_3, hx746_4, hx746_5, hx746_6, hx746_7, hx746_8, hx746_9, hx746_10, hx746_11, hx746_12, hx746_13, hl746_13, hi746_13⟩ := at_T77 HR1.out x5_1 p746 q746
        have hw746_13 := hx746_13
        have hw746_12 := hx746_12
        have hw746_11 := hx746_11
        have hw746_10 := hx746_10
        have hw746_9 := hx746_9
        have hw746_8 := hx746_8
        have hw746_7 := hx746_7
        have hw746_6 := hx746_6
        have hw746_5 := hx746_5
        have hw746_4 := hx746_4
        have hw746_3 := hx746_3
        have hw746_2 := hx746_2
        have hw746_1 := hx746_1
        have hw746_0 := hx746_0
        cases e746
        replace hx746_0 := cb_ HB hx746_0
        replace hx746_1 := cb_ HB hx746_1
        replace hx746_2 := cb_ HB hx746_2
        replace hx746_3 := cb_ HB hx746_3
        replace hx746_4 := cb_ HB hx746_4
        replace hx746_5 := cb_ HB hx746_5
        replace hx746_6 := cb_ HB hx746_6
        replace hx746_7 := cb_ HB hx746_7
        replace hx746_8 := cb_ HB hx746_8
        replace hx746_9 := cb_ HB hx746_9
        replace hx746_10 := cb_ HB hx746_10
        replace hx746_11 := cb_ HB hx746_11
        replace hx746_12 := cb_ HB hx746_12
        replace hx746_13 := cb_ HB hx746_13
        have HR746_13 := Aside0.mk hi746_13
        have HC746_13 := Aside0.mk hl746_13
        clear hi746_13 hl746_13
        replace p746 := eq_true p746
        replace q746 := eq_true q746
        refine start_ (n := 10) (S := fun w' => w'.cell? (ad745.add ((x5_1).toNat * 14)) = some (.int .i64 ((rd_T77 l0 x5_1).f0.f0)) ∧ w'.cell? ⟨(ad745.add ((x5_1).toNat * 14)).block, (ad745.add ((x5_1).toNat * 14)).off + 1, none⟩ = some (.int .i64 ((rd_T77 l0 x5_1).f0.f1.f0)) ∧ w'.cell? ⟨(ad745.add ((x5_1).toNat * 14)).block, (ad745.add ((x5_1).toNat * 14)).off + 2, none⟩ = some (.int .i64 ((rd_T77 l0 x5_1).f0.f1.f1)) ∧ w'.cell? ⟨(ad745.add ((x5_1).toNat * 14)).block, (ad745.add ((x5_1).toNat * 14)).off + 3, none⟩ = some (.int .i64 ((rd_T77 l0 x5_1).f0.f2)) ∧ w'.cell? ⟨(ad745.add ((x5_1).toNat * 14)).block, (ad745.add ((x5_1).toNat * 14)).off + 4, none⟩ = some (.int .i64 ((rd_T77 l0 x5_1).f0.f3.f0)) ∧ w'.cell? ⟨(ad745.add ((x5_1).toNat * 14)).block, (ad745.add ((x5_1).toNat * 14)).off + 5, none⟩ = some (.int .i64 ((rd_T77 l0 x5_1).f0.f3.f1)) ∧ w'.cell? ⟨(ad745.add ((x5_1).toNat * 14)).block, (ad745.add ((x5_1).toNat * 14)).off + 6, none⟩ = some (.int .i64 ((rd_T77 l0 x5_1).f0.f4.f0)) ∧ w'.cell? ⟨(ad745.add ((x5_1).toNat * 14)).block, (ad745.add ((x5_1).toNat * 14)).off + 7, none⟩ = some (.int .i64 ((rd_T77 l0 x5_1).f0.f4.f1)) ∧ w'.cell? ⟨(ad745.add ((x5_1).toNat * 14)).block, (ad745.add ((x5_1).toNat * 14)).off + 8, none⟩ = some (.int .i64 ((rd_T77 l0 x5_1).f0.f5)) ∧ w'.cell? ⟨(ad745.add ((x5_1).toNat * 14)).block, (ad745.add ((x5_1).toNat * 14)).off + 9, none⟩ = some (.int .i64 ((rd_T77 l0 x5_1).f0.f6)) ∧ w'.cell? ⟨(ad745.add ((x5_1).toNat * 14)).block, (ad745.add ((x5_1).toNat * 14)).off + 10, none⟩ = some (.int .i64 ((rd_T77 l0 x5_1).f1.f0.f0)) ∧ w'.cell? ⟨(ad745.add ((x5_1).toNat * 14)).block, (ad745.add ((x5_1).toNat * 14)).off + 11, none⟩ = some (.int .i64 ((rd_T77 l0 x5_1).f1.f0.f1)) ∧ w'.cell? ⟨(ad745.add ((x5_1).toNat * 14)).block, (ad745.add ((x5_1).toNat * 14)).off + 12, none⟩ = some (.int .i64 ((rd_T77 l0 x5_1).f1.f1)) ∧ w'.cell? ⟨(ad745.add ((x5_1).toNat * 14)).block, (ad745.add ((x5_1).toNat * 14)).off + 13, none⟩ = some (.slice A745_13 ((rd_T77 l0 x5_1).f2).length c745_13) ∧ w'.cell? (ad746.add ((x5_1).toNat * 14)) = some (.int .i64 ((rd_T77 l1 x5_1).f0.f0)) ∧ w'.cell? ⟨(ad746.add ((x5_1).toNat * 14)).block, (ad746.add ((x5_1).toNat * 14)).off + 1, none⟩ = some (.int .i64 ((rd_T77 l1 x5_1).f0.f1.f0)) ∧ w'.cell? ⟨(ad746.add ((x5_1).toNat * 14)).block, (ad746.add ((x5_1).toNat * 14)).off + 2, none⟩ = some (.int .i64 ((rd_T77 l1 x5_1).f0.f1.f1)) ∧ w'.cell? ⟨(ad746.add ((x5_1).toNat * 14)).block, (ad746.add ((x5_1).toNat * 14)).off + 3, none⟩ = some (.int .i64 ((rd_T77 l1 x5_1).f0.f2)) ∧ w'.cell? ⟨(ad746.add ((x5_1).toNat * 14)).block, (ad746.add ((x5_1).toNat * 14)).off + 4, none⟩ = some (.int .i64 ((rd_T77 l1 x5_1).f0.f3.f0)) ∧ w'.cell? ⟨(ad746.add ((x5_1).toNat * 14)).block, (ad746.add ((x5_1).toNat * 14)).off + 5, none⟩ = some (.int .i64 ((rd_T77 l1 x5_1).f0.f3.f1)) ∧ w'.cell? ⟨(ad746.add ((x5_1).toNat * 14)).block, (ad746.add ((x5_1).toNat * 14)).off + 6, none⟩ = some (.int .i64 ((rd_T77 l1 x5_1).f0.f4.f0)) ∧ w'.cell? ⟨(ad746.add ((x5_1).toNat * 14)).block, (ad746.add ((x5_1).toNat * 14)).off + 7, none⟩ = some (.int .i64 ((rd_T77 l1 x5_1).f0.f4.f1)) ∧ w'.cell? ⟨(ad746.add ((x5_1).toNat * 14)).block, (ad746.add ((x5_1).toNat * 14)).off + 8, none⟩ = some (.int .i64 ((rd_T77 l1 x5_1).f0.f5)) ∧ w'.cell? ⟨(ad746.add ((x5_1).toNat * 14)).block, (ad746.add ((x5_1).toNat * 14)).off + 9, none⟩ = some (.int .i64 ((rd_T77 l1 x5_1).f0.f6)) ∧ w'.cell? ⟨(ad746.add ((x5_1).toNat * 14)).block, (ad746.add ((x5_1).toNat * 14)).off + 10, none⟩ = some (.int .i64 ((rd_T77 l1 x5_1).f1.f0.f0)) ∧ w'.cell? ⟨(ad746.add ((x5_1).toNat * 14)).block, (ad746.add ((x5_1).toNat * 14)).off + 11, none⟩ = some (.int .i64 ((rd_T77 l1 x5_1).f1.f0.f1)) ∧ w'.cell? ⟨(ad746.add ((x5_1).toNat * 14)).block, (ad746.add ((x5_1).toNat * 14)).off + 12, none⟩ = some (.int .i64 ((rd_T77 l1 x5_1).f1.f1)) ∧ w'.cell? ⟨(ad746.add ((x5_1).toNat * 14)).block, (ad746.add ((x5_1).toNat * 14)).off + 13, none⟩ = some (.slice A746_13 ((rd_T77 l1 x5_1).f2).length c746_13)) (ds := []) #[false, false, false, false, false, false, false, false, false, false] (by kernel_rfl) rfl rfl ⟨((HB.out.cell (World.block_lt_of_cell? w _ hw745_0)).trans hw745_0), ((HB.out.cell (World.block_lt_of_cell? w _ hw745_1)).trans hw745_1), ((HB.out.cell (World.block_lt_of_cell? w _ hw745_2)).trans hw745_2), ((HB.out.cell (World.block_lt_of_cell? w _ hw745_3)).trans hw745_3), ((HB.out.cell (World.block_lt_of_cell? w _ hw745_4)).trans hw745_4), ((HB.out.cell (World.block_lt_of_cell? w _ hw745_5)).trans hw745_5), ((HB.out.cell (World.block_lt_of_cell? w _ hw745_6)).trans hw745_6), ((HB.out.cell (World.block_lt_of_cell? w _ hw745_7)).trans hw745_7), ((HB.out.cell (World.block_lt_of_cell? w _ hw745_8)).trans hw745_8), ((HB.out.cell (World.block_lt_of_cell? w _ hw745_9)).trans hw745_9), ((HB.out.cell (World.block_lt_of_cell? w _ hw745_10)).trans hw745_10), ((HB.out.cell (World.block_lt_of_cell? w _ hw745_11)).trans hw745_11), ((HB.out.cell (World.block_lt_of_cell? w _ hw745_12)).trans hw745_12), ((HB.out.cell (World.block_lt_of_cell? w _ hw745_13)).trans hw745_13), ((HB.out.cell (World.block_lt_of_cell? w _ hw746_0)).trans hw746_0), ((HB.out.cell (World.block_lt_of_cell? w _ hw746_1)).trans hw746_1), ((HB.out.cell (World.block_lt_of_cell? w _ hw746_2)).trans hw746_2), ((HB.out.cell (World.block_lt_of_cell? w _ hw746_3)).trans hw746_3), ((HB.out.cell (World.block_lt_of_cell? w _ hw746_4)).trans hw746_4), ((HB.out.cell (World.block_lt_of_cell? w _ hw746_5)).trans hw746_5), ((HB.out.cell (World.block_lt_of_cell? w _ hw746_6)).trans hw746_6), ((HB.out.cell (World.block_lt_of_cell? w _ hw746_7)).trans hw746_7), ((HB.out.cell (World.block_lt_of_cell? w _ hw746_8)).trans hw746_8), ((HB.out.cell (World.block_lt_of_cell? w _ hw746_9)).trans hw746_9), ((HB.out.cell (World.block_lt_of_cell? w _ hw746_10)).trans hw746_10), ((HB.out.cell (World.block_lt_of_cell? w _ hw746_11)).trans hw746_11), ((HB.out.cell (World.block_lt_of_cell? w _ hw746_12)).trans hw746_12), ((HB.out.cell (World.block_lt_of_cell? w _ hw746_13)).trans hw746_13)⟩ (fun hHeld => ?_); refine with_tabW laws_eqStepS.tab6 laws_eqStepS.bits6 (fun HT_ HW_ => ?_)
        generalize wr.drew = w9 at HB HR745_13 HR746_13 hx745_0 hx745_1 hx745_10 hx745_11 hx745_12 hx745_13 hx745_2 hx745_3 hx745_4 hx745_5 hx745_6 hx745_7 hx745_8 hx745_9 hx746_0 hx746_1 hx746_10 hx746_11 hx746_12 hx746_13 hx746_2 hx746_3 hx746_4 hx746_5 hx746_6 hx746_7 hx746_8 hx746_9 hHeld ⊢
        refine pureZ_ (i := 0) (some 17) #[true, false, false, false, false, false, false, false, false, false] (any_of HT_.out (by kernel_rfl)) ?_
        refine pureZ_ (i := 1) (some 18) #[true, true, false, false, false, false, false, false, false, false] (any_of HT_.out (by kernel_rfl)) ?_
        refine pureZ_ (i := 2) (some 19) #[true, true, true, false, false, false, false, false, false, false] (any_of HT_.out (by kernel_rfl)) ?_
        refine pureZ_ (i := 4) (some 21) #[true, true, true, false, true, false, false, false, false, false] (any_of HT_.out (by kernel_rfl)) ?_
        refine pureZ_ (i := 5) (some 22) #[true, true, true, false, true, true, false, false, false, false] (any_of HT_.out (by kernel_rfl)) ?_
        refine pureZ_ (i := 6) (some 23) #[true, true, true, false, true, true, true, false, false, false] (any_of HT_.out (by kernel_rfl)) ?_
        refine takeZ_ (i := 3) (some 20) #[true, true, true, true, true, true, true, false, false, false] (take_ofW HT_.out HW_.out (by kernel_rfl)) hHeld ?_
        refine takeZ_ (i := 7) (some 24) #[true, true, true, true, true, true, true, true, false, false] (take_ofW HT_.out HW_.out (by kernel_rfl)) hHeld ?_
        refine one_ (i := 8) (N := some 25) #[true, true, true, true, true, true, true, true, true, false] rfl rfl (one_of HT_.out (by kernel_rfl)) (by decide) (fun K hK => ?_)
        refine goes_ Try.func48 (by kernel_rfl) rfl #[.agg #[.int .i64 ((rd_T77 l0 x5_1).f0.f0), .int .i64 ((rd_T77 l0 x5_1).f0.f1.f0), .int .i64 ((rd_T77 l0 x5_1).f0.f1.f1), .int .i64 ((rd_T77 l0 x5_1).f0.f2), .int .i64 ((rd_T77 l0 x5_1).f0.f3.f0), .int .i64 ((rd_T77 l0 x5_1).f0.f3.f1), .int .i64 ((rd_T77 l0 x5_1).f0.f4.f0), .int .i64 ((rd_T77 l0 x5_1).f0.f4.f1), .int .i64 ((rd_T77 l0 x5_1).f0.f5), .int .i64 ((rd_T77 l0 x5_1).f0.f6), .int .i64 ((rd_T77 l0 x5_1).f1.f0.f0), .int .i64 ((rd_T77 l0 x5_1).f1.f0.f1), .int .i64 ((rd_T77 l0 x5_1).f1.f1), .slice A745_13 ((rd_T77 l0 x5_1).f2).length c745_13], .agg #[.int .i64 ((rd_T77 l1 x5_1).f0.f0), .int .i64 ((rd_T77 l1 x5_1).f0.f1.f0), .int .i64 ((rd_T77 l1 x5_1).f0.f1.f1), .int .i64 ((rd_T77 l1 x5_1).f0.f2), .int .i64 ((rd_T77 l1 x5_1).f0.f3.f0), .int .i64 ((rd_T77 l1 x5_1).f0.f3.f1), .int .i64 ((rd_T77 l1 x5_1).f0.f4.f0), .int .i64 ((rd_T77 l1 x5_1).f0.f4.f1), .int .i64 ((rd_T77 l1 x5_1).f0.f5), .int .i64 ((rd_T77 l1 x5_1).f0.f6), .int .i64 ((rd_T77 l1 x5_1).f1.f0.f0), .int .i64 ((rd_T77 l1 x5_1).f1.f0.f1), .int .i64 ((rd_T77 l1 x5_1).f1.f1), .slice A746_13 ((rd_T77 l1 x5_1).f2).length c746_13]] (by rfl) rfl rfl (by (try simp only [List.map_toArray, List.map_cons, List.map_nil]); first | done | rfl | (simp only [List.length_drop, List.length_take]; rfl)) ?_
        with_reducible refine (laws_eqStep.calls k1 ((rd_T77 l0 x5_1).f0.f0) ((rd_T77 l0 x5_1).f0.f1.f0) ((rd_T77 l0 x5_1).f0.f1.f1) ((rd_T77 l0 x5_1).f0.f2) ((rd_T77 l0 x5_1).f0.f3.f0) ((rd_T77 l0 x5_1).f0.f3.f1) ((rd_T77 l0 x5_1).f0.f4.f0) ((rd_T77 l0 x5_1).f0.f4.f1) ((rd_T77 l0 x5_1).f0.f5) ((rd_T77 l0 x5_1).f0.f6) ((rd_T77 l0 x5_1).f1.f0.f0) ((rd_T77 l0 x5_1).f1.f0.f1) ((rd_T77 l0 x5_1).f1.f1) _ _ ((rd_T77 l0 x5_1).f2) ((rd_T77 l1 x5_1).f0.f0) ((rd_T77 l1 x5_1).f0.f1.f0) ((rd_T77 l1 x5_1).f0.f1.f1) ((rd_T77 l1 x5_1).f0.f2) ((rd_T77 l1 x5_1).f0.f3.f0) ((rd_T77 l1 x5_1).f0.f3.f1) ((rd_T77 l1 x5_1).f0.f4.f0) ((rd_T77 l1 x5_1).f0.f4.f1) ((rd_T77 l1 x5_1).f0.f5) ((rd_T77 l1 x5_1).f0.f6) ((rd_T77 l1 x5_1).f1.f0.f0) ((rd_T77 l1 x5_1).f1.f0.f1) ((rd_T77 l1 x5_1).f1.f1) _ _ ((rd_T77 l1 x5_1).f2) true _ ?side1 ?side2 ?side3 ?side4 A7.out).mono ?_
        (case side1 => repeat (first | exact (Kd.C_below HR745_13.out HB.out) | (with_reducible refine Kd.C_alloc ?_ _) | (with_reducible refine Kd.C_drewN ?_ _) | (with_reducible refine Kd.C_drew ?_)))
        (case side2 => exact HC745_13.out)
        (case side3 => repeat (first | exact (Kd.C_below HR746_13.out HB.out) | (with_reducible refine Kd.C_alloc ?_ _) | (with_reducible refine Kd.C_drewN ?_ _) | (with_reducible refine Kd.C_drew ?_)))
        (case side4 => exact HC746_13.out)
        rintro e w10 ⟨rfl, hb⟩
        refine ⟨_, rfl, ?_⟩
        replace HB := hbs_ hb
        (try clear hb)
        (try clear hb2)
        (try clear hk)
        (try clear hi)
        refine hK.out _ _ ⟨((HB.out.cell (World.block_lt_of_cell? w _ hw745_0)).trans hw745_0), ((HB.out.cell (World.block_lt_of_cell? w _ hw745_1)).trans hw745_1), ((HB.out.cell (World.block_lt_of_cell? w _ hw745_2)).trans hw745_2), ((HB.out.cell (World.block_lt_of_cell? w _ hw745_3)).trans hw745_3), ((HB.out.cell (World.block_lt_of_cell? w _ hw745_4)).trans hw745_4), ((HB.out.cell (World.block_lt_of_cell? w _ hw745_5)).trans hw745_5), ((HB.out.cell (World.block_lt_of_cell? w _ hw745_6)).trans hw745_6), ((HB.out.cell (World.block_lt_of_cell? w _ hw745_7)).trans hw745_7), ((HB.out.cell (World.block_lt_of_cell? w _ hw745_8)).trans hw745_8), ((HB.out.cell (World.block_lt_of_cell? w _ hw745_9)).trans hw745_9), ((HB.out.cell (World.block_lt_of_cell? w _ hw745_10)).trans hw745_10), ((HB.out.cell (World.block_lt_of_cell? w _ hw745_11)).trans hw745_11), ((HB.out.cell (World.block_lt_of_cell? w _ hw745_12)).trans hw745_12), ((HB.out.cell (World.block_lt_of_cell? w _ hw745_13)).trans hw745_13), ((HB.out.cell (World.block_lt_of_cell? w _ hw746_0)).trans hw746_0), ((HB.out.cell (World.block_lt_of_cell? w _ hw746_1)).trans hw746_1), ((HB.out.cell (World.block_lt_of_cell? w _ hw746_2)).trans hw746_2), ((HB.out.cell (World.block_lt_of_cell? w _ hw746_3)).trans hw746_3), ((HB.out.cell (World.block_lt_of_cell? w _ hw746_4)).trans hw746_4), ((HB.out.cell (World.block_lt_of_cell? w _ hw746_5)).trans hw746_5), ((HB.out.cell (World.block_lt_of_cell? w _ hw746_6)).trans hw746_6), ((HB.out.cell (World.block_lt_of_cell? w _ hw746_7)).trans hw746_7), ((HB.out.cell (World.block_lt_of_cell? w _ hw746_8)).trans hw746_8), ((HB.out.cell (World.block_lt_of_cell? w _ hw746_9)).trans hw746_9), ((HB.out.cell (World.block_lt_of_cell? w _ hw746_10)).trans hw746_10), ((HB.out.cell (World.block_lt_of_cell? w _ hw746_11)).trans hw746_11), ((HB.out.cell (World.block_lt_of_cell? w _ hw746_12)).trans hw746_12), ((HB.out.cell (World.block_lt_of_cell? w _ hw746_13)).trans hw746_13)⟩ (fun hHeld => ?_)
        clear hK K
        refine norm_ (a' := ?_) ?_ ?_
        rotate_left
        ·show Act.put _ (some 25) _ = _
         simp only [Act.put, List.setIfInBounds_toArray, List.set_cons_zero, List.set_cons_succ, i64_w, i32_w]
         rfl
        refine pureZ_ (i := 9) (some 26) #[true, true, true, true, true, true, true, true, true, true] (any_of HT_.out (by kernel_rfl)) ?_
        refine done_ (done_of HT_.out (by kernel_rfl)) ?_
        try go_wp2
        go_roundg k1
        case measure => have := HK1.out; omega
        case rel => exact ⟨(wrap64 (x5_1 + 1)), (by first | rfl | (simp; done) | (simp [*]; done)), H', ⟨by have := HK1.out; omega⟩, ⟨bl_⟩⟩
       ·replace c8 := Bool.eq_false_iff.mpr c8
        subst c8
        replace H := ite_f_ H
        obtain rfl := Option.some.inj H
        try go_wp2
        replace HB := Aside0.mk (below_drew1 HB.out)
        have p745 : 0 ≤ (x5_1 : Int) := of_decide_eq_true (by first | (with_reducible assumption) | assumption)
        have q745 : x5_1 < (l0.length : Int) := of_decide_eq_true (by first | (with_reducible assumption) | assumption)
        obtain ⟨ad745, A745_13, c745_13, e745, hx745_0, hx745_1, hx745_2, hx745_3, hx745_4, hx745_5, hx745_6, hx745_7, hx745_8, hx745_9, hx745_10, hx745_11, hx745_12, hx745_13, hl745_13, hi745_13⟩ := at_T77 HR0.out x5_1 p745 q745
        have hw745_13 := hx745_13
        have hw745_12 := hx745_12
        have hw745_11 := hx745_11
        have hw745_10 := hx745_10
        have hw745_9 := hx745_9
        have hw745_8 := hx745_8
        have hw745_7 := hx745_7
        have hw745_6 := hx745_6
        have hw745_5 := hx745_5
        have hw745_4 := hx745_4
        have hw745_3 := hx745_3
        have hw745_2 := hx745_2
        have hw745_1 := hx745_1
        have hw745_0 := hx745_0
        cases e745
        replace hx745_0 := cb_ HB hx745_0
        replace hx745_1 := cb_ HB hx745_1
        replace hx745_2 := cb_ HB hx745_2
        replace hx745_3 := cb_ HB hx745_3
        replace hx745_4 := cb_ HB hx745_4
        replace hx745_5 := cb_ HB hx745_5
        replace hx745_6 := cb_ HB hx745_6
        replace hx745_7 := cb_ HB hx745_7
        replace hx745_8 := cb_ HB hx745_8
        replace hx745_9 := cb_ HB hx745_9
        replace hx745_10 := cb_ HB hx745_10
        replace hx745_11 := cb_ HB hx745_11
        replace hx745_12 := cb_ HB hx745_12
        replace hx745_13 := cb_ HB hx745_13
        have HR745_13 := Aside0.mk hi745_13
        have HC745_13 := Aside0.mk hl745_13
        clear hi745_13 hl745_13
        replace p745 := eq_true p745
        replace q745 := eq_true q745
        have p746 : 0 ≤ (x5_1 : Int) := of_decide_eq_true (by first | (with_reducible assumption) | assumption)
        have q746 : x5_1 < (l1.length : Int) := of_decide_eq_true (by first | (with_reducible assumption) | assumption)
        obtain ⟨ad746, A746_13, c746_13, e746, hx746_0, hx746_1, hx746_2, hx746_3, hx746_4, hx746_5, hx746_6, hx746_7, hx746_8, hx746_9, hx746_10, hx746_11, hx746_12, hx746_13, hl746_13, hi746_13⟩ := at_T77 HR1.out x5_1 p746 q746
        have hw746_13 := hx746_13
        have hw746_12 := hx746_12
        have hw746_11 := hx746_11
        have hw746_10 := hx746_10
        have hw746_9 := hx746_9
        have hw746_8 := hx746_8
        have hw746_7 := hx746_7
        have hw746_6 := hx746_6
        have hw746_5 := hx746_5
        have hw746_4 := hx746_4
        have hw746_3 := hx746_3
        have hw746_2 := hx746_2
        have hw746_1 := hx746_1
        have hw746_0 := hx746_0
        cases e746
        replace hx746_0 := cb_ HB hx746_0
        replace hx746_1 := cb_ HB hx746_1
        replace hx746_2 := cb_ HB hx746_2
        replace hx746_3 := cb_ HB hx746_3
        replace hx746_4 := cb_ HB hx746_4
        replace hx746_5 := cb_ HB hx746_5
        replace hx746_6 := cb_ HB hx746_6
        replace hx746_7 := cb_ HB hx746_7
        replace hx746_8 := cb_ HB hx746_8
        replace hx746_9 := cb_ HB hx746_9
        replace hx746_10 := cb_ HB hx746_10
        replace hx746_11 := cb_ HB hx746_11
        replace hx746_12 := cb_ HB hx746_12
        replace hx746_13 := cb_ HB hx746_13
        have HR746_13 := Aside0.mk hi746_13
        have HC746_13 := Aside0.mk hl746_13
        clear hi746_13 hl746_13
        replace p746 := eq_true p746
        replace q746 := eq_true q746
        refine start_ (n := 10) (S := fun w' => w'.cell? (ad745.add ((x5_1).toNat * 14)) = some (.int .i64 ((rd_T77 l0 x5_1).f0.f0)) ∧ w'.cell? ⟨(ad745.add ((x5_1).toNat * 14)).block, (ad745.add ((x5_1).toNat * 14)).off + 1, none⟩ = some (.int .i64 ((rd_T77 l0 x5_1).f0.f1.f0)) ∧ w'.cell? ⟨(ad745.add ((x5_1).toNat * 14)).block, (ad745.add ((x5_1).toNat * 14)).off + 2, none⟩ = some (.int .i64 ((rd_T77 l0 x5_1).f0.f1.f1)) ∧ w'.cell? ⟨(ad745.add ((x5_1).toNat * 14)).block, (ad745.add ((x5_1).toNat * 14)).off + 3, none⟩ = some (.int .i64 ((rd_T77 l0 x5_1).f0.f2)) ∧ w'.cell? ⟨(ad745.add ((x5_1).toNat * 14)).block, (ad745.add ((x5_1).toNat * 14)).off + 4, none⟩ = some (.int .i64 ((rd_T77 l0 x5_1).f0.f3.f0)) ∧ w'.cell? ⟨(ad745.add ((x5_1).toNat * 14)).block, (ad745.add ((x5_1).toNat * 14)).off + 5, none⟩ = some (.int .i64 ((rd_T77 l0 x5_1).f0.f3.f1)) ∧ w'.cell? ⟨(ad745.add ((x5_1).toNat * 14)).block, (ad745.add ((x5_1).toNat * 14)).off + 6, none⟩ = some (.int .i64 ((rd_T77 l0 x5_1).f0.f4.f0)) ∧ w'.cell? ⟨(ad745.add ((x5_1).toNat * 14)).block, (ad745.add ((x5_1).toNat * 14)).off + 7, none⟩ = some (.int .i64 ((rd_T77 l0 x5_1).f0.f4.f1)) ∧ w'.cell? ⟨(ad745.add ((x5_1).toNat * 14)).block, (ad745.add ((x5_1).toNat * 14)).off + 8, none⟩ = some (.int .i64 ((rd_T77 l0 x5_1).f0.f5)) ∧ w'.cell? ⟨(ad745.add ((x5_1).toNat * 14)).block, (ad745.add ((x5_1).toNat * 14)).off + 9, none⟩ = some (.int .i64 ((rd_T77 l0 x5_1).f0.f6)) ∧ w'.cell? ⟨(ad745.add ((x5_1).toNat * 14)).block, (ad745.add ((x5_1).toNat * 14)).off + 10, none⟩ = some (.int .i64 ((rd_T77 l0 x5_1).f1.f0.f0)) ∧ w'.cell? ⟨(ad745.add ((x5_1).toNat * 14)).block, (ad745.add ((x5_1).toNat * 14)).off + 11, none⟩ = some (.int .i64 ((rd_T77 l0 x5_1).f1.f0.f1)) ∧ w'.cell? ⟨(ad745.add ((x5_1).toNat * 14)).block, (ad745.add ((x5_1).toNat * 14)).off + 12, none⟩ = some (.int .i64 ((rd_T77 l0 x5_1).f1.f1)) ∧ w'.cell? ⟨(ad745.add ((x5_1).toNat * 14)).block, (ad745.add ((x5_1).toNat * 14)).off + 13, none⟩ = some (.slice A745_13 ((rd_T77 l0 x5_1).f2).length c745_13) ∧ w'.cell? (ad746.add ((x5_1).toNat * 14)) = some (.int .i64 ((rd_T77 l1 x5_1).f0.f0)) ∧ w'.cell? ⟨(ad746.add ((x5_1).toNat * 14)).block, (ad746.add ((x5_1).toNat * 14)).off + 1, none⟩ = some (.int .i64 ((rd_T77 l1 x5_1).f0.f1.f0)) ∧ w'.cell? ⟨(ad746.add ((x5_1).toNat * 14)).block, (ad746.add ((x5_1).toNat * 14)).off + 2, none⟩ = some (.int .i64 ((rd_T77 l1 x5_1).f0.f1.f1)) ∧ w'.cell? ⟨(ad746.add ((x5_1).toNat * 14)).block, (ad746.add ((x5_1).toNat * 14)).off + 3, none⟩ = some (.int .i64 ((rd_T77 l1 x5_1).f0.f2)) ∧ w'.cell? ⟨(ad746.add ((x5_1).toNat * 14)).block, (ad746.add ((x5_1).toNat * 14)).off + 4, none⟩ = some (.int .i64 ((rd_T77 l1 x5_1).f0.f3.f0)) ∧ w'.cell? ⟨(ad746.add ((x5_1).toNat * 14)).block, (ad746.add ((x5_1).toNat * 14)).off + 5, none⟩ = some (.int .i64 ((rd_T77 l1 x5_1).f0.f3.f1)) ∧ w'.cell? ⟨(ad746.add ((x5_1).toNat * 14)).block, (ad746.add ((x5_1).toNat * 14)).off + 6, none⟩ = some (.int .i64 ((rd_T77 l1 x5_1).f0.f4.f0)) ∧ w'.cell? ⟨(ad746.add ((x5_1).toNat * 14)).block, (ad746.add ((x5_1).toNat * 14)).off + 7, none⟩ = some (.int .i64 ((rd_T77 l1 x5_1).f0.f4.f1)) ∧ w'.cell? ⟨(ad746.add ((x5_1).toNat * 14)).block, (ad746.add ((x5_1).toNat * 14)).off + 8, none⟩ = some (.int .i64 ((rd_T77 l1 x5_1).f0.f5)) ∧ w'.cell? ⟨(ad746.add ((x5_1).toNat * 14)).block, (ad746.add ((x5_1).toNat * 14)).off + 9, none⟩ = some (.int .i64 ((rd_T77 l1 x5_1).f0.f6)) ∧ w'.cell? ⟨(ad746.add ((x5_1).toNat * 14)).block, (ad746.add ((x5_1).toNat * 14)).off + 10, none⟩ = some (.int .i64 ((rd_T77 l1 x5_1).f1.f0.f0)) ∧ w'.cell? ⟨(ad746.add ((x5_1).toNat * 14)).block, (ad746.add ((x5_1).toNat * 14)).off + 11, none⟩ = some (.int .i64 ((rd_T77 l1 x5_1).f1.f0.f1)) ∧ w'.cell? ⟨(ad746.add ((x5_1).toNat * 14)).block, (ad746.add ((x5_1).toNat * 14)).off + 12, none⟩ = some (.int .i64 ((rd_T77 l1 x5_1).f1.f1)) ∧ w'.cell? ⟨(ad746.add ((x5_1).toNat * 14)).block, (ad746.add ((x5_1).toNat * 14)).off + 13, none⟩ = some (.slice A746_13 ((rd_T77 l1 x5_1).f2).length c746_13)) (ds := []) #[false, false, false, false, false, false, false, false, false, false] (by kernel_rfl) rfl rfl ⟨((HB.out.cell (World.block_lt_of_cell? w _ hw745_0)).trans hw745_0), ((HB.out.cell (World.block_lt_of_cell? w _ hw745_1)).trans hw745_1), ((HB.out.cell (World.block_lt_of_cell? w _ hw745_2)).trans hw745_2), ((HB.out.cell (World.block_lt_of_cell? w _ hw745_3)).trans hw745_3), ((HB.out.cell (World.block_lt_of_cell? w _ hw745_4)).trans hw745_4), ((HB.out.cell (World.block_lt_of_cell? w _ hw745_5)).trans hw745_5), ((HB.out.cell (World.block_lt_of_cell? w _ hw745_6)).trans hw745_6), ((HB.out.cell (World.block_lt_of_cell? w _ hw745_7)).trans hw745_7), ((HB.out.cell (World.block_lt_of_cell? w _ hw745_8)).trans hw745_8), ((HB.out.cell (World.block_lt_of_cell? w _ hw745_9)).trans hw745_9), ((HB.out.cell (World.block_lt_of_cell? w _ hw745_10)).trans hw745_10), ((HB.out.cell (World.block_lt_of_cell? w _ hw745_11)).trans hw745_11), ((HB.out.cell (World.block_lt_of_cell? w _ hw745_12)).trans hw745_12), ((HB.out.cell (World.block_lt_of_cell? w _ hw745_13)).trans hw745_13), ((HB.out.cell (World.block_lt_of_cell? w _ hw746_0)).trans hw746_0), ((HB.out.cell (World.block_lt_of_cell? w _ hw746_1)).trans hw746_1), ((HB.out.cell (World.block_lt_of_cell? w _ hw746_2)).trans hw746_2), ((HB.out.cell (World.block_lt_of_cell? w _ hw746_3)).trans hw746_3), ((HB.out.cell (World.block_lt_of_cell? w _ hw746_4)).trans hw746_4), ((HB.out.cell (World.block_lt_of_cell? w _ hw746_5)).trans hw746_5), ((HB.out.cell (World.block_lt_of_cell? w _ hw746_6)).trans hw746_6), ((HB.out.cell (World.block_lt_of_cell? w _ hw746_7)).trans hw746_7), ((HB.out.cell (World.block_lt_of_cell? w _ hw746_8)).trans hw746_8), ((HB.out.cell (World.block_lt_of_cell? w _ hw746_9)).trans hw746_9), ((HB.out.cell (World.block_lt_of_cell? w _ hw746_10)).trans hw746_10), ((HB.out.cell (World.block_lt_of_cell? w _ hw746_11)).trans hw746_11), ((HB.out.cell (World.block_lt_of_cell? w _ hw746_12)).trans hw746_12), ((HB.out.cell (World.block_lt_of_cell? w _ hw746_13)).trans hw746_13)⟩ (fun hHeld => ?_); refine with_tabW laws_eqStepS.tab6 laws_eqStepS.bits6 (fun HT_ HW_ => ?_)
        generalize wr.drew = w11 at HB HR745_13 HR746_13 hx745_0 hx745_1 hx745_10 hx745_11 hx745_12 hx745_13 hx745_2 hx745_3 hx745_4 hx745_5 hx745_6 hx745_7 hx745_8 hx745_9 hx746_0 hx746_1 hx746_10 hx746_11 hx746_12 hx746_13 hx746_2 hx746_3 hx746_4 hx746_5 hx746_6 hx746_7 hx746_8 hx746_9 hHeld ⊢
        refine pureZ_ (i := 0) (some 17) #[true, false, false, false, false, false, false, false, false, false] (any_of HT_.out (by kernel_rfl)) ?_
        refine pureZ_ (i := 1) (some 18) #[true, true, false, false, false, false, false, false, false, false] (any_of HT_.out (by kernel_rfl)) ?_
        refine pureZ_ (i := 2) (some 19) #[true, true, true, false, false, false, false, false, false, false] (any_of HT_.out (by kernel_rfl)) ?_
        refine pureZ_ (i := 4) (some 21) #[true, true, true, false, true, false, false, false, false, false] (any_of HT_.out (by kernel_rfl)) ?_
        refine pureZ_ (i := 5) (some 22) #[true, true, true, false, true, true, false, false, false, false] (any_of HT_.out (by kernel_rfl)) ?_
        refine pureZ_ (i := 6) (some 23) #[true, true, true, false, true, true, true, false, false, false] (any_of HT_.out (by kernel_rfl)) ?_
        refine takeZ_ (i := 3) (some 20) #[true, true, true, true, true, true, true, false, false, false] (take_ofW HT_.out HW_.out (by kernel_rfl)) hHeld ?_
        refine takeZ_ (i := 7) (some 24) #[true, true, true, true, true, true, true, true, false, false] (take_ofW HT_.out HW_.out (by kernel_rfl)) hHeld ?_
        refine one_ (i := 8) (N := some 25) #[true, true, true, true, true, true, true, true, true, false] rfl rfl (one_of HT_.out (by kernel_rfl)) (by decide) (fun K hK => ?_)
        refine goes_ Try.func48 (by kernel_rfl) rfl #[.agg #[.int .i64 ((rd_T77 l0 x5_1).f0.f0), .int .i64 ((rd_T77 l0 x5_1).f0.f1.f0), .int .i64 ((rd_T77 l0 x5_1).f0.f1.f1), .int .i64 ((rd_T77 l0 x5_1).f0.f2), .int .i64 ((rd_T77 l0 x5_1).f0.f3.f0), .int .i64 ((rd_T77 l0 x5_1).f0.f3.f1), .int .i64 ((rd_T77 l0 x5_1).f0.f4.f0), .int .i64 ((rd_T77 l0 x5_1).f0.f4.f1), .int .i64 ((rd_T77 l0 x5_1).f0.f5), .int .i64 ((rd_T77 l0 x5_1).f0.f6), .int .i64 ((rd_T77 l0 x5_1).f1.f0.f0), .int .i64 ((rd_T77 l0 x5_1).f1.f0.f1), .int .i64 ((rd_T77 l0 x5_1).f1.f1), .slice A745_13 ((rd_T77 l0 x5_1).f2).length c745_13], .agg #[.int .i64 ((rd_T77 l1 x5_1).f0.f0), .int .i64 ((rd_T77 l1 x5_1).f0.f1.f0), .int .i64 ((rd_T77 l1 x5_1).f0.f1.f1), .int .i64 ((rd_T77 l1 x5_1).f0.f2), .int .i64 ((rd_T77 l1 x5_1).f0.f3.f0), .int .i64 ((rd_T77 l1 x5_1).f0.f3.f1), .int .i64 ((rd_T77 l1 x5_1).f0.f4.f0), .int .i64 ((rd_T77 l1 x5_1).f0.f4.f1), .int .i64 ((rd_T77 l1 x5_1).f0.f5), .int .i64 ((rd_T77 l1 x5_1).f0.f6), .int .i64 ((rd_T77 l1 x5_1).f1.f0.f0), .int .i64 ((rd_T77 l1 x5_1).f1.f0.f1), .int .i64 ((rd_T77 l1 x5_1).f1.f1), .slice A746_13 ((rd_T77 l1 x5_1).f2).length c746_13]] (by rfl) rfl rfl (by (try simp only [List.map_toArray, List.map_cons, List.map_nil]); first | done | rfl | (simp only [List.length_drop, List.length_take]; rfl)) ?_
        with_reducible refine (laws_eqStep.calls k1 ((rd_T77 l0 x5_1).f0.f0) ((rd_T77 l0 x5_1).f0.f1.f0) ((rd_T77 l0 x5_1).f0.f1.f1) ((rd_T77 l0 x5_1).f0.f2) ((rd_T77 l0 x5_1).f0.f3.f0) ((rd_T77 l0 x5_1).f0.f3.f1) ((rd_T77 l0 x5_1).f0.f4.f0) ((rd_T77 l0 x5_1).f0.f4.f1) ((rd_T77 l0 x5_1).f0.f5) ((rd_T77 l0 x5_1).f0.f6) ((rd_T77 l0 x5_1).f1.f0.f0) ((rd_T77 l0 x5_1).f1.f0.f1) ((rd_T77 l0 x5_1).f1.f1) _ _ ((rd_T77 l0 x5_1).f2) ((rd_T77 l1 x5_1).f0.f0) ((rd_T77 l1 x5_1).f0.f1.f0) ((rd_T77 l1 x5_1).f0.f1.f1) ((rd_T77 l1 x5_1).f0.f2) ((rd_T77 l1 x5_1).f0.f3.f0) ((rd_T77 l1 x5_1).f0.f3.f1) ((rd_T77 l1 x5_1).f0.f4.f0) ((rd_T77 l1 x5_1).f0.f4.f1) ((rd_T77 l1 x5_1).f0.f5) ((rd_T77 l1 x5_1).f0.f6) ((rd_T77 l1 x5_1).f1.f0.f0) ((rd_T77 l1 x5_1).f1.f0.f1) ((rd_T77 l1 x5_1).f1.f1) _ _ ((rd_T77 l1 x5_1).f2) false _ ?side1 ?side2 ?side3 ?side4 A7.out).mono ?_
        (case side1 => repeat (first | exact (Kd.C_below HR745_13.out HB.out) | (with_reducible refine Kd.C_alloc ?_ _) | (with_reducible refine Kd.C_drewN ?_ _) | (with_reducible refine Kd.C_drew ?_)))
        (case side2 => exact HC745_13.out)
        (case side3 => repeat (first | exact (Kd.C_below HR746_13.out HB.out) | (with_reducible refine Kd.C_alloc ?_ _) | (with_reducible refine Kd.C_drewN ?_ _) | (with_reducible refine Kd.C_drew ?_)))
        (case side4 => exact HC746_13.out)
        rintro e w12 ⟨rfl, hb⟩
        refine ⟨_, rfl, ?_⟩
        replace HB := hbs_ hb
        (try clear hb)
        (try clear hb2)
        (try clear hk)
        (try clear hi)
        refine hK.out _ _ ⟨((HB.out.cell (World.block_lt_of_cell? w _ hw745_0)).trans hw745_0), ((HB.out.cell (World.block_lt_of_cell? w _ hw745_1)).trans hw745_1), ((HB.out.cell (World.block_lt_of_cell? w _ hw745_2)).trans hw745_2), ((HB.out.cell (World.block_lt_of_cell? w _ hw745_3)).trans hw745_3), ((HB.out.cell (World.block_lt_of_cell? w _ hw745_4)).trans hw745_4), ((HB.out.cell (World.block_lt_of_cell? w _ hw745_5)).trans hw745_5), ((HB.out.cell (World.block_lt_of_cell? w _ hw745_6)).trans hw745_6), ((HB.out.cell (World.block_lt_of_cell? w _ hw745_7)).trans hw745_7), ((HB.out.cell (World.block_lt_of_cell? w _ hw745_8)).trans hw745_8), ((HB.out.cell (World.block_lt_of_cell? w _ hw745_9)).trans hw745_9), ((HB.out.cell (World.block_lt_of_cell? w _ hw745_10)).trans hw745_10), ((HB.out.cell (World.block_lt_of_cell? w _ hw745_11)).trans hw745_11), ((HB.out.cell (World.block_lt_of_cell? w _ hw745_12)).trans hw745_12), ((HB.out.cell (World.block_lt_of_cell? w _ hw745_13)).trans hw745_13), ((HB.out.cell (World.block_lt_of_cell? w _ hw746_0)).trans hw746_0), ((HB.out.cell (World.block_lt_of_cell? w _ hw746_1)).trans hw746_1), ((HB.out.cell (World.block_lt_of_cell? w _ hw746_2)).trans hw746_2), ((HB.out.cell (World.block_lt_of_cell? w _ hw746_3)).trans hw746_3), ((HB.out.cell (World.block_lt_of_cell? w _ hw746_4)).trans hw746_4), ((HB.out.cell (World.block_lt_of_cell? w _ hw746_5)).trans hw746_5), ((HB.out.cell (World.block_lt_of_cell? w _ hw746_6)).trans hw746_6), ((HB.out.cell (World.block_lt_of_cell? w _ hw746_7)).trans hw746_7), ((HB.out.cell (World.block_lt_of_cell? w _ hw746_8)).trans hw746_8), ((HB.out.cell (World.block_lt_of_cell? w _ hw746_9)).trans hw746_9), ((HB.out.cell (World.block_lt_of_cell? w _ hw746_10)).trans hw746_10), ((HB.out.cell (World.block_lt_of_cell? w _ hw746_11)).trans hw746_11), ((HB.out.cell (World.block_lt_of_cell? w _ hw746_12)).trans hw746_12), ((HB.out.cell (World.block_lt_of_cell? w _ hw746_13)).trans hw746_13)⟩ (fun hHeld => ?_)
        clear hK K
        refine norm_ (a' := ?_) ?_ ?_
        rotate_left
        ·show Act.put _ (some 25) _ = _
         simp only [Act.put, List.setIfInBounds_toArray, List.set_cons_zero, List.set_cons_succ, i64_w, i32_w]
         rfl
        refine pureZ_ (i := 9) (some 26) #[true, true, true, true, true, true, true, true, true, true] (any_of HT_.out (by kernel_rfl)) ?_
        refine done_ (done_of HT_.out (by kernel_rfl)) ?_
        try go_wp2
        go_ret
        exact ⟨eq_, bl_⟩
      ·rw [if_neg c6] at H
       exact absurd H (by simp)
     ·rw [if_neg c5] at H
      exact absurd H (by simp)
    ·rw [if_neg c4] at H
     have c4b0 : decide (x5_1 < (l0.length : Int)) = false := decide_eq_false c4
     clear c4
     obtain rfl := Option.some.inj H
     go_wp2
     go_ret
     exact ⟨eq_, bl_⟩
 ·rw [if_neg c3] at H
  have c3b0 : ((l0.length : Int) == (l1.length : Int)) = false := beq_eq_false_iff_ne.mpr c3
  have c3b1 : ((l0.length : Int) != (l1.length : Int)) = true := bne_iff_ne.mpr c3
  have c3b2 : (l0.length == l1.length) = false := by first | simpa using c3 | (simp at c3 ⊢; omega)
  obtain rfl := Option.some.inj H
  go_enter Try.func62, Try.ntmps62
  go_wp2
  go_ret
  exact ⟨eq_, bl_⟩
end Go.Proofs.Ytcgnegnljffkmaa.PA
