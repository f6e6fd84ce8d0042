import Derived.Test.YtcgnegnljffkmaaKFnExactHoldsAtPBx0
import Derived.Test.YtcgnegnljffkmaaKFnExactHoldsAtPBx16
-- A text of this claim: written by the session's own program out of the translation (wip/tools). Lean checks it.
namespace Go.Proofs.Ytcgnegnljffkmaa.PB
open Go.RowKit Go.Proofs.YtcgnegnljffkmaaW.PrintWords Go.Proofs.YtcgnegnljffkmaaW.PrintLast Go.Proofs.YtcgnegnljffkmaaW.PrintMore
attribute [local go_sem] max2_int min2_int max_two min_two max_three min_three max_four min_four   -- for this text's walks alone
set_option linter.unusedVariables false
set_option linter.unusedSimpArgs false
def impl_FactsOf.l0 : Nat → List (S55) → List (S160) → Int → Int → Option ((List (S55)))
 | 0, _, _, _, _ => none
 | k + 1, x3, x8, x9, x10 => if x10 < x9 then (if 0 ≤ x10 then (if x10 < (x8.length : Int) then (if x3.length < 5864062014805 then (impl_FactsOf.l0 k (x3 ++ [(⟨(⟨(rd_T160 x8 x10).f0.f0.f0, (rd_T160 x8 x10).f0.f0.f1⟩ : S27), (rd_T160 x8 x10).f0.f1⟩ : S55)]) x8 x9 (wrap64 (x10 + 1))) else (none)) else (none)) else (none)) else (some x3)
def impl_FactsOf.f (k : Nat) (l0 : List (S29)) : Option ((List (S55))) := (impl_findFacts.f k l0).bind fun t545 => (impl_FactsOf.l0 k (([] : List (S55))) t545 (t545.length : Int) 0)
set_option maxHeartbeats 8000000 in
set_option maxRecDepth 100000 in
theorem impl_FactsOf.calls (k : Nat) (A0 : Option Addr) (c0 : Nat) (l0 : List (S29)) (r : List (S55)) (w : World) (hr0 : Kd.C k29 w A0 l0.length l0) (hc0 : l0.length ≤ c0) (h : impl_FactsOf.f k l0 = some r) :
  Calls Try.prog 92 #[.slice A0 l0.length c0] w fun e w' => ∃ v0_ : Value, e = .returned (v0_) ∧ Kd.R k55 55 w' w.heap.size (fun _ => True) v0_ r ∧ Below w.heap.size w w' := by
 have hu160 := Try.underlying160
 have hu55 := Try.underlying55
 have HR0 := Aside0.mk hr0
 have HC0 := Aside0.mk hc0
 clear hr0 hc0
 have HB := Aside0.mk (Below.refl w.heap.size w)
 have H : ((impl_findFacts.f k l0).bind fun t545 => (impl_FactsOf.l0 k (([] : List (S55))) t545 (t545.length : Int) 0)) = some r := h
 clear h
 obtain ⟨y542, hy542⟩ : ∃ y_ : List (S55), y_ = (([] : List (S55))) := ⟨_, rfl⟩
 replace H : ((impl_findFacts.f k l0).bind fun t545 => (impl_FactsOf.l0 k y542 t545 (t545.length : Int) 0)) = some r := by first | (rw [hy542]; with_reducible exact H) | (have H2_ := (Option.bind_some _ _).symm.trans H; rw [hy542]; with_reducible exact H2_) | (have H2_ := (Option.bind_some _ _).symm.trans H; with_reducible exact H2_) | with_reducible exact H | (rw [hy542]; exact H) | exact H
 have Ny542 := Aside0.mk hy542
 clear hy542
 obtain ⟨t545, A2, H⟩ := bindE_ H
 have H' := Aside0.mk H
 clear H
 go_enter Try.func92, Try.ntmps92
 go_wp2_with (first | ((with_reducible refine gate_dst (N := 6) rfl ?_); refine Kd.R_lit k55 _ 55 ?hg (N := 6) ?hd (xs := ([] : List (S55))) (inner := []) (ok := fun _ => True) (okp := fun _ => True) ?hr ?hp (fun _ hk => hk) trivial (Below.refl _ _) (Nat.le_refl _) (by simp) ?_; (case hd => rfl); (case hg => rfl); (case hr => first | (go_simp; done) | (go_simp; rfl)); (case hp => exact (Reps.none _ _)); intro v543 w3 ho4 hb hg_ hnew_; clear hg_ hnew_; (first | rw [← Ny542.out] at ho4 | (simp only [Int.reduceToNat] at ho4; rw [← Ny542.out] at ho4)); have HO544 := Aside0.mk (Kd.R_lower ho4 bls_); replace HB := hbs_ hb; clear hb ho4) | ((with_reducible refine gate_callee (f := 130) rfl ?_); refine goesC_ (some 8) Try.func130 #[.slice A0 l0.length c0] ?_; (with_reducible refine (impl_findFacts.calls k _ _ l0 t545 _ ?side1 ?side2 A2.out).mono ?_); (case side1 => repeat (first | exact (Kd.C_below HR0.out HB.out) | (with_reducible refine Kd.C_alloc ?_ _) | (with_reducible refine Kd.C_drewN ?_ _) | (with_reducible refine Kd.C_drew ?_))); (case side2 => exact HC0.out); rintro e w5 ⟨v546, rfl, ho0, hb⟩; refine ⟨_, rfl, ?_⟩; have HO547 := Aside0.mk (Kd.N_lower (Kd.N_mono (ok' := fun k_ => some k_ ≠ (v543 : Value).ownBlock) ho0 (fun k_ hk_ => (Kd.fresh' (Kd.R_lt (by (with_reducible repeat (first | apply Kd.R_alloc | apply Kd.R_drewN | apply Kd.R_drew)); exact HO544.out)) k_ hk_))) bls_); replace HO544 := Aside0.mk (Kd.R_below (by (with_reducible repeat (first | apply Kd.R_alloc | apply Kd.R_drewN | apply Kd.R_drew)); exact HO544.out) hb); replace HB := hbs_ hb; (try clear hb); (try clear hb2); (try clear hk); (try clear hi); (try clear ho0); obtain ⟨Ao6, co6, eo6⟩ := Kd.N_slice HO547.out; subst eo6))
 go_loopg [3, 10] k (fun kq v3 v10 w' => ∃ (x3_1 : List (S55)) (x10_1 : Int), v10 = .int .i64 x10_1 ∧ Aside0 (impl_FactsOf.l0 kq x3_1 t545 (t545.length : Int) x10_1 = some r) ∧ Aside0 (kq ≤ k) ∧ Aside0 (Kd.R k55 55 w' w.heap.size (fun _ => True) v3 x3_1) ∧ Aside0 (Kd.N k160 160 w' w.heap.size (fun k_ => some k_ ≠ (v3 : Value).ownBlock) (.slice Ao6 t545.length co6) t545) ∧ Aside0 (Below w.heap.size w w'))
 case atStart => exact ⟨(y542), (0), (by first | rfl | (simp; done) | (simp [*]; done)), H', ⟨Nat.le_refl _⟩, ⟨by (with_reducible repeat (first | apply Kd.R_alloc | apply Kd.R_drewN | apply Kd.R_drew)); exact HO544.out⟩, ⟨by (with_reducible repeat (first | apply Kd.N_alloc | apply Kd.N_drewN | apply Kd.N_drew)); exact HO547.out⟩, ⟨bl_⟩⟩
 case round =>
  clear H'
  try clear c1
  try clear p2
  obtain ⟨x3_1, x10_1, rfl, HA, HK1, HO_3, HO_8, HB⟩ := hrel
  cases gk with
  | zero => exact absurd HA.out (by simp [impl_FactsOf.l0])
  | succ k1 =>
   have H := HA.out
   clear HA
   simp only [impl_FactsOf.l0] at H
   by_cases c7 : x10_1 < (t545.length : Int)
   ·rw [if_pos c7] at H
    have c7b0 : decide (x10_1 < (t545.length : Int)) = true := decide_eq_true c7
    clear c7
    by_cases c8 : 0 ≤ x10_1
    ·rw [if_pos c8] at H
     have c8b0 : decide (0 ≤ x10_1) = true := decide_eq_true c8
     clear c8
     by_cases c9 : x10_1 < (t545.length : Int)
     ·rw [if_pos c9] at H
      have c9b0 : decide (x10_1 < (t545.length : Int)) = true := decide_eq_true c9
      clear c9
      by_cases c10 : x3_1.length < 5864062014805
      ·rw [if_pos c10] at H
       have LMc10 := Aside0.mk c10
       clear c10
       obtain ⟨y550, hy550⟩ : ∃ y_ : List (S55), y_ = (x3_1 ++ [(⟨(⟨(rd_T160 t545 x10_1).f0.f0.f0, (rd_T160 t545 x10_1).f0.f0.f1⟩ : S27), (rd_T160 t545 x10_1).f0.f1⟩ : S55)]) := ⟨_, rfl⟩
       replace H : (impl_FactsOf.l0 k1 y550 t545 (t545.length : Int) (wrap64 (x10_1 + 1))) = some r := by first | (rw [hy550]; with_reducible exact H) | (have H2_ := (Option.bind_some _ _).symm.trans H; rw [hy550]; with_reducible exact H2_) | (have H2_ := (Option.bind_some _ _).symm.trans H; with_reducible exact H2_) | with_reducible exact H | (rw [hy550]; exact H) | exact H
       have Ny550 := Aside0.mk hy550
       clear hy550
       have H' := Aside0.mk H
       clear H
       have p548 : 0 ≤ (x10_1 : Int) := of_decide_eq_true (by first | (with_reducible assumption) | assumption)
       have q548 : x10_1 < (t545.length : Int) := of_decide_eq_true (by first | (with_reducible assumption) | assumption)
       obtain ⟨ad548, A548_4, c548_4, e548, hx548_0, hx548_1, hx548_2, hx548_3, hx548_4, hl548_4, hi548_4⟩ := at_T160 (Kd.N_reads' HO_8.out).2.2 x10_1 p548 q548
       cases e548
       obtain ⟨ce548, hce548, hMe548, hcc548⟩ := Kd.N_get HO_8.out z160 x10_1 p548 (by first | exact q548 | exact of_decide_eq_true (by first | (with_reducible assumption) | assumption) | (have e_ := (Kd.N_reads' HO_8.out).1; omega))
       obtain ⟨ua548_4, uc548_4, rfl, ul548_4, ge548_4⟩ := k160_openF hMe548
       have hv548_4 := hcc548 4 _ rfl
       rw [add_field _ _ 4 (by omega)] at hv548_4
       replace hv548_4 := Option.some.inj (hv548_4.symm.trans hx548_4)
       injection hv548_4 with hva_ hvn_ hvc_
       rw [hva_] at ge548_4
       rw [hvc_] at ul548_4
       have HL548_4 := Aside0.mk (show Kd.V (Kd.int .i64) 3 _ w.heap.size _ _ ((rd_T160 t545 x10_1).f2) from Kd.V_mk ul548_4 ge548_4)
       clear hva_ hvn_ hvc_ ge548_4 ul548_4
       clear hcc548 hce548
       have HR548_4 := Aside0.mk hi548_4
       have HC548_4 := Aside0.mk hl548_4
       clear hi548_4 hl548_4
       replace p548 := eq_true p548
       replace q548 := eq_true q548
       go_wp2_with (first | ((with_reducible refine gate_dst (N := 5) rfl ?_); refine box_event ?hg (N := 5) ?hd (cs := #[.int .i64 0, .int .i64 0, .int .i64 0, .int .i64 0, .slice none 0 0]) (t := 160) ?hr ?_; (case hd => rfl); (case hg => rfl); (case hr => first | (go_simp; done) | (go_simp; rfl)); intro gb549 hg w11 hbox hb; replace HO_3 := Aside0.mk (Kd.R_below (by (with_reducible repeat (first | apply Kd.R_alloc | apply Kd.R_drewN | apply Kd.R_drew)); exact HO_3.out) hb); replace HO_8 := Aside0.mk (Kd.N_below (Kd.N_elderB (by (with_reducible repeat (first | apply Kd.N_alloc | apply Kd.N_drewN | apply Kd.N_drew)); exact HO_8.out) gb549 (Nat.le_of_eq hg.symm)) hb); replace HL548_4 := Aside0.mk (Kd.V_below (Kd.V_elderB (by (with_reducible repeat (first | apply Kd.V_alloc | apply Kd.V_drewN | apply Kd.V_drew)); exact HL548_4.out) gb549 (Nat.le_of_eq hg.symm)) hb); replace HR548_4 := Aside0.mk (Kd.C_below (by repeat (first | (with_reducible exact HR548_4.out) | (with_reducible refine Kd.C_alloc ?_ _) | (with_reducible refine Kd.C_drewN ?_ _) | (with_reducible refine Kd.C_drew ?_) | exact HR548_4.out)) hb); have BK549 := Aside0.mk (hbox); have GW549 := gs_ hg; have GE549 := gs_ hg; replace HB := hbs_ hb; clear hb hbox hg; have hcz12 := blk_cell BK549.out; have hfz12 := blk_frozen BK549.out) | ((with_reducible refine gate_builtin (b := .append) (xs := #[.tmp 14, .tmp 17]) rfl ?_); at_builtin; refine Kd.R_append k55 (w0 := w) w.heap.size rfl (.tmp 14) (.tmp 17) 118 55 (.agg #[(.int .i64 0), (.int .i64 0), (.int .i64 0)]) 24 rfl Try.underlying118 info55 rfl (by decide) (by omega) u3 x3_1 (⟨(⟨(rd_T160 t545 x10_1).f0.f0.f0, (rd_T160 t545 x10_1).f0.f0.f1⟩ : S27), (rd_T160 t545 x10_1).f0.f1⟩ : S55) [.int .i64 ((rd_T160 t545 x10_1).f0.f0.f0), .int .i64 ((rd_T160 t545 x10_1).f0.f0.f1), .int .i64 ((rd_T160 t545 x10_1).f0.f1)] (fun _ => True) (fun _ => False) rfl (by first | (go_simp; done) | (go_simp; rfl)) ?aP (fun _ hk => hk.elim) ?aF ?aO ?aB ?aS ?aL ?_; (case aP => exact k55_mkM _ _ _ (⟨(⟨(rd_T160 t545 x10_1).f0.f0.f0, (rd_T160 t545 x10_1).f0.f0.f1⟩ : S27), (rd_T160 t545 x10_1).f0.f1⟩ : S55)); (case aB => exact bl_); (case aF => exact (fun _ _ => trivial)); (case aO => exact (by (with_reducible repeat (first | apply Kd.R_alloc | apply Kd.R_drewN | apply Kd.R_drew)); exact Kd.R_mono (Kd.R_far (p := ⟨gb549, 4, none⟩) (Kd.R_far (p := ⟨gb549, 3, none⟩) (Kd.R_far (p := ⟨gb549, 2, none⟩) (Kd.R_far (p := ⟨gb549, 1, none⟩) (Kd.R_far (p := ⟨gb549, 0, none⟩) (Kd.R_types HO_3.out BK549.out (by decide)) (fun _ hk => hk.2) (.int .i64 ((rd_T160 t545 x10_1).f0.f0.f0))) (fun _ hk => hk.2) (.int .i64 ((rd_T160 t545 x10_1).f0.f0.f1))) (fun _ hk => hk.2) (.int .i64 ((rd_T160 t545 x10_1).f0.f1))) (fun _ hk => hk.2) (.int .i64 ((rd_T160 t545 x10_1).f1))) (fun _ hk => hk.2) (.slice A548_4 ((rd_T160 t545 x10_1).f2).length c548_4)) (fun _ hk => trivial))); (case aS => exact bls_); (case aL => have := LMc10.out; omega); intro v551 w13 ho hb hg hat; rw [← Ny550.out] at ho; replace HO_8 := Aside0.mk (Kd.N_afterv (ok := (fun k_ => k_ ≠ gb549)) (by (with_reducible repeat (first | apply Kd.N_alloc | apply Kd.N_drewN | apply Kd.N_drew)); exact Kd.N_mono (Kd.N_far (p := ⟨gb549, 4, none⟩) (Kd.N_far (p := ⟨gb549, 3, none⟩) (Kd.N_far (p := ⟨gb549, 2, none⟩) (Kd.N_far (p := ⟨gb549, 1, none⟩) (Kd.N_far (p := ⟨gb549, 0, none⟩) (Kd.N_mono HO_8.out (fun k_ hk => (⟨hk, hk.2⟩ : _ ∧ k_ ≠ gb549))) (fun _ hk => hk.2) (.int .i64 ((rd_T160 t545 x10_1).f0.f0.f0))) (fun _ hk => hk.2) (.int .i64 ((rd_T160 t545 x10_1).f0.f0.f1))) (fun _ hk => hk.2) (.int .i64 ((rd_T160 t545 x10_1).f0.f1))) (fun _ hk => hk.2) (.int .i64 ((rd_T160 t545 x10_1).f1))) (fun _ hk => hk.2) (.slice A548_4 ((rd_T160 t545 x10_1).f2).length c548_4)) (fun _ hk => ⟨hk.1.2, hk.1.1⟩)) hg hat); replace HL548_4 := Aside0.mk (Kd.V_afterv (ok := (fun k_ => some k_ ≠ (.slice (some ad548) t545.length co6 : Value).ownBlock ∧ k_ ≠ gb549)) (by (with_reducible repeat (first | apply Kd.V_alloc | apply Kd.V_drewN | apply Kd.V_drew)); exact Kd.V_mono (Kd.V_far (p := ⟨gb549, 4, none⟩) (Kd.V_far (p := ⟨gb549, 3, none⟩) (Kd.V_far (p := ⟨gb549, 2, none⟩) (Kd.V_far (p := ⟨gb549, 1, none⟩) (Kd.V_far (p := ⟨gb549, 0, none⟩) (Kd.V_mono HL548_4.out (fun k_ hk => (⟨hk, hk.2⟩ : _ ∧ k_ ≠ gb549))) (fun _ hk => hk.2) (.int .i64 ((rd_T160 t545 x10_1).f0.f0.f0))) (fun _ hk => hk.2) (.int .i64 ((rd_T160 t545 x10_1).f0.f0.f1))) (fun _ hk => hk.2) (.int .i64 ((rd_T160 t545 x10_1).f0.f1))) (fun _ hk => hk.2) (.int .i64 ((rd_T160 t545 x10_1).f1))) (fun _ hk => hk.2) (.slice A548_4 ((rd_T160 t545 x10_1).f2).length c548_4)) (fun _ hk => ⟨⟨hk.1.1.2, hk.1.2⟩, hk.1.1.1⟩)) hg hat); replace BK549 := Aside0.mk (blk_grown (g := gb549) (o := .cells #[.int .i64 ((rd_T160 t545 x10_1).f0.f0.f0), .int .i64 ((rd_T160 t545 x10_1).f0.f0.f1), .int .i64 ((rd_T160 t545 x10_1).f0.f1), .int .i64 ((rd_T160 t545 x10_1).f1), .slice A548_4 ((rd_T160 t545 x10_1).f2).length c548_4] 160 (0, 0)) (bk_ BK549) hg (Kd.R_ne HO_3.out BK549.out (by decide))); replace HB := Aside0.mk (hb); have HO552 := Aside0.mk (ho); clear HO_3; clear ho hb hg hat))
       go_roundg k1
       case measure => have := HK1.out; omega
       case rel => exact ⟨(y550), (wrap64 (x10_1 + 1)), (by first | rfl | (simp; done) | (simp [*]; done)), H', ⟨by have := HK1.out; omega⟩, ⟨by (with_reducible repeat (first | apply Kd.R_alloc | apply Kd.R_drewN | apply Kd.R_drew)); exact HO552.out⟩, ⟨by (with_reducible repeat (first | apply Kd.N_alloc | apply Kd.N_drewN | apply Kd.N_drew)); exact Kd.N_mono HO_8.out (fun _ hk => hk.2)⟩, ⟨bl_⟩⟩
      ·rw [if_neg c10] at H
       exact absurd H (by simp)
     ·rw [if_neg c9] at H
      exact absurd H (by simp)
    ·rw [if_neg c8] at H
     exact absurd H (by simp)
   ·rw [if_neg c7] at H
    have c7b0 : decide (x10_1 < (t545.length : Int)) = false := decide_eq_false c7
    clear c7
    obtain rfl := Option.some.inj H
    go_wp2
    go_ret
    exact ⟨_, eq_, by (with_reducible repeat (first | apply Kd.R_alloc | apply Kd.R_drewN | apply Kd.R_drew)); exact HO_3.out, bl_⟩
end Go.Proofs.Ytcgnegnljffkmaa.PB
