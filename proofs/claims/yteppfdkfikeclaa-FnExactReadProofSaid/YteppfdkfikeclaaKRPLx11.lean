import Derived.Test.YteppfdkfikeclaaKRPLx10
-- A text of this claim: written by the session's own program out of the translation (wip/tools). Lean checks it.
namespace Go.Proofs.Yteppfdkfikeclaa.PL
open Go.RowKit Go.Proofs.YteppfdkfikeclaaW.PrintWords Go.Proofs.YteppfdkfikeclaaW.PrintLast Go.Proofs.YteppfdkfikeclaaW.PrintMore
attribute [local go_sem] max2_int min2_int max_two min_two max_three min_three max_four min_four   -- for this text's walks alone
set_option linter.unusedVariables false
set_option linter.unusedSimpArgs false
def impl_ReadProof.l0 : Nat → ByteArray → List (S36) → Int → Option ((List (S36)) × Bool)
 | 0, _, _, _ => none
 | k + 1, x0, x4, x5 => if x5 < (x0.size : Int) then ((impl_readStep.f k x0 x5).bind fun bt352 => (if bt352.2.2.2.2.2.2.2.2.2.2.2.2.2.2.2 = true then (if (x4.length : Int) = 200 then (some (([] : List (S36)), false)) else (if x4.length < 1099511627776 then (impl_ReadProof.l0 k x0 (x4 ++ [(⟨(⟨bt352.1, (⟨bt352.2.1, bt352.2.2.1⟩ : S29), bt352.2.2.2.1, (⟨bt352.2.2.2.2.1, bt352.2.2.2.2.2.1⟩ : S29), (⟨bt352.2.2.2.2.2.2.1, bt352.2.2.2.2.2.2.2.1⟩ : S29), bt352.2.2.2.2.2.2.2.2.1, bt352.2.2.2.2.2.2.2.2.2.1⟩ : S31), (⟨(⟨bt352.2.2.2.2.2.2.2.2.2.2.1, bt352.2.2.2.2.2.2.2.2.2.2.2.1⟩ : S29), bt352.2.2.2.2.2.2.2.2.2.2.2.2.1⟩ : S33), bt352.2.2.2.2.2.2.2.2.2.2.2.2.2.1⟩ : S36)]) bt352.2.2.2.2.2.2.2.2.2.2.2.2.2.2.1) else (none))) else (some (([] : List (S36)), false)))) else (some (x4, true))
def impl_ReadProof.f (k : Nat) (a0 : ByteArray) : Option ((List (S36)) × Bool) := impl_ReadProof.l0 k a0 (([] : List (S36))) 0
set_option maxHeartbeats 8000000 in
set_option maxRecDepth 100000 in
theorem impl_ReadProof.calls (k : Nat) (a0 : ByteArray) (r1 : List (S36)) (r2 : Bool) (w : World) (h : impl_ReadProof.f k a0 = some (r1, r2)) :
  Calls Try.prog 5 #[.string a0] w fun e w' => ∃ v0_ : Value, e = .returned (.tuple #[v0_, .bool r2]) ∧ Kd.S k36 36 w' w.heap.size (fun _ => True) v0_ r1 ∧ Below w.heap.size w w' := by
 have hu36 := Try.underlying36
 have HB := Aside0.mk (Below.refl w.heap.size w)
 have H : (impl_ReadProof.l0 k a0 (([] : List (S36))) 0) = some (r1, r2) := h
 clear h
 obtain ⟨y349, hy349⟩ : ∃ y_ : List (S36), y_ = (([] : List (S36))) := ⟨_, rfl⟩
 replace H : (impl_ReadProof.l0 k a0 y349 0) = some (r1, r2) := by first | (rw [hy349]; with_reducible exact H) | (have H2_ := (Option.bind_some _ _).symm.trans H; rw [hy349]; with_reducible exact H2_) | (have H2_ := (Option.bind_some _ _).symm.trans H; with_reducible exact H2_) | with_reducible exact H | (rw [hy349]; exact H) | exact H
 have Ny349 := Aside0.mk hy349
 clear hy349
 have H' := Aside0.mk H
 clear H
 go_enter Try.func5, Try.ntmps5
 go_wp2_with (first | ((with_reducible refine gate_dst (N := 9) rfl ?_); (try (refine gate_guard (by rfl) ?_; dsimp only)); refine Kd.S_lit k36 _ 36 ?hg (N := 9) ?hd (xs := ([] : List (S36))) (inner := []) (ok := fun _ => True) (okp := fun _ => True) ?hr ?hp (fun _ hk => hk) trivial (Below.refl _ _) (Nat.le_refl _) (by simp) ?_; (case hd => rfl); (case hg => rfl); (case hr => first | (go_simp; done) | (go_simp; rfl)); (case hp => exact (Reps.none _ _)); intro v350 w2 ho3 hb hg_ hnew_; clear hg_ hnew_; (first | rw [← Ny349.out] at ho3 | (simp only [Int.reduceToNat] at ho3; rw [← Ny349.out] at ho3)); have HO351 := Aside0.mk (Kd.S_lower ho3 bls_); replace HB := hbs_ hb; clear hb ho3))
 go_loopg [4, 5] k (fun kq v4 v5 w' => ∃ (x4_1 : List (S36)) (x5_1 : Int), v5 = .int .i64 x5_1 ∧ Aside0 (impl_ReadProof.l0 kq a0 x4_1 x5_1 = some (r1, r2)) ∧ Aside0 (kq ≤ k) ∧ Aside0 (Kd.S k36 36 w' w.heap.size (fun _ => True) v4 x4_1) ∧ Aside0 (Below w.heap.size w w'))
 case atStart => exact ⟨(y349), (0), (by first | rfl | (simp; done) | (simp [*]; done)), H', ⟨Nat.le_refl _⟩, ⟨by (with_reducible repeat (first | apply Kd.S_alloc | apply Kd.S_drewN | apply Kd.S_drew)); exact HO351.out⟩, ⟨bl_⟩⟩
 case round =>
  clear H'
  try clear p2
  obtain ⟨x4_1, x5_1, rfl, HA, HK1, HO_4, HB⟩ := hrel
  cases gk with
  | zero => exact absurd HA.out (by simp [impl_ReadProof.l0])
  | succ k1 =>
   have H := HA.out
   clear HA
   simp only [impl_ReadProof.l0] at H
   by_cases c4 : x5_1 < (a0.size : Int)
   ·rw [if_pos c4] at H
    have c4b0 : decide (x5_1 < (a0.size : Int)) = true := decide_eq_true c4
    clear c4
    obtain ⟨⟨t352, t353, t354, t355, t356, t357, t358, t359, t360, t361, t362, t363, t364, t365, t368, t369⟩, A5, H⟩ := bindE_ H
    replace H : (if t369 = true then (if (x4_1.length : Int) = 200 then (some (([] : List (S36)), false)) else (if x4_1.length < 1099511627776 then (impl_ReadProof.l0 k1 a0 (x4_1 ++ [(⟨(⟨t352, (⟨t353, t354⟩ : S29), t355, (⟨t356, t357⟩ : S29), (⟨t358, t359⟩ : S29), t360, t361⟩ : S31), (⟨(⟨t362, t363⟩ : S29), t364⟩ : S33), t365⟩ : S36)]) t368) else (none))) else (some (([] : List (S36)), false))) = some (r1, r2) := H
    by_cases c6 : t369 = true
    ·subst c6
     replace H := ite_t_ H
     have HC7 := Aside0.mk H
     clear H
     go_upto_if 27 with (first | ((with_reducible refine gate_callee (f := 11) rfl ?_); refine goesC_ (some 17) Try.func11 #[.string a0, .int .i64 x5_1] ?_; (with_reducible refine (impl_readStep.calls k1 a0 x5_1 t352 t353 t354 t355 t356 t357 t358 t359 t360 t361 t362 t363 t364 t365 t368 true _ A5.out).mono ?_); rintro e w8 ⟨v366, rfl, ho0, hb⟩; refine ⟨_, rfl, ?_⟩; replace HO_4 := Aside0.mk (Kd.S_elder' (by (with_reducible repeat (first | apply Kd.S_alloc | apply Kd.S_drewN | apply Kd.S_drew)); exact HO_4.out) (Kd.R_base ho0) hb); have HO367 := Aside0.mk (Kd.R_lower ho0 bls_); replace HB := hbs_ hb; (try clear hb); (try clear hb2); (try clear hk); (try clear hi); (try clear ho0)) | ((with_reducible refine gate_dst (N := 6) rfl ?_); (try (refine gate_guard (by rfl) ?_; dsimp only)); refine box_event ?hg (N := 6) ?hd (cs := #[.int .i64 0, .int .i64 0, .int .i64 0, .int .i64 0, .int .i64 0, .int .i64 0, .int .i64 0, .int .i64 0, .int .i64 0, .int .i64 0, .int .i64 0, .int .i64 0, .int .i64 0, .slice none 0 0]) (t := 36) ?hr ?_; (case hd => rfl); (case hg => rfl); (case hr => first | (go_simp; done) | (go_simp; rfl)); intro gb370 hg w9 hbox hb; replace HO_4 := Aside0.mk (Kd.S_below (Kd.S_elderB (by (with_reducible repeat (first | apply Kd.S_alloc | apply Kd.S_drewN | apply Kd.S_drew)); exact HO_4.out) gb370 (Nat.le_of_eq hg.symm)) hb); replace HO367 := Aside0.mk (Kd.R_below (by (with_reducible repeat (first | apply Kd.R_alloc | apply Kd.R_drewN | apply Kd.R_drew)); exact HO367.out) hb); have BK370 := Aside0.mk (hbox); have GW370 := gs_ hg; have GE370 := gs_ hg; replace HB := hbs_ hb; clear hb hbox hg; have hcz10 := blk_cell BK370.out; have hfz10 := blk_frozen BK370.out; obtain ⟨Ao11, co11, eo11⟩ := Kd.R_slice HO367.out; subst eo11; obtain ⟨Ao12, co12, eo12⟩ := Kd.S_slice HO_4.out; subst eo12))
     have n0_ : Aside0 (Kd.S k36 36 ((((((((((((((w9.setCell ⟨gb370, 0, none⟩ (.int .i64 t352)).setCell ⟨gb370, 1, none⟩ (.int .i64 t353)).setCell ⟨gb370, 2, none⟩ (.int .i64 t354)).setCell ⟨gb370, 3, none⟩ (.int .i64 t355)).setCell ⟨gb370, 4, none⟩ (.int .i64 t356)).setCell ⟨gb370, 5, none⟩ (.int .i64 t357)).setCell ⟨gb370, 6, none⟩ (.int .i64 t358)).setCell ⟨gb370, 7, none⟩ (.int .i64 t359)).setCell ⟨gb370, 8, none⟩ (.int .i64 t360)).setCell ⟨gb370, 9, none⟩ (.int .i64 t361)).setCell ⟨gb370, 10, none⟩ (.int .i64 t362)).setCell ⟨gb370, 11, none⟩ (.int .i64 t363)).setCell ⟨gb370, 12, none⟩ (.int .i64 t364)).setCell ⟨gb370, 13, none⟩ (.slice Ao11 t365.length co11)) w.heap.size (fun k_ => some k_ ≠ (.slice Ao11 t365.length co11 : Value).ownBlock ∧ k_ ≠ gb370) (.slice Ao12 x4_1.length co12) x4_1) := ⟨by (with_reducible repeat (first | apply Kd.S_alloc | apply Kd.S_drewN | apply Kd.S_drew)); exact Kd.S_mono (Kd.S_far (p := ⟨gb370, 13, none⟩) (Kd.S_far (p := ⟨gb370, 12, none⟩) (Kd.S_far (p := ⟨gb370, 11, none⟩) (Kd.S_far (p := ⟨gb370, 10, none⟩) (Kd.S_far (p := ⟨gb370, 9, none⟩) (Kd.S_far (p := ⟨gb370, 8, none⟩) (Kd.S_far (p := ⟨gb370, 7, none⟩) (Kd.S_far (p := ⟨gb370, 6, none⟩) (Kd.S_far (p := ⟨gb370, 5, none⟩) (Kd.S_far (p := ⟨gb370, 4, none⟩) (Kd.S_far (p := ⟨gb370, 3, none⟩) (Kd.S_far (p := ⟨gb370, 2, none⟩) (Kd.S_far (p := ⟨gb370, 1, none⟩) (Kd.S_far (p := ⟨gb370, 0, none⟩) (Kd.S_mono HO_4.out (fun k_ hk => (⟨hk, hk.2⟩ : _ ∧ k_ ≠ gb370))) (fun _ hk => hk.2) (.int .i64 t352)) (fun _ hk => hk.2) (.int .i64 t353)) (fun _ hk => hk.2) (.int .i64 t354)) (fun _ hk => hk.2) (.int .i64 t355)) (fun _ hk => hk.2) (.int .i64 t356)) (fun _ hk => hk.2) (.int .i64 t357)) (fun _ hk => hk.2) (.int .i64 t358)) (fun _ hk => hk.2) (.int .i64 t359)) (fun _ hk => hk.2) (.int .i64 t360)) (fun _ hk => hk.2) (.int .i64 t361)) (fun _ hk => hk.2) (.int .i64 t362)) (fun _ hk => hk.2) (.int .i64 t363)) (fun _ hk => hk.2) (.int .i64 t364)) (fun _ hk => hk.2) (.slice Ao11 t365.length co11)) (fun _ hk => ⟨hk.1.1.2, hk.1.2⟩)⟩
     have n1_ : Aside0 (Kd.R (Kd.int .i64) 3 ((((((((((((((w9.setCell ⟨gb370, 0, none⟩ (.int .i64 t352)).setCell ⟨gb370, 1, none⟩ (.int .i64 t353)).setCell ⟨gb370, 2, none⟩ (.int .i64 t354)).setCell ⟨gb370, 3, none⟩ (.int .i64 t355)).setCell ⟨gb370, 4, none⟩ (.int .i64 t356)).setCell ⟨gb370, 5, none⟩ (.int .i64 t357)).setCell ⟨gb370, 6, none⟩ (.int .i64 t358)).setCell ⟨gb370, 7, none⟩ (.int .i64 t359)).setCell ⟨gb370, 8, none⟩ (.int .i64 t360)).setCell ⟨gb370, 9, none⟩ (.int .i64 t361)).setCell ⟨gb370, 10, none⟩ (.int .i64 t362)).setCell ⟨gb370, 11, none⟩ (.int .i64 t363)).setCell ⟨gb370, 12, none⟩ (.int .i64 t364)).setCell ⟨gb370, 13, none⟩ (.slice Ao11 t365.length co11)) w.heap.size (fun _ => True) (.slice Ao11 t365.length co11) t365) := ⟨by (with_reducible repeat (first | apply Kd.R_alloc | apply Kd.R_drewN | apply Kd.R_drew)); exact Kd.R_mono (Kd.R_far (p := ⟨gb370, 13, none⟩) (Kd.R_far (p := ⟨gb370, 12, none⟩) (Kd.R_far (p := ⟨gb370, 11, none⟩) (Kd.R_far (p := ⟨gb370, 10, none⟩) (Kd.R_far (p := ⟨gb370, 9, none⟩) (Kd.R_far (p := ⟨gb370, 8, none⟩) (Kd.R_far (p := ⟨gb370, 7, none⟩) (Kd.R_far (p := ⟨gb370, 6, none⟩) (Kd.R_far (p := ⟨gb370, 5, none⟩) (Kd.R_far (p := ⟨gb370, 4, none⟩) (Kd.R_far (p := ⟨gb370, 3, none⟩) (Kd.R_far (p := ⟨gb370, 2, none⟩) (Kd.R_far (p := ⟨gb370, 1, none⟩) (Kd.R_far (p := ⟨gb370, 0, none⟩) (Kd.R_types HO367.out BK370.out (by decide)) (fun _ hk => hk.2) (.int .i64 t352)) (fun _ hk => hk.2) (.int .i64 t353)) (fun _ hk => hk.2) (.int .i64 t354)) (fun _ hk => hk.2) (.int .i64 t355)) (fun _ hk => hk.2) (.int .i64 t356)) (fun _ hk => hk.2) (.int .i64 t357)) (fun _ hk => hk.2) (.int .i64 t358)) (fun _ hk => hk.2) (.int .i64 t359)) (fun _ hk => hk.2) (.int .i64 t360)) (fun _ hk => hk.2) (.int .i64 t361)) (fun _ hk => hk.2) (.int .i64 t362)) (fun _ hk => hk.2) (.int .i64 t363)) (fun _ hk => hk.2) (.int .i64 t364)) (fun _ hk => hk.2) (.slice Ao11 t365.length co11)) (fun _ hk => trivial)⟩
     have n2_ : Aside0 (((((((((((((((w9.setCell ⟨gb370, 0, none⟩ (.int .i64 t352)).setCell ⟨gb370, 1, none⟩ (.int .i64 t353)).setCell ⟨gb370, 2, none⟩ (.int .i64 t354)).setCell ⟨gb370, 3, none⟩ (.int .i64 t355)).setCell ⟨gb370, 4, none⟩ (.int .i64 t356)).setCell ⟨gb370, 5, none⟩ (.int .i64 t357)).setCell ⟨gb370, 6, none⟩ (.int .i64 t358)).setCell ⟨gb370, 7, none⟩ (.int .i64 t359)).setCell ⟨gb370, 8, none⟩ (.int .i64 t360)).setCell ⟨gb370, 9, none⟩ (.int .i64 t361)).setCell ⟨gb370, 10, none⟩ (.int .i64 t362)).setCell ⟨gb370, 11, none⟩ (.int .i64 t363)).setCell ⟨gb370, 12, none⟩ (.int .i64 t364)).setCell ⟨gb370, 13, none⟩ (.slice Ao11 t365.length co11)).heap[gb370]? = some (.cells #[.int .i64 t352, .int .i64 t353, .int .i64 t354, .int .i64 t355, .int .i64 t356, .int .i64 t357, .int .i64 t358, .int .i64 t359, .int .i64 t360, .int .i64 t361, .int .i64 t362, .int .i64 t363, .int .i64 t364, .slice Ao11 t365.length co11] 36 (0, 0))) := ⟨bk_ BK370⟩
     have n3_ : Aside0 (Below w.heap.size w ((((((((((((((w9.setCell ⟨gb370, 0, none⟩ (.int .i64 t352)).setCell ⟨gb370, 1, none⟩ (.int .i64 t353)).setCell ⟨gb370, 2, none⟩ (.int .i64 t354)).setCell ⟨gb370, 3, none⟩ (.int .i64 t355)).setCell ⟨gb370, 4, none⟩ (.int .i64 t356)).setCell ⟨gb370, 5, none⟩ (.int .i64 t357)).setCell ⟨gb370, 6, none⟩ (.int .i64 t358)).setCell ⟨gb370, 7, none⟩ (.int .i64 t359)).setCell ⟨gb370, 8, none⟩ (.int .i64 t360)).setCell ⟨gb370, 9, none⟩ (.int .i64 t361)).setCell ⟨gb370, 10, none⟩ (.int .i64 t362)).setCell ⟨gb370, 11, none⟩ (.int .i64 t363)).setCell ⟨gb370, 12, none⟩ (.int .i64 t364)).setCell ⟨gb370, 13, none⟩ (.slice Ao11 t365.length co11))) := ⟨bl_⟩
     (try clear HO_4)
     (try clear HO367)
     (try clear BK370)
     (try clear HB)
     generalize ((((((((((((((w9.setCell ⟨gb370, 0, none⟩ (.int .i64 t352)).setCell ⟨gb370, 1, none⟩ (.int .i64 t353)).setCell ⟨gb370, 2, none⟩ (.int .i64 t354)).setCell ⟨gb370, 3, none⟩ (.int .i64 t355)).setCell ⟨gb370, 4, none⟩ (.int .i64 t356)).setCell ⟨gb370, 5, none⟩ (.int .i64 t357)).setCell ⟨gb370, 6, none⟩ (.int .i64 t358)).setCell ⟨gb370, 7, none⟩ (.int .i64 t359)).setCell ⟨gb370, 8, none⟩ (.int .i64 t360)).setCell ⟨gb370, 9, none⟩ (.int .i64 t361)).setCell ⟨gb370, 10, none⟩ (.int .i64 t362)).setCell ⟨gb370, 11, none⟩ (.int .i64 t363)).setCell ⟨gb370, 12, none⟩ (.int .i64 t364)).setCell ⟨gb370, 13, none⟩ (.slice Ao11 t365.length co11)) = w13 at n0_ n1_ n2_ n3_ ⊢
     have HO_4 := n0_
     have HO367 := n1_
     have BK370 := n2_
     have HB := n3_
     clear n0_ n1_ n2_ n3_
     (try simp only [Act.put, List.setIfInBounds_toArray, List.set_cons_zero, List.set_cons_succ])
     have H := HC7.out
     clear HC7
     by_cases c14 : (x4_1.length : Int) = 200
     ·rw [if_pos c14] at H
      have c14b0 : ((x4_1.length : Int) == 200) = true := beq_iff_eq.mpr c14
      have c14b1 : ((x4_1.length : Int) != 200) = false := bne_eq_false_iff_eq.mpr c14
      clear c14
      (first | rw [c14b0] | (simp only [i64_w, i32_w]; rw [c14b0]) | (have cz_ := c14b0; simp only [Int.ofNat_lt, Int.ofNat_le, gt_iff_lt, ge_iff_le] at cz_; rw [cz_]; clear cz_) | skip)
      simp only [Option.some.injEq, Prod.mk.injEq] at H
      obtain ⟨rfl, rfl⟩ := H
      go_wp2
      go_ret2
      exact ⟨_, eq_, by first | exact Kd.S_nil _ _ _ _ _ | exact Kd.N_nil _ _ _ _ _ | exact Kd.V_nil _ _ _ _ _ | exact Kd.Q_nil _ _ _ _ _ | exact Kd.R_nil _ _ _ _ _, bl_⟩
     ·rw [if_neg c14] at H
      have c14b0 : ((x4_1.length : Int) == 200) = false := beq_eq_false_iff_ne.mpr c14
      have c14b1 : ((x4_1.length : Int) != 200) = true := bne_iff_ne.mpr c14
      (first | rw [c14b0] | (simp only [i64_w, i32_w]; rw [c14b0]) | (have cz_ := c14b0; simp only [Int.ofNat_lt, Int.ofNat_le, gt_iff_lt, ge_iff_le] at cz_; rw [cz_]; clear cz_) | skip)
      by_cases c15 : x4_1.length < 1099511627776
      ·rw [if_pos c15] at H
       have LMc15 := Aside0.mk c15
       clear c15
       obtain ⟨y371, hy371⟩ : ∃ y_ : List (S36), y_ = (x4_1 ++ [(⟨(⟨t352, (⟨t353, t354⟩ : S29), t355, (⟨t356, t357⟩ : S29), (⟨t358, t359⟩ : S29), t360, t361⟩ : S31), (⟨(⟨t362, t363⟩ : S29), t364⟩ : S33), t365⟩ : S36)]) := ⟨_, rfl⟩
       replace H : (impl_ReadProof.l0 k1 a0 y371 t368) = some (r1, r2) := by first | (rw [hy371]; with_reducible exact H) | (have H2_ := (Option.bind_some _ _).symm.trans H; rw [hy371]; with_reducible exact H2_) | (have H2_ := (Option.bind_some _ _).symm.trans H; with_reducible exact H2_) | with_reducible exact H | (rw [hy371]; exact H) | exact H
       have Ny371 := Aside0.mk hy371
       clear hy371
       have H' := Aside0.mk H
       clear H
       have hcz16 := blk_cell BK370.out
       have hfz16 := blk_frozen BK370.out
       go_wp2_with (first | ((with_reducible refine gate_builtin (b := .append) (xs := #[.tmp 28, .tmp 30]) rfl ?_); (try (refine gate_guard (by rfl) ?_; dsimp only)); at_builtin; refine Kd.S_append k36 (w0 := w) w.heap.size rfl (.tmp 28) (.tmp 30) 22 36 (.agg #[(.int .i64 0), (.int .i64 0), (.int .i64 0), (.int .i64 0), (.int .i64 0), (.int .i64 0), (.int .i64 0), (.int .i64 0), (.int .i64 0), (.int .i64 0), (.int .i64 0), (.int .i64 0), (.int .i64 0), (.slice none 0 0)]) 128 rfl Try.underlying22 info36 rfl (by decide) (by omega) (.slice Ao12 x4_1.length co12) x4_1 (⟨(⟨t352, (⟨t353, t354⟩ : S29), t355, (⟨t356, t357⟩ : S29), (⟨t358, t359⟩ : S29), t360, t361⟩ : S31), (⟨(⟨t362, t363⟩ : S29), t364⟩ : S33), t365⟩ : S36) [.int .i64 t352, .int .i64 t353, .int .i64 t354, .int .i64 t355, .int .i64 t356, .int .i64 t357, .int .i64 t358, .int .i64 t359, .int .i64 t360, .int .i64 t361, .int .i64 t362, .int .i64 t363, .int .i64 t364, .slice Ao11 t365.length co11] (fun k_ => k_ ≠ gb370) (fun k_ => some k_ = (.slice Ao11 t365.length co11 : Value).ownBlock) rfl rfl ?aP (fun k_ hk_ => ((Kd.R_mono (ok' := fun k_ => ((fun k_ => k_ ≠ gb370)) k_ ∧ some k_ ≠ (.slice Ao12 x4_1.length co12 : Value).ownBlock) (Kd.R_types (Kd.R_apart' (HO367.out) (Kd.S_typed HO_4.out) (by decide)) BK370.out (by decide)) (fun k_ hk => ⟨hk.2, hk.1.2⟩))).1 k_ hk_.symm) ?aF ?aO ?aB ?aS ?aL ?_; (case aP => exact k36_mkM _ _ _ (⟨(⟨t352, (⟨t353, t354⟩ : S29), t355, (⟨t356, t357⟩ : S29), (⟨t358, t359⟩ : S29), t360, t361⟩ : S31), (⟨(⟨t362, t363⟩ : S29), t364⟩ : S33), t365⟩ : S36) (Kd.R_mono (Kd.R_tight rfl (Kd.R_mono (ok' := fun k_ => ((fun k_ => k_ ≠ gb370)) k_ ∧ some k_ ≠ (.slice Ao12 x4_1.length co12 : Value).ownBlock) (Kd.R_types (Kd.R_apart' (HO367.out) (Kd.S_typed HO_4.out) (by decide)) BK370.out (by decide)) (fun k_ hk => ⟨hk.2, hk.1.2⟩))) (fun _ h_ => h_))); (case aB => exact bl_); (case aF => exact (fun k_ hk => Kd.freshB (g := gb370) (o := .cells #[.int .i64 t352, .int .i64 t353, .int .i64 t354, .int .i64 t355, .int .i64 t356, .int .i64 t357, .int .i64 t358, .int .i64 t359, .int .i64 t360, .int .i64 t361, .int .i64 t362, .int .i64 t363, .int .i64 t364, .slice Ao11 t365.length co11] 36 (0, 0)) (bk_ BK370) k_ hk)); (case aO => exact (by (with_reducible repeat (first | apply Kd.S_alloc | apply Kd.S_drewN | apply Kd.S_drew)); exact Kd.S_mono HO_4.out (fun k_ hk => ⟨hk.2, fun e_ => hk.1 e_⟩))); (case aS => exact bls_); (case aL => have := LMc15.out; omega); intro v372 w17 ho hb hg hat; rw [← Ny371.out] at ho; replace BK370 := Aside0.mk (blk_grown (g := gb370) (o := .cells #[.int .i64 t352, .int .i64 t353, .int .i64 t354, .int .i64 t355, .int .i64 t356, .int .i64 t357, .int .i64 t358, .int .i64 t359, .int .i64 t360, .int .i64 t361, .int .i64 t362, .int .i64 t363, .int .i64 t364, .slice Ao11 t365.length co11] 36 (0, 0)) (bk_ BK370) hg (Kd.S_away HO_4.out (fun _ hk => hk.2))); replace HB := Aside0.mk (hb); have HO373 := Aside0.mk (ho); clear HO_4; clear HO367; clear ho hb hg hat))
       go_roundg k1
       case measure => have := HK1.out; omega
       case rel => exact ⟨(y371), (t368), (by first | rfl | (simp; done) | (simp [*]; done)), H', ⟨by have := HK1.out; omega⟩, ⟨by (with_reducible repeat (first | apply Kd.S_alloc | apply Kd.S_drewN | apply Kd.S_drew)); exact Kd.S_mono HO373.out (fun _ hk => trivial)⟩, ⟨bl_⟩⟩
      ·rw [if_neg c15] at H
       exact absurd H (by simp)
    ·replace c6 := Bool.eq_false_iff.mpr c6
     subst c6
     replace H := ite_f_ H
     simp only [Option.some.injEq, Prod.mk.injEq] at H
     obtain ⟨rfl, rfl⟩ := H
     go_wp2_with (first | ((with_reducible refine gate_callee (f := 11) rfl ?_); refine goesC_ (some 17) Try.func11 #[.string a0, .int .i64 x5_1] ?_; (with_reducible refine (impl_readStep.calls k1 a0 x5_1 t352 t353 t354 t355 t356 t357 t358 t359 t360 t361 t362 t363 t364 t365 t368 false _ A5.out).mono ?_); rintro e w18 ⟨v366, rfl, ho0, hb⟩; refine ⟨_, rfl, ?_⟩; replace HO_4 := Aside0.mk (Kd.S_elder' (by (with_reducible repeat (first | apply Kd.S_alloc | apply Kd.S_drewN | apply Kd.S_drew)); exact HO_4.out) (Kd.R_base ho0) hb); have HO367 := Aside0.mk (Kd.R_lower ho0 bls_); replace HB := hbs_ hb; (try clear hb); (try clear hb2); (try clear hk); (try clear hi); (try clear ho0)) | ((with_reducible refine gate_dst (N := 6) rfl ?_); (try (refine gate_guard (by rfl) ?_; dsimp only)); refine box_event ?hg (N := 6) ?hd (cs := #[.int .i64 0, .int .i64 0, .int .i64 0, .int .i64 0, .int .i64 0, .int .i64 0, .int .i64 0, .int .i64 0, .int .i64 0, .int .i64 0, .int .i64 0, .int .i64 0, .int .i64 0, .slice none 0 0]) (t := 36) ?hr ?_; (case hd => rfl); (case hg => rfl); (case hr => first | (go_simp; done) | (go_simp; rfl)); intro gb370 hg w19 hbox hb; replace HO_4 := Aside0.mk (Kd.S_below (Kd.S_elderB (by (with_reducible repeat (first | apply Kd.S_alloc | apply Kd.S_drewN | apply Kd.S_drew)); exact HO_4.out) gb370 (Nat.le_of_eq hg.symm)) hb); replace HO367 := Aside0.mk (Kd.R_below (by (with_reducible repeat (first | apply Kd.R_alloc | apply Kd.R_drewN | apply Kd.R_drew)); exact HO367.out) hb); have BK370 := Aside0.mk (hbox); have GW370 := gs_ hg; have GE370 := gs_ hg; replace HB := hbs_ hb; clear hb hbox hg; have hcz20 := blk_cell BK370.out; have hfz20 := blk_frozen BK370.out; obtain ⟨Ao21, co21, eo21⟩ := Kd.R_slice HO367.out; subst eo21))
     go_ret2
     exact ⟨_, eq_, by first | exact Kd.S_nil _ _ _ _ _ | exact Kd.N_nil _ _ _ _ _ | exact Kd.V_nil _ _ _ _ _ | exact Kd.Q_nil _ _ _ _ _ | exact Kd.R_nil _ _ _ _ _, bl_⟩
   ·rw [if_neg c4] at H
    have c4b0 : decide (x5_1 < (a0.size : Int)) = false := decide_eq_false c4
    clear c4
    simp only [Option.some.injEq, Prod.mk.injEq] at H
    obtain ⟨rfl, rfl⟩ := H
    go_wp2
    go_ret2
    exact ⟨_, eq_, by (with_reducible repeat (first | apply Kd.S_alloc | apply Kd.S_drewN | apply Kd.S_drew)); exact HO_4.out, bl_⟩
def laws_eqRole.f (a0_0 : Int) (a0_1 : Int) (a1_0 : Int) (a1_1 : Int) : Option (Bool) := if a0_0 = a1_0 then (if a0_1 = a1_1 then (some true) else (some false)) else (some false)
set_option maxHeartbeats 8000000 in
set_option maxRecDepth 100000 in
theorem laws_eqRole.calls (a0_0 : Int) (a0_1 : Int) (a1_0 : Int) (a1_1 : Int) (r : Bool) (w : World) (h : laws_eqRole.f a0_0 a0_1 a1_0 a1_1 = some r) :
  Calls Try.prog 36 #[.agg #[.int .i64 a0_0, .int .i64 a0_1], .agg #[.int .i64 a1_0, .int .i64 a1_1]] w fun e w' => e = .returned (.bool r) ∧ Below w.heap.size w w' := by
 have hu29 := Try.underlying29
 have HB := Aside0.mk (Below.refl w.heap.size w)
 have H : (if a0_0 = a1_0 then (if a0_1 = a1_1 then (some true) else (some false)) else (some false)) = some r := h
 clear h
 have HC3 := Aside0.mk H
 clear H
 go_enter Try.func36, Try.ntmps36
 go_upto_if 9 with (first | ((with_reducible refine gate_dst (N := 2) rfl ?_); refine box_event ?hg (N := 2) ?hd (cs := #[.int .i64 a0_0, .int .i64 a0_1]) (t := 29) ?hr ?_; (case hd => rfl); (case hg => rfl); (case hr => first | (go_simp; done) | (go_simp; rfl)); intro gb374 hg w4 hbox hb; have BK374 := Aside0.mk (hbox); have GW374 := gs_ hg; have GE374 := gs_ hg; replace HB := hbs_ hb; clear hb hbox hg) | ((with_reducible refine gate_dst (N := 3) rfl ?_); refine box_event ?hg (N := 3) ?hd (cs := #[.int .i64 a1_0, .int .i64 a1_1]) (t := 29) ?hr ?_; (case hd => rfl); (case hg => rfl); (case hr => first | (go_simp; done) | (go_simp; rfl)); intro gb375 hg w5 hbox hb; have BK375 := Aside0.mk (hbox); have GW375 := gs_ hg; have GE375 := gs_ hg; replace HB := hbs_ hb; have NB374_375 := Aside0.mk ((by rw [hg]; exact Nat.ne_of_lt (blk_lt (g := gb374) (o := .cells #[.int .i64 a0_0, .int .i64 a0_1] 29 (0, 0)) (bk_ BK374)) : gb374 ≠ gb375)); have NB375_374 := Aside0.mk ((by rw [hg]; exact Nat.ne_of_gt (blk_lt (g := gb374) (o := .cells #[.int .i64 a0_0, .int .i64 a0_1] 29 (0, 0)) (bk_ BK374)) : gb375 ≠ gb374)); replace BK374 := bkb_ BK374 hb; clear hb hbox hg; have hnb6 := NB374_375.out; have hnc6 := NB375_374.out; have hcz7 := blk_cell BK374.out; have hfz7 := blk_frozen BK374.out; have hcz8 := blk_cell BK375.out; have hfz8 := blk_frozen BK375.out))
 (try simp only [Act.put, List.setIfInBounds_toArray, List.set_cons_zero, List.set_cons_succ])
 have H := HC3.out
 clear HC3
 by_cases c9 : a0_0 = a1_0
 ·rw [if_pos c9] at H
  have c9b0 : (a0_0 == a1_0) = true := beq_iff_eq.mpr c9
  have c9b1 : (a0_0 != a1_0) = false := bne_eq_false_iff_eq.mpr c9
  clear c9
  (first | rw [c9b0] | (simp only [i64_w, i32_w]; rw [c9b0]) | skip)
  by_cases c10 : a0_1 = a1_1
  ·rw [if_pos c10] at H
   have c10b0 : (a0_1 == a1_1) = true := beq_iff_eq.mpr c10
   have c10b1 : (a0_1 != a1_1) = false := bne_eq_false_iff_eq.mpr c10
   clear c10
   obtain rfl := Option.some.inj H
   have hnb11 := NB374_375.out
   have hnc11 := NB375_374.out
   have hcz12 := blk_cell BK374.out
   have hfz12 := blk_frozen BK374.out
   have hcz13 := blk_cell BK375.out
   have hfz13 := blk_frozen BK375.out
   go_wp2
   go_ret
   exact ⟨eq_, bl_⟩
  ·rw [if_neg c10] at H
   have c10b0 : (a0_1 == a1_1) = false := beq_eq_false_iff_ne.mpr c10
   have c10b1 : (a0_1 != a1_1) = true := bne_iff_ne.mpr c10
   obtain rfl := Option.some.inj H
   have hnb14 := NB374_375.out
   have hnc14 := NB375_374.out
   have hcz15 := blk_cell BK374.out
   have hfz15 := blk_frozen BK374.out
   have hcz16 := blk_cell BK375.out
   have hfz16 := blk_frozen BK375.out
   go_wp2
   go_ret
   exact ⟨eq_, bl_⟩
 ·rw [if_neg c9] at H
  have c9b0 : (a0_0 == a1_0) = false := beq_eq_false_iff_ne.mpr c9
  have c9b1 : (a0_0 != a1_0) = true := bne_iff_ne.mpr c9
  (first | rw [c9b0] | (simp only [i64_w, i32_w]; rw [c9b0]) | skip)
  obtain rfl := Option.some.inj H
  go_wp2
  go_ret
  exact ⟨eq_, bl_⟩
def laws_eqCred.f (a0_0 : Int) (a0_1 : Int) (a0_2 : Int) (a0_3 : Int) (a0_4 : Int) (a0_5 : Int) (a0_6 : Int) (a0_7 : Int) (a0_8 : Int) (a0_9 : Int) (a1_0 : Int) (a1_1 : Int) (a1_2 : Int) (a1_3 : Int) (a1_4 : Int) (a1_5 : Int) (a1_6 : Int) (a1_7 : Int) (a1_8 : Int) (a1_9 : Int) : Option (Bool) := if a0_0 = a1_0 then ((laws_eqRole.f a0_1 a0_2 a1_1 a1_2).bind fun t378 => (if t378 = true then (if a0_3 = a1_3 then ((laws_eqRole.f a0_4 a0_5 a1_4 a1_5).bind fun t379 => (if t379 = true then ((laws_eqRole.f a0_6 a0_7 a1_6 a1_7).bind fun t380 => (if t380 = true then (if a0_8 = a1_8 then (if a0_9 = a1_9 then (some true) else (some false)) else (some false)) else (some false))) else (some false))) else (some false)) else (some false))) else (some false)
set_option maxHeartbeats 8000000 in
set_option maxRecDepth 100000 in
theorem laws_eqCred.calls (a0_0 : Int) (a0_1 : Int) (a0_2 : Int) (a0_3 : Int) (a0_4 : Int) (a0_5 : Int) (a0_6 : Int) (a0_7 : Int) (a0_8 : Int) (a0_9 : Int) (a1_0 : Int) (a1_1 : Int) (a1_2 : Int) (a1_3 : Int) (a1_4 : Int) (a1_5 : Int) (a1_6 : Int) (a1_7 : Int) (a1_8 : Int) (a1_9 : Int) (r : Bool) (w : World) (h : laws_eqCred.f a0_0 a0_1 a0_2 a0_3 a0_4 a0_5 a0_6 a0_7 a0_8 a0_9 a1_0 a1_1 a1_2 a1_3 a1_4 a1_5 a1_6 a1_7 a1_8 a1_9 = some r) :
  Calls Try.prog 23 #[.agg #[.int .i64 a0_0, .int .i64 a0_1, .int .i64 a0_2, .int .i64 a0_3, .int .i64 a0_4, .int .i64 a0_5, .int .i64 a0_6, .int .i64 a0_7, .int .i64 a0_8, .int .i64 a0_9], .agg #[.int .i64 a1_0, .int .i64 a1_1, .int .i64 a1_2, .int .i64 a1_3, .int .i64 a1_4, .int .i64 a1_5, .int .i64 a1_6, .int .i64 a1_7, .int .i64 a1_8, .int .i64 a1_9]] w fun e w' => e = .returned (.bool r) ∧ Below w.heap.size w w' := by
 have hu31 := Try.underlying31
 have hu29 := Try.underlying29
 have HB := Aside0.mk (Below.refl w.heap.size w)
 have H : (if a0_0 = a1_0 then ((laws_eqRole.f a0_1 a0_2 a1_1 a1_2).bind fun t378 => (if t378 = true then (if a0_3 = a1_3 then ((laws_eqRole.f a0_4 a0_5 a1_4 a1_5).bind fun t379 => (if t379 = true then ((laws_eqRole.f a0_6 a0_7 a1_6 a1_7).bind fun t380 => (if t380 = true then (if a0_8 = a1_8 then (if a0_9 = a1_9 then (some true) else (some false)) else (some false)) else (some false))) else (some false))) else (some false)) else (some false))) else (some false)) = some r := h
 clear h
 have HC3 := Aside0.mk H
 clear H
 go_enter Try.func23, Try.ntmps23
 go_upto_if 9 with (first | ((with_reducible refine gate_dst (N := 2) rfl ?_); refine box_event ?hg (N := 2) ?hd (cs := #[.int .i64 a0_0, .int .i64 a0_1, .int .i64 a0_2, .int .i64 a0_3, .int .i64 a0_4, .int .i64 a0_5, .int .i64 a0_6, .int .i64 a0_7, .int .i64 a0_8, .int .i64 a0_9]) (t := 31) ?hr ?_; (case hd => rfl); (case hg => rfl); (case hr => first | (go_simp; done) | (go_simp; rfl)); intro gb376 hg w4 hbox hb; have BK376 := Aside0.mk (hbox); have GW376 := gs_ hg; have GE376 := gs_ hg; replace HB := hbs_ hb; clear hb hbox hg) | ((with_reducible refine gate_dst (N := 3) rfl ?_); refine box_event ?hg (N := 3) ?hd (cs := #[.int .i64 a1_0, .int .i64 a1_1, .int .i64 a1_2, .int .i64 a1_3, .int .i64 a1_4, .int .i64 a1_5, .int .i64 a1_6, .int .i64 a1_7, .int .i64 a1_8, .int .i64 a1_9]) (t := 31) ?hr ?_; (case hd => rfl); (case hg => rfl); (case hr => first | (go_simp; done) | (go_simp; rfl)); intro gb377 hg w5 hbox hb; have BK377 := Aside0.mk (hbox); have GW377 := gs_ hg; have GE377 := gs_ hg; replace HB := hbs_ hb; have NB376_377 := Aside0.mk ((by rw [hg]; exact Nat.ne_of_lt (blk_lt (g := gb376) (o := .cells #[.int .i64 a0_0, .int .i64 a0_1, .int .i64 a0_2, .int .i64 a0_3, .int .i64 a0_4, .int .i64 a0_5, .int .i64 a0_6, .int .i64 a0_7, .int .i64 a0_8, .int .i64 a0_9] 31 (0, 0)) (bk_ BK376)) : gb376 ≠ gb377)); have NB377_376 := Aside0.mk ((by rw [hg]; exact Nat.ne_of_gt (blk_lt (g := gb376) (o := .cells #[.int .i64 a0_0, .int .i64 a0_1, .int .i64 a0_2, .int .i64 a0_3, .int .i64 a0_4, .int .i64 a0_5, .int .i64 a0_6, .int .i64 a0_7, .int .i64 a0_8, .int .i64 a0_9] 31 (0, 0)) (bk_ BK376)) : gb377 ≠ gb376)); replace BK376 := bkb_ BK376 hb; clear hb hbox hg; have hnb6 := NB376_377.out; have hnc6 := NB377_376.out; have hcz7 := blk_cell BK376.out; have hfz7 := blk_frozen BK376.out; have hcz8 := blk_cell BK377.out; have hfz8 := blk_frozen BK377.out))
 (try simp only [Act.put, List.setIfInBounds_toArray, List.set_cons_zero, List.set_cons_succ])
 have H := HC3.out
 clear HC3
 by_cases c9 : a0_0 = a1_0
 ·rw [if_pos c9] at H
  have c9b0 : (a0_0 == a1_0) = true := beq_iff_eq.mpr c9
  have c9b1 : (a0_0 != a1_0) = false := bne_eq_false_iff_eq.mpr c9
  clear c9
  (first | rw [c9b0] | (simp only [i64_w, i32_w]; rw [c9b0]) | skip)
  obtain ⟨t378, A10, H⟩ := bindE_ H
  have HC11 := Aside0.mk H
  clear H
  have hnb12 := NB376_377.out
  have hnc12 := NB377_376.out
  have hcz13 := blk_cell BK376.out
  have hfz13 := blk_frozen BK376.out
  have hcz14 := blk_cell BK377.out
  have hfz14 := blk_frozen BK377.out
  go_upto_if 15 with (first | ((with_reducible refine gate_callee (f := 36) rfl ?_); refine goesC_ (some 14) Try.func36 #[.agg #[.int .i64 a0_1, .int .i64 a0_2], .agg #[.int .i64 a1_1, .int .i64 a1_2]] ?_; (with_reducible refine (laws_eqRole.calls a0_1 a0_2 a1_1 a1_2 t378 _ A10.out).mono ?_); rintro e w15 ⟨rfl, hb⟩; refine ⟨_, rfl, ?_⟩; replace BK376 := bkb_ BK376 hb; replace BK377 := bkb_ BK377 hb; replace HB := hbs_ hb; clear hb))
  (try simp only [Act.put, List.setIfInBounds_toArray, List.set_cons_zero, List.set_cons_succ])
  have H := HC11.out
  clear HC11
  by_cases c16 : t378 = true
  ·subst c16
   replace H := ite_t_ H
   by_cases c17 : a0_3 = a1_3
   ·rw [if_pos c17] at H
    have c17b0 : (a0_3 == a1_3) = true := beq_iff_eq.mpr c17
    have c17b1 : (a0_3 != a1_3) = false := bne_eq_false_iff_eq.mpr c17
    clear c17
    (first | rw [c17b0] | (simp only [i64_w, i32_w]; rw [c17b0]) | skip)
    obtain ⟨t379, A18, H⟩ := bindE_ H
    have HC19 := Aside0.mk H
    clear H
    have hnb20 := NB376_377.out
    have hnc20 := NB377_376.out
    have hcz21 := blk_cell BK376.out
    have hfz21 := blk_frozen BK376.out
    have hcz22 := blk_cell BK377.out
    have hfz22 := blk_frozen BK377.out
    go_upto_if 26 with (first | ((with_reducible refine gate_callee (f := 36) rfl ?_); refine goesC_ (some 25) Try.func36 #[.agg #[.int .i64 a0_4, .int .i64 a0_5], .agg #[.int .i64 a1_4, .int .i64 a1_5]] ?_; (with_reducible refine (laws_eqRole.calls a0_4 a0_5 a1_4 a1_5 t379 _ A18.out).mono ?_); rintro e w23 ⟨rfl, hb⟩; refine ⟨_, rfl, ?_⟩; replace BK376 := bkb_ BK376 hb; replace BK377 := bkb_ BK377 hb; replace HB := hbs_ hb; clear hb))
    (try simp only [Act.put, List.setIfInBounds_toArray, List.set_cons_zero, List.set_cons_succ])
    have H := HC19.out
    clear HC19
    by_cases c24 : t379 = true
    ·subst c24
     replace H := ite_t_ H
     obtain ⟨t380, A25, H⟩ := bindE_ H
     have HC26 := Aside0.mk H
     clear H
     have hnb27 := NB376_377.out
     have hnc27 := NB377_376.out
     have hcz28 := blk_cell BK376.out
     have hfz28 := blk_frozen BK376.out
     have hcz29 := blk_cell BK377.out
     have hfz29 := blk_frozen BK377.out
     go_upto_if 32 with (first | ((with_reducible refine gate_callee (f := 36) rfl ?_); refine goesC_ (some 31) Try.func36 #[.agg #[.int .i64 a0_6, .int .i64 a0_7], .agg #[.int .i64 a1_6, .int .i64 a1_7]] ?_; (with_reducible refine (laws_eqRole.calls a0_6 a0_7 a1_6 a1_7 t380 _ A25.out).mono ?_); rintro e w30 ⟨rfl, hb⟩; refine ⟨_, rfl, ?_⟩; replace BK376 := bkb_ BK376 hb; replace BK377 := bkb_ BK377 hb; replace HB := hbs_ hb; clear hb))
     (try simp only [Act.put, List.setIfInBounds_toArray, List.set_cons_zero, List.set_cons_succ])
     have H := HC26.out
     clear HC26
     by_cases c31 : t380 = true
     ·subst c31
      replace H := ite_t_ H
      by_cases c32 : a0_8 = a1_8
      ·rw [if_pos c32] at H
       have c32b0 : (a0_8 == a1_8) = true := beq_iff_eq.mpr c32
       have c32b1 : (a0_8 != a1_8) = false := bne_eq_false_iff_eq.mpr c32
       clear c32
       (first | rw [c32b0] | (simp only [i64_w, i32_w]; rw [c32b0]) | skip)
       by_cases c33 : a0_9 = a1_9
       ·rw [if_pos c33] at H
        have c33b0 : (a0_9 == a1_9) = true := beq_iff_eq.mpr c33
        have c33b1 : (a0_9 != a1_9) = false := bne_eq_false_iff_eq.mpr c33
        clear c33
        obtain rfl := Option.some.inj H
        have hnb34 := NB376_377.out
        have hnc34 := NB377_376.out
        have hcz35 := blk_cell BK376.out
        have hfz35 := blk_frozen BK376.out
        have hcz36 := blk_cell BK377.out
        have hfz36 := blk_frozen BK377.out
        go_wp2
        go_ret
        exact ⟨eq_, bl_⟩
       ·rw [if_neg c33] at H
        have c33b0 : (a0_9 == a1_9) = false := beq_eq_false_iff_ne.mpr c33
        have c33b1 : (a0_9 != a1_9) = true := bne_iff_ne.mpr c33
        obtain rfl := Option.some.inj H
        have hnb37 := NB376_377.out
        have hnc37 := NB377_376.out
        have hcz38 := blk_cell BK376.out
        have hfz38 := blk_frozen BK376.out
        have hcz39 := blk_cell BK377.out
        have hfz39 := blk_frozen BK377.out
        go_wp2
        go_ret
        exact ⟨eq_, bl_⟩
      ·rw [if_neg c32] at H
       have c32b0 : (a0_8 == a1_8) = false := beq_eq_false_iff_ne.mpr c32
       have c32b1 : (a0_8 != a1_8) = true := bne_iff_ne.mpr c32
       (first | rw [c32b0] | (simp only [i64_w, i32_w]; rw [c32b0]) | skip)
       obtain rfl := Option.some.inj H
       have hnb40 := NB376_377.out
       have hnc40 := NB377_376.out
       have hcz41 := blk_cell BK376.out
       have hfz41 := blk_frozen BK376.out
       have hcz42 := blk_cell BK377.out
       have hfz42 := blk_frozen BK377.out
       go_wp2
       go_ret
       exact ⟨eq_, bl_⟩
     ·replace c31 := Bool.eq_false_iff.mpr c31
      subst c31
      replace H := ite_f_ H
      obtain rfl := Option.some.inj H
      go_wp2
      go_ret
      exact ⟨eq_, bl_⟩
    ·replace c24 := Bool.eq_false_iff.mpr c24
     subst c24
     replace H := ite_f_ H
     obtain rfl := Option.some.inj H
     go_wp2
     go_ret
     exact ⟨eq_, bl_⟩
   ·rw [if_neg c17] at H
    have c17b0 : (a0_3 == a1_3) = false := beq_eq_false_iff_ne.mpr c17
    have c17b1 : (a0_3 != a1_3) = true := bne_iff_ne.mpr c17
    (first | rw [c17b0] | (simp only [i64_w, i32_w]; rw [c17b0]) | skip)
    obtain rfl := Option.some.inj H
    have hnb43 := NB376_377.out
    have hnc43 := NB377_376.out
    have hcz44 := blk_cell BK376.out
    have hfz44 := blk_frozen BK376.out
    have hcz45 := blk_cell BK377.out
    have hfz45 := blk_frozen BK377.out
    go_wp2
    go_ret
    exact ⟨eq_, bl_⟩
  ·replace c16 := Bool.eq_false_iff.mpr c16
   subst c16
   replace H := ite_f_ H
   obtain rfl := Option.some.inj H
   go_wp2
   go_ret
   exact ⟨eq_, bl_⟩
 ·rw [if_neg c9] at H
  have c9b0 : (a0_0 == a1_0) = false := beq_eq_false_iff_ne.mpr c9
  have c9b1 : (a0_0 != a1_0) = true := bne_iff_ne.mpr c9
  (first | rw [c9b0] | (simp only [i64_w, i32_w]; rw [c9b0]) | skip)
  obtain rfl := Option.some.inj H
  go_wp2
  go_ret
  exact ⟨eq_, bl_⟩
def laws_eqFact.f (a0_0 : Int) (a0_1 : Int) (a0_2 : Int) (a1_0 : Int) (a1_1 : Int) (a1_2 : Int) : Option (Bool) := (laws_eqRole.f a0_0 a0_1 a1_0 a1_1).bind fun t383 => (if t383 = true then (if a0_2 = a1_2 then (some true) else (some false)) else (some false))
set_option maxHeartbeats 8000000 in
set_option maxRecDepth 100000 in
theorem laws_eqFact.calls (a0_0 : Int) (a0_1 : Int) (a0_2 : Int) (a1_0 : Int) (a1_1 : Int) (a1_2 : Int) (r : Bool) (w : World) (h : laws_eqFact.f a0_0 a0_1 a0_2 a1_0 a1_1 a1_2 = some r) :
  Calls Try.prog 24 #[.agg #[.int .i64 a0_0, .int .i64 a0_1, .int .i64 a0_2], .agg #[.int .i64 a1_0, .int .i64 a1_1, .int .i64 a1_2]] w fun e w' => e = .returned (.bool r) ∧ Below w.heap.size w w' := by
 have hu33 := Try.underlying33
 have hu29 := Try.underlying29
 have HB := Aside0.mk (Below.refl w.heap.size w)
 have H : ((laws_eqRole.f a0_0 a0_1 a1_0 a1_1).bind fun t383 => (if t383 = true then (if a0_2 = a1_2 then (some true) else (some false)) else (some false))) = some r := h
 clear h
 obtain ⟨t383, A3, H⟩ := bindE_ H
 have HC4 := Aside0.mk H
 clear H
 go_enter Try.func24, Try.ntmps24
 go_upto_if 10 with (first | ((with_reducible refine gate_dst (N := 2) rfl ?_); refine box_event ?hg (N := 2) ?hd (cs := #[.int .i64 a0_0, .int .i64 a0_1, .int .i64 a0_2]) (t := 33) ?hr ?_; (case hd => rfl); (case hg => rfl); (case hr => first | (go_simp; done) | (go_simp; rfl)); intro gb381 hg w5 hbox hb; have BK381 := Aside0.mk (hbox); have GW381 := gs_ hg; have GE381 := gs_ hg; replace HB := hbs_ hb; clear hb hbox hg) | ((with_reducible refine gate_dst (N := 3) rfl ?_); refine box_event ?hg (N := 3) ?hd (cs := #[.int .i64 a1_0, .int .i64 a1_1, .int .i64 a1_2]) (t := 33) ?hr ?_; (case hd => rfl); (case hg => rfl); (case hr => first | (go_simp; done) | (go_simp; rfl)); intro gb382 hg w6 hbox hb; have BK382 := Aside0.mk (hbox); have GW382 := gs_ hg; have GE382 := gs_ hg; replace HB := hbs_ hb; have NB381_382 := Aside0.mk ((by rw [hg]; exact Nat.ne_of_lt (blk_lt (g := gb381) (o := .cells #[.int .i64 a0_0, .int .i64 a0_1, .int .i64 a0_2] 33 (0, 0)) (bk_ BK381)) : gb381 ≠ gb382)); have NB382_381 := Aside0.mk ((by rw [hg]; exact Nat.ne_of_gt (blk_lt (g := gb381) (o := .cells #[.int .i64 a0_0, .int .i64 a0_1, .int .i64 a0_2] 33 (0, 0)) (bk_ BK381)) : gb382 ≠ gb381)); replace BK381 := bkb_ BK381 hb; clear hb hbox hg; have hnb7 := NB381_382.out; have hnc7 := NB382_381.out; have hcz8 := blk_cell BK381.out; have hfz8 := blk_frozen BK381.out; have hcz9 := blk_cell BK382.out; have hfz9 := blk_frozen BK382.out) | ((with_reducible refine gate_callee (f := 36) rfl ?_); refine goesC_ (some 9) Try.func36 #[.agg #[.int .i64 a0_0, .int .i64 a0_1], .agg #[.int .i64 a1_0, .int .i64 a1_1]] ?_; (with_reducible refine (laws_eqRole.calls a0_0 a0_1 a1_0 a1_1 t383 _ A3.out).mono ?_); rintro e w10 ⟨rfl, hb⟩; refine ⟨_, rfl, ?_⟩; replace BK381 := bkb_ BK381 hb; replace BK382 := bkb_ BK382 hb; replace HB := hbs_ hb; clear hb))
 (try simp only [Act.put, List.setIfInBounds_toArray, List.set_cons_zero, List.set_cons_succ])
 have H := HC4.out
 clear HC4
 by_cases c11 : t383 = true
 ·subst c11
  replace H := ite_t_ H
  by_cases c12 : a0_2 = a1_2
  ·rw [if_pos c12] at H
   have c12b0 : (a0_2 == a1_2) = true := beq_iff_eq.mpr c12
   have c12b1 : (a0_2 != a1_2) = false := bne_eq_false_iff_eq.mpr c12
   clear c12
   (first | rw [c12b0] | (simp only [i64_w, i32_w]; rw [c12b0]) | skip)
   obtain rfl := Option.some.inj H
   have hnb13 := NB381_382.out
   have hnc13 := NB382_381.out
   have hcz14 := blk_cell BK381.out
   have hfz14 := blk_frozen BK381.out
   have hcz15 := blk_cell BK382.out
   have hfz15 := blk_frozen BK382.out
   go_wp2
   go_ret
   exact ⟨eq_, bl_⟩
  ·rw [if_neg c12] at H
   have c12b0 : (a0_2 == a1_2) = false := beq_eq_false_iff_ne.mpr c12
   have c12b1 : (a0_2 != a1_2) = true := bne_iff_ne.mpr c12
   (first | rw [c12b0] | (simp only [i64_w, i32_w]; rw [c12b0]) | skip)
   obtain rfl := Option.some.inj H
   have hnb16 := NB381_382.out
   have hnc16 := NB382_381.out
   have hcz17 := blk_cell BK381.out
   have hfz17 := blk_frozen BK381.out
   have hcz18 := blk_cell BK382.out
   have hfz18 := blk_frozen BK382.out
   go_wp2
   go_ret
   exact ⟨eq_, bl_⟩
 ·replace c11 := Bool.eq_false_iff.mpr c11
  subst c11
  replace H := ite_f_ H
  obtain rfl := Option.some.inj H
  go_wp2
  go_ret
  exact ⟨eq_, bl_⟩
def laws_eqIntS.l0 : Nat → List Int → List Int → Int → Option (Bool)
 | 0, _, _, _ => none
 | k + 1, x0, x1, x5 => if x5 < (x0.length : Int) then (if 0 ≤ x5 then (if x5 < (x1.length : Int) then (if (rd x0 x5) = (rd x1 x5) then (laws_eqIntS.l0 k x0 x1 (wrap64 (x5 + 1))) else (some false)) else (none)) else (none)) else (some true)
def laws_eqIntS.f (k : Nat) (l0 : List Int) (l1 : List Int) : Option (Bool) := if (l0.length : Int) = (l1.length : Int) then (laws_eqIntS.l0 k l0 l1 0) else (some false)
set_option maxHeartbeats 8000000 in
set_option maxRecDepth 100000 in
theorem laws_eqIntS.calls (k : Nat) (A0 : Option Addr) (c0 : Nat) (l0 : List Int) (A1 : Option Addr) (c1 : Nat) (l1 : List Int) (r : Bool) (w : World) (hr0 : Kd.C (Kd.int .i64) w A0 l0.length l0) (hc0 : l0.length ≤ c0) (hr1 : Kd.C (Kd.int .i64) w A1 l1.length l1) (hc1 : l1.length ≤ c1) (h : laws_eqIntS.f k l0 l1 = some r) :
  Calls Try.prog 25 #[.slice A0 l0.length c0, .slice A1 l1.length c1] w fun e w' => e = .returned (.bool r) ∧ Drawn0 w w' := by
 have HR0 := Aside0.mk hr0
 have HC0 := Aside0.mk hc0
 clear hr0 hc0
 have HR1 := Aside0.mk hr1
 have HC1 := Aside0.mk hc1
 clear hr1 hc1
 have H : (if (l0.length : Int) = (l1.length : Int) then (laws_eqIntS.l0 k l0 l1 0) else (some false)) = some r := h
 clear h
 by_cases c3 : (l0.length : Int) = (l1.length : Int)
 ·rw [if_pos c3] at H
  have c3b0 : ((l0.length : Int) == (l1.length : Int)) = true := beq_iff_eq.mpr c3
  have c3b1 : ((l0.length : Int) != (l1.length : Int)) = false := bne_eq_false_iff_eq.mpr c3
  have c3b2 : (l0.length == l1.length) = true := by first | simpa using c3 | (simp at c3 ⊢; omega)
  clear c3
  have H' := Aside0.mk H
  clear H
  go_enter Try.func25, Try.ntmps25
  go_wp2
  repeat (go_quiet (fail); try go_wp2)
  go_loopg [5] k (fun kq v5 w' => ∃ (x5_1 : Int), v5 = .int .i64 x5_1 ∧ Aside0 (laws_eqIntS.l0 kq l0 l1 x5_1 = some r) ∧ Aside0 (kq ≤ k) ∧ Drawn0 w w')
  case atStart => exact ⟨(0), (by first | rfl | (simp; done) | (simp [*]; done)), H', ⟨Nat.le_refl _⟩, by repeat (first | exact Drawn0.refl _ | apply Drawn0.step)⟩
  case round =>
   clear H'
   try clear c1
   try clear c2
   try clear p2
   try clear c3
   try clear c3b0
   try clear c3b1
   try clear c3b2
   obtain ⟨x5_1, rfl, HA, HK1, ⟨m1, rfl⟩⟩ := hrel
   cases gk with
   | zero => exact absurd HA.out (by simp [laws_eqIntS.l0])
   | succ k1 =>
    have H := HA.out
    clear HA
    simp only [laws_eqIntS.l0] at H
    by_cases c4 : x5_1 < (l0.length : Int)
    ·rw [if_pos c4] at H
     have c4b0 : decide (x5_1 < (l0.length : Int)) = true := decide_eq_true c4
     clear c4
     by_cases c5 : 0 ≤ x5_1
     ·rw [if_pos c5] at H
      have c5b0 : decide (0 ≤ x5_1) = true := decide_eq_true c5
      clear c5
      by_cases c6 : x5_1 < (l1.length : Int)
      ·rw [if_pos c6] at H
       have c6b0 : decide (x5_1 < (l1.length : Int)) = true := decide_eq_true c6
       clear c6
       have HC7 := Aside0.mk H
       clear H
       have p384 : 0 ≤ (x5_1 : Int) := of_decide_eq_true (by first | (with_reducible assumption) | assumption)
       have q384 : x5_1 < (l0.length : Int) := of_decide_eq_true (by first | (with_reducible assumption) | assumption)
       obtain ⟨ad384, e384, hx384_0⟩ := Kd.at_int HR0.out x5_1 p384 q384
       cases e384
       replace p384 := eq_true p384
       replace q384 := eq_true q384
       have p385 : 0 ≤ (x5_1 : Int) := of_decide_eq_true (by first | (with_reducible assumption) | assumption)
       have q385 : x5_1 < (l1.length : Int) := of_decide_eq_true (by first | (with_reducible assumption) | assumption)
       obtain ⟨ad385, e385, hx385_0⟩ := Kd.at_int HR1.out x5_1 p385 q385
       cases e385
       replace p385 := eq_true p385
       replace q385 := eq_true q385
       go_upto_if 25 with (fail)
       repeat (go_quiet (fail); go_upto_if 25 with (fail))
       have H := HC7.out
       clear HC7
       by_cases c8 : (rd l0 x5_1) = (rd l1 x5_1)
       ·rw [if_pos c8] at H
        have c8b0 : ((rd l0 x5_1) == (rd l1 x5_1)) = true := beq_iff_eq.mpr c8
        have c8b1 : ((rd l0 x5_1) != (rd l1 x5_1)) = false := bne_eq_false_iff_eq.mpr c8
        clear c8
        (first | rw [c8b0] | (simp only [i64_w, i32_w]; rw [c8b0]) | skip)
        have H' := Aside0.mk H
        clear H
        go_wp2
        repeat (go_quiet (fail); try go_wp2)
        go_roundg k1
        case measure => have := HK1.out; omega
        case rel => exact ⟨(wrap64 (x5_1 + 1)), (by first | rfl | (simp; done) | (simp [*]; done)), H', ⟨by have := HK1.out; omega⟩, by repeat (first | exact Drawn0.refl _ | apply Drawn0.step)⟩
       ·rw [if_neg c8] at H
        have c8b0 : ((rd l0 x5_1) == (rd l1 x5_1)) = false := beq_eq_false_iff_ne.mpr c8
        have c8b1 : ((rd l0 x5_1) != (rd l1 x5_1)) = true := bne_iff_ne.mpr c8
        (first | rw [c8b0] | (simp only [i64_w, i32_w]; rw [c8b0]) | skip)
        obtain rfl := Option.some.inj H
        go_wp2
        repeat (go_quiet (fail); try go_wp2)
        go_ret
        exact ⟨by first | rfl | (simp; done) | (simp [*]; done), by repeat (first | exact Drawn0.refl _ | apply Drawn0.step)⟩
      ·rw [if_neg c6] at H
       exact absurd H (by simp)
     ·rw [if_neg c5] at H
      exact absurd H (by simp)
    ·rw [if_neg c4] at H
     have c4b0 : decide (x5_1 < (l0.length : Int)) = false := decide_eq_false c4
     clear c4
     obtain rfl := Option.some.inj H
     go_wp2
     repeat (go_quiet (fail); try go_wp2)
     go_ret
     exact ⟨by first | rfl | (simp; done) | (simp [*]; done), by repeat (first | exact Drawn0.refl _ | apply Drawn0.step)⟩
 ·rw [if_neg c3] at H
  have c3b0 : ((l0.length : Int) == (l1.length : Int)) = false := beq_eq_false_iff_ne.mpr c3
  have c3b1 : ((l0.length : Int) != (l1.length : Int)) = true := bne_iff_ne.mpr c3
  have c3b2 : (l0.length == l1.length) = false := by first | simpa using c3 | (simp at c3 ⊢; omega)
  obtain rfl := Option.some.inj H
  go_enter Try.func25, Try.ntmps25
  go_wp2
  repeat (go_quiet (fail); try go_wp2)
  go_ret
  exact ⟨by first | rfl | (simp; done) | (simp [*]; done), by repeat (first | exact Drawn0.refl _ | apply Drawn0.step)⟩
def laws_eqStep.f (k : Nat) (a0_0 : Int) (a0_1 : Int) (a0_2 : Int) (a0_3 : Int) (a0_4 : Int) (a0_5 : Int) (a0_6 : Int) (a0_7 : Int) (a0_8 : Int) (a0_9 : Int) (a0_10 : Int) (a0_11 : Int) (a0_12 : Int) (l0_13 : List Int) (a1_0 : Int) (a1_1 : Int) (a1_2 : Int) (a1_3 : Int) (a1_4 : Int) (a1_5 : Int) (a1_6 : Int) (a1_7 : Int) (a1_8 : Int) (a1_9 : Int) (a1_10 : Int) (a1_11 : Int) (a1_12 : Int) (l1_13 : List Int) : Option (Bool) := (laws_eqCred.f a0_0 a0_1 a0_2 a0_3 a0_4 a0_5 a0_6 a0_7 a0_8 a0_9 a1_0 a1_1 a1_2 a1_3 a1_4 a1_5 a1_6 a1_7 a1_8 a1_9).bind fun t388 => (if t388 = true then ((laws_eqFact.f a0_10 a0_11 a0_12 a1_10 a1_11 a1_12).bind fun t389 => (if t389 = true then ((laws_eqIntS.f k l0_13 l1_13).bind fun t390 => (if t390 = true then (some true) else (some false))) else (some false))) else (some false))
set_option maxHeartbeats 8000000 in
set_option maxRecDepth 100000 in
theorem laws_eqStep.calls (k : Nat) (a0_0 : Int) (a0_1 : Int) (a0_2 : Int) (a0_3 : Int) (a0_4 : Int) (a0_5 : Int) (a0_6 : Int) (a0_7 : Int) (a0_8 : Int) (a0_9 : Int) (a0_10 : Int) (a0_11 : Int) (a0_12 : Int) (A0_13 : Option Addr) (c0_13 : Nat) (l0_13 : List Int) (a1_0 : Int) (a1_1 : Int) (a1_2 : Int) (a1_3 : Int) (a1_4 : Int) (a1_5 : Int) (a1_6 : Int) (a1_7 : Int) (a1_8 : Int) (a1_9 : Int) (a1_10 : Int) (a1_11 : Int) (a1_12 : Int) (A1_13 : Option Addr) (c1_13 : Nat) (l1_13 : List Int) (r : Bool) (w : World) (hr0_13 : Kd.C (Kd.int .i64) w A0_13 l0_13.length l0_13) (hc0_13 : l0_13.length ≤ c0_13) (hr1_13 : Kd.C (Kd.int .i64) w A1_13 l1_13.length l1_13) (hc1_13 : l1_13.length ≤ c1_13) (h : laws_eqStep.f k a0_0 a0_1 a0_2 a0_3 a0_4 a0_5 a0_6 a0_7 a0_8 a0_9 a0_10 a0_11 a0_12 l0_13 a1_0 a1_1 a1_2 a1_3 a1_4 a1_5 a1_6 a1_7 a1_8 a1_9 a1_10 a1_11 a1_12 l1_13 = some r) :
  Calls Try.prog 12 #[.agg #[.int .i64 a0_0, .int .i64 a0_1, .int .i64 a0_2, .int .i64 a0_3, .int .i64 a0_4, .int .i64 a0_5, .int .i64 a0_6, .int .i64 a0_7, .int .i64 a0_8, .int .i64 a0_9, .int .i64 a0_10, .int .i64 a0_11, .int .i64 a0_12, .slice A0_13 l0_13.length c0_13], .agg #[.int .i64 a1_0, .int .i64 a1_1, .int .i64 a1_2, .int .i64 a1_3, .int .i64 a1_4, .int .i64 a1_5, .int .i64 a1_6, .int .i64 a1_7, .int .i64 a1_8, .int .i64 a1_9, .int .i64 a1_10, .int .i64 a1_11, .int .i64 a1_12, .slice A1_13 l1_13.length c1_13]] w fun e w' => e = .returned (.bool r) ∧ Below w.heap.size w w' := by
 have hu36 := Try.underlying36
 have hu31 := Try.underlying31
 have hu33 := Try.underlying33
 have HR0_13 := Aside0.mk hr0_13
 have HC0_13 := Aside0.mk hc0_13
 clear hr0_13 hc0_13
 have HR1_13 := Aside0.mk hr1_13
 have HC1_13 := Aside0.mk hc1_13
 clear hr1_13 hc1_13
 have HB := Aside0.mk (Below.refl w.heap.size w)
 have H : ((laws_eqCred.f a0_0 a0_1 a0_2 a0_3 a0_4 a0_5 a0_6 a0_7 a0_8 a0_9 a1_0 a1_1 a1_2 a1_3 a1_4 a1_5 a1_6 a1_7 a1_8 a1_9).bind fun t388 => (if t388 = true then ((laws_eqFact.f a0_10 a0_11 a0_12 a1_10 a1_11 a1_12).bind fun t389 => (if t389 = true then ((laws_eqIntS.f k l0_13 l1_13).bind fun t390 => (if t390 = true then (some true) else (some false))) else (some false))) else (some false))) = some r := h
 clear h
 obtain ⟨t388, A3, H⟩ := bindE_ H
 have HC4 := Aside0.mk H
 clear H
 go_enter Try.func12, Try.ntmps12
 go_upto_if 10 with (first | ((with_reducible refine gate_dst (N := 2) rfl ?_); refine box_event ?hg (N := 2) ?hd (cs := #[.int .i64 a0_0, .int .i64 a0_1, .int .i64 a0_2, .int .i64 a0_3, .int .i64 a0_4, .int .i64 a0_5, .int .i64 a0_6, .int .i64 a0_7, .int .i64 a0_8, .int .i64 a0_9, .int .i64 a0_10, .int .i64 a0_11, .int .i64 a0_12, .slice A0_13 l0_13.length c0_13]) (t := 36) ?hr ?_; (case hd => rfl); (case hg => rfl); (case hr => first | (go_simp; done) | (go_simp; rfl)); intro gb386 hg w5 hbox hb; have BK386 := Aside0.mk (hbox); have GW386 := gs_ hg; have GE386 := gs_ hg; replace HB := hbs_ hb; clear hb hbox hg) | ((with_reducible refine gate_dst (N := 3) rfl ?_); refine box_event ?hg (N := 3) ?hd (cs := #[.int .i64 a1_0, .int .i64 a1_1, .int .i64 a1_2, .int .i64 a1_3, .int .i64 a1_4, .int .i64 a1_5, .int .i64 a1_6, .int .i64 a1_7, .int .i64 a1_8, .int .i64 a1_9, .int .i64 a1_10, .int .i64 a1_11, .int .i64 a1_12, .slice A1_13 l1_13.length c1_13]) (t := 36) ?hr ?_; (case hd => rfl); (case hg => rfl); (case hr => first | (go_simp; done) | (go_simp; rfl)); intro gb387 hg w6 hbox hb; have BK387 := Aside0.mk (hbox); have GW387 := gs_ hg; have GE387 := gs_ hg; replace HB := hbs_ hb; have NB386_387 := Aside0.mk ((by rw [hg]; exact Nat.ne_of_lt (blk_lt (g := gb386) (o := .cells #[.int .i64 a0_0, .int .i64 a0_1, .int .i64 a0_2, .int .i64 a0_3, .int .i64 a0_4, .int .i64 a0_5, .int .i64 a0_6, .int .i64 a0_7, .int .i64 a0_8, .int .i64 a0_9, .int .i64 a0_10, .int .i64 a0_11, .int .i64 a0_12, .slice A0_13 l0_13.length c0_13] 36 (0, 0)) (bk_ BK386)) : gb386 ≠ gb387)); have NB387_386 := Aside0.mk ((by rw [hg]; exact Nat.ne_of_gt (blk_lt (g := gb386) (o := .cells #[.int .i64 a0_0, .int .i64 a0_1, .int .i64 a0_2, .int .i64 a0_3, .int .i64 a0_4, .int .i64 a0_5, .int .i64 a0_6, .int .i64 a0_7, .int .i64 a0_8, .int .i64 a0_9, .int .i64 a0_10, .int .i64 a0_11, .int .i64 a0_12, .slice A0_13 l0_13.length c0_13] 36 (0, 0)) (bk_ BK386)) : gb387 ≠ gb386)); replace BK386 := bkb_ BK386 hb; clear hb hbox hg; have hnb7 := NB386_387.out; have hnc7 := NB387_386.out; have hcz8 := blk_cell BK386.out; have hfz8 := blk_frozen BK386.out; have hcz9 := blk_cell BK387.out; have hfz9 := blk_frozen BK387.out) | ((with_reducible refine gate_callee (f := 23) rfl ?_); refine goesC_ (some 9) Try.func23 #[.agg #[.int .i64 a0_0, .int .i64 a0_1, .int .i64 a0_2, .int .i64 a0_3, .int .i64 a0_4, .int .i64 a0_5, .int .i64 a0_6, .int .i64 a0_7, .int .i64 a0_8, .int .i64 a0_9], .agg #[.int .i64 a1_0, .int .i64 a1_1, .int .i64 a1_2, .int .i64 a1_3, .int .i64 a1_4, .int .i64 a1_5, .int .i64 a1_6, .int .i64 a1_7, .int .i64 a1_8, .int .i64 a1_9]] ?_; (with_reducible refine (laws_eqCred.calls a0_0 a0_1 a0_2 a0_3 a0_4 a0_5 a0_6 a0_7 a0_8 a0_9 a1_0 a1_1 a1_2 a1_3 a1_4 a1_5 a1_6 a1_7 a1_8 a1_9 t388 _ A3.out).mono ?_); rintro e w10 ⟨rfl, hb⟩; refine ⟨_, rfl, ?_⟩; replace BK386 := bkb_ BK386 hb; replace BK387 := bkb_ BK387 hb; replace HB := hbs_ hb; clear hb))
 (try simp only [Act.put, List.setIfInBounds_toArray, List.set_cons_zero, List.set_cons_succ])
 have H := HC4.out
 clear HC4
 by_cases c11 : t388 = true
 ·subst c11
  replace H := ite_t_ H
  obtain ⟨t389, A12, H⟩ := bindE_ H
  have HC13 := Aside0.mk H
  clear H
  have hnb14 := NB386_387.out
  have hnc14 := NB387_386.out
  have hcz15 := blk_cell BK386.out
  have hfz15 := blk_frozen BK386.out
  have hcz16 := blk_cell BK387.out
  have hfz16 := blk_frozen BK387.out
  go_upto_if 16 with (first | ((with_reducible refine gate_callee (f := 24) rfl ?_); refine goesC_ (some 15) Try.func24 #[.agg #[.int .i64 a0_10, .int .i64 a0_11, .int .i64 a0_12], .agg #[.int .i64 a1_10, .int .i64 a1_11, .int .i64 a1_12]] ?_; (with_reducible refine (laws_eqFact.calls a0_10 a0_11 a0_12 a1_10 a1_11 a1_12 t389 _ A12.out).mono ?_); rintro e w17 ⟨rfl, hb⟩; refine ⟨_, rfl, ?_⟩; replace BK386 := bkb_ BK386 hb; replace BK387 := bkb_ BK387 hb; replace HB := hbs_ hb; clear hb))
  (try simp only [Act.put, List.setIfInBounds_toArray, List.set_cons_zero, List.set_cons_succ])
  have H := HC13.out
  clear HC13
  by_cases c18 : t389 = true
  ·subst c18
   replace H := ite_t_ H
   obtain ⟨t390, A19, H⟩ := bindE_ H
   have HC20 := Aside0.mk H
   clear H
   have hnb21 := NB386_387.out
   have hnc21 := NB387_386.out
   have hcz22 := blk_cell BK386.out
   have hfz22 := blk_frozen BK386.out
   have hcz23 := blk_cell BK387.out
   have hfz23 := blk_frozen BK387.out
   go_upto_if 22 with (first | ((with_reducible refine gate_callee (f := 25) rfl ?_); refine goesC_ (some 21) Try.func25 #[.slice A0_13 l0_13.length c0_13, .slice A1_13 l1_13.length c1_13] ?_; (with_reducible refine (laws_eqIntS.calls k _ _ l0_13 _ _ l1_13 t390 _ ?side1 ?side2 ?side3 ?side4 A19.out).mono ?_); (case side1 => repeat (first | exact (Kd.C_below HR0_13.out HB.out) | (with_reducible refine Kd.C_alloc ?_ _) | (with_reducible refine Kd.C_drewN ?_ _) | (with_reducible refine Kd.C_drew ?_))); (case side2 => exact HC0_13.out); (case side3 => repeat (first | exact (Kd.C_below HR1_13.out HB.out) | (with_reducible refine Kd.C_alloc ?_ _) | (with_reducible refine Kd.C_drewN ?_ _) | (with_reducible refine Kd.C_drew ?_))); (case side4 => exact HC1_13.out); rintro e w' ⟨rfl, ⟨nd, rfl⟩⟩; refine ⟨_, rfl, ?_⟩))
   (try simp only [Act.put, List.setIfInBounds_toArray, List.set_cons_zero, List.set_cons_succ])
   have H := HC20.out
   clear HC20
   by_cases c24 : t390 = true
   ·subst c24
    replace H := ite_t_ H
    obtain rfl := Option.some.inj H
    go_wp2
    go_ret
    exact ⟨eq_, bl_⟩
   ·replace c24 := Bool.eq_false_iff.mpr c24
    subst c24
    replace H := ite_f_ H
    obtain rfl := Option.some.inj H
    go_wp2
    go_ret
    exact ⟨eq_, bl_⟩
  ·replace c18 := Bool.eq_false_iff.mpr c18
   subst c18
   replace H := ite_f_ H
   obtain rfl := Option.some.inj H
   go_wp2
   go_ret
   exact ⟨eq_, bl_⟩
 ·replace c11 := Bool.eq_false_iff.mpr c11
  subst c11
  replace H := ite_f_ H
  obtain rfl := Option.some.inj H
  go_wp2
  go_ret
  exact ⟨eq_, bl_⟩
def laws_eqStepS.l0 : Nat → List (S36) → List (S36) → Int → Option (Bool)
 | 0, _, _, _ => none
 | k + 1, x0, x1, x5 => if x5 < (x0.length : Int) then (if 0 ≤ x5 then (if x5 < (x1.length : Int) then ((laws_eqStep.f k ((rd_T36 x0 x5).f0.f0) ((rd_T36 x0 x5).f0.f1.f0) ((rd_T36 x0 x5).f0.f1.f1) ((rd_T36 x0 x5).f0.f2) ((rd_T36 x0 x5).f0.f3.f0) ((rd_T36 x0 x5).f0.f3.f1) ((rd_T36 x0 x5).f0.f4.f0) ((rd_T36 x0 x5).f0.f4.f1) ((rd_T36 x0 x5).f0.f5) ((rd_T36 x0 x5).f0.f6) ((rd_T36 x0 x5).f1.f0.f0) ((rd_T36 x0 x5).f1.f0.f1) ((rd_T36 x0 x5).f1.f1) ((rd_T36 x0 x5).f2) ((rd_T36 x1 x5).f0.f0) ((rd_T36 x1 x5).f0.f1.f0) ((rd_T36 x1 x5).f0.f1.f1) ((rd_T36 x1 x5).f0.f2) ((rd_T36 x1 x5).f0.f3.f0) ((rd_T36 x1 x5).f0.f3.f1) ((rd_T36 x1 x5).f0.f4.f0) ((rd_T36 x1 x5).f0.f4.f1) ((rd_T36 x1 x5).f0.f5) ((rd_T36 x1 x5).f0.f6) ((rd_T36 x1 x5).f1.f0.f0) ((rd_T36 x1 x5).f1.f0.f1) ((rd_T36 x1 x5).f1.f1) ((rd_T36 x1 x5).f2)).bind fun t393 => (if t393 = true then (laws_eqStepS.l0 k x0 x1 (wrap64 (x5 + 1))) else (some false))) else (none)) else (none)) else (some true)
def laws_eqStepS.f (k : Nat) (l0 : List (S36)) (l1 : List (S36)) : Option (Bool) := if (l0.length : Int) = (l1.length : Int) then (laws_eqStepS.l0 k l0 l1 0) else (some false)
def laws_eqStepS.T6 : Bool × List (List Nat × List Nat) := (true, [([], []), ([], []), ([0, 1], [0, 1]), ([2], [2]), ([], []), ([], []), ([4, 5], [4, 5]), ([6], [6]), ([3, 7], [3, 7]), ([8], [8])])
def laws_eqStepS.B6 : List Nat := [0, 0, 3, 7, 0, 0, 48, 112, 255, 511]
theorem laws_eqStepS.tab6 : rtab .any (opsOf Try.f6 6) = laws_eqStepS.T6 := by kernel_rfl
theorem laws_eqStepS.bits6 : waitsOk laws_eqStepS.T6.2 laws_eqStepS.B6 = true := by kernel_rfl
set_option maxHeartbeats 8000000 in
set_option maxRecDepth 100000 in
theorem laws_eqStepS.calls (k : Nat) (A0 : Option Addr) (c0 : Nat) (l0 : List (S36)) (A1 : Option Addr) (c1 : Nat) (l1 : List (S36)) (r : Bool) (w : World) (hr0 : Kd.C k36 w A0 l0.length l0) (hc0 : l0.length ≤ c0) (hr1 : Kd.C k36 w A1 l1.length l1) (hc1 : l1.length ≤ c1) (h : laws_eqStepS.f k l0 l1 = some r) :
  Calls Try.prog 6 #[.slice A0 l0.length c0, .slice A1 l1.length c1] w fun e w' => e = .returned (.bool r) ∧ Below w.heap.size w w' := by
 have hu36 := Try.underlying36
 have HR0 := Aside0.mk hr0
 have HC0 := Aside0.mk hc0
 clear hr0 hc0
 have HR1 := Aside0.mk hr1
 have HC1 := Aside0.mk hc1
 clear hr1 hc1
 have HB := Aside0.mk (Below.refl w.heap.size w)
 have H : (if (l0.length : Int) = (l1.length : Int) then (laws_eqStepS.l0 k l0 l1 0) else (some false)) = some r := h
 clear h
 by_cases c3 : (l0.length : Int) = (l1.length : Int)
 ·rw [if_pos c3] at H
  have c3b0 : ((l0.length : Int) == (l1.length : Int)) = true := beq_iff_eq.mpr c3
  have c3b1 : ((l0.length : Int) != (l1.length : Int)) = false := bne_eq_false_iff_eq.mpr c3
  have c3b2 : (l0.length == l1.length) = true := by first | simpa using c3 | (simp at c3 ⊢; omega)
  clear c3
  have H' := Aside0.mk H
  clear H
  go_enter Try.func6, Try.ntmps6
  go_wp2
  go_loopg [5] k (fun kq v5 w' => ∃ (x5_1 : Int), v5 = .int .i64 x5_1 ∧ Aside0 (laws_eqStepS.l0 kq l0 l1 x5_1 = some r) ∧ Aside0 (kq ≤ k) ∧ Aside0 (Below w.heap.size w w'))
  case atStart => exact ⟨(0), (by first | rfl | (simp; done) | (simp [*]; done)), H', ⟨Nat.le_refl _⟩, ⟨bl_⟩⟩
  case round =>
   clear H'
   try clear c1
   try clear p2
   try clear c3
   try clear c3b0
   try clear c3b1
   try clear c3b2
   obtain ⟨x5_1, rfl, HA, HK1, HB⟩ := hrel
   cases gk with
   | zero => exact absurd HA.out (by simp [laws_eqStepS.l0])
   | succ k1 =>
    have H := HA.out
    clear HA
    simp only [laws_eqStepS.l0] at H
    by_cases c4 : x5_1 < (l0.length : Int)
    ·rw [if_pos c4] at H
     have c4b0 : decide (x5_1 < (l0.length : Int)) = true := decide_eq_true c4
     clear c4
     by_cases c5 : 0 ≤ x5_1
     ·rw [if_pos c5] at H
      have c5b0 : decide (0 ≤ x5_1) = true := decide_eq_true c5
      clear c5
      by_cases c6 : x5_1 < (l1.length : Int)
      ·rw [if_pos c6] at H
       have c6b0 : decide (x5_1 < (l1.length : Int)) = true := decide_eq_true c6
       clear c6
       obtain ⟨t393, A7, H⟩ := bindE_ H
       have HC8 := Aside0.mk H
       clear H
       try go_wp2
       replace HB := Aside0.mk (below_drew1 HB.out)
       have p391 : 0 ≤ (x5_1 : Int) := of_decide_eq_true (by first | (with_reducible assumption) | assumption)
       have q391 : x5_1 < (l0.length : Int) := of_decide_eq_true (by first | (with_reducible assumption) | assumption)
       obtain ⟨ad391, A391_13, c391_13, e391, hx391_0, hx391_1, hx391_2, hx391_3, hx391_4, hx391_5, hx391_6, hx391_7, hx391_8, hx391_9, hx391_10, hx391_11, hx391_12, hx391_13, hl391_13, hi391_13⟩ := at_T36 HR0.out x5_1 p391 q391
       have hw391_13 := hx391_13
       have hw391_12 := hx391_12
       have hw391_11 := hx391_11
       have hw391_10 := hx391_10
       have hw391_9 := hx391_9
       have hw391_8 := hx391_8
       have hw391_7 := hx391_7
       have hw391_6 := hx391_6
       have hw391_5 := hx391_5
       have hw391_4 := hx391_4
       have hw391_3 := hx391_3
       have hw391_2 := hx391_2
       have hw391_1 := hx391_1
       have hw391_0 := hx391_0
       cases e391
       replace hx391_0 := cb_ HB hx391_0
       replace hx391_1 := cb_ HB hx391_1
       replace hx391_2 := cb_ HB hx391_2
       replace hx391_3 := cb_ HB hx391_3
       replace hx391_4 := cb_ HB hx391_4
       replace hx391_5 := cb_ HB hx391_5
       replace hx391_6 := cb_ HB hx391_6
       replace hx391_7 := cb_ HB hx391_7
       replace hx391_8 := cb_ HB hx391_8
       replace hx391_9 := cb_ HB hx391_9
       replace hx391_10 := cb_ HB hx391_10
       replace hx391_11 := cb_ HB hx391_11
       replace hx391_12 := cb_ HB hx391_12
       replace hx391_13 := cb_ HB hx391_13
       have HR391_13 := Aside0.mk hi391_13
       have HC391_13 := Aside0.mk hl391_13
       clear hi391_13 hl391_13
       replace p391 := eq_true p391
       replace q391 := eq_true q391
       have p392 : 0 ≤ (x5_1 : Int) := of_decide_eq_true (by first | (with_reducible assumption) | assumption)
       have q392 : x5_1 < (l1.length : Int) := of_decide_eq_true (by first | (with_reducible assumption) | assumption)
       obtain ⟨ad392, A392_13, c392_13, e392, hx392_0, hx392_1, hx392_2, hx392_3, hx392_4, hx392_5, hx392_6, hx392_7, hx392_8, hx392_9, hx392_10, hx392_11, hx392_12, hx392_13, hl392_13, hi392_13⟩ := at_T36 HR1.out x5_1 p392 q392
       have hw392_13 := hx392_13
       have hw392_12 := hx392_12
       have hw392_11 := hx392_11
       have hw392_10 := hx392_10
       have hw392_9 := hx392_9
       have hw392_8 := hx392_8
       have hw392_7 := hx392_7
       have hw392_6 := hx392_6
       have hw392_5 := hx392_5
       have hw392_4 := hx392_4
       have hw392_3 := hx392_3
       have hw392_2 := hx392_2
       have hw392_1 := hx392_1
       have hw392_0 := hx392_0
       cases e392
       replace hx392_0 := cb_ HB hx392_0
       replace hx392_1 := cb_ HB hx392_1
       replace hx392_2 := cb_ HB hx392_2
       replace hx392_3 := cb_ HB hx392_3
       replace hx392_4 := cb_ HB hx392_4
       replace hx392_5 := cb_ HB hx392_5
       replace hx392_6 := cb_ HB hx392_6
       replace hx392_7 := cb_ HB hx392_7
       replace hx392_8 := cb_ HB hx392_8
       replace hx392_9 := cb_ HB hx392_9
       replace hx392_10 := cb_ HB hx392_10
       replace hx392_11 := cb_ HB hx392_11
       replace hx392_12 := cb_ HB hx392_12
       replace hx392_13 := cb_ HB hx392_13
       have HR392_13 := Aside0.mk hi392_13
       have HC392_13 := Aside0.mk hl392_13
       clear hi392_13 hl392_13
       replace p392 := eq_true p392
       replace q392 := eq_true q392
       refine start_ (n := 10) (S := fun w' => w'.cell? (ad391.add ((x5_1).toNat * 14)) = some (.int .i64 ((rd_T36 l0 x5_1).f0.f0)) ∧ w'.cell? ⟨(ad391.add ((x5_1).toNat * 14)).block, (ad391.add ((x5_1).toNat * 14)).off + 1, none⟩ = some (.int .i64 ((rd_T36 l0 x5_1).f0.f1.f0)) ∧ w'.cell? ⟨(ad391.add ((x5_1).toNat * 14)).block, (ad391.add ((x5_1).toNat * 14)).off + 2, none⟩ = some (.int .i64 ((rd_T36 l0 x5_1).f0.f1.f1)) ∧ w'.cell? ⟨(ad391.add ((x5_1).toNat * 14)).block, (ad391.add ((x5_1).toNat * 14)).off + 3, none⟩ = some (.int .i64 ((rd_T36 l0 x5_1).f0.f2)) ∧ w'.cell? ⟨(ad391.add ((x5_1).toNat * 14)).block, (ad391.add ((x5_1).toNat * 14)).off + 4, none⟩ = some (.int .i64 ((rd_T36 l0 x5_1).f0.f3.f0)) ∧ w'.cell? ⟨(ad391.add ((x5_1).toNat * 14)).block, (ad391.add ((x5_1).toNat * 14)).off + 5, none⟩ = some (.int .i64 ((rd_T36 l0 x5_1).f0.f3.f1)) ∧ w'.cell? ⟨(ad391.add ((x5_1).toNat * 14)).block, (ad391.add ((x5_1).toNat * 14)).off + 6, none⟩ = some (.int .i64 ((rd_T36 l0 x5_1).f0.f4.f0)) ∧ w'.cell? ⟨(ad391.add ((x5_1).toNat * 14)).block, (ad391.add ((x5_1).toNat * 14)).off + 7, none⟩ = some (.int .i64 ((rd_T36 l0 x5_1).f0.f4.f1)) ∧ w'.cell? ⟨(ad391.add ((x5_1).toNat * 14)).block, (ad391.add ((x5_1).toNat * 14)).off + 8, none⟩ = some (.int .i64 ((rd_T36 l0 x5_1).f0.f5)) ∧ w'.cell? ⟨(ad391.add ((x5_1).toNat * 14)).block, (ad391.add ((x5_1).toNat * 14)).off + 9, none⟩ = some (.int .i64 ((rd_T36 l0 x5_1).f0.f6)) ∧ w'.cell? ⟨(ad391.add ((x5_1).toNat * 14)).block, (ad391.add ((x5_1).toNat * 14)).off + 10, none⟩ = some (.int .i64 ((rd_T36 l0 x5_1).f1.f0.f0)) ∧ w'.cell? ⟨(ad391.add ((x5_1).toNat * 14)).block, (ad391.add ((x5_1).toNat * 14)).off + 11, none⟩ = some (.int .i64 ((rd_T36 l0 x5_1).f1.f0.f1)) ∧ w'.cell? ⟨(ad391.add ((x5_1).toNat * 14)).block, (ad391.add ((x5_1).toNat * 14)).off + 12, none⟩ = some (.int .i64 ((rd_T36 l0 x5_1).f1.f1)) ∧ w'.cell? ⟨(ad391.add ((x5_1).toNat * 14)).block, (ad391.add ((x5_1).toNat * 14)).off + 13, none⟩ = some (.slice A391_13 ((rd_T36 l0 x5_1).f2).length c391_13) ∧ w'.cell? (ad392.add ((x5_1).toNat * 14)) = some (.int .i64 ((rd_T36 l1 x5_1).f0.f0)) ∧ w'.cell? ⟨(ad392.add ((x5_1).toNat * 14)).block, (ad392.add ((x5_1).toNat * 14)).off + 1, none⟩ = some (.int .i64 ((rd_T36 l1 x5_1).f0.f1.f0)) ∧ w'.cell? ⟨(ad392.add ((x5_1).toNat * 14)).block, (ad392.add ((x5_1).toNat * 14)).off + 2, none⟩ = some (.int .i64 ((rd_T36 l1 x5_1).f0.f1.f1)) ∧ w'.cell? ⟨(ad392.add ((x5_1).toNat * 14)).block, (ad392.add ((x5_1).toNat * 14)).off + 3, none⟩ = some (.int .i64 ((rd_T36 l1 x5_1).f0.f2)) ∧ w'.cell? ⟨(ad392.add ((x5_1).toNat * 14)).block, (ad392.add ((x5_1).toNat * 14)).off + 4, none⟩ = some (.int .i64 ((rd_T36 l1 x5_1).f0.f3.f0)) ∧ w'.cell? ⟨(ad392.add ((x5_1).toNat * 14)).block, (ad392.add ((x5_1).toNat * 14)).off + 5, none⟩ = some (.int .i64 ((rd_T36 l1 x5_1).f0.f3.f1)) ∧ w'.cell? ⟨(ad392.add ((x5_1).toNat * 14)).block, (ad392.add ((x5_1).toNat * 14)).off + 6, none⟩ = some (.int .i64 ((rd_T36 l1 x5_1).f0.f4.f0)) ∧ w'.cell? ⟨(ad392.add ((x5_1).toNat * 14)).block, (ad392.add ((x5_1).toNat * 14)).off + 7, none⟩ = some (.int .i64 ((rd_T36 l1 x5_1).f0.f4.f1)) ∧ w'.cell? ⟨(ad392.add ((x5_1).toNat * 14)).block, (ad392.add ((x5_1).toNat * 14)).off + 8, none⟩ = some (.int .i64 ((rd_T36 l1 x5_1).f0.f5)) ∧ w'.cell? ⟨(ad392.add ((x5_1).toNat * 14)).block, (ad392.add ((x5_1).toNat * 14)).off + 9, none⟩ = some (.int .i64 ((rd_T36 l1 x5_1).f0.f6)) ∧ w'.cell? ⟨(ad392.add ((x5_1).toNat * 14)).block, (ad392.add ((x5_1).toNat * 14)).off + 10, none⟩ = some (.int .i64 ((rd_T36 l1 x5_1).f1.f0.f0)) ∧ w'.cell? ⟨(ad392.add ((x5_1).toNat * 14)).block, (ad392.add ((x5_1).toNat * 14)).off + 11, none⟩ = some (.int .i64 ((rd_T36 l1 x5_1).f1.f0.f1)) ∧ w'.cell? ⟨(ad392.add ((x5_1).toNat * 14)).block, (ad392.add ((x5_1).toNat * 14)).off + 12, none⟩ = some (.int .i64 ((rd_T36 l1 x5_1).f1.f1)) ∧ w'.cell? ⟨(ad392.add ((x5_1).toNat * 14)).block, (ad392.add ((x5_1).toNat * 14)).off + 13, none⟩ = some (.slice A392_13 ((rd_T36 l1 x5_1).f2).length c392_13)) (ds := []) #[false, false, false, false, false, false, false, false, false, false] (by kernel_rfl) rfl rfl ⟨((HB.out.cell (World.block_lt_of_cell? w _ hw391_0)).trans hw391_0), ((HB.out.cell (World.block_lt_of_cell? w _ hw391_1)).trans hw391_1), ((HB.out.cell (World.block_lt_of_cell? w _ hw391_2)).trans hw391_2), ((HB.out.cell (World.block_lt_of_cell? w _ hw391_3)).trans hw391_3), ((HB.out.cell (World.block_lt_of_cell? w _ hw391_4)).trans hw391_4), ((HB.out.cell (World.block_lt_of_cell? w _ hw391_5)).trans hw391_5), ((HB.out.cell (World.block_lt_of_cell? w _ hw391_6)).trans hw391_6), ((HB.out.cell (World.block_lt_of_cell? w _ hw391_7)).trans hw391_7), ((HB.out.cell (World.block_lt_of_cell? w _ hw391_8)).trans hw391_8), ((HB.out.cell (World.block_lt_of_cell? w _ hw391_9)).trans hw391_9), ((HB.out.cell (World.block_lt_of_cell? w _ hw391_10)).trans hw391_10), ((HB.out.cell (World.block_lt_of_cell? w _ hw391_11)).trans hw391_11), ((HB.out.cell (World.block_lt_of_cell? w _ hw391_12)).trans hw391_12), ((HB.out.cell (World.block_lt_of_cell? w _ hw391_13)).trans hw391_13), ((HB.out.cell (World.block_lt_of_cell? w _ hw392_0)).trans hw392_0), ((HB.out.cell (World.block_lt_of_cell? w _ hw392_1)).trans hw392_1), ((HB.out.cell (World.block_lt_of_cell? w _ hw392_2)).trans hw392_2), ((HB.out.cell (World.block_lt_of_cell? w _ hw392_3)).trans hw392_3), ((HB.out.cell (World.block_lt_of_cell? w _ hw392_4)).trans hw392_4), ((HB.out.cell (World.block_lt_of_cell? w _ hw392_5)).trans hw392_5), ((HB.out.cell (World.block_lt_of_cell? w _ hw392_6)).trans hw392_6), ((HB.out.cell (World.block_lt_of_cell? w _ hw392_7)).trans hw392_7), ((HB.out.cell (World.block_lt_of_cell? w _ hw392_8)).trans hw392_8), ((HB.out.cell (World.block_lt_of_cell? w _ hw392_9)).trans hw392_9), ((HB.out.cell (World.block_lt_of_cell? w _ hw392_10)).trans hw392_10), ((HB.out.cell (World.block_lt_of_cell? w _ hw392_11)).trans hw392_11), ((HB.out.cell (World.block_lt_of_cell? w _ hw392_12)).trans hw392_12), ((HB.out.cell (World.block_lt_of_cell? w _ hw392_13)).trans hw392_13)⟩ (fun hHeld => ?_); refine with_tabW laws_eqStepS.tab6 laws_eqStepS.bits6 (fun HT_ HW_ => ?_)
       generalize wr.drew = w9 at HB HR391_13 HR392_13 hx391_0 hx391_1 hx391_10 hx391_11 hx391_12 hx391_13 hx391_2 hx391_3 hx391_4 hx391_5 hx391_6 hx391_7 hx391_8 hx391_9 hx392_0 hx392_1 hx392_10 hx392_11 hx392_12 hx392_13 hx392_2 hx392_3 hx392_4 hx392_5 hx392_6 hx392_7 hx392_8 hx392_9 hHeld ⊢
       refine pureZ_ (i := 0) (some 17) #[true, false, false, false, false, false, false, false, false, false] (any_of HT_.out (by kernel_rfl)) ?_
       refine pureZ_ (i := 1) (some 18) #[true, true, false, false, false, false, false, false, false, false] (any_of HT_.out (by kernel_rfl)) ?_
       refine pureZ_ (i := 2) (some 19) #[true, true, true, false, false, false, false, false, false, false] (any_of HT_.out (by kernel_rfl)) ?_
       refine pureZ_ (i := 4) (some 21) #[true, true, true, false, true, false, false, false, false, false] (any_of HT_.out (by kernel_rfl)) ?_
       refine pureZ_ (i := 5) (some 22) #[true, true, true, false, true, true, false, false, false, false] (any_of HT_.out (by kernel_rfl)) ?_
       refine pureZ_ (i := 6) (some 23) #[true, true, true, false, true, true, true, false, false, false] (any_of HT_.out (by kernel_rfl)) ?_
       refine takeZ_ (i := 3) (some 20) #[true, true, true, true, true, true, true, false, false, false] (take_ofW HT_.out HW_.out (by kernel_rfl)) hHeld ?_
       refine takeZ_ (i := 7) (some 24) #[true, true, true, true, true, true, true, true, false, false] (take_ofW HT_.out HW_.out (by kernel_rfl)) hHeld ?_
       refine one_ (i := 8) (N := some 25) #[true, true, true, true, true, true, true, true, true, false] rfl rfl (one_of HT_.out (by kernel_rfl)) (by decide) (fun K hK => ?_)
       refine goes_ Try.func12 (by kernel_rfl) rfl #[.agg #[.int .i64 ((rd_T36 l0 x5_1).f0.f0), .int .i64 ((rd_T36 l0 x5_1).f0.f1.f0), .int .i64 ((rd_T36 l0 x5_1).f0.f1.f1), .int .i64 ((rd_T36 l0 x5_1).f0.f2), .int .i64 ((rd_T36 l0 x5_1).f0.f3.f0), .int .i64 ((rd_T36 l0 x5_1).f0.f3.f1), .int .i64 ((rd_T36 l0 x5_1).f0.f4.f0), .int .i64 ((rd_T36 l0 x5_1).f0.f4.f1), .int .i64 ((rd_T36 l0 x5_1).f0.f5), .int .i64 ((rd_T36 l0 x5_1).f0.f6), .int .i64 ((rd_T36 l0 x5_1).f1.f0.f0), .int .i64 ((rd_T36 l0 x5_1).f1.f0.f1), .int .i64 ((rd_T36 l0 x5_1).f1.f1), .slice A391_13 ((rd_T36 l0 x5_1).f2).length c391_13], .agg #[.int .i64 ((rd_T36 l1 x5_1).f0.f0), .int .i64 ((rd_T36 l1 x5_1).f0.f1.f0), .int .i64 ((rd_T36 l1 x5_1).f0.f1.f1), .int .i64 ((rd_T36 l1 x5_1).f0.f2), .int .i64 ((rd_T36 l1 x5_1).f0.f3.f0), .int .i64 ((rd_T36 l1 x5_1).f0.f3.f1), .int .i64 ((rd_T36 l1 x5_1).f0.f4.f0), .int .i64 ((rd_T36 l1 x5_1).f0.f4.f1), .int .i64 ((rd_T36 l1 x5_1).f0.f5), .int .i64 ((rd_T36 l1 x5_1).f0.f6), .int .i64 ((rd_T36 l1 x5_1).f1.f0.f0), .int .i64 ((rd_T36 l1 x5_1).f1.f0.f1), .int .i64 ((rd_T36 l1 x5_1).f1.f1), .slice A392_13 ((rd_T36 l1 x5_1).f2).length c392_13]] (by rfl) rfl rfl (by (try simp only [List.map_toArray, List.map_cons, List.map_nil]); first | done | rfl | (simp only [List.length_drop, List.length_take]; rfl)) ?_
       with_reducible refine (laws_eqStep.calls k1 ((rd_T36 l0 x5_1).f0.f0) ((rd_T36 l0 x5_1).f0.f1.f0) ((rd_T36 l0 x5_1).f0.f1.f1) ((rd_T36 l0 x5_1).f0.f2) ((rd_T36 l0 x5_1).f0.f3.f0) ((rd_T36 l0 x5_1).f0.f3.f1) ((rd_T36 l0 x5_1).f0.f4.f0) ((rd_T36 l0 x5_1).f0.f4.f1) ((rd_T36 l0 x5_1).f0.f5) ((rd_T36 l0 x5_1).f0.f6) ((rd_T36 l0 x5_1).f1.f0.f0) ((rd_T36 l0 x5_1).f1.f0.f1) ((rd_T36 l0 x5_1).f1.f1) _ _ ((rd_T36 l0 x5_1).f2) ((rd_T36 l1 x5_1).f0.f0) ((rd_T36 l1 x5_1).f0.f1.f0) ((rd_T36 l1 x5_1).f0.f1.f1) ((rd_T36 l1 x5_1).f0.f2) ((rd_T36 l1 x5_1).f0.f3.f0) ((rd_T36 l1 x5_1).f0.f3.f1) ((rd_T36 l1 x5_1).f0.f4.f0) ((rd_T36 l1 x5_1).f0.f4.f1) ((rd_T36 l1 x5_1).f0.f5) ((rd_T36 l1 x5_1).f0.f6) ((rd_T36 l1 x5_1).f1.f0.f0) ((rd_T36 l1 x5_1).f1.f0.f1) ((rd_T36 l1 x5_1).f1.f1) _ _ ((rd_T36 l1 x5_1).f2) t393 _ ?side1 ?side2 ?side3 ?side4 A7.out).mono ?_
       (case side1 => repeat (first | exact (Kd.C_below HR391_13.out HB.out) | (with_reducible refine Kd.C_alloc ?_ _) | (with_reducible refine Kd.C_drewN ?_ _) | (with_reducible refine Kd.C_drew ?_)))
       (case side2 => exact HC391_13.out)
       (case side3 => repeat (first | exact (Kd.C_below HR392_13.out HB.out) | (with_reducible refine Kd.C_alloc ?_ _) | (with_reducible refine Kd.C_drewN ?_ _) | (with_reducible refine Kd.C_drew ?_)))
       (case side4 => exact HC392_13.out)
       rintro e w10 ⟨rfl, hb⟩
       refine ⟨_, rfl, ?_⟩
       replace HB := hbs_ hb
       (try clear hb)
       (try clear hb2)
       (try clear hk)
       (try clear hi)
       refine hK.out _ _ ⟨((HB.out.cell (World.block_lt_of_cell? w _ hw391_0)).trans hw391_0), ((HB.out.cell (World.block_lt_of_cell? w _ hw391_1)).trans hw391_1), ((HB.out.cell (World.block_lt_of_cell? w _ hw391_2)).trans hw391_2), ((HB.out.cell (World.block_lt_of_cell? w _ hw391_3)).trans hw391_3), ((HB.out.cell (World.block_lt_of_cell? w _ hw391_4)).trans hw391_4), ((HB.out.cell (World.block_lt_of_cell? w _ hw391_5)).trans hw391_5), ((HB.out.cell (World.block_lt_of_cell? w _ hw391_6)).trans hw391_6), ((HB.out.cell (World.block_lt_of_cell? w _ hw391_7)).trans hw391_7), ((HB.out.cell (World.block_lt_of_cell? w _ hw391_8)).trans hw391_8), ((HB.out.cell (World.block_lt_of_cell? w _ hw391_9)).trans hw391_9), ((HB.out.cell (World.block_lt_of_cell? w _ hw391_10)).trans hw391_10), ((HB.out.cell (World.block_lt_of_cell? w _ hw391_11)).trans hw391_11), ((HB.out.cell (World.block_lt_of_cell? w _ hw391_12)).trans hw391_12), ((HB.out.cell (World.block_lt_of_cell? w _ hw391_13)).trans hw391_13), ((HB.out.cell (World.block_lt_of_cell? w _ hw392_0)).trans hw392_0), ((HB.out.cell (World.block_lt_of_cell? w _ hw392_1)).trans hw392_1), ((HB.out.cell (World.block_lt_of_cell? w _ hw392_2)).trans hw392_2), ((HB.out.cell (World.block_lt_of_cell? w _ hw392_3)).trans hw392_3), ((HB.out.cell (World.block_lt_of_cell? w _ hw392_4)).trans hw392_4), ((HB.out.cell (World.block_lt_of_cell? w _ hw392_5)).trans hw392_5), ((HB.out.cell (World.block_lt_of_cell? w _ hw392_6)).trans hw392_6), ((HB.out.cell (World.block_lt_of_cell? w _ hw392_7)).trans hw392_7), ((HB.out.cell (World.block_lt_of_cell? w _ hw392_8)).trans hw392_8), ((HB.out.cell (World.block_lt_of_cell? w _ hw392_9)).trans hw392_9), ((HB.out.cell (World.block_lt_of_cell? w _ hw392_10)).trans hw392_10), ((HB.out.cell (World.block_lt_of_cell? w _ hw392_11)).trans hw392_11), ((HB.out.cell (World.block_lt_of_cell? w _ hw392_12)).trans hw392_12), ((HB.out.cell (World.block_lt_of_cell? w _ hw392_13)).trans hw392_13)⟩ (fun hHeld => ?_)
       clear hK K
       refine norm_ (a' := ?_) ?_ ?_
       rotate_left
       ·show Act.put _ (some 25) _ = _
        simp only [Act.put, List.setIfInBounds_toArray, List.set_cons_zero, List.set_cons_succ, i64_w, i32_w]
        rfl
       refine pureZ_ (i := 9) (some 26) #[true, true, true, true, true, true, true, true, true, true] (any_of HT_.out (by kernel_rfl)) ?_
       refine done_ (done_of HT_.out (by kernel_rfl)) ?_
       go_upto_if 26 with (fail)
       have H := HC8.out
       clear HC8
       by_cases c11 : t393 = true
       ·subst c11
        replace H := ite_t_ H
        have H' := Aside0.mk H
        clear H
        go_wp2
        go_roundg k1
        case measure => have := HK1.out; omega
        case rel => exact ⟨(wrap64 (x5_1 + 1)), (by first | rfl | (simp; done) | (simp [*]; done)), H', ⟨by have := HK1.out; omega⟩, ⟨bl_⟩⟩
       ·replace c11 := Bool.eq_false_iff.mpr c11
        subst c11
        replace H := ite_f_ H
        obtain rfl := Option.some.inj H
        go_wp2
        go_ret
        exact ⟨eq_, bl_⟩
      ·rw [if_neg c6] at H
       exact absurd H (by simp)
     ·rw [if_neg c5] at H
      exact absurd H (by simp)
    ·rw [if_neg c4] at H
     have c4b0 : decide (x5_1 < (l0.length : Int)) = false := decide_eq_false c4
     clear c4
     obtain rfl := Option.some.inj H
     go_wp2
     go_ret
     exact ⟨eq_, bl_⟩
 ·rw [if_neg c3] at H
  have c3b0 : ((l0.length : Int) == (l1.length : Int)) = false := beq_eq_false_iff_ne.mpr c3
  have c3b1 : ((l0.length : Int) != (l1.length : Int)) = true := bne_iff_ne.mpr c3
  have c3b2 : (l0.length == l1.length) = false := by first | simpa using c3 | (simp at c3 ⊢; omega)
  obtain rfl := Option.some.inj H
  go_enter Try.func6, Try.ntmps6
  go_wp2
  go_ret
  exact ⟨eq_, bl_⟩
def laws_markIntS.l0 : Nat → List Int → Int → Int → Option (Int × List Int)
 | 0, _, _, _ => none
 | k + 1, x0, x1, x5 => if x5 < (x0.length : Int) then (if 0 ≤ x5 then (laws_markIntS.l0 k (x0.set (x5 : Int).toNat x1) (wrap64 (x1 + 1)) (wrap64 (x5 + 1))) else (none)) else (some (x1, x0))
def laws_markIntS.f (k : Nat) (l0 : List Int) (a1 : Int) : Option (Int × List Int) := laws_markIntS.l0 k l0 a1 0
set_option maxHeartbeats 8000000 in
set_option maxRecDepth 100000 in
theorem laws_markIntS.calls (k : Nat) (P0_ : Nat → Prop) (u9000_ : Value) (l0 : List Int) (a1 : Int) (r1 : Int) (r2 : List Int) (w0 w : World) (hB : Below w0.heap.size w0 w) (ho0 : Kd.R (Kd.int .i64) 3 w w0.heap.size P0_ u9000_ l0) (h : laws_markIntS.f k l0 a1 = some (r1, r2)) :
  Calls Try.prog 13 #[u9000_, .int .i64 a1] w fun e w' => e = .returned (.int .i64 r1) ∧ Kd.R (Kd.int .i64) 3 w' w0.heap.size (fun k_ => (P0_ k_ ∨ w.heap.size ≤ k_)) u9000_ r2 ∧ Below w0.heap.size w0 w' ∧ Kept w w' (fun k_ => P0_ k_) := by
 have HO0 := Aside0.mk (show Kd.R (Kd.int .i64) 3 w w0.heap.size (fun k_ => (P0_ k_ ∨ w.heap.size ≤ k_)) u9000_ l0 from Kd.R_mono ho0 (fun k_ hk => (.inl hk)))
 have HK := Aside0.mk (Kept.refl w (fun k_ => P0_ k_))
 have HW0 := Aside0.mk hB.size
 have HB := Aside0.mk hB
 clear hB
 have H : (laws_markIntS.l0 k l0 a1 0) = some (r1, r2) := h
 clear h
 have H' := Aside0.mk H
 clear H
 go_enter Try.func13, Try.ntmps13
 go_wp2
 go_loopg [1, 5] k (fun kq v1 v5 w' => ∃ (x0_1 : List Int) (x1_1 : Int) (x5_1 : Int), v1 = .int .i64 x1_1 ∧ v5 = .int .i64 x5_1 ∧ Aside0 (laws_markIntS.l0 kq x0_1 x1_1 x5_1 = some (r1, r2)) ∧ Aside0 (kq ≤ k) ∧ Aside0 (Kd.R (Kd.int .i64) 3 w' w0.heap.size (fun k_ => (P0_ k_ ∨ w.heap.size ≤ k_)) u9000_ x0_1) ∧ Aside0 (Kept w w' (fun k_ => P0_ k_)) ∧ Aside0 (Below w0.heap.size w0 w'))
 case atStart => exact ⟨(l0), (a1), (0), (by first | rfl | (simp; done) | (simp [*]; done)), (by first | rfl | (simp; done) | (simp [*]; done)), H', ⟨Nat.le_refl _⟩, ⟨by (with_reducible repeat (first | apply Kd.R_alloc | apply Kd.R_drewN | apply Kd.R_drew)); exact HO0.out⟩, ⟨by repeat (first | (with_reducible first | exact HK.out | apply Kept.alloc | apply Kept.drewN | apply Kept.drew) | exact HK.out)⟩, ⟨bl_⟩⟩
 case round =>
  clear H'
  try clear c1
  try clear p2
  obtain ⟨x0_1, x1_1, x5_1, rfl, rfl, HA, HK1, HO_0, HK, HB⟩ := hrel
  cases gk with
  | zero => exact absurd HA.out (by simp [laws_markIntS.l0])
  | succ k1 =>
   have H := HA.out
   clear HA
   simp only [laws_markIntS.l0] at H
   by_cases c3 : x5_1 < (x0_1.length : Int)
   ·rw [if_pos c3] at H
    have c3b0 : decide (x5_1 < (x0_1.length : Int)) = true := decide_eq_true c3
    clear c3
    by_cases c4 : 0 ≤ x5_1
    ·rw [if_pos c4] at H
     have c4b0 : decide (0 ≤ x5_1) = true := decide_eq_true c4
     clear c4
     obtain ⟨y394, hy394⟩ : ∃ y_ : List Int, y_ = (x0_1.set (x5_1 : Int).toNat x1_1) := ⟨_, rfl⟩
     replace H : (laws_markIntS.l0 k1 y394 (wrap64 (x1_1 + 1)) (wrap64 (x5_1 + 1))) = some (r1, r2) := by first | (rw [hy394]; with_reducible exact H) | (have H2_ := (Option.bind_some _ _).symm.trans H; rw [hy394]; with_reducible exact H2_) | (have H2_ := (Option.bind_some _ _).symm.trans H; with_reducible exact H2_) | with_reducible exact H | (rw [hy394]; exact H) | exact H
     have Ny394 := Aside0.mk hy394
     clear hy394
     have H' := Aside0.mk H
     clear H
     obtain ⟨Ao6, co6, eo6⟩ := Kd.R_slice HO_0.out
     subst eo6
     have p5 : 0 ≤ (x5_1 : Int) := of_decide_eq_true (by first | (with_reducible assumption) | assumption)
     have q5 : (x5_1 : Int) < ((x0_1.length : Int) : Int) := of_decide_eq_true (by first | (with_reducible assumption) | assumption)
     obtain ⟨go5, co5, eo5, gb5, gl5, cl5, HG5⟩ := Kd.R_form HO_0.out (by omega)
     (first | cases eo5 | (injection eo5 with ea_ en_ ec_; (first | subst ea_ | (injection ea_ with ea_; subst ea_)); subst ec_; clear en_))
     have GB5 := Aside0.mk gb5
     have GG5 := Aside0.mk HG5
     clear gb5 gl5 HG5
     have HMgo5 := Aside0.mk (show (P0_ go5 ∨ w.heap.size ≤ go5) from (HO_0.out.1 _ rfl))
     obtain ⟨hx5_0, hf5_0⟩ := Kd.R_celln 0 HO_0.out (x5_1 : Int) p5 q5
     replace p5 := eq_true p5
     replace q5 := eq_true q5
     have HP7 := Kd.R_putg HO_0.out (x5_1 : Int) x1_1
     go_wp2_with (first | ((with_reducible refine gate_store (t := 3) (p := 15) rfl ?_); refine store_event (t := 3) (p := 15) (v := ?vo_w8) (w1 := (wr.setCell ⟨go5, (x5_1 : Int).toNat, none⟩ (.int .i64 x1_1))) ?hg ?ho ?hn ?hr ?_; (case ho => rfl); (case hg => rfl); (case hn => rfl); (case hr => first | (go_simp; done) | (go_simp; rfl)); intro w8 hw; have hg : wr.grownBy w8 (some go5) := (by rw [hw]; exact HP7.2); have hp_ : Kd.R (Kd.int .i64) 3 w8 w0.heap.size (fun k_ => (P0_ k_ ∨ w.heap.size ≤ k_)) (.slice (some ⟨go5, 0, none⟩) x0_1.length co6) y394 := (by rw [hw, Ny394.out]; exact HP7.1); clear HP7; replace HB := Aside0.mk ((by rw [hw]; exact below_set (HB.out) GB5.out : Below w0.heap.size w0 w8)); replace HK := Aside0.mk (Kept.of_grown (S := (fun k_ => P0_ k_)) hg (by repeat (first | (with_reducible first | exact HK.out | apply Kept.alloc | apply Kept.drewN | apply Kept.drew) | exact HK.out)) (fun k_ e_ => (HO_0.out.1 k_ e_))); replace HO_0 := Aside0.mk (hp_); clear hg hw hp_))
     go_roundg k1
     case measure => have := HK1.out; omega
     case rel => exact ⟨(y394), (wrap64 (x1_1 + 1)), (wrap64 (x5_1 + 1)), (by first | rfl | (simp; done) | (simp [*]; done)), (by first | rfl | (simp; done) | (simp [*]; done)), H', ⟨by have := HK1.out; omega⟩, ⟨by (with_reducible repeat (first | apply Kd.R_alloc | apply Kd.R_drewN | apply Kd.R_drew)); exact HO_0.out⟩, ⟨by repeat (first | (with_reducible first | exact HK.out | apply Kept.alloc | apply Kept.drewN | apply Kept.drew) | exact HK.out)⟩, ⟨bl_⟩⟩
    ·rw [if_neg c4] at H
     exact absurd H (by simp)
   ·rw [if_neg c3] at H
    have c3b0 : decide (x5_1 < (x0_1.length : Int)) = false := decide_eq_false c3
    clear c3
    simp only [Option.some.injEq, Prod.mk.injEq] at H
    obtain ⟨rfl, rfl⟩ := H
    obtain ⟨Ao9, co9, eo9⟩ := Kd.R_slice HO_0.out
    subst eo9
    go_wp2
    go_ret
    exact ⟨eq_, by (with_reducible repeat (first | apply Kd.R_alloc | apply Kd.R_drewN | apply Kd.R_drew)); exact HO_0.out, bl_, by repeat (first | (with_reducible first | exact HK.out | apply Kept.alloc | apply Kept.drewN | apply Kept.drew) | exact HK.out)⟩
end Go.Proofs.Yteppfdkfikeclaa.PL
