import Derived.Test.YtjpjidgfcljpcaaKDPDx10
-- A text of this claim: written by the session's own program out of the translation (wip/tools). Lean checks it.
namespace Go.Proofs.Ytjpjidgfcljpcaa.PD
open Go.RowKit Go.Proofs.YtjpjidgfcljpcaaW.PrintWords Go.Proofs.YtjpjidgfcljpcaaW.PrintLast Go.Proofs.YtjpjidgfcljpcaaW.PrintMore
attribute [local go_sem] max2_int min2_int max_two min_two max_three min_three max_four min_four   -- for this text's walks alone
set_option linter.unusedVariables false
set_option linter.unusedSimpArgs false
def impl_Fact_201.f (l0 : List (S51)) : Option (List (S51)) := if l0.length < 5864062014805 then some l0 else none
set_option maxHeartbeats 8000000 in
set_option maxRecDepth 100000 in
theorem impl_Fact_201.calls (A0 : Option Addr) (c0 : Nat) (l0 : List (S51)) (r : List (S51)) (w : World) (hr0 : Kd.C k51 w A0 l0.length l0) (hc0 : l0.length ≤ c0) (h : impl_Fact_201.f l0 = some r) :
  Calls Try.prog 201 #[.slice A0 l0.length c0] w fun e w' => ∃ v0_ : Value, e = .returned (v0_) ∧ Kd.R k51 51 w' w.heap.size (fun _ => True) v0_ r ∧ Below w.heap.size w w' := by
 have HR0 := Aside0.mk hr0
 have HC0 := Aside0.mk hc0
 clear hr0 hc0
 have hq : ∀ (w : World) (a : Option Addr) (n c n' c' : Nat), (binOp .eql 46 (.slice a n c) (.slice none n' c')).run Try.prog w = .ok (.bool a.isNone) w := fun w a n c n' c' => Lib.run_eql_slice_nil w _ _ a n c n' c' Try.underlying46
 have HB := Aside0.mk (Below.refl w.heap.size w)
 unfold impl_Fact_201.f at h
 by_cases hl : l0.length < 5864062014805
 ·rw [if_pos hl] at h
  have LM := Aside0.mk hl
  clear hl
  obtain rfl := Option.some.inj h
  clear h
  cases A0 with
  | none =>
   have e0 : l0 = [] := by
    rcases l0 with _ | ⟨x, xs⟩
    ·rfl
    ·obtain ⟨ad, c, e, _⟩ := Kd.C_get HR0.out x 0 (by omega) (by rw [List.length_cons]; omega)
     cases e
   subst e0
   clear HR0 HC0 LM
   go_enter Try.func201, Try.ntmps201
   go_wp2
   go_ret
   exact ⟨_, eq_, Kd.R_nil _ _ _ _ _, bl_⟩
  | some ad =>
   obtain ⟨y1, hy1⟩ : ∃ y_ : List (S51), y_ = (([] : List (S51))) := ⟨_, rfl⟩
   have Ny1 := Aside0.mk hy1
   clear hy1
   go_enter Try.func201, Try.ntmps201
   go_wp2_with (first | ((with_reducible refine gate_dst (N := 5) rfl ?_); refine Kd.R_lit k51 _ 51 ?hg (N := 5) ?hd (xs := ([] : List (S51))) (inner := []) (ok := fun _ => True) (okp := fun _ => True) ?hr ?hp (fun _ hk => hk) trivial (Below.refl _ _) (Nat.le_refl _) (by simp) ?_; (case hd => rfl); (case hg => rfl); (case hr => first | (go_simp; done) | (go_simp; rfl)); (case hp => exact (Reps.none _ _)); intro v161 w9 ho10 hb hg_ hnew_; clear hg_ hnew_; (first | rw [← Ny1.out] at ho10 | (simp only [Int.reduceToNat] at ho10; rw [← Ny1.out] at ho10)); have HO162 := Aside0.mk (Kd.R_lower ho10 bls_); replace HB := hbs_ hb; clear hb ho10) | ((with_reducible refine gate_builtin (b := .append) (xs := #[.tmp 5, .tmp 6]) rfl ?_); at_builtin; refine Kd.R_append_rows k51 (w0 := w) w.heap.size rfl (.tmp 5) (.tmp 6) 46 51 (.agg #[(.int .i64 0), (.int .i64 0), (.int .i64 0)]) 24 rfl Try.underlying46 info51 rfl (by decide) (by omega) v161 y1 l0 _ _ _ (fun _ => True) (fun _ => False) rfl rfl ?aO ?aR (fun _ _ h => h) (fun _ h => h.elim) ?aF ?aB ?aS ?aL ?_; (case aR => repeat (first | exact (Kd.C_below HR0.out HB.out) | (with_reducible refine Kd.C_alloc ?_ _) | (with_reducible refine Kd.C_drewN ?_ _) | (with_reducible refine Kd.C_drew ?_))); (case aB => exact bl_); (case aF => exact (fun _ _ => trivial)); (case aO => exact (by (with_reducible repeat (first | apply Kd.R_alloc | apply Kd.R_drewN | apply Kd.R_drew)); exact HO162.out)); (case aS => exact bls_); (case aL => have := LM.out; rw [Ny1.out]; simp only [List.length_nil]; omega); intro v164 w11 ho hb hg hat; rw [Ny1.out, List.nil_append] at ho; replace HB := Aside0.mk (hb); have HO165 := Aside0.mk (ho); clear HO162; clear ho hb hg hat))
   go_ret
   exact ⟨_, eq_, by (with_reducible repeat (first | apply Kd.R_alloc | apply Kd.R_drewN | apply Kd.R_drew)); exact HO165.out, bl_⟩
 ·rw [if_neg hl] at h
  exact absurd h (by simp)
mutual
def impl_findFacts.l0 : Nat → List (S56) → List (S51) → List (S188) → Int → Option ((List (S188)))
 | 0, _, _, _, _ => none
 | k + 1, x0, x3, x4, x5 => if x5 < (x3.length : Int) then (impl_findFacts.l1 k x0 x3 x4 (x3.length : Int) x0 (x0.length : Int) 0) else (some x4)
def impl_findFacts.l1 : Nat → List (S56) → List (S51) → List (S188) → Int → List (S56) → Int → Int → Option ((List (S188)))
 | 0, _, _, _, _, _, _, _ => none
 | k + 1, x0, x3, x4, x5, x18, x19, x20 => if x20 < x19 then (if 0 ≤ x20 then (if x20 < (x18.length : Int) then ((impl_CredOk.f k ((rd_T56 x18 x20).f0) ((rd_T56 x18 x20).f1.f0) ((rd_T56 x18 x20).f1.f1) ((rd_T56 x18 x20).f2) ((rd_T56 x18 x20).f3.f0) ((rd_T56 x18 x20).f3.f1) ((rd_T56 x18 x20).f4.f0) ((rd_T56 x18 x20).f4.f1) ((rd_T56 x18 x20).f5) ((rd_T56 x18 x20).f6)).bind fun t385 => (if t385 = true then ((impl_Fact_201.f x3).bind fun t386 => ((impl_derive.f k t386 ((rd_T56 x18 x20).f0) ((rd_T56 x18 x20).f1.f0) ((rd_T56 x18 x20).f1.f1) ((rd_T56 x18 x20).f2) ((rd_T56 x18 x20).f3.f0) ((rd_T56 x18 x20).f3.f1) ((rd_T56 x18 x20).f4.f0) ((rd_T56 x18 x20).f4.f1) ((rd_T56 x18 x20).f5) ((rd_T56 x18 x20).f6)).bind fun t389 => (impl_findFacts.l2 k x0 x3 x4 x5 x20 x18 x19 x20 t389 (t389.length : Int) 0))) else (impl_findFacts.l1 k x0 x3 x4 x5 x18 x19 (wrap64 (x20 + 1))))) else (none)) else (none)) else (impl_findFacts.l0 k x0 x3 x4 x5)
def impl_findFacts.l2 : Nat → List (S56) → List (S51) → List (S188) → Int → Int → List (S56) → Int → Int → List (S193) → Int → Int → Option ((List (S188)))
 | 0, _, _, _, _, _, _, _, _, _, _, _ => none
 | k + 1, x0, x3, x4, x5, x6, x18, x19, x20, x31, x32, x33 => if x33 < x32 then (if 0 ≤ x33 then (if x33 < (x31.length : Int) then ((impl_Fact_119.f k x3 ((rd_T193 x31 x33).f0.f0.f0) ((rd_T193 x31 x33).f0.f0.f1) ((rd_T193 x31 x33).f0.f1)).bind fun t394 => (if t394 = true then (impl_findFacts.l2 k x0 x3 x4 x5 x6 x18 x19 x20 x31 x32 (wrap64 (x33 + 1))) else (if x3.length < 5864062014805 then (if x4.length < 2513169434916 then (impl_findFacts.l2 k x0 (x3 ++ [(⟨(⟨(rd_T193 x31 x33).f0.f0.f0, (rd_T193 x31 x33).f0.f0.f1⟩ : S49), (rd_T193 x31 x33).f0.f1⟩ : S51)]) (x4 ++ [(⟨(⟨(⟨(rd_T193 x31 x33).f0.f0.f0, (rd_T193 x31 x33).f0.f0.f1⟩ : S49), (rd_T193 x31 x33).f0.f1⟩ : S51), x6, (rd_T193 x31 x33).f1⟩ : S188)]) x5 x6 x18 x19 x20 x31 x32 (wrap64 (x33 + 1))) else (none)) else (none)))) else (none)) else (none)) else (impl_findFacts.l1 k x0 x3 x4 x5 x18 x19 (wrap64 (x20 + 1)))
end
def impl_findFacts.f (k : Nat) (l0 : List (S56)) : Option ((List (S188))) := impl_findFacts.l0 k l0 (([] : List (S51))) (([] : List (S188))) (-1)
set_option maxHeartbeats 8000000 in
set_option maxRecDepth 100000 in
theorem impl_findFacts.calls (k : Nat) (A0 : Option Addr) (c0 : Nat) (l0 : List (S56)) (r : List (S188)) (w : World) (hr0 : Kd.C k56 w A0 l0.length l0) (hc0 : l0.length ≤ c0) (h : impl_findFacts.f k l0 = some r) :
  Calls Try.prog 167 #[.slice A0 l0.length c0] w fun e w' => ∃ v0_ : Value, e = .returned (v0_) ∧ Kd.N k188 188 w' w.heap.size (fun k_ => (w.heap.size ≤ k_)) v0_ r ∧ Below w.heap.size w w' := by
 have hu56 := Try.underlying56
 have hu193 := Try.underlying193
 have hu51 := Try.underlying51
 have hu188 := Try.underlying188
 have HR0 := Aside0.mk hr0
 have HC0 := Aside0.mk hc0
 clear hr0 hc0
 have HB := Aside0.mk (Below.refl w.heap.size w)
 have H : (impl_findFacts.l0 k l0 (([] : List (S51))) (([] : List (S188))) (-1)) = some r := h
 clear h
 obtain ⟨y377, hy377⟩ : ∃ y_ : List (S51), y_ = (([] : List (S51))) := ⟨_, rfl⟩
 replace H : (impl_findFacts.l0 k l0 y377 (([] : List (S188))) (-1)) = some r := by first | (rw [hy377]; with_reducible exact H) | (have H2_ := (Option.bind_some _ _).symm.trans H; rw [hy377]; with_reducible exact H2_) | (have H2_ := (Option.bind_some _ _).symm.trans H; with_reducible exact H2_) | with_reducible exact H | (rw [hy377]; exact H) | exact H
 have Ny377 := Aside0.mk hy377
 clear hy377
 obtain ⟨y380, hy380⟩ : ∃ y_ : List (S188), y_ = (([] : List (S188))) := ⟨_, rfl⟩
 replace H : (impl_findFacts.l0 k l0 y377 y380 (-1)) = some r := by first | (rw [hy380]; with_reducible exact H) | (have H2_ := (Option.bind_some _ _).symm.trans H; rw [hy380]; with_reducible exact H2_) | (have H2_ := (Option.bind_some _ _).symm.trans H; with_reducible exact H2_) | with_reducible exact H | (rw [hy380]; exact H) | exact H
 have Ny380 := Aside0.mk hy380
 clear hy380
 have H' := Aside0.mk H
 clear H
 go_enter Try.func167, Try.ntmps167
 go_wp2_with (first | ((with_reducible refine gate_dst (N := 10) rfl ?_); refine Kd.R_lit k51 _ 51 ?hg (N := 10) ?hd (xs := ([] : List (S51))) (inner := []) (ok := fun _ => True) (okp := fun _ => True) ?hr ?hp (fun _ hk => hk) trivial (Below.refl _ _) (Nat.le_refl _) (by simp) ?_; (case hd => rfl); (case hg => rfl); (case hr => first | (go_simp; done) | (go_simp; rfl)); (case hp => exact (Reps.none _ _)); intro v378 w2 ho3 hb hg_ hnew_; clear hg_ hnew_; (first | rw [← Ny377.out] at ho3 | (simp only [Int.reduceToNat] at ho3; rw [← Ny377.out] at ho3)); have HO379 := Aside0.mk (Kd.R_lower (Kd.R_newM (M := fun k_ => (w.heap.size ≤ k_)) ho3 bls_ (fun k_ h_ => h_)) bls_); replace HB := hbs_ hb; clear hb ho3) | ((with_reducible refine gate_dst (N := 11) rfl ?_); refine Kd.N_lit k188 _ 188 ?hg (N' := 11) ?hd (xs := ([] : List (S188))) (inner := []) (ok := (fun k_ => (w.heap.size ≤ k_) ∧ some k_ ≠ (v378 : Value).ownBlock)) (okp := (fun k_ => (w.heap.size ≤ k_) ∧ some k_ ≠ (v378 : Value).ownBlock)) ?hr ?hp (fun _ hk => hk) ((show ∀ k_, w2.heap.size ≤ k_ → (fun k_ => (w.heap.size ≤ k_) ∧ some k_ ≠ (v378 : Value).ownBlock) k_ from fun k_ hk => ⟨(Nat.le_trans bls_ hk), Kd.fresh' (Kd.R_lt (by (with_reducible repeat (first | apply Kd.R_alloc | apply Kd.R_drewN | apply Kd.R_drew)); exact HO379.out)) k_ hk⟩) _ (Nat.le_refl _)) (Below.refl _ _) (Nat.le_refl _) (by simp) ?_; (case hd => rfl); (case hg => rfl); (case hr => first | (go_simp; done) | (go_simp; rfl)); (case hp => exact (Reps.none _ _)); intro v381 w4 ho5 hb hg_ hnew_; clear hg_ hnew_; (first | rw [← Ny380.out] at ho5 | (simp only [Int.reduceToNat] at ho5; rw [← Ny380.out] at ho5)); replace HO379 := Aside0.mk (Kd.R_below (by (with_reducible repeat (first | apply Kd.R_alloc | apply Kd.R_drewN | apply Kd.R_drew)); exact HO379.out) hb); have HO382 := Aside0.mk (Kd.N_lower ho5 bls_); replace HB := hbs_ hb; clear hb ho5))
 go_loopg [3, 4, 5] k (fun kq v3 v4 v5 w' => ∃ (x3_1 : List (S51)) (x4_1 : List (S188)) (x5_1 : Int), v5 = .int .i64 x5_1 ∧ Aside0 (impl_findFacts.l0 kq l0 x3_1 x4_1 x5_1 = some r) ∧ Aside0 (kq ≤ k) ∧ Aside0 (Kd.R k51 51 w' w.heap.size (fun k_ => (w.heap.size ≤ k_)) v3 x3_1) ∧ Aside0 (Kd.N k188 188 w' w.heap.size (fun k_ => (w.heap.size ≤ k_) ∧ some k_ ≠ (v3 : Value).ownBlock) v4 x4_1) ∧ Aside0 (Below w.heap.size w w'))
 case atStart => exact ⟨(y377), (y380), ((-1)), (by first | rfl | (simp; done) | (simp [*]; done)), H', ⟨Nat.le_refl _⟩, ⟨by (with_reducible repeat (first | apply Kd.R_alloc | apply Kd.R_drewN | apply Kd.R_drew)); exact Kd.R_mono HO379.out (fun _ hk => hk.1)⟩, ⟨by (with_reducible repeat (first | apply Kd.N_alloc | apply Kd.N_drewN | apply Kd.N_drew)); exact HO382.out⟩, ⟨bl_⟩⟩
 case round =>
  clear H'
  try clear c1
  try clear p2
  obtain ⟨x3_1, x4_1, x5_1, rfl, HA, HK1, HO_3, HO_4, HB⟩ := hrel
  cases gk with
  | zero => exact absurd HA.out (by simp [impl_findFacts.l0])
  | succ k1 =>
   have H := HA.out
   clear HA
   simp only [impl_findFacts.l0] at H
   by_cases c6 : x5_1 < (x3_1.length : Int)
   ·rw [if_pos c6] at H
    have c6b0 : decide (x5_1 < (x3_1.length : Int)) = true := decide_eq_true c6
    clear c6
    have H' := Aside0.mk H
    clear H
    obtain ⟨Ao7, co7, eo7⟩ := Kd.R_slice HO_3.out
    subst eo7
    go_wp2
    go_loopg [3, 4, 20] k1 (fun kq v3 v4 v20 w' => ∃ (x3_2 : List (S51)) (x4_2 : List (S188)) (x20_2 : Int), v20 = .int .i64 x20_2 ∧ Aside0 (impl_findFacts.l1 kq l0 x3_2 x4_2 (x3_1.length : Int) l0 (l0.length : Int) x20_2 = some r) ∧ Aside0 (kq ≤ k1) ∧ Aside0 (Kd.R k51 51 w' w.heap.size (fun k_ => (w.heap.size ≤ k_)) v3 x3_2) ∧ Aside0 (Kd.N k188 188 w' w.heap.size (fun k_ => (w.heap.size ≤ k_) ∧ some k_ ≠ (v3 : Value).ownBlock) v4 x4_2) ∧ Aside0 (Below w.heap.size w w'))
    case atStart => exact ⟨(x3_1), (x4_1), (0), (by first | rfl | (simp; done) | (simp [*]; done)), H', ⟨Nat.le_refl _⟩, ⟨by (with_reducible repeat (first | apply Kd.R_alloc | apply Kd.R_drewN | apply Kd.R_drew)); exact HO_3.out⟩, ⟨by (with_reducible repeat (first | apply Kd.N_alloc | apply Kd.N_drewN | apply Kd.N_drew)); exact HO_4.out⟩, ⟨bl_⟩⟩
    case round =>
     clear H'
     try clear c1
     try clear p2
     try clear c6
     try clear c6b0
     try clear p2
     obtain ⟨x3_2, x4_2, x20_2, rfl, HA, HK2, HO_3, HO_4, HB⟩ := hrel
     cases gk with
     | zero => exact absurd HA.out (by simp [impl_findFacts.l1])
     | succ k2 =>
      have H := HA.out
      clear HA
      simp only [impl_findFacts.l1] at H
      by_cases c8 : x20_2 < (l0.length : Int)
      ·rw [if_pos c8] at H
       have c8b0 : decide (x20_2 < (l0.length : Int)) = true := decide_eq_true c8
       clear c8
       by_cases c9 : 0 ≤ x20_2
       ·rw [if_pos c9] at H
        have c9b0 : decide (0 ≤ x20_2) = true := decide_eq_true c9
        clear c9
        by_cases c10 : x20_2 < (l0.length : Int)
        ·rw [if_pos c10] at H
         have c10b0 : decide (x20_2 < (l0.length : Int)) = true := decide_eq_true c10
         clear c10
         obtain ⟨t385, A11, H⟩ := bindE_ H
         by_cases c12 : t385 = true
         ·subst c12
          replace H := ite_t_ H
          obtain ⟨t386, A13, H⟩ := bindE_ H
          obtain ⟨t389, A14, H⟩ := bindE_ H
          have H' := Aside0.mk H
          clear H
          have p383 : 0 ≤ (x20_2 : Int) := of_decide_eq_true (by first | (with_reducible assumption) | assumption)
          have q383 : x20_2 < (l0.length : Int) := of_decide_eq_true (by first | (with_reducible assumption) | assumption)
          obtain ⟨ad383, e383, hx383_0, hx383_1, hx383_2, hx383_3, hx383_4, hx383_5, hx383_6, hx383_7, hx383_8, hx383_9⟩ := at_T56 (Kd.C_below HR0.out HB.out) x20_2 p383 q383
          cases e383
          replace p383 := eq_true p383
          replace q383 := eq_true q383
          try go_wp2_with (first | ((with_reducible refine gate_dst (N := 7) rfl ?_); refine box_event ?hg (N := 7) ?hd (cs := #[.int .i64 0, .int .i64 0, .int .i64 0, .int .i64 0, .int .i64 0, .int .i64 0, .int .i64 0, .int .i64 0, .int .i64 0, .int .i64 0]) (t := 56) ?hr ?_; (case hd => rfl); (case hg => rfl); (case hr => first | (go_simp; done) | (go_simp; rfl)); intro gb384 hg w15 hbox hb; replace HO_3 := Aside0.mk (Kd.R_below (by (with_reducible repeat (first | apply Kd.R_alloc | apply Kd.R_drewN | apply Kd.R_drew)); exact HO_3.out) hb); replace HO_4 := Aside0.mk (Kd.N_below (Kd.N_elderB (by (with_reducible repeat (first | apply Kd.N_alloc | apply Kd.N_drewN | apply Kd.N_drew)); exact HO_4.out) gb384 (Nat.le_of_eq hg.symm)) hb); have BK384 := Aside0.mk (hbox); have GW384 := gs_ hg; have GE384 := gs_ hg; replace HB := hbs_ hb; clear hb hbox hg; have hcz16 := blk_cell BK384.out; have hfz16 := blk_frozen BK384.out) | ((with_reducible refine gate_callee (f := 96) rfl ?_); refine goesC_ (some 26) Try.func96 #[.agg #[.int .i64 ((rd_T56 l0 x20_2).f0), .int .i64 ((rd_T56 l0 x20_2).f1.f0), .int .i64 ((rd_T56 l0 x20_2).f1.f1), .int .i64 ((rd_T56 l0 x20_2).f2), .int .i64 ((rd_T56 l0 x20_2).f3.f0), .int .i64 ((rd_T56 l0 x20_2).f3.f1), .int .i64 ((rd_T56 l0 x20_2).f4.f0), .int .i64 ((rd_T56 l0 x20_2).f4.f1), .int .i64 ((rd_T56 l0 x20_2).f5), .int .i64 ((rd_T56 l0 x20_2).f6)]] ?_; (with_reducible refine (impl_CredOk.calls k2 ((rd_T56 l0 x20_2).f0) ((rd_T56 l0 x20_2).f1.f0) ((rd_T56 l0 x20_2).f1.f1) ((rd_T56 l0 x20_2).f2) ((rd_T56 l0 x20_2).f3.f0) ((rd_T56 l0 x20_2).f3.f1) ((rd_T56 l0 x20_2).f4.f0) ((rd_T56 l0 x20_2).f4.f1) ((rd_T56 l0 x20_2).f5) ((rd_T56 l0 x20_2).f6) true _ A11.out).mono ?_); rintro e w17 ⟨rfl, hb⟩; refine ⟨_, rfl, ?_⟩; replace HO_3 := Aside0.mk (Kd.R_below (by (with_reducible repeat (first | apply Kd.R_alloc | apply Kd.R_drewN | apply Kd.R_drew)); exact (Kd.R_mono (Kd.R_far (p := ⟨gb384, 9, none⟩) (Kd.R_far (p := ⟨gb384, 8, none⟩) (Kd.R_far (p := ⟨gb384, 7, none⟩) (Kd.R_far (p := ⟨gb384, 6, none⟩) (Kd.R_far (p := ⟨gb384, 5, none⟩) (Kd.R_far (p := ⟨gb384, 4, none⟩) (Kd.R_far (p := ⟨gb384, 3, none⟩) (Kd.R_far (p := ⟨gb384, 2, none⟩) (Kd.R_far (p := ⟨gb384, 1, none⟩) (Kd.R_far (p := ⟨gb384, 0, none⟩) (Kd.R_types HO_3.out BK384.out (by decide)) (fun _ hk => hk.2) (.int .i64 ((rd_T56 l0 x20_2).f0))) (fun _ hk => hk.2) (.int .i64 ((rd_T56 l0 x20_2).f1.f0))) (fun _ hk => hk.2) (.int .i64 ((rd_T56 l0 x20_2).f1.f1))) (fun _ hk => hk.2) (.int .i64 ((rd_T56 l0 x20_2).f2))) (fun _ hk => hk.2) (.int .i64 ((rd_T56 l0 x20_2).f3.f0))) (fun _ hk => hk.2) (.int .i64 ((rd_T56 l0 x20_2).f3.f1))) (fun _ hk => hk.2) (.int .i64 ((rd_T56 l0 x20_2).f4.f0))) (fun _ hk => hk.2) (.int .i64 ((rd_T56 l0 x20_2).f4.f1))) (fun _ hk => hk.2) (.int .i64 ((rd_T56 l0 x20_2).f5))) (fun _ hk => hk.2) (.int .i64 ((rd_T56 l0 x20_2).f6))) (fun _ h_ => h_.1))) hb); replace HO_4 := Aside0.mk (Kd.N_below (by (with_reducible repeat (first | apply Kd.N_alloc | apply Kd.N_drewN | apply Kd.N_drew)); exact (Kd.N_mono (Kd.N_far (p := ⟨gb384, 9, none⟩) (Kd.N_far (p := ⟨gb384, 8, none⟩) (Kd.N_far (p := ⟨gb384, 7, none⟩) (Kd.N_far (p := ⟨gb384, 6, none⟩) (Kd.N_far (p := ⟨gb384, 5, none⟩) (Kd.N_far (p := ⟨gb384, 4, none⟩) (Kd.N_far (p := ⟨gb384, 3, none⟩) (Kd.N_far (p := ⟨gb384, 2, none⟩) (Kd.N_far (p := ⟨gb384, 1, none⟩) (Kd.N_far (p := ⟨gb384, 0, none⟩) (Kd.N_mono HO_4.out (fun k_ hk => (⟨hk, hk.2⟩ : _ ∧ k_ ≠ gb384))) (fun _ hk => hk.2) (.int .i64 ((rd_T56 l0 x20_2).f0))) (fun _ hk => hk.2) (.int .i64 ((rd_T56 l0 x20_2).f1.f0))) (fun _ hk => hk.2) (.int .i64 ((rd_T56 l0 x20_2).f1.f1))) (fun _ hk => hk.2) (.int .i64 ((rd_T56 l0 x20_2).f2))) (fun _ hk => hk.2) (.int .i64 ((rd_T56 l0 x20_2).f3.f0))) (fun _ hk => hk.2) (.int .i64 ((rd_T56 l0 x20_2).f3.f1))) (fun _ hk => hk.2) (.int .i64 ((rd_T56 l0 x20_2).f4.f0))) (fun _ hk => hk.2) (.int .i64 ((rd_T56 l0 x20_2).f4.f1))) (fun _ hk => hk.2) (.int .i64 ((rd_T56 l0 x20_2).f5))) (fun _ hk => hk.2) (.int .i64 ((rd_T56 l0 x20_2).f6))) (fun _ h_ => h_.1))) hb); replace BK384 := Aside0.mk (blk_below (g := gb384) (o := .cells #[.int .i64 ((rd_T56 l0 x20_2).f0), .int .i64 ((rd_T56 l0 x20_2).f1.f0), .int .i64 ((rd_T56 l0 x20_2).f1.f1), .int .i64 ((rd_T56 l0 x20_2).f2), .int .i64 ((rd_T56 l0 x20_2).f3.f0), .int .i64 ((rd_T56 l0 x20_2).f3.f1), .int .i64 ((rd_T56 l0 x20_2).f4.f0), .int .i64 ((rd_T56 l0 x20_2).f4.f1), .int .i64 ((rd_T56 l0 x20_2).f5), .int .i64 ((rd_T56 l0 x20_2).f6)] 56 (0, 0)) (bk_ BK384) hb); replace HB := hbs_ hb; clear hb))
          replace HO_3 := Aside0.mk (Kd.R_drew HO_3.out)
          replace HO_4 := Aside0.mk (Kd.N_drew HO_4.out)
          replace BK384 := Aside0.mk (blk_drew BK384.out)
          replace HB := Aside0.mk (below_drew1 HB.out)
          obtain ⟨Ao19, co19, eo19⟩ := Kd.R_slice HO_3.out
          (first | subst eo19 | (injection eo19 with f1_ f2_ f3_; have f4_ := f1_.symm; have f5_ := f3_.symm; clear f1_ f2_ f3_; subst f4_; subst f5_))
          refine start_ (n := 6) (S := fun w' => w'.cell? ⟨gb384, 0, none⟩ = some (.int .i64 ((rd_T56 l0 x20_2).f0)) ∧ w'.cell? ⟨gb384, 1, none⟩ = some (.int .i64 ((rd_T56 l0 x20_2).f1.f0)) ∧ w'.cell? ⟨gb384, 2, none⟩ = some (.int .i64 ((rd_T56 l0 x20_2).f1.f1)) ∧ w'.cell? ⟨gb384, 3, none⟩ = some (.int .i64 ((rd_T56 l0 x20_2).f2)) ∧ w'.cell? ⟨gb384, 4, none⟩ = some (.int .i64 ((rd_T56 l0 x20_2).f3.f0)) ∧ w'.cell? ⟨gb384, 5, none⟩ = some (.int .i64 ((rd_T56 l0 x20_2).f3.f1)) ∧ w'.cell? ⟨gb384, 6, none⟩ = some (.int .i64 ((rd_T56 l0 x20_2).f4.f0)) ∧ w'.cell? ⟨gb384, 7, none⟩ = some (.int .i64 ((rd_T56 l0 x20_2).f4.f1)) ∧ w'.cell? ⟨gb384, 8, none⟩ = some (.int .i64 ((rd_T56 l0 x20_2).f5)) ∧ w'.cell? ⟨gb384, 9, none⟩ = some (.int .i64 ((rd_T56 l0 x20_2).f6))) (ds := []) #[false, false, false, false, false, false] (by kernel_rfl) rfl rfl ⟨(blk_cell BK384.out 0).trans rfl, (blk_cell BK384.out 1).trans rfl, (blk_cell BK384.out 2).trans rfl, (blk_cell BK384.out 3).trans rfl, (blk_cell BK384.out 4).trans rfl, (blk_cell BK384.out 5).trans rfl, (blk_cell BK384.out 6).trans rfl, (blk_cell BK384.out 7).trans rfl, (blk_cell BK384.out 8).trans rfl, (blk_cell BK384.out 9).trans rfl⟩ (fun hHeld => ?_)
          generalize w17.drew = w18 at HO_3 HO_4 BK384 HB hHeld ⊢
          refine pure_ (i := 0) (N := some 28) (v := ?_) (a' := ?_) #[true, false, false, false, false, false] rfl rfl (by kernel_rfl) (fun _ _ _ h => h) (Or.inl ⟨by rfl, ?_⟩) ?_ ?_
          rotate_left
          ·intro w'
           go_simp
           with_reducible rfl
          rotate_left
          ·simp only [Act.put, List.setIfInBounds_toArray, List.set_cons_zero, List.set_cons_succ, i64_w, i32_w]
           rfl
          refine pure_ (i := 5) (N := some 33) (v := ?_) (a' := ?_) #[true, false, false, false, false, true] rfl rfl (by kernel_rfl) (fun _ _ _ h => h) (Or.inl ⟨by rfl, ?_⟩) ?_ ?_
          rotate_left
          ·intro w'
           go_simp
           with_reducible rfl
          rotate_left
          ·simp only [Act.put, List.setIfInBounds_toArray, List.set_cons_zero, List.set_cons_succ, i64_w, i32_w]
           rfl
          refine take_ (i := 2) (N := some 30) (v := ?_) (a' := ?_) #[true, false, true, false, false, true] rfl rfl (by kernel_rfl) (fun _ _ _ h => h) (Or.inl ⟨by rfl, ?_⟩) hHeld ?_ ?_
          rotate_left
          ·rintro w' ⟨s0, s1, s2, s3, s4, s5, s6, s7, s8, s9⟩
           go_simp
           with_reducible rfl
          rotate_left
          ·simp only [Act.put, List.setIfInBounds_toArray, List.set_cons_zero, List.set_cons_succ, i64_w, i32_w]
           rfl
          refine one_ (i := 1) (N := some 29) #[true, true, true, false, false, true] rfl rfl (by kernel_rfl) (by decide) (fun K hK => ?_)
          refine goes_ Try.func201 (by kernel_rfl) rfl #[.slice Ao19 x3_2.length co19] (by rfl) rfl rfl (by (try simp only [List.map_toArray, List.map_cons, List.map_nil]); first | done | rfl | (simp only [List.length_drop, List.length_take]; rfl)) ?_
          with_reducible refine (impl_Fact_201.calls _ _ x3_2 t386 _ ?side1 ?side2 A13.out).mono ?_
          (case side1 => repeat (first | exact (Kd.R_reads' HO_3.out).2.2 | (with_reducible refine Kd.C_alloc ?_ _) | (with_reducible refine Kd.C_drewN ?_ _) | (with_reducible refine Kd.C_drew ?_)))
          (case side2 => exact (Kd.R_reads' HO_3.out).2.1)
          rintro e w20 ⟨v387, rfl, ho0, hb⟩
          refine ⟨_, rfl, ?_⟩
          replace HO_4 := Aside0.mk (Kd.N_elder' (by (with_reducible repeat (first | apply Kd.N_alloc | apply Kd.N_drewN | apply Kd.N_drew)); exact HO_4.out) (Kd.R_base ho0) hb)
          have HO388 := Aside0.mk (Kd.R_lower (Kd.R_new' (Kd.R_newM (M := fun k_ => (w.heap.size ≤ k_)) ho0 bls_ (fun k_ h_ => h_)) (Kd.R_lt (by (with_reducible repeat (first | apply Kd.R_alloc | apply Kd.R_drewN | apply Kd.R_drew)); exact HO_3.out))) bls_)
          replace HO_3 := Aside0.mk (Kd.R_elder' (by (with_reducible repeat (first | apply Kd.R_alloc | apply Kd.R_drewN | apply Kd.R_drew)); exact HO_3.out) (Kd.R_base ho0) hb)
          replace BK384 := bkb_ BK384 hb
          replace HB := hbs_ hb
          (try clear hb)
          (try clear hb2)
          (try clear hk)
          (try clear hi)
          (try clear ho0)
          obtain ⟨Ao21, co21, eo21⟩ := Kd.R_slice HO388.out
          (first | subst eo21 | (injection eo21 with f1_ f2_ f3_; have f4_ := f1_.symm; have f5_ := f3_.symm; clear f1_ f2_ f3_; subst f4_; subst f5_))
          refine hK.out _ _ ⟨(blk_cell BK384.out 0).trans rfl, (blk_cell BK384.out 1).trans rfl, (blk_cell BK384.out 2).trans rfl, (blk_cell BK384.out 3).trans rfl, (blk_cell BK384.out 4).trans rfl, (blk_cell BK384.out 5).trans rfl, (blk_cell BK384.out 6).trans rfl, (blk_cell BK384.out 7).trans rfl, (blk_cell BK384.out 8).trans rfl, (blk_cell BK384.out 9).trans rfl⟩ (fun hHeld => ?_)
          clear hK K
          refine norm_ (a' := ?_) ?_ ?_
          rotate_left
          ·show Act.put _ (some 29) _ = _
           simp only [Act.put, List.setIfInBounds_toArray, List.set_cons_zero, List.set_cons_succ, i64_w, i32_w]
           rfl
          refine one_ (i := 3) (N := some 31) #[true, true, true, true, false, true] rfl rfl (by kernel_rfl) (by decide) (fun K hK => ?_)
          refine goes_ Try.func169 (by kernel_rfl) rfl #[.slice Ao21 t386.length co21, .agg #[.int .i64 ((rd_T56 l0 x20_2).f0), .int .i64 ((rd_T56 l0 x20_2).f1.f0), .int .i64 ((rd_T56 l0 x20_2).f1.f1), .int .i64 ((rd_T56 l0 x20_2).f2), .int .i64 ((rd_T56 l0 x20_2).f3.f0), .int .i64 ((rd_T56 l0 x20_2).f3.f1), .int .i64 ((rd_T56 l0 x20_2).f4.f0), .int .i64 ((rd_T56 l0 x20_2).f4.f1), .int .i64 ((rd_T56 l0 x20_2).f5), .int .i64 ((rd_T56 l0 x20_2).f6)]] (by rfl) rfl rfl (by (try simp only [List.map_toArray, List.map_cons, List.map_nil]); first | done | rfl | (simp only [List.length_drop, List.length_take]; rfl)) ?_
          with_reducible refine (impl_derive.calls k2 _ _ t386 ((rd_T56 l0 x20_2).f0) ((rd_T56 l0 x20_2).f1.f0) ((rd_T56 l0 x20_2).f1.f1) ((rd_T56 l0 x20_2).f2) ((rd_T56 l0 x20_2).f3.f0) ((rd_T56 l0 x20_2).f3.f1) ((rd_T56 l0 x20_2).f4.f0) ((rd_T56 l0 x20_2).f4.f1) ((rd_T56 l0 x20_2).f5) ((rd_T56 l0 x20_2).f6) t389 _ ?side1 ?side2 A14.out).mono ?_
          (case side1 => repeat (first | exact (Kd.R_reads' HO388.out).2.2 | (with_reducible refine Kd.C_alloc ?_ _) | (with_reducible refine Kd.C_drewN ?_ _) | (with_reducible refine Kd.C_drew ?_)))
          (case side2 => exact (Kd.R_reads' HO388.out).2.1)
          rintro e w22 ⟨v390, rfl, ho0, hb⟩
          refine ⟨_, rfl, ?_⟩
          have HO391 := Aside0.mk (Kd.N_lower (Kd.N_mono (ok' := fun k_ => (w.heap.size ≤ k_) ∧ some k_ ≠ (.slice Ao19 x3_2.length co19 : Value).ownBlock ∧ some k_ ≠ (u4 : Value).ownBlock ∧ some k_ ≠ (.slice Ao21 t386.length co21 : Value).ownBlock ∧ k_ ≠ gb384) (Kd.S_N (Kd.S_bound ho0)) (fun k_ hk_ => ⟨(Nat.le_trans bls_ hk_.2.1), (Kd.fresh' (Kd.R_lt (by (with_reducible repeat (first | apply Kd.R_alloc | apply Kd.R_drewN | apply Kd.R_drew)); exact HO_3.out)) k_ hk_.2.1), (Kd.fresh' (Kd.N_lt (by (with_reducible repeat (first | apply Kd.N_alloc | apply Kd.N_drewN | apply Kd.N_drew)); exact HO_4.out)) k_ hk_.2.1), (Kd.fresh' (Kd.R_lt (by (with_reducible repeat (first | apply Kd.R_alloc | apply Kd.R_drewN | apply Kd.R_drew)); exact HO388.out)) k_ hk_.2.1), (Kd.freshB (g := gb384) (o := .cells #[.int .i64 ((rd_T56 l0 x20_2).f0), .int .i64 ((rd_T56 l0 x20_2).f1.f0), .int .i64 ((rd_T56 l0 x20_2).f1.f1), .int .i64 ((rd_T56 l0 x20_2).f2), .int .i64 ((rd_T56 l0 x20_2).f3.f0), .int .i64 ((rd_T56 l0 x20_2).f3.f1), .int .i64 ((rd_T56 l0 x20_2).f4.f0), .int .i64 ((rd_T56 l0 x20_2).f4.f1), .int .i64 ((rd_T56 l0 x20_2).f5), .int .i64 ((rd_T56 l0 x20_2).f6)] 56 (0, 0)) (bk_ BK384) k_ hk_.2.1)⟩)) bls_)
          replace HO_3 := Aside0.mk (Kd.R_below (by (with_reducible repeat (first | apply Kd.R_alloc | apply Kd.R_drewN | apply Kd.R_drew)); exact HO_3.out) hb)
          replace HO_4 := Aside0.mk (Kd.N_elder' (by (with_reducible repeat (first | apply Kd.N_alloc | apply Kd.N_drewN | apply Kd.N_drew)); exact HO_4.out) (Kd.S_base ho0) hb)
          replace HO388 := Aside0.mk (Kd.R_below (by (with_reducible repeat (first | apply Kd.R_alloc | apply Kd.R_drewN | apply Kd.R_drew)); exact HO388.out) hb)
          replace BK384 := bkb_ BK384 hb
          replace HB := hbs_ hb
          (try clear hb)
          (try clear hb2)
          (try clear hk)
          (try clear hi)
          (try clear ho0)
          obtain ⟨Ao23, co23, eo23⟩ := Kd.N_slice HO391.out
          (first | subst eo23 | (injection eo23 with f1_ f2_ f3_; have f4_ := f1_.symm; have f5_ := f3_.symm; clear f1_ f2_ f3_; subst f4_; subst f5_))
          refine hK.out _ _ ⟨(blk_cell BK384.out 0).trans rfl, (blk_cell BK384.out 1).trans rfl, (blk_cell BK384.out 2).trans rfl, (blk_cell BK384.out 3).trans rfl, (blk_cell BK384.out 4).trans rfl, (blk_cell BK384.out 5).trans rfl, (blk_cell BK384.out 6).trans rfl, (blk_cell BK384.out 7).trans rfl, (blk_cell BK384.out 8).trans rfl, (blk_cell BK384.out 9).trans rfl⟩ (fun hHeld => ?_)
          clear hK K
          refine norm_ (a' := ?_) ?_ ?_
          rotate_left
          ·show Act.put _ (some 31) _ = _
           simp only [Act.put, List.setIfInBounds_toArray, List.set_cons_zero, List.set_cons_succ, i64_w, i32_w]
           rfl
          refine pure_ (i := 4) (N := some 32) (v := ?_) (a' := ?_) #[true, true, true, true, true, true] rfl rfl (by kernel_rfl) (fun _ _ _ h => h) (Or.inl ⟨by rfl, ?_⟩) ?_ ?_
          rotate_left
          ·intro w'
           go_simp
           with_reducible rfl
          rotate_left
          ·simp only [Act.put, List.setIfInBounds_toArray, List.set_cons_zero, List.set_cons_succ, i64_w, i32_w]
           rfl
          refine done_ (by kernel_rfl) ?_
          try go_wp2
          go_loopg [3, 4, 33] k2 (fun kq v3 v4 v33 w' => ∃ (x3_3 : List (S51)) (x4_3 : List (S188)) (x33_3 : Int), v33 = .int .i64 x33_3 ∧ Aside0 (impl_findFacts.l2 kq l0 x3_3 x4_3 (x3_1.length : Int) x20_2 l0 (l0.length : Int) x20_2 t389 (t389.length : Int) x33_3 = some r) ∧ Aside0 (kq ≤ k2) ∧ Aside0 (Kd.R k51 51 w' w.heap.size (fun k_ => (w.heap.size ≤ k_)) v3 x3_3) ∧ Aside0 (Kd.N k188 188 w' w.heap.size (fun k_ => (w.heap.size ≤ k_) ∧ some k_ ≠ (v3 : Value).ownBlock ∧ some k_ ≠ ((.slice Ao23 t389.length co23) : Value).ownBlock ∧ k_ ≠ gb384) v4 x4_3) ∧ Aside0 (Kd.N k193 193 w' w.heap.size (fun k_ => (w.heap.size ≤ k_) ∧ some k_ ≠ (v3 : Value).ownBlock ∧ some k_ ≠ (v4 : Value).ownBlock ∧ k_ ≠ gb384) (.slice Ao23 t389.length co23) t389) ∧ Aside0 (w'.heap[gb384]? = some (.cells #[.int .i64 ((rd_T56 l0 x20_2).f0), .int .i64 ((rd_T56 l0 x20_2).f1.f0), .int .i64 ((rd_T56 l0 x20_2).f1.f1), .int .i64 ((rd_T56 l0 x20_2).f2), .int .i64 ((rd_T56 l0 x20_2).f3.f0), .int .i64 ((rd_T56 l0 x20_2).f3.f1), .int .i64 ((rd_T56 l0 x20_2).f4.f0), .int .i64 ((rd_T56 l0 x20_2).f4.f1), .int .i64 ((rd_T56 l0 x20_2).f5), .int .i64 ((rd_T56 l0 x20_2).f6)] 56 (0, 0))) ∧ Aside0 (Below w.heap.size w w'))
          case atStart => exact ⟨(x3_2), (x4_2), (0), (by first | rfl | (simp; done) | (simp [*]; done)), H', ⟨Nat.le_refl _⟩, ⟨by (with_reducible repeat (first | apply Kd.R_alloc | apply Kd.R_drewN | apply Kd.R_drew)); exact Kd.R_mono HO_3.out (fun _ hk => hk.1)⟩, ⟨by (with_reducible repeat (first | apply Kd.N_alloc | apply Kd.N_drewN | apply Kd.N_drew)); exact Kd.N_mono HO_4.out (fun _ hk => ⟨hk.1.1.1.1, ⟨hk.1.1.1.2, ⟨hk.2, hk.1.1.2⟩⟩⟩)⟩, ⟨by (with_reducible repeat (first | apply Kd.N_alloc | apply Kd.N_drewN | apply Kd.N_drew)); exact Kd.N_mono HO391.out (fun _ hk => ⟨hk.1, ⟨hk.2.1, ⟨hk.2.2.1, hk.2.2.2.2⟩⟩⟩)⟩, ⟨bk_ BK384⟩, ⟨bl_⟩⟩
          case round =>
           clear H'
           try clear c1
           try clear c2
           try clear p2
           try clear p3
           try clear q3
           try clear hx3
           try clear c6
           try clear c6b0
           try clear c8
           try clear c8b0
           try clear c9
           try clear c9b0
           try clear c10
           try clear c10b0
           try clear c12
           try clear c16
           try clear c20
           try clear hcz16
           try clear hfz16
           try clear hx383_0
           try clear hx383_1
           try clear hx383_2
           try clear hx383_3
           try clear hx383_4
           try clear hx383_5
           try clear hx383_6
           try clear hx383_7
           try clear hx383_8
           try clear hx383_9
           try clear p2
           try clear p383
           try clear q383
           obtain ⟨x3_3, x4_3, x33_3, rfl, HA, HK3, HO_3, HO_4, HO_31, BK384, HB⟩ := hrel
           cases gk with
           | zero => exact absurd HA.out (by simp [impl_findFacts.l2])
           | succ k3 =>
            have H := HA.out
            clear HA
            simp only [impl_findFacts.l2] at H
            by_cases c24 : x33_3 < (t389.length : Int)
            ·rw [if_pos c24] at H
             have c24b0 : decide (x33_3 < (t389.length : Int)) = true := decide_eq_true c24
             clear c24
             by_cases c25 : 0 ≤ x33_3
             ·rw [if_pos c25] at H
              have c25b0 : decide (0 ≤ x33_3) = true := decide_eq_true c25
              clear c25
              by_cases c26 : x33_3 < (t389.length : Int)
              ·rw [if_pos c26] at H
               have c26b0 : decide (x33_3 < (t389.length : Int)) = true := decide_eq_true c26
               clear c26
               obtain ⟨t394, A27, H⟩ := bindE_ H
               by_cases c28 : t394 = true
               ·subst c28
                replace H := ite_t_ H
                have H' := Aside0.mk H
                clear H
                have p392 : 0 ≤ (x33_3 : Int) := of_decide_eq_true (by first | (with_reducible assumption) | assumption)
                have q392 : x33_3 < (t389.length : Int) := of_decide_eq_true (by first | (with_reducible assumption) | assumption)
                obtain ⟨ad392, A392_3, c392_3, e392, hx392_0, hx392_1, hx392_2, hx392_3, hl392_3, hi392_3⟩ := at_T193 (Kd.N_reads' HO_31.out).2.2 x33_3 p392 q392
                cases e392
                obtain ⟨ce392, hce392, hMe392, hcc392⟩ := Kd.N_get HO_31.out z193 x33_3 p392 (by first | exact q392 | exact of_decide_eq_true (by first | (with_reducible assumption) | assumption) | (have e_ := (Kd.N_reads' HO_31.out).1; omega))
                obtain ⟨ua392_3, uc392_3, rfl, ul392_3, ge392_3⟩ := k193_openF hMe392
                have hv392_3 := hcc392 3 _ rfl
                rw [add_field _ _ 3 (by omega)] at hv392_3
                replace hv392_3 := Option.some.inj (hv392_3.symm.trans hx392_3)
                injection hv392_3 with hva_ hvn_ hvc_
                rw [hva_] at ge392_3
                rw [hvc_] at ul392_3
                have HL392_3 := Aside0.mk (show Kd.V (Kd.int .i64) 3 _ w.heap.size _ _ ((rd_T193 t389 x33_3).f1) from Kd.V_mk ul392_3 ge392_3)
                clear hva_ hvn_ hvc_ ge392_3 ul392_3
                clear hcc392 hce392
                have HR392_3 := Aside0.mk hi392_3
                have HC392_3 := Aside0.mk hl392_3
                clear hi392_3 hl392_3
                replace p392 := eq_true p392
                replace q392 := eq_true q392
                go_wp2_with (first | ((with_reducible refine gate_dst (N := 9) rfl ?_); refine box_event ?hg (N := 9) ?hd (cs := #[.int .i64 0, .int .i64 0, .int .i64 0, .slice none 0 0]) (t := 193) ?hr ?_; (case hd => rfl); (case hg => rfl); (case hr => first | (go_simp; done) | (go_simp; rfl)); intro gb393 hg w29 hbox hb; replace HO_3 := Aside0.mk (Kd.R_below (by (with_reducible repeat (first | apply Kd.R_alloc | apply Kd.R_drewN | apply Kd.R_drew)); exact HO_3.out) hb); replace HO_4 := Aside0.mk (Kd.N_below (Kd.N_elderB (by (with_reducible repeat (first | apply Kd.N_alloc | apply Kd.N_drewN | apply Kd.N_drew)); exact HO_4.out) gb393 (Nat.le_of_eq hg.symm)) hb); replace HO_31 := Aside0.mk (Kd.N_below (Kd.N_elderB (by (with_reducible repeat (first | apply Kd.N_alloc | apply Kd.N_drewN | apply Kd.N_drew)); exact HO_31.out) gb393 (Nat.le_of_eq hg.symm)) hb); replace HL392_3 := Aside0.mk (Kd.V_below (Kd.V_elderB (by (with_reducible repeat (first | apply Kd.V_alloc | apply Kd.V_drewN | apply Kd.V_drew)); exact HL392_3.out) gb393 (Nat.le_of_eq hg.symm)) hb); replace HR392_3 := Aside0.mk (Kd.C_below (by repeat (first | (with_reducible exact HR392_3.out) | (with_reducible refine Kd.C_alloc ?_ _) | (with_reducible refine Kd.C_drewN ?_ _) | (with_reducible refine Kd.C_drew ?_) | exact HR392_3.out)) hb); have BK393 := Aside0.mk (hbox); have GW393 := gs_ hg; have GE393 := gs_ hg; replace HB := hbs_ hb; have NB384_393 := Aside0.mk ((by rw [hg]; exact Nat.ne_of_lt (blk_lt (g := gb384) (o := .cells #[.int .i64 ((rd_T56 l0 x20_2).f0), .int .i64 ((rd_T56 l0 x20_2).f1.f0), .int .i64 ((rd_T56 l0 x20_2).f1.f1), .int .i64 ((rd_T56 l0 x20_2).f2), .int .i64 ((rd_T56 l0 x20_2).f3.f0), .int .i64 ((rd_T56 l0 x20_2).f3.f1), .int .i64 ((rd_T56 l0 x20_2).f4.f0), .int .i64 ((rd_T56 l0 x20_2).f4.f1), .int .i64 ((rd_T56 l0 x20_2).f5), .int .i64 ((rd_T56 l0 x20_2).f6)] 56 (0, 0)) (bk_ BK384)) : gb384 ≠ gb393)); have NB393_384 := Aside0.mk ((by rw [hg]; exact Nat.ne_of_gt (blk_lt (g := gb384) (o := .cells #[.int .i64 ((rd_T56 l0 x20_2).f0), .int .i64 ((rd_T56 l0 x20_2).f1.f0), .int .i64 ((rd_T56 l0 x20_2).f1.f1), .int .i64 ((rd_T56 l0 x20_2).f2), .int .i64 ((rd_T56 l0 x20_2).f3.f0), .int .i64 ((rd_T56 l0 x20_2).f3.f1), .int .i64 ((rd_T56 l0 x20_2).f4.f0), .int .i64 ((rd_T56 l0 x20_2).f4.f1), .int .i64 ((rd_T56 l0 x20_2).f5), .int .i64 ((rd_T56 l0 x20_2).f6)] 56 (0, 0)) (bk_ BK384)) : gb393 ≠ gb384)); replace BK384 := bkb_ BK384 hb; clear hb hbox hg; have hnb30 := NB393_384.out; have hnc30 := NB384_393.out; have hcz31 := blk_cell BK393.out; have hfz31 := blk_frozen BK393.out; obtain ⟨Ao32, co32, eo32⟩ := Kd.R_slice HO_3.out; subst eo32) | ((with_reducible refine gate_callee (f := 119) rfl ?_); refine goesC_ (some 40) Try.func119 #[.slice Ao32 x3_3.length co32, .agg #[.int .i64 ((rd_T193 t389 x33_3).f0.f0.f0), .int .i64 ((rd_T193 t389 x33_3).f0.f0.f1), .int .i64 ((rd_T193 t389 x33_3).f0.f1)]] ?_; (with_reducible refine (impl_Fact_119.calls k3 _ _ x3_3 ((rd_T193 t389 x33_3).f0.f0.f0) ((rd_T193 t389 x33_3).f0.f0.f1) ((rd_T193 t389 x33_3).f0.f1) true _ ?side1 ?side2 A27.out).mono ?_); (case side1 => refine (Kd.R_reads' (e := 51) (base := w.heap.size) (ok := fun k_ => (w.heap.size ≤ k_)) (n := x3_3.length) (c := co32) ?_).2.2; exact (by (with_reducible repeat (first | apply Kd.R_alloc | apply Kd.R_drewN | apply Kd.R_drew)); exact (Kd.R_mono (Kd.R_far (p := ⟨gb393, 3, none⟩) (Kd.R_far (p := ⟨gb393, 2, none⟩) (Kd.R_far (p := ⟨gb393, 1, none⟩) (Kd.R_far (p := ⟨gb393, 0, none⟩) (Kd.R_types HO_3.out BK393.out (by decide)) (fun _ hk => hk.2) (.int .i64 ((rd_T193 t389 x33_3).f0.f0.f0))) (fun _ hk => hk.2) (.int .i64 ((rd_T193 t389 x33_3).f0.f0.f1))) (fun _ hk => hk.2) (.int .i64 ((rd_T193 t389 x33_3).f0.f1))) (fun _ hk => hk.2) (.slice A392_3 ((rd_T193 t389 x33_3).f1).length c392_3)) (fun _ h_ => h_.1)))); (case side2 => exact (Kd.R_reads' HO_3.out).2.1); rintro e w33 ⟨rfl, hb⟩; refine ⟨_, rfl, ?_⟩; replace HO_3 := Aside0.mk (Kd.R_below (by (with_reducible repeat (first | apply Kd.R_alloc | apply Kd.R_drewN | apply Kd.R_drew)); exact (Kd.R_mono (Kd.R_far (p := ⟨gb393, 3, none⟩) (Kd.R_far (p := ⟨gb393, 2, none⟩) (Kd.R_far (p := ⟨gb393, 1, none⟩) (Kd.R_far (p := ⟨gb393, 0, none⟩) (Kd.R_types HO_3.out BK393.out (by decide)) (fun _ hk => hk.2) (.int .i64 ((rd_T193 t389 x33_3).f0.f0.f0))) (fun _ hk => hk.2) (.int .i64 ((rd_T193 t389 x33_3).f0.f0.f1))) (fun _ hk => hk.2) (.int .i64 ((rd_T193 t389 x33_3).f0.f1))) (fun _ hk => hk.2) (.slice A392_3 ((rd_T193 t389 x33_3).f1).length c392_3)) (fun _ h_ => h_.1))) hb); replace HO_4 := Aside0.mk (Kd.N_below (by (with_reducible repeat (first | apply Kd.N_alloc | apply Kd.N_drewN | apply Kd.N_drew)); exact (Kd.N_mono (Kd.N_far (p := ⟨gb393, 3, none⟩) (Kd.N_far (p := ⟨gb393, 2, none⟩) (Kd.N_far (p := ⟨gb393, 1, none⟩) (Kd.N_far (p := ⟨gb393, 0, none⟩) (Kd.N_mono HO_4.out (fun k_ hk => (⟨hk, hk.2⟩ : _ ∧ k_ ≠ gb393))) (fun _ hk => hk.2) (.int .i64 ((rd_T193 t389 x33_3).f0.f0.f0))) (fun _ hk => hk.2) (.int .i64 ((rd_T193 t389 x33_3).f0.f0.f1))) (fun _ hk => hk.2) (.int .i64 ((rd_T193 t389 x33_3).f0.f1))) (fun _ hk => hk.2) (.slice A392_3 ((rd_T193 t389 x33_3).f1).length c392_3)) (fun _ h_ => h_.1))) hb); replace HO_31 := Aside0.mk (Kd.N_below (by (with_reducible repeat (first | apply Kd.N_alloc | apply Kd.N_drewN | apply Kd.N_drew)); exact (Kd.N_mono (Kd.N_far (p := ⟨gb393, 3, none⟩) (Kd.N_far (p := ⟨gb393, 2, none⟩) (Kd.N_far (p := ⟨gb393, 1, none⟩) (Kd.N_far (p := ⟨gb393, 0, none⟩) (Kd.N_mono HO_31.out (fun k_ hk => (⟨hk, hk.2⟩ : _ ∧ k_ ≠ gb393))) (fun _ hk => hk.2) (.int .i64 ((rd_T193 t389 x33_3).f0.f0.f0))) (fun _ hk => hk.2) (.int .i64 ((rd_T193 t389 x33_3).f0.f0.f1))) (fun _ hk => hk.2) (.int .i64 ((rd_T193 t389 x33_3).f0.f1))) (fun _ hk => hk.2) (.slice A392_3 ((rd_T193 t389 x33_3).f1).length c392_3)) (fun _ h_ => h_.1))) hb); replace BK384 := Aside0.mk (blk_below (g := gb384) (o := .cells #[.int .i64 ((rd_T56 l0 x20_2).f0), .int .i64 ((rd_T56 l0 x20_2).f1.f0), .int .i64 ((rd_T56 l0 x20_2).f1.f1), .int .i64 ((rd_T56 l0 x20_2).f2), .int .i64 ((rd_T56 l0 x20_2).f3.f0), .int .i64 ((rd_T56 l0 x20_2).f3.f1), .int .i64 ((rd_T56 l0 x20_2).f4.f0), .int .i64 ((rd_T56 l0 x20_2).f4.f1), .int .i64 ((rd_T56 l0 x20_2).f5), .int .i64 ((rd_T56 l0 x20_2).f6)] 56 (0, 0)) (bk_ BK384) hb); replace HR392_3 := Aside0.mk (Kd.C_below ((Kd.V_reads' (by (with_reducible repeat (first | apply Kd.V_alloc | apply Kd.V_drewN | apply Kd.V_drew)); exact (Kd.V_mono (Kd.V_far (p := ⟨gb393, 3, none⟩) (Kd.V_far (p := ⟨gb393, 2, none⟩) (Kd.V_far (p := ⟨gb393, 1, none⟩) (Kd.V_far (p := ⟨gb393, 0, none⟩) (Kd.V_mono HL392_3.out (fun k_ hk => (⟨hk, hk.2⟩ : _ ∧ k_ ≠ gb393))) (fun _ hk => hk.2) (.int .i64 ((rd_T193 t389 x33_3).f0.f0.f0))) (fun _ hk => hk.2) (.int .i64 ((rd_T193 t389 x33_3).f0.f0.f1))) (fun _ hk => hk.2) (.int .i64 ((rd_T193 t389 x33_3).f0.f1))) (fun _ hk => hk.2) (.slice A392_3 ((rd_T193 t389 x33_3).f1).length c392_3)) (fun _ h_ => h_.1)))).2.2) hb); replace HL392_3 := Aside0.mk (Kd.V_below (by (with_reducible repeat (first | apply Kd.V_alloc | apply Kd.V_drewN | apply Kd.V_drew)); exact (Kd.V_mono (Kd.V_far (p := ⟨gb393, 3, none⟩) (Kd.V_far (p := ⟨gb393, 2, none⟩) (Kd.V_far (p := ⟨gb393, 1, none⟩) (Kd.V_far (p := ⟨gb393, 0, none⟩) (Kd.V_mono HL392_3.out (fun k_ hk => (⟨hk, hk.2⟩ : _ ∧ k_ ≠ gb393))) (fun _ hk => hk.2) (.int .i64 ((rd_T193 t389 x33_3).f0.f0.f0))) (fun _ hk => hk.2) (.int .i64 ((rd_T193 t389 x33_3).f0.f0.f1))) (fun _ hk => hk.2) (.int .i64 ((rd_T193 t389 x33_3).f0.f1))) (fun _ hk => hk.2) (.slice A392_3 ((rd_T193 t389 x33_3).f1).length c392_3)) (fun _ h_ => h_.1))) hb); replace BK393 := Aside0.mk (blk_below (g := gb393) (o := .cells #[.int .i64 ((rd_T193 t389 x33_3).f0.f0.f0), .int .i64 ((rd_T193 t389 x33_3).f0.f0.f1), .int .i64 ((rd_T193 t389 x33_3).f0.f1), .slice A392_3 ((rd_T193 t389 x33_3).f1).length c392_3] 193 (0, 0)) (bk_ BK393) hb); replace HB := hbs_ hb; clear hb))
                go_roundg k3
                case measure => have := HK1.out; have := HK2.out; have := HK3.out; omega
                case rel => exact ⟨(x3_3), (x4_3), (wrap64 (x33_3 + 1)), (by first | rfl | (simp; done) | (simp [*]; done)), H', ⟨by have := HK1.out; have := HK2.out; have := HK3.out; omega⟩, ⟨by (with_reducible repeat (first | apply Kd.R_alloc | apply Kd.R_drewN | apply Kd.R_drew)); exact HO_3.out⟩, ⟨by (with_reducible repeat (first | apply Kd.N_alloc | apply Kd.N_drewN | apply Kd.N_drew)); exact Kd.N_mono HO_4.out (fun _ hk => ⟨hk.1.1, ⟨hk.1.2.1, ⟨hk.1.2.2.1, hk.1.2.2.2⟩⟩⟩)⟩, ⟨by (with_reducible repeat (first | apply Kd.N_alloc | apply Kd.N_drewN | apply Kd.N_drew)); exact Kd.N_mono HO_31.out (fun _ hk => ⟨hk.1.1, ⟨hk.1.2.1, ⟨hk.1.2.2.1, hk.1.2.2.2⟩⟩⟩)⟩, ⟨bk_ BK384⟩, ⟨bl_⟩⟩
               ·replace c28 := Bool.eq_false_iff.mpr c28
                subst c28
                replace H := ite_f_ H
                by_cases c34 : x3_3.length < 5864062014805
                ·rw [if_pos c34] at H
                 have LMc34 := Aside0.mk c34
                 clear c34
                 obtain ⟨y395, hy395⟩ : ∃ y_ : List (S51), y_ = (x3_3 ++ [(⟨(⟨(rd_T193 t389 x33_3).f0.f0.f0, (rd_T193 t389 x33_3).f0.f0.f1⟩ : S49), (rd_T193 t389 x33_3).f0.f1⟩ : S51)]) := ⟨_, rfl⟩
                 replace H : (if x4_3.length < 2513169434916 then (impl_findFacts.l2 k3 l0 y395 (x4_3 ++ [(⟨(⟨(⟨(rd_T193 t389 x33_3).f0.f0.f0, (rd_T193 t389 x33_3).f0.f0.f1⟩ : S49), (rd_T193 t389 x33_3).f0.f1⟩ : S51), x20_2, (rd_T193 t389 x33_3).f1⟩ : S188)]) (x3_1.length : Int) x20_2 l0 (l0.length : Int) x20_2 t389 (t389.length : Int) (wrap64 (x33_3 + 1))) else (none)) = some r := by first | (rw [hy395]; with_reducible exact H) | (have H2_ := (Option.bind_some _ _).symm.trans H; rw [hy395]; with_reducible exact H2_) | (have H2_ := (Option.bind_some _ _).symm.trans H; with_reducible exact H2_) | with_reducible exact H | (rw [hy395]; exact H) | exact H
                 have Ny395 := Aside0.mk hy395
                 clear hy395
                 by_cases c35 : x4_3.length < 2513169434916
                 ·rw [if_pos c35] at H
                  have LMc35 := Aside0.mk c35
                  clear c35
                  obtain ⟨y398, hy398⟩ : ∃ y_ : List (S188), y_ = (x4_3 ++ [(⟨(⟨(⟨(rd_T193 t389 x33_3).f0.f0.f0, (rd_T193 t389 x33_3).f0.f0.f1⟩ : S49), (rd_T193 t389 x33_3).f0.f1⟩ : S51), x20_2, (rd_T193 t389 x33_3).f1⟩ : S188)]) := ⟨_, rfl⟩
                  replace H : (impl_findFacts.l2 k3 l0 y395 y398 (x3_1.length : Int) x20_2 l0 (l0.length : Int) x20_2 t389 (t389.length : Int) (wrap64 (x33_3 + 1))) = some r := by first | (rw [hy398]; with_reducible exact H) | (have H2_ := (Option.bind_some _ _).symm.trans H; rw [hy398]; with_reducible exact H2_) | (have H2_ := (Option.bind_some _ _).symm.trans H; with_reducible exact H2_) | with_reducible exact H | (rw [hy398]; exact H) | exact H
                  have Ny398 := Aside0.mk hy398
                  clear hy398
                  have H' := Aside0.mk H
                  clear H
                  have p392 : 0 ≤ (x33_3 : Int) := of_decide_eq_true (by first | (with_reducible assumption) | assumption)
                  have q392 : x33_3 < (t389.length : Int) := of_decide_eq_true (by first | (with_reducible assumption) | assumption)
                  obtain ⟨ad392, A392_3, c392_3, e392, hx392_0, hx392_1, hx392_2, hx392_3, hl392_3, hi392_3⟩ := at_T193 (Kd.N_reads' HO_31.out).2.2 x33_3 p392 q392
                  cases e392
                  obtain ⟨ce392, hce392, hMe392, hcc392⟩ := Kd.N_get HO_31.out z193 x33_3 p392 (by first | exact q392 | exact of_decide_eq_true (by first | (with_reducible assumption) | assumption) | (have e_ := (Kd.N_reads' HO_31.out).1; omega))
                  obtain ⟨ua392_3, uc392_3, rfl, ul392_3, ge392_3⟩ := k193_openF hMe392
                  have hv392_3 := hcc392 3 _ rfl
                  rw [add_field _ _ 3 (by omega)] at hv392_3
                  replace hv392_3 := Option.some.inj (hv392_3.symm.trans hx392_3)
                  injection hv392_3 with hva_ hvn_ hvc_
                  rw [hva_] at ge392_3
                  rw [hvc_] at ul392_3
                  have HL392_3 := Aside0.mk (show Kd.V (Kd.int .i64) 3 _ w.heap.size _ _ ((rd_T193 t389 x33_3).f1) from Kd.V_mk ul392_3 ge392_3)
                  clear hva_ hvn_ hvc_ ge392_3 ul392_3
                  clear hcc392 hce392
                  have HR392_3 := Aside0.mk hi392_3
                  have HC392_3 := Aside0.mk hl392_3
                  clear hi392_3 hl392_3
                  replace p392 := eq_true p392
                  replace q392 := eq_true q392
                  go_wp2_with (first | ((with_reducible refine gate_dst (N := 9) rfl ?_); refine box_event ?hg (N := 9) ?hd (cs := #[.int .i64 0, .int .i64 0, .int .i64 0, .slice none 0 0]) (t := 193) ?hr ?_; (case hd => rfl); (case hg => rfl); (case hr => first | (go_simp; done) | (go_simp; rfl)); intro gb393 hg w36 hbox hb; replace HO_3 := Aside0.mk (Kd.R_below (by (with_reducible repeat (first | apply Kd.R_alloc | apply Kd.R_drewN | apply Kd.R_drew)); exact HO_3.out) hb); replace HO_4 := Aside0.mk (Kd.N_below (Kd.N_elderB (by (with_reducible repeat (first | apply Kd.N_alloc | apply Kd.N_drewN | apply Kd.N_drew)); exact HO_4.out) gb393 (Nat.le_of_eq hg.symm)) hb); replace HO_31 := Aside0.mk (Kd.N_below (Kd.N_elderB (by (with_reducible repeat (first | apply Kd.N_alloc | apply Kd.N_drewN | apply Kd.N_drew)); exact HO_31.out) gb393 (Nat.le_of_eq hg.symm)) hb); replace HL392_3 := Aside0.mk (Kd.V_below (Kd.V_elderB (by (with_reducible repeat (first | apply Kd.V_alloc | apply Kd.V_drewN | apply Kd.V_drew)); exact HL392_3.out) gb393 (Nat.le_of_eq hg.symm)) hb); replace HR392_3 := Aside0.mk (Kd.C_below (by repeat (first | (with_reducible exact HR392_3.out) | (with_reducible refine Kd.C_alloc ?_ _) | (with_reducible refine Kd.C_drewN ?_ _) | (with_reducible refine Kd.C_drew ?_) | exact HR392_3.out)) hb); have BK393 := Aside0.mk (hbox); have GW393 := gs_ hg; have GE393 := gs_ hg; replace HB := hbs_ hb; have NB384_393 := Aside0.mk ((by rw [hg]; exact Nat.ne_of_lt (blk_lt (g := gb384) (o := .cells #[.int .i64 ((rd_T56 l0 x20_2).f0), .int .i64 ((rd_T56 l0 x20_2).f1.f0), .int .i64 ((rd_T56 l0 x20_2).f1.f1), .int .i64 ((rd_T56 l0 x20_2).f2), .int .i64 ((rd_T56 l0 x20_2).f3.f0), .int .i64 ((rd_T56 l0 x20_2).f3.f1), .int .i64 ((rd_T56 l0 x20_2).f4.f0), .int .i64 ((rd_T56 l0 x20_2).f4.f1), .int .i64 ((rd_T56 l0 x20_2).f5), .int .i64 ((rd_T56 l0 x20_2).f6)] 56 (0, 0)) (bk_ BK384)) : gb384 ≠ gb393)); have NB393_384 := Aside0.mk ((by rw [hg]; exact Nat.ne_of_gt (blk_lt (g := gb384) (o := .cells #[.int .i64 ((rd_T56 l0 x20_2).f0), .int .i64 ((rd_T56 l0 x20_2).f1.f0), .int .i64 ((rd_T56 l0 x20_2).f1.f1), .int .i64 ((rd_T56 l0 x20_2).f2), .int .i64 ((rd_T56 l0 x20_2).f3.f0), .int .i64 ((rd_T56 l0 x20_2).f3.f1), .int .i64 ((rd_T56 l0 x20_2).f4.f0), .int .i64 ((rd_T56 l0 x20_2).f4.f1), .int .i64 ((rd_T56 l0 x20_2).f5), .int .i64 ((rd_T56 l0 x20_2).f6)] 56 (0, 0)) (bk_ BK384)) : gb393 ≠ gb384)); replace BK384 := bkb_ BK384 hb; clear hb hbox hg; have hnb37 := NB393_384.out; have hnc37 := NB384_393.out; have hcz38 := blk_cell BK393.out; have hfz38 := blk_frozen BK393.out; obtain ⟨Ao39, co39, eo39⟩ := Kd.R_slice HO_3.out; subst eo39) | ((with_reducible refine gate_callee (f := 119) rfl ?_); refine goesC_ (some 40) Try.func119 #[.slice Ao39 x3_3.length co39, .agg #[.int .i64 ((rd_T193 t389 x33_3).f0.f0.f0), .int .i64 ((rd_T193 t389 x33_3).f0.f0.f1), .int .i64 ((rd_T193 t389 x33_3).f0.f1)]] ?_; (with_reducible refine (impl_Fact_119.calls k3 _ _ x3_3 ((rd_T193 t389 x33_3).f0.f0.f0) ((rd_T193 t389 x33_3).f0.f0.f1) ((rd_T193 t389 x33_3).f0.f1) false _ ?side1 ?side2 A27.out).mono ?_); (case side1 => refine (Kd.R_reads' (e := 51) (base := w.heap.size) (ok := fun k_ => (w.heap.size ≤ k_)) (n := x3_3.length) (c := co39) ?_).2.2; exact (by (with_reducible repeat (first | apply Kd.R_alloc | apply Kd.R_drewN | apply Kd.R_drew)); exact (Kd.R_mono (Kd.R_far (p := ⟨gb393, 3, none⟩) (Kd.R_far (p := ⟨gb393, 2, none⟩) (Kd.R_far (p := ⟨gb393, 1, none⟩) (Kd.R_far (p := ⟨gb393, 0, none⟩) (Kd.R_types HO_3.out BK393.out (by decide)) (fun _ hk => hk.2) (.int .i64 ((rd_T193 t389 x33_3).f0.f0.f0))) (fun _ hk => hk.2) (.int .i64 ((rd_T193 t389 x33_3).f0.f0.f1))) (fun _ hk => hk.2) (.int .i64 ((rd_T193 t389 x33_3).f0.f1))) (fun _ hk => hk.2) (.slice A392_3 ((rd_T193 t389 x33_3).f1).length c392_3)) (fun _ h_ => h_.1)))); (case side2 => exact (Kd.R_reads' HO_3.out).2.1); rintro e w40 ⟨rfl, hb⟩; refine ⟨_, rfl, ?_⟩; replace HO_3 := Aside0.mk (Kd.R_below (by (with_reducible repeat (first | apply Kd.R_alloc | apply Kd.R_drewN | apply Kd.R_drew)); exact (Kd.R_mono (Kd.R_far (p := ⟨gb393, 3, none⟩) (Kd.R_far (p := ⟨gb393, 2, none⟩) (Kd.R_far (p := ⟨gb393, 1, none⟩) (Kd.R_far (p := ⟨gb393, 0, none⟩) (Kd.R_types HO_3.out BK393.out (by decide)) (fun _ hk => hk.2) (.int .i64 ((rd_T193 t389 x33_3).f0.f0.f0))) (fun _ hk => hk.2) (.int .i64 ((rd_T193 t389 x33_3).f0.f0.f1))) (fun _ hk => hk.2) (.int .i64 ((rd_T193 t389 x33_3).f0.f1))) (fun _ hk => hk.2) (.slice A392_3 ((rd_T193 t389 x33_3).f1).length c392_3)) (fun _ h_ => h_.1))) hb); replace HO_4 := Aside0.mk (Kd.N_below (by (with_reducible repeat (first | apply Kd.N_alloc | apply Kd.N_drewN | apply Kd.N_drew)); exact (Kd.N_mono (Kd.N_far (p := ⟨gb393, 3, none⟩) (Kd.N_far (p := ⟨gb393, 2, none⟩) (Kd.N_far (p := ⟨gb393, 1, none⟩) (Kd.N_far (p := ⟨gb393, 0, none⟩) (Kd.N_mono HO_4.out (fun k_ hk => (⟨hk, hk.2⟩ : _ ∧ k_ ≠ gb393))) (fun _ hk => hk.2) (.int .i64 ((rd_T193 t389 x33_3).f0.f0.f0))) (fun _ hk => hk.2) (.int .i64 ((rd_T193 t389 x33_3).f0.f0.f1))) (fun _ hk => hk.2) (.int .i64 ((rd_T193 t389 x33_3).f0.f1))) (fun _ hk => hk.2) (.slice A392_3 ((rd_T193 t389 x33_3).f1).length c392_3)) (fun _ h_ => h_.1))) hb); replace HO_31 := Aside0.mk (Kd.N_below (by (with_reducible repeat (first | apply Kd.N_alloc | apply Kd.N_drewN | apply Kd.N_drew)); exact (Kd.N_mono (Kd.N_far (p := ⟨gb393, 3, none⟩) (Kd.N_far (p := ⟨gb393, 2, none⟩) (Kd.N_far (p := ⟨gb393, 1, none⟩) (Kd.N_far (p := ⟨gb393, 0, none⟩) (Kd.N_mono HO_31.out (fun k_ hk => (⟨hk, hk.2⟩ : _ ∧ k_ ≠ gb393))) (fun _ hk => hk.2) (.int .i64 ((rd_T193 t389 x33_3).f0.f0.f0))) (fun _ hk => hk.2) (.int .i64 ((rd_T193 t389 x33_3).f0.f0.f1))) (fun _ hk => hk.2) (.int .i64 ((rd_T193 t389 x33_3).f0.f1))) (fun _ hk => hk.2) (.slice A392_3 ((rd_T193 t389 x33_3).f1).length c392_3)) (fun _ h_ => h_.1))) hb); replace BK384 := Aside0.mk (blk_below (g := gb384) (o := .cells #[.int .i64 ((rd_T56 l0 x20_2).f0), .int .i64 ((rd_T56 l0 x20_2).f1.f0), .int .i64 ((rd_T56 l0 x20_2).f1.f1), .int .i64 ((rd_T56 l0 x20_2).f2), .int .i64 ((rd_T56 l0 x20_2).f3.f0), .int .i64 ((rd_T56 l0 x20_2).f3.f1), .int .i64 ((rd_T56 l0 x20_2).f4.f0), .int .i64 ((rd_T56 l0 x20_2).f4.f1), .int .i64 ((rd_T56 l0 x20_2).f5), .int .i64 ((rd_T56 l0 x20_2).f6)] 56 (0, 0)) (bk_ BK384) hb); replace HR392_3 := Aside0.mk (Kd.C_below ((Kd.V_reads' (by (with_reducible repeat (first | apply Kd.V_alloc | apply Kd.V_drewN | apply Kd.V_drew)); exact (Kd.V_mono (Kd.V_far (p := ⟨gb393, 3, none⟩) (Kd.V_far (p := ⟨gb393, 2, none⟩) (Kd.V_far (p := ⟨gb393, 1, none⟩) (Kd.V_far (p := ⟨gb393, 0, none⟩) (Kd.V_mono HL392_3.out (fun k_ hk => (⟨hk, hk.2⟩ : _ ∧ k_ ≠ gb393))) (fun _ hk => hk.2) (.int .i64 ((rd_T193 t389 x33_3).f0.f0.f0))) (fun _ hk => hk.2) (.int .i64 ((rd_T193 t389 x33_3).f0.f0.f1))) (fun _ hk => hk.2) (.int .i64 ((rd_T193 t389 x33_3).f0.f1))) (fun _ hk => hk.2) (.slice A392_3 ((rd_T193 t389 x33_3).f1).length c392_3)) (fun _ h_ => h_.1)))).2.2) hb); replace HL392_3 := Aside0.mk (Kd.V_below (by (with_reducible repeat (first | apply Kd.V_alloc | apply Kd.V_drewN | apply Kd.V_drew)); exact (Kd.V_mono (Kd.V_far (p := ⟨gb393, 3, none⟩) (Kd.V_far (p := ⟨gb393, 2, none⟩) (Kd.V_far (p := ⟨gb393, 1, none⟩) (Kd.V_far (p := ⟨gb393, 0, none⟩) (Kd.V_mono HL392_3.out (fun k_ hk => (⟨hk, hk.2⟩ : _ ∧ k_ ≠ gb393))) (fun _ hk => hk.2) (.int .i64 ((rd_T193 t389 x33_3).f0.f0.f0))) (fun _ hk => hk.2) (.int .i64 ((rd_T193 t389 x33_3).f0.f0.f1))) (fun _ hk => hk.2) (.int .i64 ((rd_T193 t389 x33_3).f0.f1))) (fun _ hk => hk.2) (.slice A392_3 ((rd_T193 t389 x33_3).f1).length c392_3)) (fun _ h_ => h_.1))) hb); replace BK393 := Aside0.mk (blk_below (g := gb393) (o := .cells #[.int .i64 ((rd_T193 t389 x33_3).f0.f0.f0), .int .i64 ((rd_T193 t389 x33_3).f0.f0.f1), .int .i64 ((rd_T193 t389 x33_3).f0.f1), .slice A392_3 ((rd_T193 t389 x33_3).f1).length c392_3] 193 (0, 0)) (bk_ BK393) hb); replace HB := hbs_ hb; clear hb; have hcz41 := blk_cell BK393.out; have hfz41 := blk_frozen BK393.out) | ((with_reducible refine gate_builtin (b := .append) (xs := #[.tmp 42, .tmp 45]) rfl ?_); at_builtin; refine Kd.R_append k51 (w0 := w) w.heap.size rfl (.tmp 42) (.tmp 45) 46 51 (.agg #[(.int .i64 0), (.int .i64 0), (.int .i64 0)]) 24 rfl Try.underlying46 info51 rfl (by decide) (by omega) (.slice Ao39 x3_3.length co39) x3_3 (⟨(⟨(rd_T193 t389 x33_3).f0.f0.f0, (rd_T193 t389 x33_3).f0.f0.f1⟩ : S49), (rd_T193 t389 x33_3).f0.f1⟩ : S51) [.int .i64 ((rd_T193 t389 x33_3).f0.f0.f0), .int .i64 ((rd_T193 t389 x33_3).f0.f0.f1), .int .i64 ((rd_T193 t389 x33_3).f0.f1)] (fun k_ => (w.heap.size ≤ k_)) (fun _ => False) rfl rfl ?aP (fun _ hk => hk.elim) ?aF ?aO ?aB ?aS ?aL ?_; (case aP => exact k51_mkM _ _ _ (⟨(⟨(rd_T193 t389 x33_3).f0.f0.f0, (rd_T193 t389 x33_3).f0.f0.f1⟩ : S49), (rd_T193 t389 x33_3).f0.f1⟩ : S51)); (case aB => exact bl_); (case aF => exact (fun k_ hk => (Nat.le_trans bls_ hk))); (case aO => exact (by (with_reducible repeat (first | apply Kd.R_alloc | apply Kd.R_drewN | apply Kd.R_drew)); exact HO_3.out)); (case aS => exact bls_); (case aL => have := LMc34.out; omega); intro v396 w42 ho hb hg hat; rw [← Ny395.out] at ho; replace HO_4 := Aside0.mk (Kd.N_afterv (ok := (fun k_ => (w.heap.size ≤ k_) ∧ some k_ ≠ (.slice (some ad392) t389.length co23 : Value).ownBlock ∧ k_ ≠ gb384 ∧ k_ ≠ gb393)) (by (with_reducible repeat (first | apply Kd.N_alloc | apply Kd.N_drewN | apply Kd.N_drew)); exact Kd.N_mono HO_4.out (fun _ hk => ⟨⟨hk.1.1, ⟨hk.1.2.2.1, ⟨hk.1.2.2.2, hk.2⟩⟩⟩, hk.1.2.1⟩)) hg hat); replace HO_31 := Aside0.mk (Kd.N_afterv (ok := (fun k_ => (w.heap.size ≤ k_) ∧ some k_ ≠ (u4 : Value).ownBlock ∧ k_ ≠ gb384 ∧ k_ ≠ gb393)) (by (with_reducible repeat (first | apply Kd.N_alloc | apply Kd.N_drewN | apply Kd.N_drew)); exact Kd.N_mono HO_31.out (fun _ hk => ⟨⟨hk.1.1, ⟨hk.1.2.2.1, ⟨hk.1.2.2.2, hk.2⟩⟩⟩, hk.1.2.1⟩)) hg hat); replace BK384 := Aside0.mk (blk_grown (g := gb384) (o := .cells #[.int .i64 ((rd_T56 l0 x20_2).f0), .int .i64 ((rd_T56 l0 x20_2).f1.f0), .int .i64 ((rd_T56 l0 x20_2).f1.f1), .int .i64 ((rd_T56 l0 x20_2).f2), .int .i64 ((rd_T56 l0 x20_2).f3.f0), .int .i64 ((rd_T56 l0 x20_2).f3.f1), .int .i64 ((rd_T56 l0 x20_2).f4.f0), .int .i64 ((rd_T56 l0 x20_2).f4.f1), .int .i64 ((rd_T56 l0 x20_2).f5), .int .i64 ((rd_T56 l0 x20_2).f6)] 56 (0, 0)) (bk_ BK384) hg (Kd.R_ne HO_3.out BK384.out (by decide))); replace HL392_3 := Aside0.mk (Kd.V_afterv (ok := (fun k_ => (w.heap.size ≤ k_) ∧ some k_ ≠ (u4 : Value).ownBlock ∧ some k_ ≠ (.slice (some ad392) t389.length co23 : Value).ownBlock ∧ k_ ≠ gb384 ∧ k_ ≠ gb393)) (by (with_reducible repeat (first | apply Kd.V_alloc | apply Kd.V_drewN | apply Kd.V_drew)); exact Kd.V_mono HL392_3.out (fun _ hk => ⟨⟨hk.1.1.1, ⟨hk.1.1.2.2.1, ⟨hk.1.2, ⟨hk.1.1.2.2.2, hk.2⟩⟩⟩⟩, hk.1.1.2.1⟩)) hg hat); replace BK393 := Aside0.mk (blk_grown (g := gb393) (o := .cells #[.int .i64 ((rd_T193 t389 x33_3).f0.f0.f0), .int .i64 ((rd_T193 t389 x33_3).f0.f0.f1), .int .i64 ((rd_T193 t389 x33_3).f0.f1), .slice A392_3 ((rd_T193 t389 x33_3).f1).length c392_3] 193 (0, 0)) (bk_ BK393) hg (Kd.R_ne HO_3.out BK393.out (by decide))); replace HB := Aside0.mk (hb); have HO397 := Aside0.mk (ho); clear HO_3; clear ho hb hg hat; have hcz43 := blk_cell BK393.out; have hfz43 := blk_frozen BK393.out) | ((with_reducible refine gate_builtin (b := .append) (xs := #[.tmp 47, .tmp 54]) rfl ?_); at_builtin; refine Kd.N_append k188 (w0 := w) w.heap.size rfl (.tmp 47) (.tmp 54) 185 188 (.agg #[(.int .i64 0), (.int .i64 0), (.int .i64 0), (.int .i64 0), (.slice none 0 0)]) 56 rfl Try.underlying185 info188 rfl (by decide) (by omega) u4 x4_3 (⟨(⟨(⟨(rd_T193 t389 x33_3).f0.f0.f0, (rd_T193 t389 x33_3).f0.f0.f1⟩ : S49), (rd_T193 t389 x33_3).f0.f1⟩ : S51), x20_2, (rd_T193 t389 x33_3).f1⟩ : S188) [.int .i64 ((rd_T193 t389 x33_3).f0.f0.f0), .int .i64 ((rd_T193 t389 x33_3).f0.f0.f1), .int .i64 ((rd_T193 t389 x33_3).f0.f1), .int .i64 x20_2, .slice A392_3 ((rd_T193 t389 x33_3).f1).length c392_3] (fun k_ => (w.heap.size ≤ k_) ∧ some k_ ≠ (.slice (some ad392) t389.length co23 : Value).ownBlock ∧ some k_ ≠ (v396 : Value).ownBlock ∧ k_ ≠ gb384 ∧ k_ ≠ gb393) (fun k_ => ((fun k_ => (w.heap.size ≤ k_) ∧ some k_ ≠ (.slice (some ad392) t389.length co23 : Value).ownBlock ∧ some k_ ≠ (v396 : Value).ownBlock ∧ k_ ≠ gb384 ∧ k_ ≠ gb393)) k_ ∧ some k_ ≠ (u4 : Value).ownBlock) rfl rfl ?aP (fun _ hk => hk) ?aF ?aO ?aB ?aS ?aL ?_; (case aP => exact (k188_mkF _ _ (⟨(⟨(⟨(rd_T193 t389 x33_3).f0.f0.f0, (rd_T193 t389 x33_3).f0.f0.f1⟩ : S49), (rd_T193 t389 x33_3).f0.f1⟩ : S51), x20_2, (rd_T193 t389 x33_3).f1⟩ : S188) (Kd.V_reads' (Kd.V_mono (ok' := (fun k_ => ((fun k_ => (w.heap.size ≤ k_) ∧ some k_ ≠ (.slice (some ad392) t389.length co23 : Value).ownBlock ∧ some k_ ≠ (v396 : Value).ownBlock ∧ k_ ≠ gb384 ∧ k_ ≠ gb393)) k_ ∧ some k_ ≠ (u4 : Value).ownBlock)) (HL392_3.out) (fun k_ hk => ⟨⟨hk.1.1, ⟨hk.1.2.2.1, ⟨hk.2, ⟨hk.1.2.2.2.1, hk.1.2.2.2.2⟩⟩⟩⟩, hk.1.2.1⟩))).2.1 (Kd.V_F (Kd.V_mono (ok' := (fun k_ => ((fun k_ => (w.heap.size ≤ k_) ∧ some k_ ≠ (.slice (some ad392) t389.length co23 : Value).ownBlock ∧ some k_ ≠ (v396 : Value).ownBlock ∧ k_ ≠ gb384 ∧ k_ ≠ gb393)) k_ ∧ some k_ ≠ (u4 : Value).ownBlock)) (HL392_3.out) (fun k_ hk => ⟨⟨hk.1.1, ⟨hk.1.2.2.1, ⟨hk.2, ⟨hk.1.2.2.2.1, hk.1.2.2.2.2⟩⟩⟩⟩, hk.1.2.1⟩))))); (case aB => exact bl_); (case aF => exact (fun k_ hk => ⟨(Nat.le_trans bls_ hk), Kd.fresh' (Kd.N_lt (by (with_reducible repeat (first | apply Kd.N_alloc | apply Kd.N_drewN | apply Kd.N_drew)); exact HO_31.out)) k_ hk, Kd.fresh' (Kd.R_lt (by (with_reducible repeat (first | apply Kd.R_alloc | apply Kd.R_drewN | apply Kd.R_drew)); exact HO397.out)) k_ hk, Kd.freshB (g := gb384) (o := .cells #[.int .i64 ((rd_T56 l0 x20_2).f0), .int .i64 ((rd_T56 l0 x20_2).f1.f0), .int .i64 ((rd_T56 l0 x20_2).f1.f1), .int .i64 ((rd_T56 l0 x20_2).f2), .int .i64 ((rd_T56 l0 x20_2).f3.f0), .int .i64 ((rd_T56 l0 x20_2).f3.f1), .int .i64 ((rd_T56 l0 x20_2).f4.f0), .int .i64 ((rd_T56 l0 x20_2).f4.f1), .int .i64 ((rd_T56 l0 x20_2).f5), .int .i64 ((rd_T56 l0 x20_2).f6)] 56 (0, 0)) (bk_ BK384) k_ hk, Kd.freshB (g := gb393) (o := .cells #[.int .i64 ((rd_T193 t389 x33_3).f0.f0.f0), .int .i64 ((rd_T193 t389 x33_3).f0.f0.f1), .int .i64 ((rd_T193 t389 x33_3).f0.f1), .slice A392_3 ((rd_T193 t389 x33_3).f1).length c392_3] 193 (0, 0)) (bk_ BK393) k_ hk⟩)); (case aO => exact (by (with_reducible repeat (first | apply Kd.N_alloc | apply Kd.N_drewN | apply Kd.N_drew)); exact Kd.N_mono HO_4.out (fun _ hk => ⟨hk.1.1, ⟨hk.1.2.1, ⟨hk.2, ⟨hk.1.2.2.1, hk.1.2.2.2⟩⟩⟩⟩))); (case aS => exact bls_); (case aL => have := LMc35.out; omega); intro v399 w44 ho hb hg hat; rw [← Ny398.out] at ho; replace HO_31 := Aside0.mk (Kd.N_afterv (ok := (fun k_ => (w.heap.size ≤ k_) ∧ some k_ ≠ (v396 : Value).ownBlock ∧ k_ ≠ gb384 ∧ k_ ≠ gb393)) (by (with_reducible repeat (first | apply Kd.N_alloc | apply Kd.N_drewN | apply Kd.N_drew)); exact Kd.N_mono HO_31.out (fun _ hk => ⟨⟨hk.1.1, ⟨hk.2, ⟨hk.1.2.2.1, hk.1.2.2.2⟩⟩⟩, hk.1.2.1⟩)) hg hat); replace BK384 := Aside0.mk (blk_grown (g := gb384) (o := .cells #[.int .i64 ((rd_T56 l0 x20_2).f0), .int .i64 ((rd_T56 l0 x20_2).f1.f0), .int .i64 ((rd_T56 l0 x20_2).f1.f1), .int .i64 ((rd_T56 l0 x20_2).f2), .int .i64 ((rd_T56 l0 x20_2).f3.f0), .int .i64 ((rd_T56 l0 x20_2).f3.f1), .int .i64 ((rd_T56 l0 x20_2).f4.f0), .int .i64 ((rd_T56 l0 x20_2).f4.f1), .int .i64 ((rd_T56 l0 x20_2).f5), .int .i64 ((rd_T56 l0 x20_2).f6)] 56 (0, 0)) (bk_ BK384) hg (Kd.N_ne HO_4.out BK384.out (by decide))); replace HL392_3 := Aside0.mk (Kd.V_afterv (ok := (fun k_ => (w.heap.size ≤ k_) ∧ some k_ ≠ (.slice (some ad392) t389.length co23 : Value).ownBlock ∧ some k_ ≠ (v396 : Value).ownBlock ∧ k_ ≠ gb384 ∧ k_ ≠ gb393)) (by (with_reducible repeat (first | apply Kd.V_alloc | apply Kd.V_drewN | apply Kd.V_drew)); exact Kd.V_mono HL392_3.out (fun _ hk => ⟨⟨hk.1.1, ⟨hk.1.2.2.1, ⟨hk.2, ⟨hk.1.2.2.2.1, hk.1.2.2.2.2⟩⟩⟩⟩, hk.1.2.1⟩)) hg hat); replace BK393 := Aside0.mk (blk_grown (g := gb393) (o := .cells #[.int .i64 ((rd_T193 t389 x33_3).f0.f0.f0), .int .i64 ((rd_T193 t389 x33_3).f0.f0.f1), .int .i64 ((rd_T193 t389 x33_3).f0.f1), .slice A392_3 ((rd_T193 t389 x33_3).f1).length c392_3] 193 (0, 0)) (bk_ BK393) hg (Kd.N_ne HO_4.out BK393.out (by decide))); replace HO397 := Aside0.mk (Kd.R_over' (by (with_reducible repeat (first | apply Kd.R_alloc | apply Kd.R_drewN | apply Kd.R_drew)); exact HO397.out) (Kd.N_typed (by (with_reducible repeat (first | apply Kd.N_alloc | apply Kd.N_drewN | apply Kd.N_drew)); exact HO_4.out)) (by decide) hg); replace HB := Aside0.mk (hb); have HO400 := Aside0.mk (ho); clear HO_4; clear ho hb hg hat))
                  go_roundg k3
                  case measure => have := HK1.out; have := HK2.out; have := HK3.out; omega
                  case rel => exact ⟨(y395), (y398), (wrap64 (x33_3 + 1)), (by first | rfl | (simp; done) | (simp [*]; done)), H', ⟨by have := HK1.out; have := HK2.out; have := HK3.out; omega⟩, ⟨by (with_reducible repeat (first | apply Kd.R_alloc | apply Kd.R_drewN | apply Kd.R_drew)); exact HO397.out⟩, ⟨by (with_reducible repeat (first | apply Kd.N_alloc | apply Kd.N_drewN | apply Kd.N_drew)); exact Kd.N_mono HO400.out (fun _ hk => ⟨hk.1, ⟨hk.2.2.1, ⟨hk.2.1, hk.2.2.2.1⟩⟩⟩)⟩, ⟨by (with_reducible repeat (first | apply Kd.N_alloc | apply Kd.N_drewN | apply Kd.N_drew)); exact Kd.N_mono HO_31.out (fun _ hk => ⟨hk.1.1, ⟨hk.1.2.1, ⟨hk.2, hk.1.2.2.1⟩⟩⟩)⟩, ⟨bk_ BK384⟩, ⟨bl_⟩⟩
                 ·rw [if_neg c35] at H
                  exact absurd H (by simp)
                ·rw [if_neg c34] at H
                 exact absurd H (by simp)
              ·rw [if_neg c26] at H
               exact absurd H (by simp)
             ·rw [if_neg c25] at H
              exact absurd H (by simp)
            ·rw [if_neg c24] at H
             have c24b0 : decide (x33_3 < (t389.length : Int)) = false := decide_eq_false c24
             clear c24
             have H' := Aside0.mk H
             clear H
             go_wp2
             go_roundg k3
             case measure => have := HK1.out; have := HK2.out; have := HK3.out; omega
             case rel => exact ⟨(x3_3), (x4_3), (wrap64 (x20_2 + 1)), (by first | rfl | (simp; done) | (simp [*]; done)), H', ⟨by have := HK1.out; have := HK2.out; have := HK3.out; omega⟩, ⟨by (with_reducible repeat (first | apply Kd.R_alloc | apply Kd.R_drewN | apply Kd.R_drew)); exact HO_3.out⟩, ⟨by (with_reducible repeat (first | apply Kd.N_alloc | apply Kd.N_drewN | apply Kd.N_drew)); exact Kd.N_mono HO_4.out (fun _ hk => ⟨hk.1, hk.2.1⟩)⟩, ⟨bl_⟩⟩
         ·replace c12 := Bool.eq_false_iff.mpr c12
          subst c12
          replace H := ite_f_ H
          have H' := Aside0.mk H
          clear H
          have p383 : 0 ≤ (x20_2 : Int) := of_decide_eq_true (by first | (with_reducible assumption) | assumption)
          have q383 : x20_2 < (l0.length : Int) := of_decide_eq_true (by first | (with_reducible assumption) | assumption)
          obtain ⟨ad383, e383, hx383_0, hx383_1, hx383_2, hx383_3, hx383_4, hx383_5, hx383_6, hx383_7, hx383_8, hx383_9⟩ := at_T56 (Kd.C_below HR0.out HB.out) x20_2 p383 q383
          cases e383
          replace p383 := eq_true p383
          replace q383 := eq_true q383
          go_wp2_with (first | ((with_reducible refine gate_dst (N := 7) rfl ?_); refine box_event ?hg (N := 7) ?hd (cs := #[.int .i64 0, .int .i64 0, .int .i64 0, .int .i64 0, .int .i64 0, .int .i64 0, .int .i64 0, .int .i64 0, .int .i64 0, .int .i64 0]) (t := 56) ?hr ?_; (case hd => rfl); (case hg => rfl); (case hr => first | (go_simp; done) | (go_simp; rfl)); intro gb384 hg w45 hbox hb; replace HO_3 := Aside0.mk (Kd.R_below (by (with_reducible repeat (first | apply Kd.R_alloc | apply Kd.R_drewN | apply Kd.R_drew)); exact HO_3.out) hb); replace HO_4 := Aside0.mk (Kd.N_below (Kd.N_elderB (by (with_reducible repeat (first | apply Kd.N_alloc | apply Kd.N_drewN | apply Kd.N_drew)); exact HO_4.out) gb384 (Nat.le_of_eq hg.symm)) hb); have BK384 := Aside0.mk (hbox); have GW384 := gs_ hg; have GE384 := gs_ hg; replace HB := hbs_ hb; clear hb hbox hg; have hcz46 := blk_cell BK384.out; have hfz46 := blk_frozen BK384.out) | ((with_reducible refine gate_callee (f := 96) rfl ?_); refine goesC_ (some 26) Try.func96 #[.agg #[.int .i64 ((rd_T56 l0 x20_2).f0), .int .i64 ((rd_T56 l0 x20_2).f1.f0), .int .i64 ((rd_T56 l0 x20_2).f1.f1), .int .i64 ((rd_T56 l0 x20_2).f2), .int .i64 ((rd_T56 l0 x20_2).f3.f0), .int .i64 ((rd_T56 l0 x20_2).f3.f1), .int .i64 ((rd_T56 l0 x20_2).f4.f0), .int .i64 ((rd_T56 l0 x20_2).f4.f1), .int .i64 ((rd_T56 l0 x20_2).f5), .int .i64 ((rd_T56 l0 x20_2).f6)]] ?_; (with_reducible refine (impl_CredOk.calls k2 ((rd_T56 l0 x20_2).f0) ((rd_T56 l0 x20_2).f1.f0) ((rd_T56 l0 x20_2).f1.f1) ((rd_T56 l0 x20_2).f2) ((rd_T56 l0 x20_2).f3.f0) ((rd_T56 l0 x20_2).f3.f1) ((rd_T56 l0 x20_2).f4.f0) ((rd_T56 l0 x20_2).f4.f1) ((rd_T56 l0 x20_2).f5) ((rd_T56 l0 x20_2).f6) false _ A11.out).mono ?_); rintro e w47 ⟨rfl, hb⟩; refine ⟨_, rfl, ?_⟩; replace HO_3 := Aside0.mk (Kd.R_below (by (with_reducible repeat (first | apply Kd.R_alloc | apply Kd.R_drewN | apply Kd.R_drew)); exact (Kd.R_mono (Kd.R_far (p := ⟨gb384, 9, none⟩) (Kd.R_far (p := ⟨gb384, 8, none⟩) (Kd.R_far (p := ⟨gb384, 7, none⟩) (Kd.R_far (p := ⟨gb384, 6, none⟩) (Kd.R_far (p := ⟨gb384, 5, none⟩) (Kd.R_far (p := ⟨gb384, 4, none⟩) (Kd.R_far (p := ⟨gb384, 3, none⟩) (Kd.R_far (p := ⟨gb384, 2, none⟩) (Kd.R_far (p := ⟨gb384, 1, none⟩) (Kd.R_far (p := ⟨gb384, 0, none⟩) (Kd.R_types HO_3.out BK384.out (by decide)) (fun _ hk => hk.2) (.int .i64 ((rd_T56 l0 x20_2).f0))) (fun _ hk => hk.2) (.int .i64 ((rd_T56 l0 x20_2).f1.f0))) (fun _ hk => hk.2) (.int .i64 ((rd_T56 l0 x20_2).f1.f1))) (fun _ hk => hk.2) (.int .i64 ((rd_T56 l0 x20_2).f2))) (fun _ hk => hk.2) (.int .i64 ((rd_T56 l0 x20_2).f3.f0))) (fun _ hk => hk.2) (.int .i64 ((rd_T56 l0 x20_2).f3.f1))) (fun _ hk => hk.2) (.int .i64 ((rd_T56 l0 x20_2).f4.f0))) (fun _ hk => hk.2) (.int .i64 ((rd_T56 l0 x20_2).f4.f1))) (fun _ hk => hk.2) (.int .i64 ((rd_T56 l0 x20_2).f5))) (fun _ hk => hk.2) (.int .i64 ((rd_T56 l0 x20_2).f6))) (fun _ h_ => h_.1))) hb); replace HO_4 := Aside0.mk (Kd.N_below (by (with_reducible repeat (first | apply Kd.N_alloc | apply Kd.N_drewN | apply Kd.N_drew)); exact (Kd.N_mono (Kd.N_far (p := ⟨gb384, 9, none⟩) (Kd.N_far (p := ⟨gb384, 8, none⟩) (Kd.N_far (p := ⟨gb384, 7, none⟩) (Kd.N_far (p := ⟨gb384, 6, none⟩) (Kd.N_far (p := ⟨gb384, 5, none⟩) (Kd.N_far (p := ⟨gb384, 4, none⟩) (Kd.N_far (p := ⟨gb384, 3, none⟩) (Kd.N_far (p := ⟨gb384, 2, none⟩) (Kd.N_far (p := ⟨gb384, 1, none⟩) (Kd.N_far (p := ⟨gb384, 0, none⟩) (Kd.N_mono HO_4.out (fun k_ hk => (⟨hk, hk.2⟩ : _ ∧ k_ ≠ gb384))) (fun _ hk => hk.2) (.int .i64 ((rd_T56 l0 x20_2).f0))) (fun _ hk => hk.2) (.int .i64 ((rd_T56 l0 x20_2).f1.f0))) (fun _ hk => hk.2) (.int .i64 ((rd_T56 l0 x20_2).f1.f1))) (fun _ hk => hk.2) (.int .i64 ((rd_T56 l0 x20_2).f2))) (fun _ hk => hk.2) (.int .i64 ((rd_T56 l0 x20_2).f3.f0))) (fun _ hk => hk.2) (.int .i64 ((rd_T56 l0 x20_2).f3.f1))) (fun _ hk => hk.2) (.int .i64 ((rd_T56 l0 x20_2).f4.f0))) (fun _ hk => hk.2) (.int .i64 ((rd_T56 l0 x20_2).f4.f1))) (fun _ hk => hk.2) (.int .i64 ((rd_T56 l0 x20_2).f5))) (fun _ hk => hk.2) (.int .i64 ((rd_T56 l0 x20_2).f6))) (fun _ h_ => h_.1))) hb); replace BK384 := Aside0.mk (blk_below (g := gb384) (o := .cells #[.int .i64 ((rd_T56 l0 x20_2).f0), .int .i64 ((rd_T56 l0 x20_2).f1.f0), .int .i64 ((rd_T56 l0 x20_2).f1.f1), .int .i64 ((rd_T56 l0 x20_2).f2), .int .i64 ((rd_T56 l0 x20_2).f3.f0), .int .i64 ((rd_T56 l0 x20_2).f3.f1), .int .i64 ((rd_T56 l0 x20_2).f4.f0), .int .i64 ((rd_T56 l0 x20_2).f4.f1), .int .i64 ((rd_T56 l0 x20_2).f5), .int .i64 ((rd_T56 l0 x20_2).f6)] 56 (0, 0)) (bk_ BK384) hb); replace HB := hbs_ hb; clear hb))
          go_roundg k2
          case measure => have := HK1.out; have := HK2.out; omega
          case rel => exact ⟨(x3_2), (x4_2), (wrap64 (x20_2 + 1)), (by first | rfl | (simp; done) | (simp [*]; done)), H', ⟨by have := HK1.out; have := HK2.out; omega⟩, ⟨by (with_reducible repeat (first | apply Kd.R_alloc | apply Kd.R_drewN | apply Kd.R_drew)); exact HO_3.out⟩, ⟨by (with_reducible repeat (first | apply Kd.N_alloc | apply Kd.N_drewN | apply Kd.N_drew)); exact Kd.N_mono HO_4.out (fun _ hk => ⟨hk.1.1, hk.1.2⟩)⟩, ⟨bl_⟩⟩
        ·rw [if_neg c10] at H
         exact absurd H (by simp)
       ·rw [if_neg c9] at H
        exact absurd H (by simp)
      ·rw [if_neg c8] at H
       have c8b0 : decide (x20_2 < (l0.length : Int)) = false := decide_eq_false c8
       clear c8
       have H' := Aside0.mk H
       clear H
       go_wp2
       go_roundg k2
       case measure => have := HK1.out; have := HK2.out; omega
       case rel => exact ⟨(x3_2), (x4_2), ((x3_1.length : Int)), (by first | rfl | (simp; done) | (simp [*]; done)), H', ⟨by have := HK1.out; have := HK2.out; omega⟩, ⟨by (with_reducible repeat (first | apply Kd.R_alloc | apply Kd.R_drewN | apply Kd.R_drew)); exact HO_3.out⟩, ⟨by (with_reducible repeat (first | apply Kd.N_alloc | apply Kd.N_drewN | apply Kd.N_drew)); exact HO_4.out⟩, ⟨bl_⟩⟩
   ·rw [if_neg c6] at H
    have c6b0 : decide (x5_1 < (x3_1.length : Int)) = false := decide_eq_false c6
    clear c6
    obtain rfl := Option.some.inj H
    obtain ⟨Ao48, co48, eo48⟩ := Kd.R_slice HO_3.out
    subst eo48
    go_wp2
    go_ret
    exact ⟨_, eq_, by (with_reducible repeat (first | apply Kd.N_alloc | apply Kd.N_drewN | apply Kd.N_drew)); exact Kd.N_mono HO_4.out (fun _ hk => hk.1), bl_⟩
def impl_FactsOf.l0 : Nat → List (S51) → List (S188) → Int → Int → Option ((List (S51)))
 | 0, _, _, _, _ => none
 | k + 1, x3, x8, x9, x10 => if x10 < x9 then (if 0 ≤ x10 then (if x10 < (x8.length : Int) then (if x3.length < 5864062014805 then (impl_FactsOf.l0 k (x3 ++ [(⟨(⟨(rd_T188 x8 x10).f0.f0.f0, (rd_T188 x8 x10).f0.f0.f1⟩ : S49), (rd_T188 x8 x10).f0.f1⟩ : S51)]) x8 x9 (wrap64 (x10 + 1))) else (none)) else (none)) else (none)) else (some x3)
def impl_FactsOf.f (k : Nat) (l0 : List (S56)) : Option ((List (S51))) := (impl_findFacts.f k l0).bind fun t404 => (impl_FactsOf.l0 k (([] : List (S51))) t404 (t404.length : Int) 0)
set_option maxHeartbeats 8000000 in
set_option maxRecDepth 100000 in
theorem impl_FactsOf.calls (k : Nat) (A0 : Option Addr) (c0 : Nat) (l0 : List (S56)) (r : List (S51)) (w : World) (hr0 : Kd.C k56 w A0 l0.length l0) (hc0 : l0.length ≤ c0) (h : impl_FactsOf.f k l0 = some r) :
  Calls Try.prog 90 #[.slice A0 l0.length c0] w fun e w' => ∃ v0_ : Value, e = .returned (v0_) ∧ Kd.R k51 51 w' w.heap.size (fun _ => True) v0_ r ∧ Below w.heap.size w w' := by
 have hu188 := Try.underlying188
 have hu51 := Try.underlying51
 have HR0 := Aside0.mk hr0
 have HC0 := Aside0.mk hc0
 clear hr0 hc0
 have HB := Aside0.mk (Below.refl w.heap.size w)
 have H : ((impl_findFacts.f k l0).bind fun t404 => (impl_FactsOf.l0 k (([] : List (S51))) t404 (t404.length : Int) 0)) = some r := h
 clear h
 obtain ⟨y401, hy401⟩ : ∃ y_ : List (S51), y_ = (([] : List (S51))) := ⟨_, rfl⟩
 replace H : ((impl_findFacts.f k l0).bind fun t404 => (impl_FactsOf.l0 k y401 t404 (t404.length : Int) 0)) = some r := by first | (rw [hy401]; with_reducible exact H) | (have H2_ := (Option.bind_some _ _).symm.trans H; rw [hy401]; with_reducible exact H2_) | (have H2_ := (Option.bind_some _ _).symm.trans H; with_reducible exact H2_) | with_reducible exact H | (rw [hy401]; exact H) | exact H
 have Ny401 := Aside0.mk hy401
 clear hy401
 obtain ⟨t404, A2, H⟩ := bindE_ H
 have H' := Aside0.mk H
 clear H
 go_enter Try.func90, Try.ntmps90
 go_wp2_with (first | ((with_reducible refine gate_dst (N := 6) rfl ?_); refine Kd.R_lit k51 _ 51 ?hg (N := 6) ?hd (xs := ([] : List (S51))) (inner := []) (ok := fun _ => True) (okp := fun _ => True) ?hr ?hp (fun _ hk => hk) trivial (Below.refl _ _) (Nat.le_refl _) (by simp) ?_; (case hd => rfl); (case hg => rfl); (case hr => first | (go_simp; done) | (go_simp; rfl)); (case hp => exact (Reps.none _ _)); intro v402 w3 ho4 hb hg_ hnew_; clear hg_ hnew_; (first | rw [← Ny401.out] at ho4 | (simp only [Int.reduceToNat] at ho4; rw [← Ny401.out] at ho4)); have HO403 := Aside0.mk (Kd.R_lower ho4 bls_); replace HB := hbs_ hb; clear hb ho4) | ((with_reducible refine gate_callee (f := 167) rfl ?_); refine goesC_ (some 8) Try.func167 #[.slice A0 l0.length c0] ?_; (with_reducible refine (impl_findFacts.calls k _ _ l0 t404 _ ?side1 ?side2 A2.out).mono ?_); (case side1 => repeat (first | exact (Kd.C_below HR0.out HB.out) | (with_reducible refine Kd.C_alloc ?_ _) | (with_reducible refine Kd.C_drewN ?_ _) | (with_reducible refine Kd.C_drew ?_))); (case side2 => exact HC0.out); rintro e w5 ⟨v405, rfl, ho0, hb⟩; refine ⟨_, rfl, ?_⟩; have HO406 := Aside0.mk (Kd.N_lower (Kd.N_mono (ok' := fun k_ => some k_ ≠ (v402 : Value).ownBlock) ho0 (fun k_ hk_ => (Kd.fresh' (Kd.R_lt (by (with_reducible repeat (first | apply Kd.R_alloc | apply Kd.R_drewN | apply Kd.R_drew)); exact HO403.out)) k_ hk_))) bls_); replace HO403 := Aside0.mk (Kd.R_below (by (with_reducible repeat (first | apply Kd.R_alloc | apply Kd.R_drewN | apply Kd.R_drew)); exact HO403.out) hb); replace HB := hbs_ hb; (try clear hb); (try clear hb2); (try clear hk); (try clear hi); (try clear ho0); obtain ⟨Ao6, co6, eo6⟩ := Kd.N_slice HO406.out; subst eo6))
 go_loopg [3, 10] k (fun kq v3 v10 w' => ∃ (x3_1 : List (S51)) (x10_1 : Int), v10 = .int .i64 x10_1 ∧ Aside0 (impl_FactsOf.l0 kq x3_1 t404 (t404.length : Int) x10_1 = some r) ∧ Aside0 (kq ≤ k) ∧ Aside0 (Kd.R k51 51 w' w.heap.size (fun _ => True) v3 x3_1) ∧ Aside0 (Kd.N k188 188 w' w.heap.size (fun k_ => some k_ ≠ (v3 : Value).ownBlock) (.slice Ao6 t404.length co6) t404) ∧ Aside0 (Below w.heap.size w w'))
 case atStart => exact ⟨(y401), (0), (by first | rfl | (simp; done) | (simp [*]; done)), H', ⟨Nat.le_refl _⟩, ⟨by (with_reducible repeat (first | apply Kd.R_alloc | apply Kd.R_drewN | apply Kd.R_drew)); exact HO403.out⟩, ⟨by (with_reducible repeat (first | apply Kd.N_alloc | apply Kd.N_drewN | apply Kd.N_drew)); exact HO406.out⟩, ⟨bl_⟩⟩
 case round =>
  clear H'
  try clear c1
  try clear p2
  obtain ⟨x3_1, x10_1, rfl, HA, HK1, HO_3, HO_8, HB⟩ := hrel
  cases gk with
  | zero => exact absurd HA.out (by simp [impl_FactsOf.l0])
  | succ k1 =>
   have H := HA.out
   clear HA
   simp only [impl_FactsOf.l0] at H
   by_cases c7 : x10_1 < (t404.length : Int)
   ·rw [if_pos c7] at H
    have c7b0 : decide (x10_1 < (t404.length : Int)) = true := decide_eq_true c7
    clear c7
    by_cases c8 : 0 ≤ x10_1
    ·rw [if_pos c8] at H
     have c8b0 : decide (0 ≤ x10_1) = true := decide_eq_true c8
     clear c8
     by_cases c9 : x10_1 < (t404.length : Int)
     ·rw [if_pos c9] at H
      have c9b0 : decide (x10_1 < (t404.length : Int)) = true := decide_eq_true c9
      clear c9
      by_cases c10 : x3_1.length < 5864062014805
      ·rw [if_pos c10] at H
       have LMc10 := Aside0.mk c10
       clear c10
       obtain ⟨y409, hy409⟩ : ∃ y_ : List (S51), y_ = (x3_1 ++ [(⟨(⟨(rd_T188 t404 x10_1).f0.f0.f0, (rd_T188 t404 x10_1).f0.f0.f1⟩ : S49), (rd_T188 t404 x10_1).f0.f1⟩ : S51)]) := ⟨_, rfl⟩
       replace H : (impl_FactsOf.l0 k1 y409 t404 (t404.length : Int) (wrap64 (x10_1 + 1))) = some r := by first | (rw [hy409]; with_reducible exact H) | (have H2_ := (Option.bind_some _ _).symm.trans H; rw [hy409]; with_reducible exact H2_) | (have H2_ := (Option.bind_some _ _).symm.trans H; with_reducible exact H2_) | with_reducible exact H | (rw [hy409]; exact H) | exact H
       have Ny409 := Aside0.mk hy409
       clear hy409
       have H' := Aside0.mk H
       clear H
       have p407 : 0 ≤ (x10_1 : Int) := of_decide_eq_true (by first | (with_reducible assumption) | assumption)
       have q407 : x10_1 < (t404.length : Int) := of_decide_eq_true (by first | (with_reducible assumption) | assumption)
       obtain ⟨ad407, A407_4, c407_4, e407, hx407_0, hx407_1, hx407_2, hx407_3, hx407_4, hl407_4, hi407_4⟩ := at_T188 (Kd.N_reads' HO_8.out).2.2 x10_1 p407 q407
       cases e407
       obtain ⟨ce407, hce407, hMe407, hcc407⟩ := Kd.N_get HO_8.out z188 x10_1 p407 (by first | exact q407 | exact of_decide_eq_true (by first | (with_reducible assumption) | assumption) | (have e_ := (Kd.N_reads' HO_8.out).1; omega))
       obtain ⟨ua407_4, uc407_4, rfl, ul407_4, ge407_4⟩ := k188_openF hMe407
       have hv407_4 := hcc407 4 _ rfl
       rw [add_field _ _ 4 (by omega)] at hv407_4
       replace hv407_4 := Option.some.inj (hv407_4.symm.trans hx407_4)
       injection hv407_4 with hva_ hvn_ hvc_
       rw [hva_] at ge407_4
       rw [hvc_] at ul407_4
       have HL407_4 := Aside0.mk (show Kd.V (Kd.int .i64) 3 _ w.heap.size _ _ ((rd_T188 t404 x10_1).f2) from Kd.V_mk ul407_4 ge407_4)
       clear hva_ hvn_ hvc_ ge407_4 ul407_4
       clear hcc407 hce407
       have HR407_4 := Aside0.mk hi407_4
       have HC407_4 := Aside0.mk hl407_4
       clear hi407_4 hl407_4
       replace p407 := eq_true p407
       replace q407 := eq_true q407
       go_wp2_with (first | ((with_reducible refine gate_dst (N := 5) rfl ?_); refine box_event ?hg (N := 5) ?hd (cs := #[.int .i64 0, .int .i64 0, .int .i64 0, .int .i64 0, .slice none 0 0]) (t := 188) ?hr ?_; (case hd => rfl); (case hg => rfl); (case hr => first | (go_simp; done) | (go_simp; rfl)); intro gb408 hg w11 hbox hb; replace HO_3 := Aside0.mk (Kd.R_below (by (with_reducible repeat (first | apply Kd.R_alloc | apply Kd.R_drewN | apply Kd.R_drew)); exact HO_3.out) hb); replace HO_8 := Aside0.mk (Kd.N_below (Kd.N_elderB (by (with_reducible repeat (first | apply Kd.N_alloc | apply Kd.N_drewN | apply Kd.N_drew)); exact HO_8.out) gb408 (Nat.le_of_eq hg.symm)) hb); replace HL407_4 := Aside0.mk (Kd.V_below (Kd.V_elderB (by (with_reducible repeat (first | apply Kd.V_alloc | apply Kd.V_drewN | apply Kd.V_drew)); exact HL407_4.out) gb408 (Nat.le_of_eq hg.symm)) hb); replace HR407_4 := Aside0.mk (Kd.C_below (by repeat (first | (with_reducible exact HR407_4.out) | (with_reducible refine Kd.C_alloc ?_ _) | (with_reducible refine Kd.C_drewN ?_ _) | (with_reducible refine Kd.C_drew ?_) | exact HR407_4.out)) hb); have BK408 := Aside0.mk (hbox); have GW408 := gs_ hg; have GE408 := gs_ hg; replace HB := hbs_ hb; clear hb hbox hg; have hcz12 := blk_cell BK408.out; have hfz12 := blk_frozen BK408.out) | ((with_reducible refine gate_builtin (b := .append) (xs := #[.tmp 14, .tmp 17]) rfl ?_); at_builtin; refine Kd.R_append k51 (w0 := w) w.heap.size rfl (.tmp 14) (.tmp 17) 46 51 (.agg #[(.int .i64 0), (.int .i64 0), (.int .i64 0)]) 24 rfl Try.underlying46 info51 rfl (by decide) (by omega) u3 x3_1 (⟨(⟨(rd_T188 t404 x10_1).f0.f0.f0, (rd_T188 t404 x10_1).f0.f0.f1⟩ : S49), (rd_T188 t404 x10_1).f0.f1⟩ : S51) [.int .i64 ((rd_T188 t404 x10_1).f0.f0.f0), .int .i64 ((rd_T188 t404 x10_1).f0.f0.f1), .int .i64 ((rd_T188 t404 x10_1).f0.f1)] (fun _ => True) (fun _ => False) rfl (by first | (go_simp; done) | (go_simp; rfl)) ?aP (fun _ hk => hk.elim) ?aF ?aO ?aB ?aS ?aL ?_; (case aP => exact k51_mkM _ _ _ (⟨(⟨(rd_T188 t404 x10_1).f0.f0.f0, (rd_T188 t404 x10_1).f0.f0.f1⟩ : S49), (rd_T188 t404 x10_1).f0.f1⟩ : S51)); (case aB => exact bl_); (case aF => exact (fun _ _ => trivial)); (case aO => exact (by (with_reducible repeat (first | apply Kd.R_alloc | apply Kd.R_drewN | apply Kd.R_drew)); exact Kd.R_mono (Kd.R_far (p := ⟨gb408, 4, none⟩) (Kd.R_far (p := ⟨gb408, 3, none⟩) (Kd.R_far (p := ⟨gb408, 2, none⟩) (Kd.R_far (p := ⟨gb408, 1, none⟩) (Kd.R_far (p := ⟨gb408, 0, none⟩) (Kd.R_types HO_3.out BK408.out (by decide)) (fun _ hk => hk.2) (.int .i64 ((rd_T188 t404 x10_1).f0.f0.f0))) (fun _ hk => hk.2) (.int .i64 ((rd_T188 t404 x10_1).f0.f0.f1))) (fun _ hk => hk.2) (.int .i64 ((rd_T188 t404 x10_1).f0.f1))) (fun _ hk => hk.2) (.int .i64 ((rd_T188 t404 x10_1).f1))) (fun _ hk => hk.2) (.slice A407_4 ((rd_T188 t404 x10_1).f2).length c407_4)) (fun _ hk => trivial))); (case aS => exact bls_); (case aL => have := LMc10.out; omega); intro v410 w13 ho hb hg hat; rw [← Ny409.out] at ho; replace HO_8 := Aside0.mk (Kd.N_afterv (ok := (fun k_ => k_ ≠ gb408)) (by (with_reducible repeat (first | apply Kd.N_alloc | apply Kd.N_drewN | apply Kd.N_drew)); exact Kd.N_mono (Kd.N_far (p := ⟨gb408, 4, none⟩) (Kd.N_far (p := ⟨gb408, 3, none⟩) (Kd.N_far (p := ⟨gb408, 2, none⟩) (Kd.N_far (p := ⟨gb408, 1, none⟩) (Kd.N_far (p := ⟨gb408, 0, none⟩) (Kd.N_mono HO_8.out (fun k_ hk => (⟨hk, hk.2⟩ : _ ∧ k_ ≠ gb408))) (fun _ hk => hk.2) (.int .i64 ((rd_T188 t404 x10_1).f0.f0.f0))) (fun _ hk => hk.2) (.int .i64 ((rd_T188 t404 x10_1).f0.f0.f1))) (fun _ hk => hk.2) (.int .i64 ((rd_T188 t404 x10_1).f0.f1))) (fun _ hk => hk.2) (.int .i64 ((rd_T188 t404 x10_1).f1))) (fun _ hk => hk.2) (.slice A407_4 ((rd_T188 t404 x10_1).f2).length c407_4)) (fun _ hk => ⟨hk.1.2, hk.1.1⟩)) hg hat); replace HL407_4 := Aside0.mk (Kd.V_afterv (ok := (fun k_ => some k_ ≠ (.slice (some ad407) t404.length co6 : Value).ownBlock ∧ k_ ≠ gb408)) (by (with_reducible repeat (first | apply Kd.V_alloc | apply Kd.V_drewN | apply Kd.V_drew)); exact Kd.V_mono (Kd.V_far (p := ⟨gb408, 4, none⟩) (Kd.V_far (p := ⟨gb408, 3, none⟩) (Kd.V_far (p := ⟨gb408, 2, none⟩) (Kd.V_far (p := ⟨gb408, 1, none⟩) (Kd.V_far (p := ⟨gb408, 0, none⟩) (Kd.V_mono HL407_4.out (fun k_ hk => (⟨hk, hk.2⟩ : _ ∧ k_ ≠ gb408))) (fun _ hk => hk.2) (.int .i64 ((rd_T188 t404 x10_1).f0.f0.f0))) (fun _ hk => hk.2) (.int .i64 ((rd_T188 t404 x10_1).f0.f0.f1))) (fun _ hk => hk.2) (.int .i64 ((rd_T188 t404 x10_1).f0.f1))) (fun _ hk => hk.2) (.int .i64 ((rd_T188 t404 x10_1).f1))) (fun _ hk => hk.2) (.slice A407_4 ((rd_T188 t404 x10_1).f2).length c407_4)) (fun _ hk => ⟨⟨hk.1.1.2, hk.1.2⟩, hk.1.1.1⟩)) hg hat); replace BK408 := Aside0.mk (blk_grown (g := gb408) (o := .cells #[.int .i64 ((rd_T188 t404 x10_1).f0.f0.f0), .int .i64 ((rd_T188 t404 x10_1).f0.f0.f1), .int .i64 ((rd_T188 t404 x10_1).f0.f1), .int .i64 ((rd_T188 t404 x10_1).f1), .slice A407_4 ((rd_T188 t404 x10_1).f2).length c407_4] 188 (0, 0)) (bk_ BK408) hg (Kd.R_ne HO_3.out BK408.out (by decide))); replace HB := Aside0.mk (hb); have HO411 := Aside0.mk (ho); clear HO_3; clear ho hb hg hat))
       go_roundg k1
       case measure => have := HK1.out; omega
       case rel => exact ⟨(y409), (wrap64 (x10_1 + 1)), (by first | rfl | (simp; done) | (simp [*]; done)), H', ⟨by have := HK1.out; omega⟩, ⟨by (with_reducible repeat (first | apply Kd.R_alloc | apply Kd.R_drewN | apply Kd.R_drew)); exact HO411.out⟩, ⟨by (with_reducible repeat (first | apply Kd.N_alloc | apply Kd.N_drewN | apply Kd.N_drew)); exact Kd.N_mono HO_8.out (fun _ hk => hk.2)⟩, ⟨bl_⟩⟩
      ·rw [if_neg c10] at H
       exact absurd H (by simp)
     ·rw [if_neg c9] at H
      exact absurd H (by simp)
    ·rw [if_neg c8] at H
     exact absurd H (by simp)
   ·rw [if_neg c7] at H
    have c7b0 : decide (x10_1 < (t404.length : Int)) = false := decide_eq_false c7
    clear c7
    obtain rfl := Option.some.inj H
    go_wp2
    go_ret
    exact ⟨_, eq_, by (with_reducible repeat (first | apply Kd.R_alloc | apply Kd.R_drewN | apply Kd.R_drew)); exact HO_3.out, bl_⟩
end Go.Proofs.Ytjpjidgfcljpcaa.PD
