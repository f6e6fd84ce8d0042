import Derived.Test.YtjpjidgfcljpcaaKCPCx10
-- printed by wip/tools
namespace Go.Proofs.Ytjpjidgfcljpcaa.PC
open Go.RowKit Go.Proofs.YtjpjidgfcljpcaaW.PrintWords Go.Proofs.YtjpjidgfcljpcaaW.PrintLast Go.Proofs.YtjpjidgfcljpcaaW.PrintMore
attribute [local go_sem] max2_int min2_int max_two min_two max_three min_three max_four min_four
set_option linter.unusedVariables false
set_option linter.unusedSimpArgs false
def impl_Fact_201.f (l0 : List (S51)) : Option (List (S51)) := if l0.length < 5864062014805 then some l0 else none
set_option maxHeartbeats 8000000 in
set_option maxRecDepth 100000 in
theorem impl_Fact_201.calls (A0 : Option Addr) (c0 : Nat) (l0 : List (S51)) (r : List (S51)) (w : World) (hr0 : Kd.C k51 w A0 l0.length l0) (hc0 : l0.length ≤ c0) (h : impl_Fact_201.f l0 = some r) :
  Calls Try.prog 201 #[.slice A0 l0.length c0] w fun e w' => ∃ v0_ : Value, e = .returned (v0_) ∧ Kd.R k51 51 w' w.heap.size (fun _ => True) v0_ r ∧ Below w.heap.size w w' := by
 have HR0 := Aside0.mk hr0
 have HC0 := Aside0.mk hc0
 clear hr0 hc0
 have hq : ∀ (w : World) (a : Option Addr) (n c n' c' : Nat), (binOp .eql 46 (.slice a n c) (.slice none n' c')).run Try.prog w = .ok (.bool a.isNone) w := fun w a n c n' c' => Lib.run_eql_slice_nil w _ _ a n c n' c' Try.underlying46
 have HB := Aside0.mk (Below.refl w.heap.size w)
 unfold impl_Fact_201.f at h
 by_cases hl : l0.length < 5864062014805
 ·rw [if_pos hl] at h
  have LM := Aside0.mk hl
  clear hl
  obtain rfl := Option.some.inj h
  clear h
  cases A0 with
  | none =>
   have e0 : l0 = [] := by
    rcases l0 with _ | ⟨x, xs⟩
    ·rfl
    ·obtain ⟨ad, c, e, _⟩ := Kd.C_get HR0.out x 0 (by omega) (by rw [List.length_cons]; omega)
     cases e
   subst e0
   clear HR0 HC0 LM
   go_enter Try.func201, Try.ntmps201
   go_wp2
   go_ret
   exact ⟨_, eq_, Kd.R_nil _ _ _ _ _, bl_⟩
  | some ad =>
   obtain ⟨y1, hy1⟩ : ∃ y_ : List (S51), y_ = (([] : List (S51))) := ⟨_, rfl⟩
   have Ny1 := Aside0.mk hy1
   clear hy1
   go_enter Try.func201, Try.ntmps201
   go_wp2_with (first | ((with_reducible refine gate_dst (N := 5) rfl ?_); refine Kd.R_lit k51 _ 51 ?hg (N := 5) ?hd (xs := ([] : List (S51))) (inner := []) (ok := fun _ => True) (okp := fun _ => True) ?hr ?hp (fun _ hk => hk) trivial (Below.refl _ _) (Nat.le_refl _) (by simp) ?_; (case hd => rfl); (case hg => rfl); (case hr => first | (go_simp; done) | (go_simp; rfl)); (case hp => exact (Reps.none _ _)); intro v161 w9 ho10 hb hg_ hnew_; clear hg_ hnew_; (first | rw [← Ny1.out] at ho10 | (simp only [Int.reduceToNat] at ho10; rw [← Ny1.out] at ho10)); have HO162 := Aside0.mk (Kd.R_lower ho10 bls_); replace HB := hbs_ hb; clear hb ho10) | ((with_reducible refine gate_builtin (b := .append) (xs := #[.tmp 5, .tmp 6]) rfl ?_); at_builtin; refine Kd.R_append_rows k51 (w0 := w) w.heap.size rfl (.tmp 5) (.tmp 6) 46 51 (.agg #[(.int .i64 0), (.int .i64 0), (.int .i64 0)]) 24 rfl Try.underlying46 info51 rfl (by decide) (by omega) v161 y1 l0 _ _ _ (fun _ => True) (fun _ => False) rfl rfl ?aO ?aR (fun _ _ h => h) (fun _ h => h.elim) ?aF ?aB ?aS ?aL ?_; (case aR => repeat (first | exact (Kd.C_below HR0.out HB.out) | (with_reducible refine Kd.C_alloc ?_ _) | (with_reducible refine Kd.C_drewN ?_ _) | (with_reducible refine Kd.C_drew ?_))); (case aB => exact bl_); (case aF => exact (fun _ _ => trivial)); (case aO => exact (by (with_reducible repeat (first | apply Kd.R_alloc | apply Kd.R_drewN | apply Kd.R_drew)); exact HO162.out)); (case aS => exact bls_); (case aL => have := LM.out; rw [Ny1.out]; simp only [List.length_nil]; omega); intro v164 w11 ho hb hg hat; rw [Ny1.out, List.nil_append] at ho; replace HB := Aside0.mk (hb); have HO165 := Aside0.mk (ho); clear HO162; clear ho hb hg hat))
   go_ret
   exact ⟨_, eq_, by (with_reducible repeat (first | apply Kd.R_alloc | apply Kd.R_drewN | apply Kd.R_drew)); exact HO165.out, bl_⟩
 ·rw [if_neg hl] at h
  exact absurd h (by simp)
mutual
def impl_findFacts.l0 : Nat → List (S56) → List (S51) → List (S188) → Int → Option ((List (S188)))
 | 0, _, _, _, _ => none
 | k + 1, x0, x3, x4, x5 => if x5 < (x3.length : Int) then (impl_findFacts.l1 k x0 x3 x4 (x3.length : Int) x0 (x0.length : Int) 0) else (some x4)
def impl_findFacts.l1 : Nat → List (S56) → List (S51) → List (S188) → Int → List (S56) → Int → Int → Option ((List (S188)))
 | 0, _, _, _, _, _, _, _ => none
 | k + 1, x0, x3, x4, x5, x18, x19, x20 => if x20 < x19 then (if 0 ≤ x20 then (if x20 < (x18.length : Int) then ((impl_CredOk.f k ((rd_T56 x18 x20).f0) ((rd_T56 x18 x20).f1.f0) ((rd_T56 x18 x20).f1.f1) ((rd_T56 x18 x20).f2) ((rd_T56 x18 x20).f3.f0) ((rd_T56 x18 x20).f3.f1) ((rd_T56 x18 x20).f4.f0) ((rd_T56 x18 x20).f4.f1) ((rd_T56 x18 x20).f5) ((rd_T56 x18 x20).f6)).bind fun t346 => (if t346 = true then ((impl_Fact_201.f x3).bind fun t347 => ((impl_derive.f k t347 ((rd_T56 x18 x20).f0) ((rd_T56 x18 x20).f1.f0) ((rd_T56 x18 x20).f1.f1) ((rd_T56 x18 x20).f2) ((rd_T56 x18 x20).f3.f0) ((rd_T56 x18 x20).f3.f1) ((rd_T56 x18 x20).f4.f0) ((rd_T56 x18 x20).f4.f1) ((rd_T56 x18 x20).f5) ((rd_T56 x18 x20).f6)).bind fun t350 => (impl_findFacts.l2 k x0 x3 x4 x5 x20 x18 x19 x20 t350 (t350.length : Int) 0))) else (impl_findFacts.l1 k x0 x3 x4 x5 x18 x19 (wrap64 (x20 + 1))))) else (none)) else (none)) else (impl_findFacts.l0 k x0 x3 x4 x5)
def impl_findFacts.l2 : Nat → List (S56) → List (S51) → List (S188) → Int → Int → List (S56) → Int → Int → List (S193) → Int → Int → Option ((List (S188)))
 | 0, _, _, _, _, _, _, _, _, _, _, _ => none
 | k + 1, x0, x3, x4, x5, x6, x18, x19, x20, x31, x32, x33 => if x33 < x32 then (if 0 ≤ x33 then (if x33 < (x31.length : Int) then ((impl_Fact_119.f k x3 ((rd_T193 x31 x33).f0.f0.f0) ((rd_T193 x31 x33).f0.f0.f1) ((rd_T193 x31 x33).f0.f1)).bind fun t355 => (if t355 = true then (impl_findFacts.l2 k x0 x3 x4 x5 x6 x18 x19 x20 x31 x32 (wrap64 (x33 + 1))) else (if x3.length < 5864062014805 then (if x4.length < 2513169434916 then (impl_findFacts.l2 k x0 (x3 ++ [(⟨(⟨(rd_T193 x31 x33).f0.f0.f0, (rd_T193 x31 x33).f0.f0.f1⟩ : S49), (rd_T193 x31 x33).f0.f1⟩ : S51)]) (x4 ++ [(⟨(⟨(⟨(rd_T193 x31 x33).f0.f0.f0, (rd_T193 x31 x33).f0.f0.f1⟩ : S49), (rd_T193 x31 x33).f0.f1⟩ : S51), x6, (rd_T193 x31 x33).f1⟩ : S188)]) x5 x6 x18 x19 x20 x31 x32 (wrap64 (x33 + 1))) else (none)) else (none)))) else (none)) else (none)) else (impl_findFacts.l1 k x0 x3 x4 x5 x18 x19 (wrap64 (x20 + 1)))
end
def impl_findFacts.f (k : Nat) (l0 : List (S56)) : Option ((List (S188))) := impl_findFacts.l0 k l0 (([] : List (S51))) (([] : List (S188))) (-1)
set_option maxHeartbeats 8000000 in
set_option maxRecDepth 100000 in
theorem impl_findFacts.calls (k : Nat) (A0 : Option Addr) (c0 : Nat) (l0 : List (S56)) (r : List (S188)) (w : World) (hr0 : Kd.C k56 w A0 l0.length l0) (hc0 : l0.length ≤ c0) (h : impl_findFacts.f k l0 = some r) :
  Calls Try.prog 167 #[.slice A0 l0.length c0] w fun e w' => ∃ v0_ : Value, e = .returned (v0_) ∧ Kd.N k188 188 w' w.heap.size (fun k_ => (w.heap.size ≤ k_)) v0_ r ∧ Below w.heap.size w w' := by
 have hu56 := Try.underlying56
 have hu193 := Try.underlying193
 have hu51 := Try.underlying51
 have hu188 := Try.underlying188
 have HR0 := Aside0.mk hr0
 have HC0 := Aside0.mk hc0
 clear hr0 hc0
 have HB := Aside0.mk (Below.refl w.heap.size w)
 have H : (impl_findFacts.l0 k l0 (([] : List (S51))) (([] : List (S188))) (-1)) = some r := h
 clear h
 obtain ⟨y338, hy338⟩ : ∃ y_ : List (S51), y_ = (([] : List (S51))) := ⟨_, rfl⟩
 replace H : (impl_findFacts.l0 k l0 y338 (([] : List (S188))) (-1)) = some r := by first | (rw [hy338]; with_reducible exact H) | (have H2_ := (Option.bind_some _ _).symm.trans H; rw [hy338]; with_reducible exact H2_) | (have H2_ := (Option.bind_some _ _).symm.trans H; with_reducible exact H2_) | with_reducible exact H | (rw [hy338]; exact H) | exact H
 have Ny338 := Aside0.mk hy338
 clear hy338
 obtain ⟨y341, hy341⟩ : ∃ y_ : List (S188), y_ = (([] : List (S188))) := ⟨_, rfl⟩
 replace H : (impl_findFacts.l0 k l0 y338 y341 (-1)) = some r := by first | (rw [hy341]; with_reducible exact H) | (have H2_ := (Option.bind_some _ _).symm.trans H; rw [hy341]; with_reducible exact H2_) | (have H2_ := (Option.bind_some _ _).symm.trans H; with_reducible exact H2_) | with_reducible exact H | (rw [hy341]; exact H) | exact H
 have Ny341 := Aside0.mk hy341
 clear hy341
 have H' := Aside0.mk H
 clear H
 go_enter Try.func167, Try.ntmps167
 go_wp2_with (first | ((with_reducible refine gate_dst (N := 10) rfl ?_); refine Kd.R_lit k51 _ 51 ?hg (N := 10) ?hd (xs := ([] : List (S51))) (inner := []) (ok := fun _ => True) (okp := fun _ => True) ?hr ?hp (fun _ hk => hk) trivial (Below.refl _ _) (Nat.le_refl _) (by simp) ?_; (case hd => rfl); (case hg => rfl); (case hr => first | (go_simp; done) | (go_simp; rfl)); (case hp => exact (Reps.none _ _)); intro v339 w2 ho3 hb hg_ hnew_; clear hg_ hnew_; (first | rw [← Ny338.out] at ho3 | (simp only [Int.reduceToNat] at ho3; rw [← Ny338.out] at ho3)); have HO340 := Aside0.mk (Kd.R_lower (Kd.R_newM (M := fun k_ => (w.heap.size ≤ k_)) ho3 bls_ (fun k_ h_ => h_)) bls_); replace HB := hbs_ hb; clear hb ho3) | ((with_reducible refine gate_dst (N := 11) rfl ?_); refine Kd.N_lit k188 _ 188 ?hg (N' := 11) ?hd (xs := ([] : List (S188))) (inner := []) (ok := (fun k_ => (w.heap.size ≤ k_) ∧ some k_ ≠ (v339 : Value).ownBlock)) (okp := (fun k_ => (w.heap.size ≤ k_) ∧ some k_ ≠ (v339 : Value).ownBlock)) ?hr ?hp (fun _ hk => hk) ((show ∀ k_, w2.heap.size ≤ k_ → (fun k_ => (w.heap.size ≤ k_) ∧ some k_ ≠ (v339 : Value).ownBlock) k_ from fun k_ hk => ⟨(Nat.le_trans bls_ hk), Kd.fresh' (Kd.R_lt (by (with_reducible repeat (first | apply Kd.R_alloc | apply Kd.R_drewN | apply Kd.R_drew)); exact HO340.out)) k_ hk⟩) _ (Nat.le_refl _)) (Below.refl _ _) (Nat.le_refl _) (by simp) ?_; (case hd => rfl); (case hg => rfl); (case hr => first | (go_simp; done) | (go_simp; rfl)); (case hp => exact (Reps.none _ _)); intro v342 w4 ho5 hb hg_ hnew_; clear hg_ hnew_; (first | rw [← Ny341.out] at ho5 | (simp only [Int.reduceToNat] at ho5; rw [← Ny341.out] at ho5)); replace HO340 := hob_ HO340 hb; have HO343 := Aside0.mk (Kd.N_lower ho5 bls_); replace HB := hbs_ hb; clear hb ho5))
 go_loopg [3, 4, 5] k (fun kq v3 v4 v5 w' => ∃ (x3_1 : List (S51)) (x4_1 : List (S188)) (x5_1 : Int), v5 = .int .i64 x5_1 ∧ Aside0 (impl_findFacts.l0 kq l0 x3_1 x4_1 x5_1 = some r) ∧ Aside0 (kq ≤ k) ∧ Aside0 (Kd.R k51 51 w' w.heap.size (fun k_ => (w.heap.size ≤ k_)) v3 x3_1) ∧ Aside0 (Kd.N k188 188 w' w.heap.size (fun k_ => (w.heap.size ≤ k_) ∧ some k_ ≠ (v3 : Value).ownBlock) v4 x4_1) ∧ Aside0 (Below w.heap.size w w'))
 case atStart => exact ⟨(y338), (y341), ((-1)), rf_, H', ⟨Nat.le_refl _⟩, ⟨by (with_reducible repeat (first | apply Kd.R_alloc | apply Kd.R_drewN | apply Kd.R_drew)); exact Kd.R_mono HO340.out (fun _ hk => hk.1)⟩, ⟨by (with_reducible repeat (first | apply Kd.N_alloc | apply Kd.N_drewN | apply Kd.N_drew)); exact HO343.out⟩, ⟨bl_⟩⟩
 case round =>
  clear H'
  try clear c1
  try clear p2
  obtain ⟨x3_1, x4_1, x5_1, rfl, HA, HK1, HO_3, HO_4, HB⟩ := hrel
  cases gk with
  | zero => exact absurd HA.out (by simp [impl_findFacts.l0])
  | succ k1 =>
   have H := HA.out
   clear HA
   simp only [impl_findFacts.l0] at H
   by_cases c6 : x5_1 < (x3_1.length : Int)
   ·rw [if_pos c6] at H
    have c6b0 : decide (x5_1 < (x3_1.length : Int)) = true := decide_eq_true c6
    clear c6
    have H' := Aside0.mk H
    clear H
    obtain ⟨Ao7, co7, eo7⟩ := Kd.R_slice HO_3.out
    subst eo7
    go_wp2
    go_loopg [3, 4, 20] k1 (fun kq v3 v4 v20 w' => ∃ (x3_2 : List (S51)) (x4_2 : List (S188)) (x20_2 : Int), v20 = .int .i64 x20_2 ∧ Aside0 (impl_findFacts.l1 kq l0 x3_2 x4_2 (x3_1.length : Int) l0 (l0.length : Int) x20_2 = some r) ∧ Aside0 (kq ≤ k1) ∧ Aside0 (Kd.R k51 51 w' w.heap.size (fun k_ => (w.heap.size ≤ k_)) v3 x3_2) ∧ Aside0 (Kd.N k188 188 w' w.heap.size (fun k_ => (w.heap.size ≤ k_) ∧ some k_ ≠ (v3 : Value).ownBlock) v4 x4_2) ∧ Aside0 (Below w.heap.size w w'))
    case atStart => exact ⟨(x3_1), (x4_1), (0), rf_, H', ⟨Nat.le_refl _⟩, ⟨by (with_reducible repeat (first | apply Kd.R_alloc | apply Kd.R_drewN | apply Kd.R_drew)); exact HO_3.out⟩, ⟨by (with_reducible repeat (first | apply Kd.N_alloc | apply Kd.N_drewN | apply Kd.N_drew)); exact HO_4.out⟩, ⟨bl_⟩⟩
    case round =>
     clear H'
     try clear c1
     try clear p2
     try clear c6
     try clear c6b0
     try clear p2
     obtain ⟨x3_2, x4_2, x20_2, rfl, HA, HK2, HO_3, HO_4, HB⟩ := hrel
     cases gk with
     | zero => exact absurd HA.out (by simp [impl_findFacts.l1])
     | succ k2 =>
      have H := HA.out
      clear HA
      simp only [impl_findFacts.l1] at H
      by_cases c8 : x20_2 < (l0.length : Int)
      ·rw [if_pos c8] at H
       have c8b0 : decide (x20_2 < (l0.length : Int)) = true := decide_eq_true c8
       clear c8
       obtain ⟨c9b0, H⟩ := ifd_ H
       obtain ⟨c10b0, H⟩ := ifd_ H
       obtain ⟨t346, A11, H⟩ := bindE_ H
       by_cases c12 : t346 = true
       ·subst c12
        replace H := ite_t_ H
        obtain ⟨t347, A13, H⟩ := bindE_ H
        obtain ⟨t350, A14, H⟩ := bindE_ H
        have H' := Aside0.mk H
        clear H
        have p344 : 0 ≤ (x20_2 : Int) := od_
        have q344 : x20_2 < (l0.length : Int) := od_
        obtain ⟨ad344, e344, hx344_0, hx344_1, hx344_2, hx344_3, hx344_4, hx344_5, hx344_6, hx344_7, hx344_8, hx344_9⟩ := at_T56 (Kd.C_below HR0.out HB.out) x20_2 p344 q344
        cases e344
        replace p344 := eq_true p344
        replace q344 := eq_true q344
        try go_wp2_with (first | ((with_reducible refine gate_dst (N := 7) rfl ?_); refine box_event ?hg (N := 7) ?hd (cs := #[.int .i64 0, .int .i64 0, .int .i64 0, .int .i64 0, .int .i64 0, .int .i64 0, .int .i64 0, .int .i64 0, .int .i64 0, .int .i64 0]) (t := 56) ?hr ?_; (case hd => rfl); (case hg => rfl); (case hr => first | (go_simp; done) | (go_simp; rfl)); intro gb345 hg w15 hbox hb; replace HO_3 := hob_ HO_3 hb; replace HO_4 := Aside0.mk (Kd.N_below (Kd.N_elderB (by (with_reducible repeat (first | apply Kd.N_alloc | apply Kd.N_drewN | apply Kd.N_drew)); exact HO_4.out) gb345 (Nat.le_of_eq hg.symm)) hb); have BK345 := Aside0.mk (hbox); have GW345 := gs_ hg; have GE345 := gs_ hg; replace HB := hbs_ hb; clear hb hbox hg; have hcz16 := blk_cell BK345.out; have hfz16 := blk_frozen BK345.out) | ((with_reducible refine gate_callee (f := 96) rfl ?_); refine goesC_ (some 26) Try.func96 #[.agg #[.int .i64 ((rd_T56 l0 x20_2).f0), .int .i64 ((rd_T56 l0 x20_2).f1.f0), .int .i64 ((rd_T56 l0 x20_2).f1.f1), .int .i64 ((rd_T56 l0 x20_2).f2), .int .i64 ((rd_T56 l0 x20_2).f3.f0), .int .i64 ((rd_T56 l0 x20_2).f3.f1), .int .i64 ((rd_T56 l0 x20_2).f4.f0), .int .i64 ((rd_T56 l0 x20_2).f4.f1), .int .i64 ((rd_T56 l0 x20_2).f5), .int .i64 ((rd_T56 l0 x20_2).f6)]] ?_; (with_reducible refine (impl_CredOk.calls k2 ((rd_T56 l0 x20_2).f0) ((rd_T56 l0 x20_2).f1.f0) ((rd_T56 l0 x20_2).f1.f1) ((rd_T56 l0 x20_2).f2) ((rd_T56 l0 x20_2).f3.f0) ((rd_T56 l0 x20_2).f3.f1) ((rd_T56 l0 x20_2).f4.f0) ((rd_T56 l0 x20_2).f4.f1) ((rd_T56 l0 x20_2).f5) ((rd_T56 l0 x20_2).f6) true _ A11.out).mono ?_); rintro e w17 ⟨rfl, hb⟩; refine ⟨_, rfl, ?_⟩; replace HO_3 := Aside0.mk (Kd.R_below (by (with_reducible repeat (first | apply Kd.R_alloc | apply Kd.R_drewN | apply Kd.R_drew)); exact (Kd.R_mono (Kd.R_far (p := ⟨gb345, 9, none⟩) (Kd.R_far (p := ⟨gb345, 8, none⟩) (Kd.R_far (p := ⟨gb345, 7, none⟩) (Kd.R_far (p := ⟨gb345, 6, none⟩) (Kd.R_far (p := ⟨gb345, 5, none⟩) (Kd.R_far (p := ⟨gb345, 4, none⟩) (Kd.R_far (p := ⟨gb345, 3, none⟩) (Kd.R_far (p := ⟨gb345, 2, none⟩) (Kd.R_far (p := ⟨gb345, 1, none⟩) (Kd.R_far (p := ⟨gb345, 0, none⟩) (Kd.R_types HO_3.out BK345.out (by decide)) (fun _ hk => hk.2) (.int .i64 ((rd_T56 l0 x20_2).f0))) (fun _ hk => hk.2) (.int .i64 ((rd_T56 l0 x20_2).f1.f0))) (fun _ hk => hk.2) (.int .i64 ((rd_T56 l0 x20_2).f1.f1))) (fun _ hk => hk.2) (.int .i64 ((rd_T56 l0 x20_2).f2))) (fun _ hk => hk.2) (.int .i64 ((rd_T56 l0 x20_2).f3.f0))) (fun _ hk => hk.2) (.int .i64 ((rd_T56 l0 x20_2).f3.f1))) (fun _ hk => hk.2) (.int .i64 ((rd_T56 l0 x20_2).f4.f0))) (fun _ hk => hk.2) (.int .i64 ((rd_T56 l0 x20_2).f4.f1))) (fun _ hk => hk.2) (.int .i64 ((rd_T56 l0 x20_2).f5))) (fun _ hk => hk.2) (.int .i64 ((rd_T56 l0 x20_2).f6))) (fun _ h_ => h_.1))) hb); replace HO_4 := Aside0.mk (Kd.N_below (by (with_reducible repeat (first | apply Kd.N_alloc | apply Kd.N_drewN | apply Kd.N_drew)); exact (Kd.N_mono (Kd.N_far (p := ⟨gb345, 9, none⟩) (Kd.N_far (p := ⟨gb345, 8, none⟩) (Kd.N_far (p := ⟨gb345, 7, none⟩) (Kd.N_far (p := ⟨gb345, 6, none⟩) (Kd.N_far (p := ⟨gb345, 5, none⟩) (Kd.N_far (p := ⟨gb345, 4, none⟩) (Kd.N_far (p := ⟨gb345, 3, none⟩) (Kd.N_far (p := ⟨gb345, 2, none⟩) (Kd.N_far (p := ⟨gb345, 1, none⟩) (Kd.N_far (p := ⟨gb345, 0, none⟩) (Kd.N_mono HO_4.out (fun k_ hk => (⟨hk, hk.2⟩ : _ ∧ k_ ≠ gb345))) (fun _ hk => hk.2) (.int .i64 ((rd_T56 l0 x20_2).f0))) (fun _ hk => hk.2) (.int .i64 ((rd_T56 l0 x20_2).f1.f0))) (fun _ hk => hk.2) (.int .i64 ((rd_T56 l0 x20_2).f1.f1))) (fun _ hk => hk.2) (.int .i64 ((rd_T56 l0 x20_2).f2))) (fun _ hk => hk.2) (.int .i64 ((rd_T56 l0 x20_2).f3.f0))) (fun _ hk => hk.2) (.int .i64 ((rd_T56 l0 x20_2).f3.f1))) (fun _ hk => hk.2) (.int .i64 ((rd_T56 l0 x20_2).f4.f0))) (fun _ hk => hk.2) (.int .i64 ((rd_T56 l0 x20_2).f4.f1))) (fun _ hk => hk.2) (.int .i64 ((rd_T56 l0 x20_2).f5))) (fun _ hk => hk.2) (.int .i64 ((rd_T56 l0 x20_2).f6))) (fun _ h_ => h_.1))) hb); replace BK345 := Aside0.mk (blk_below (g := gb345) (o := .cells #[.int .i64 ((rd_T56 l0 x20_2).f0), .int .i64 ((rd_T56 l0 x20_2).f1.f0), .int .i64 ((rd_T56 l0 x20_2).f1.f1), .int .i64 ((rd_T56 l0 x20_2).f2), .int .i64 ((rd_T56 l0 x20_2).f3.f0), .int .i64 ((rd_T56 l0 x20_2).f3.f1), .int .i64 ((rd_T56 l0 x20_2).f4.f0), .int .i64 ((rd_T56 l0 x20_2).f4.f1), .int .i64 ((rd_T56 l0 x20_2).f5), .int .i64 ((rd_T56 l0 x20_2).f6)] 56 (0, 0)) (bk_ BK345) hb); replace HB := hbs_ hb; clear hb))
        replace HO_3 := Aside0.mk (Kd.R_drew HO_3.out)
        replace HO_4 := Aside0.mk (Kd.N_drew HO_4.out)
        replace BK345 := Aside0.mk (blk_drew BK345.out)
        replace HB := Aside0.mk (below_drew1 HB.out)
        obtain ⟨Ao19, co19, eo19⟩ := Kd.R_slice HO_3.out
        (first | subst eo19 | (injection eo19 with f1_ f2_ f3_; have f4_ := f1_.symm; have f5_ := f3_.symm; clear f1_ f2_ f3_; subst f4_; subst f5_))
        refine start_ (n := 6) (S := fun w' => w'.cell? ⟨gb345, 0, none⟩ = some (.int .i64 ((rd_T56 l0 x20_2).f0)) ∧ w'.cell? ⟨gb345, 1, none⟩ = some (.int .i64 ((rd_T56 l0 x20_2).f1.f0)) ∧ w'.cell? ⟨gb345, 2, none⟩ = some (.int .i64 ((rd_T56 l0 x20_2).f1.f1)) ∧ w'.cell? ⟨gb345, 3, none⟩ = some (.int .i64 ((rd_T56 l0 x20_2).f2)) ∧ w'.cell? ⟨gb345, 4, none⟩ = some (.int .i64 ((rd_T56 l0 x20_2).f3.f0)) ∧ w'.cell? ⟨gb345, 5, none⟩ = some (.int .i64 ((rd_T56 l0 x20_2).f3.f1)) ∧ w'.cell? ⟨gb345, 6, none⟩ = some (.int .i64 ((rd_T56 l0 x20_2).f4.f0)) ∧ w'.cell? ⟨gb345, 7, none⟩ = some (.int .i64 ((rd_T56 l0 x20_2).f4.f1)) ∧ w'.cell? ⟨gb345, 8, none⟩ = some (.int .i64 ((rd_T56 l0 x20_2).f5)) ∧ w'.cell? ⟨gb345, 9, none⟩ = some (.int .i64 ((rd_T56 l0 x20_2).f6))) (ds := []) #[false, false, false, false, false, false] (by kernel_rfl) rfl rfl ⟨(blk_cell BK345.out 0).trans rfl, (blk_cell BK345.out 1).trans rfl, (blk_cell BK345.out 2).trans rfl, (blk_cell BK345.out 3).trans rfl, (blk_cell BK345.out 4).trans rfl, (blk_cell BK345.out 5).trans rfl, (blk_cell BK345.out 6).trans rfl, (blk_cell BK345.out 7).trans rfl, (blk_cell BK345.out 8).trans rfl, (blk_cell BK345.out 9).trans rfl⟩ (fun hHeld => ?_)
        generalize w17.drew = w18 at HO_3 HO_4 BK345 HB hHeld ⊢
        refine pure_ (i := 0) (N := some 28) (v := ?_) (a' := ?_) #[true, false, false, false, false, false] rfl rfl (by kernel_rfl) (fun _ _ _ h => h) (Or.inl ⟨by rfl, ?_⟩) ?_ ?_
        rotate_left
        ·intro w'
         go_simp
         with_reducible rfl
        rotate_left
        ·simp only [Act.put, List.setIfInBounds_toArray, List.set_cons_zero, List.set_cons_succ, i64_w, i32_w]
         rfl
        refine pure_ (i := 5) (N := some 33) (v := ?_) (a' := ?_) #[true, false, false, false, false, true] rfl rfl (by kernel_rfl) (fun _ _ _ h => h) (Or.inl ⟨by rfl, ?_⟩) ?_ ?_
        rotate_left
        ·intro w'
         go_simp
         with_reducible rfl
        rotate_left
        ·simp only [Act.put, List.setIfInBounds_toArray, List.set_cons_zero, List.set_cons_succ, i64_w, i32_w]
         rfl
        refine take_ (i := 2) (N := some 30) (v := ?_) (a' := ?_) #[true, false, true, false, false, true] rfl rfl (by kernel_rfl) (fun _ _ _ h => h) (Or.inl ⟨by rfl, ?_⟩) hHeld ?_ ?_
        rotate_left
        ·rintro w' ⟨s0, s1, s2, s3, s4, s5, s6, s7, s8, s9⟩
         go_simp
         with_reducible rfl
        rotate_left
        ·simp only [Act.put, List.setIfInBounds_toArray, List.set_cons_zero, List.set_cons_succ, i64_w, i32_w]
         rfl
        refine one_ (i := 1) (N := some 29) #[true, true, true, false, false, true] rfl rfl (by kernel_rfl) (by decide) (fun K hK => ?_)
        refine goes_ Try.func201 (by kernel_rfl) rfl #[.slice Ao19 x3_2.length co19] (by rfl) rfl rfl (by (try simp only [List.map_toArray, List.map_cons, List.map_nil]); first | done | rfl | (simp only [List.length_drop, List.length_take]; rfl)) ?_
        with_reducible refine (impl_Fact_201.calls _ _ x3_2 t347 _ ?side1 ?side2 A13.out).mono ?_
        (case side1 => repeat (first | exact (Kd.R_reads' HO_3.out).2.2 | (with_reducible refine Kd.C_alloc ?_ _) | (with_reducible refine Kd.C_drewN ?_ _) | (with_reducible refine Kd.C_drew ?_)))
        (case side2 => exact (Kd.R_reads' HO_3.out).2.1)
        rintro e w20 ⟨v348, rfl, ho0, hb⟩
        refine ⟨_, rfl, ?_⟩
        replace HO_4 := Aside0.mk (Kd.N_elder' (by (with_reducible repeat (first | apply Kd.N_alloc | apply Kd.N_drewN | apply Kd.N_drew)); exact HO_4.out) (Kd.R_base ho0) hb)
        have HO349 := Aside0.mk (Kd.R_lower (Kd.R_new' (Kd.R_newM (M := fun k_ => (w.heap.size ≤ k_)) ho0 bls_ (fun k_ h_ => h_)) (Kd.R_lt (by (with_reducible repeat (first | apply Kd.R_alloc | apply Kd.R_drewN | apply Kd.R_drew)); exact HO_3.out))) bls_)
        replace HO_3 := Aside0.mk (Kd.R_elder' (by (with_reducible repeat (first | apply Kd.R_alloc | apply Kd.R_drewN | apply Kd.R_drew)); exact HO_3.out) (Kd.R_base ho0) hb)
        replace BK345 := bkb_ BK345 hb
        replace HB := hbs_ hb
        (try clear hb)
        (try clear hb2)
        (try clear hk)
        (try clear hi)
        (try clear ho0)
        obtain ⟨Ao21, co21, eo21⟩ := Kd.R_slice HO349.out
        (first | subst eo21 | (injection eo21 with f1_ f2_ f3_; have f4_ := f1_.symm; have f5_ := f3_.symm; clear f1_ f2_ f3_; subst f4_; subst f5_))
        refine hK.out _ _ ⟨(blk_cell BK345.out 0).trans rfl, (blk_cell BK345.out 1).trans rfl, (blk_cell BK345.out 2).trans rfl, (blk_cell BK345.out 3).trans rfl, (blk_cell BK345.out 4).trans rfl, (blk_cell BK345.out 5).trans rfl, (blk_cell BK345.out 6).trans rfl, (blk_cell BK345.out 7).trans rfl, (blk_cell BK345.out 8).trans rfl, (blk_cell BK345.out 9).trans rfl⟩ (fun hHeld => ?_)
        clear hK K
        refine norm_ (a' := ?_) ?_ ?_
        rotate_left
        ·show Act.put _ (some 29) _ = _
         simp only [Act.put, List.setIfInBounds_toArray, List.set_cons_zero, List.set_cons_succ, i64_w, i32_w]
         rfl
        refine one_ (i := 3) (N := some 31) #[true, true, true, true, false, true] rfl rfl (by kernel_rfl) (by decide) (fun K hK => ?_)
        refine goes_ Try.func169 (by kernel_rfl) rfl #[.slice Ao21 t347.length co21, .agg #[.int .i64 ((rd_T56 l0 x20_2).f0), .int .i64 ((rd_T56 l0 x20_2).f1.f0), .int .i64 ((rd_T56 l0 x20_2).f1.f1), .int .i64 ((rd_T56 l0 x20_2).f2), .int .i64 ((rd_T56 l0 x20_2).f3.f0), .int .i64 ((rd_T56 l0 x20_2).f3.f1), .int .i64 ((rd_T56 l0 x20_2).f4.f0), .int .i64 ((rd_T56 l0 x20_2).f4.f1), .int .i64 ((rd_T56 l0 x20_2).f5), .int .i64 ((rd_T56 l0 x20_2).f6)]] (by rfl) rfl rfl (by (try simp only [List.map_toArray, List.map_cons, List.map_nil]); first | done | rfl | (simp only [List.length_drop, List.length_take]; rfl)) ?_
        with_reducible refine (impl_derive.calls k2 _ _ t347 ((rd_T56 l0 x20_2).f0) ((rd_T56 l0 x20_2).f1.f0) ((rd_T56 l0 x20_2).f1.f1) ((rd_T56 l0 x20_2).f2) ((rd_T56 l0 x20_2).f3.f0) ((rd_T56 l0 x20_2).f3.f1) ((rd_T56 l0 x20_2).f4.f0) ((rd_T56 l0 x20_2).f4.f1) ((rd_T56 l0 x20_2).f5) ((rd_T56 l0 x20_2).f6) t350 _ ?side1 ?side2 A14.out).mono ?_
        (case side1 => repeat (first | exact (Kd.R_reads' HO349.out).2.2 | (with_reducible refine Kd.C_alloc ?_ _) | (with_reducible refine Kd.C_drewN ?_ _) | (with_reducible refine Kd.C_drew ?_)))
        (case side2 => exact (Kd.R_reads' HO349.out).2.1)
        rintro e w22 ⟨v351, rfl, ho0, hb⟩
        refine ⟨_, rfl, ?_⟩
        have HO352 := Aside0.mk (Kd.N_lower (Kd.N_mono (ok' := fun k_ => (w.heap.size ≤ k_) ∧ some k_ ≠ (.slice Ao19 x3_2.length co19 : Value).ownBlock ∧ some k_ ≠ (u4 : Value).ownBlock ∧ some k_ ≠ (.slice Ao21 t347.length co21 : Value).ownBlock ∧ k_ ≠ gb345) (Kd.S_N (Kd.S_bound ho0)) (fun k_ hk_ => ⟨(Nat.le_trans bls_ hk_.2.1), (Kd.fresh' (Kd.R_lt (by (with_reducible repeat (first | apply Kd.R_alloc | apply Kd.R_drewN | apply Kd.R_drew)); exact HO_3.out)) k_ hk_.2.1), (Kd.fresh' (Kd.N_lt (by (with_reducible repeat (first | apply Kd.N_alloc | apply Kd.N_drewN | apply Kd.N_drew)); exact HO_4.out)) k_ hk_.2.1), (Kd.fresh' (Kd.R_lt (by (with_reducible repeat (first | apply Kd.R_alloc | apply Kd.R_drewN | apply Kd.R_drew)); exact HO349.out)) k_ hk_.2.1), (Kd.freshB (g := gb345) (o := .cells #[.int .i64 ((rd_T56 l0 x20_2).f0), .int .i64 ((rd_T56 l0 x20_2).f1.f0), .int .i64 ((rd_T56 l0 x20_2).f1.f1), .int .i64 ((rd_T56 l0 x20_2).f2), .int .i64 ((rd_T56 l0 x20_2).f3.f0), .int .i64 ((rd_T56 l0 x20_2).f3.f1), .int .i64 ((rd_T56 l0 x20_2).f4.f0), .int .i64 ((rd_T56 l0 x20_2).f4.f1), .int .i64 ((rd_T56 l0 x20_2).f5), .int .i64 ((rd_T56 l0 x20_2).f6)] 56 (0, 0)) (bk_ BK345) k_ hk_.2.1)⟩)) bls_)
        replace HO_3 := hob_ HO_3 hb
        replace HO_4 := Aside0.mk (Kd.N_elder' (by (with_reducible repeat (first | apply Kd.N_alloc | apply Kd.N_drewN | apply Kd.N_drew)); exact HO_4.out) (Kd.S_base ho0) hb)
        replace HO349 := hob_ HO349 hb
        replace BK345 := bkb_ BK345 hb
        replace HB := hbs_ hb
        (try clear hb)
        (try clear hb2)
        (try clear hk)
        (try clear hi)
        (try clear ho0)
        obtain ⟨Ao23, co23, eo23⟩ := Kd.N_slice HO352.out
        (first | subst eo23 | (injection eo23 with f1_ f2_ f3_; have f4_ := f1_.symm; have f5_ := f3_.symm; clear f1_ f2_ f3_; subst f4_; subst f5_))
        refine hK.out _ _ ⟨(blk_cell BK345.out 0).trans rfl, (blk_cell BK345.out 1).trans rfl, (blk_cell BK345.out 2).trans rfl, (blk_cell BK345.out 3).trans rfl, (blk_cell BK345.out 4).trans rfl, (blk_cell BK345.out 5).trans rfl, (blk_cell BK345.out 6).trans rfl, (blk_cell BK345.out 7).trans rfl, (blk_cell BK345.out 8).trans rfl, (blk_cell BK345.out 9).trans rfl⟩ (fun hHeld => ?_)
        clear hK K
        refine norm_ (a' := ?_) ?_ ?_
        rotate_left
        ·show Act.put _ (some 31) _ = _
         simp only [Act.put, List.setIfInBounds_toArray, List.set_cons_zero, List.set_cons_succ, i64_w, i32_w]
         rfl
        refine pure_ (i := 4) (N := some 32) (v := ?_) (a' := ?_) #[true, true, true, true, true, true] rfl rfl (by kernel_rfl) (fun _ _ _ h => h) (Or.inl ⟨by rfl, ?_⟩) ?_ ?_
        rotate_left
        ·intro w'
         go_simp
         with_reducible rfl
        rotate_left
        ·simp only [Act.put, List.setIfInBounds_toArray, List.set_cons_zero, List.set_cons_succ, i64_w, i32_w]
         rfl
        refine done_ (by kernel_rfl) ?_
        try go_wp2
        go_loopg [3, 4, 33] k2 (fun kq v3 v4 v33 w' => ∃ (x3_3 : List (S51)) (x4_3 : List (S188)) (x33_3 : Int), v33 = .int .i64 x33_3 ∧ Aside0 (impl_findFacts.l2 kq l0 x3_3 x4_3 (x3_1.length : Int) x20_2 l0 (l0.length : Int) x20_2 t350 (t350.length : Int) x33_3 = some r) ∧ Aside0 (kq ≤ k2) ∧ Aside0 (Kd.R k51 51 w' w.heap.size (fun k_ => (w.heap.size ≤ k_)) v3 x3_3) ∧ Aside0 (Kd.N k188 188 w' w.heap.size (fun k_ => (w.heap.size ≤ k_) ∧ some k_ ≠ (v3 : Value).ownBlock ∧ some k_ ≠ ((.slice Ao23 t350.length co23) : Value).ownBlock ∧ k_ ≠ gb345) v4 x4_3) ∧ Aside0 (Kd.N k193 193 w' w.heap.size (fun k_ => (w.heap.size ≤ k_) ∧ some k_ ≠ (v3 : Value).ownBlock ∧ some k_ ≠ (v4 : Value).ownBlock ∧ k_ ≠ gb345) (.slice Ao23 t350.length co23) t350) ∧ Aside0 (w'.heap[gb345]? = some (.cells #[.int .i64 ((rd_T56 l0 x20_2).f0), .int .i64 ((rd_T56 l0 x20_2).f1.f0), .int .i64 ((rd_T56 l0 x20_2).f1.f1), .int .i64 ((rd_T56 l0 x20_2).f2), .int .i64 ((rd_T56 l0 x20_2).f3.f0), .int .i64 ((rd_T56 l0 x20_2).f3.f1), .int .i64 ((rd_T56 l0 x20_2).f4.f0), .int .i64 ((rd_T56 l0 x20_2).f4.f1), .int .i64 ((rd_T56 l0 x20_2).f5), .int .i64 ((rd_T56 l0 x20_2).f6)] 56 (0, 0))) ∧ Aside0 (Below w.heap.size w w'))
        case atStart => exact ⟨(x3_2), (x4_2), (0), rf_, H', ⟨Nat.le_refl _⟩, ⟨by (with_reducible repeat (first | apply Kd.R_alloc | apply Kd.R_drewN | apply Kd.R_drew)); exact Kd.R_mono HO_3.out (fun _ hk => hk.1)⟩, ⟨by (with_reducible repeat (first | apply Kd.N_alloc | apply Kd.N_drewN | apply Kd.N_drew)); exact Kd.N_mono HO_4.out (fun _ hk => ⟨hk.1.1.1.1, ⟨hk.1.1.1.2, ⟨hk.2, hk.1.1.2⟩⟩⟩)⟩, ⟨by (with_reducible repeat (first | apply Kd.N_alloc | apply Kd.N_drewN | apply Kd.N_drew)); exact Kd.N_mono HO352.out (fun _ hk => ⟨hk.1, ⟨hk.2.1, ⟨hk.2.2.1, hk.2.2.2.2⟩⟩⟩)⟩, ⟨bk_ BK345⟩, ⟨bl_⟩⟩
        case round =>
         clear H'
         try clear c1
         try clear c2
         try clear p2
         try clear p3
         try clear q3
         try clear hx3
         try clear c6
         try clear c6b0
         try clear c8
         try clear c8b0
         try clear c9
         try clear c9b0
         try clear c10
         try clear c10b0
         try clear c12
         try clear c16
         try clear c20
         try clear hcz16
         try clear hfz16
         try clear hx344_0
         try clear hx344_1
         try clear hx344_2
         try clear hx344_3
         try clear hx344_4
         try clear hx344_5
         try clear hx344_6
         try clear hx344_7
         try clear hx344_8
         try clear hx344_9
         try clear p2
         try clear p344
         try clear q344
         obtain ⟨x3_3, x4_3, x33_3, rfl, HA, HK3, HO_3, HO_4, HO_31, BK345, HB⟩ := hrel
         cases gk with
         | zero => exact absurd HA.out (by simp [impl_findFacts.l2])
         | succ k3 =>
          have H := HA.out
          clear HA
          simp only [impl_findFacts.l2] at H
          by_cases c24 : x33_3 < (t350.length : Int)
          ·rw [if_pos c24] at H
           have c24b0 : decide (x33_3 < (t350.length : Int)) = true := decide_eq_true c24
           clear c24
           obtain ⟨c25b0, H⟩ := ifd_ H
           obtain ⟨c26b0, H⟩ := ifd_ H
           obtain ⟨t355, A27, H⟩ := bindE_ H
           by_cases c28 : t355 = true
           ·subst c28
            replace H := ite_t_ H
            have H' := Aside0.mk H
            clear H
            have p353 : 0 ≤ (x33_3 : Int) := od_
            have q353 : x33_3 < (t350.length : Int) := od_
            obtain ⟨ad353, A353_3, c353_3, e353, hx353_0, hx353_1, hx353_2, hx353_3, hl353_3, hi353_3⟩ := at_T193 (Kd.N_reads' HO_31.out).2.2 x33_3 p353 q353
            cases e353
            obtain ⟨ce353, hce353, hMe353, hcc353⟩ := Kd.N_get HO_31.out z193 x33_3 p353 (by first | exact q353 | exact od_ | (have e_ := (Kd.N_reads' HO_31.out).1; omega))
            obtain ⟨ua353_3, uc353_3, rfl, ul353_3, ge353_3⟩ := k193_openF hMe353
            have hv353_3 := hcc353 3 _ rfl
            rw [add_field _ _ 3 (by omega)] at hv353_3
            replace hv353_3 := Option.some.inj (hv353_3.symm.trans hx353_3)
            injection hv353_3 with hva_ hvn_ hvc_
            rw [hva_] at ge353_3
            rw [hvc_] at ul353_3
            have HL353_3 := Aside0.mk (show Kd.V (Kd.int .i64) 3 _ w.heap.size _ _ ((rd_T193 t350 x33_3).f1) from Kd.V_mk ul353_3 ge353_3)
            clear hva_ hvn_ hvc_ ge353_3 ul353_3
            clear hcc353 hce353
            have HR353_3 := Aside0.mk hi353_3
            have HC353_3 := Aside0.mk hl353_3
            clear hi353_3 hl353_3
            replace p353 := eq_true p353
            replace q353 := eq_true q353
            go_wp2_with (first | ((with_reducible refine gate_dst (N := 9) rfl ?_); refine box_event ?hg (N := 9) ?hd (cs := #[.int .i64 0, .int .i64 0, .int .i64 0, .slice none 0 0]) (t := 193) ?hr ?_; (case hd => rfl); (case hg => rfl); (case hr => first | (go_simp; done) | (go_simp; rfl)); intro gb354 hg w29 hbox hb; replace HO_3 := hob_ HO_3 hb; replace HO_4 := Aside0.mk (Kd.N_below (Kd.N_elderB (by (with_reducible repeat (first | apply Kd.N_alloc | apply Kd.N_drewN | apply Kd.N_drew)); exact HO_4.out) gb354 (Nat.le_of_eq hg.symm)) hb); replace HO_31 := Aside0.mk (Kd.N_below (Kd.N_elderB (by (with_reducible repeat (first | apply Kd.N_alloc | apply Kd.N_drewN | apply Kd.N_drew)); exact HO_31.out) gb354 (Nat.le_of_eq hg.symm)) hb); replace HL353_3 := Aside0.mk (Kd.V_below (Kd.V_elderB (by (with_reducible repeat (first | apply Kd.V_alloc | apply Kd.V_drewN | apply Kd.V_drew)); exact HL353_3.out) gb354 (Nat.le_of_eq hg.symm)) hb); replace HR353_3 := Aside0.mk (Kd.C_below (by repeat (first | (with_reducible exact HR353_3.out) | (with_reducible refine Kd.C_alloc ?_ _) | (with_reducible refine Kd.C_drewN ?_ _) | (with_reducible refine Kd.C_drew ?_) | exact HR353_3.out)) hb); have BK354 := Aside0.mk (hbox); have GW354 := gs_ hg; have GE354 := gs_ hg; replace HB := hbs_ hb; have NB345_354 := nl_ hg BK345; have NB354_345 := nr_ hg BK345; replace BK345 := bkb_ BK345 hb; clear hb hbox hg; have hnb30 := NB354_345.out; have hnc30 := NB345_354.out; have hcz31 := blk_cell BK354.out; have hfz31 := blk_frozen BK354.out; obtain ⟨Ao32, co32, eo32⟩ := Kd.R_slice HO_3.out; subst eo32) | ((with_reducible refine gate_callee (f := 119) rfl ?_); refine goesC_ (some 40) Try.func119 #[.slice Ao32 x3_3.length co32, .agg #[.int .i64 ((rd_T193 t350 x33_3).f0.f0.f0), .int .i64 ((rd_T193 t350 x33_3).f0.f0.f1), .int .i64 ((rd_T193 t350 x33_3).f0.f1)]] ?_; (with_reducible refine (impl_Fact_119.calls k3 _ _ x3_3 ((rd_T193 t350 x33_3).f0.f0.f0) ((rd_T193 t350 x33_3).f0.f0.f1) ((rd_T193 t350 x33_3).f0.f1) true _ ?side1 ?side2 A27.out).mono ?_); (case side1 => refine (Kd.R_reads' (e := 51) (base := w.heap.size) (ok := fun k_ => (w.heap.size ≤ k_)) (n := x3_3.length) (c := co32) ?_).2.2; exact (by (with_reducible repeat (first | apply Kd.R_alloc | apply Kd.R_drewN | apply Kd.R_drew)); exact (Kd.R_mono (Kd.R_far (p := ⟨gb354, 3, none⟩) (Kd.R_far (p := ⟨gb354, 2, none⟩) (Kd.R_far (p := ⟨gb354, 1, none⟩) (Kd.R_far (p := ⟨gb354, 0, none⟩) (Kd.R_types HO_3.out BK354.out (by decide)) (fun _ hk => hk.2) (.int .i64 ((rd_T193 t350 x33_3).f0.f0.f0))) (fun _ hk => hk.2) (.int .i64 ((rd_T193 t350 x33_3).f0.f0.f1))) (fun _ hk => hk.2) (.int .i64 ((rd_T193 t350 x33_3).f0.f1))) (fun _ hk => hk.2) (.slice A353_3 ((rd_T193 t350 x33_3).f1).length c353_3)) (fun _ h_ => h_.1)))); (case side2 => exact (Kd.R_reads' HO_3.out).2.1); rintro e w33 ⟨rfl, hb⟩; refine ⟨_, rfl, ?_⟩; replace HO_3 := Aside0.mk (Kd.R_below (by (with_reducible repeat (first | apply Kd.R_alloc | apply Kd.R_drewN | apply Kd.R_drew)); exact (Kd.R_mono (Kd.R_far (p := ⟨gb354, 3, none⟩) (Kd.R_far (p := ⟨gb354, 2, none⟩) (Kd.R_far (p := ⟨gb354, 1, none⟩) (Kd.R_far (p := ⟨gb354, 0, none⟩) (Kd.R_types HO_3.out BK354.out (by decide)) (fun _ hk => hk.2) (.int .i64 ((rd_T193 t350 x33_3).f0.f0.f0))) (fun _ hk => hk.2) (.int .i64 ((rd_T193 t350 x33_3).f0.f0.f1))) (fun _ hk => hk.2) (.int .i64 ((rd_T193 t350 x33_3).f0.f1))) (fun _ hk => hk.2) (.slice A353_3 ((rd_T193 t350 x33_3).f1).length c353_3)) (fun _ h_ => h_.1))) hb); replace HO_4 := Aside0.mk (Kd.N_below (by (with_reducible repeat (first | apply Kd.N_alloc | apply Kd.N_drewN | apply Kd.N_drew)); exact (Kd.N_mono (Kd.N_far (p := ⟨gb354, 3, none⟩) (Kd.N_far (p := ⟨gb354, 2, none⟩) (Kd.N_far (p := ⟨gb354, 1, none⟩) (Kd.N_far (p := ⟨gb354, 0, none⟩) (Kd.N_mono HO_4.out (fun k_ hk => (⟨hk, hk.2⟩ : _ ∧ k_ ≠ gb354))) (fun _ hk => hk.2) (.int .i64 ((rd_T193 t350 x33_3).f0.f0.f0))) (fun _ hk => hk.2) (.int .i64 ((rd_T193 t350 x33_3).f0.f0.f1))) (fun _ hk => hk.2) (.int .i64 ((rd_T193 t350 x33_3).f0.f1))) (fun _ hk => hk.2) (.slice A353_3 ((rd_T193 t350 x33_3).f1).length c353_3)) (fun _ h_ => h_.1))) hb); replace HO_31 := Aside0.mk (Kd.N_below (by (with_reducible repeat (first | apply Kd.N_alloc | apply Kd.N_drewN | apply Kd.N_drew)); exact (Kd.N_mono (Kd.N_far (p := ⟨gb354, 3, none⟩) (Kd.N_far (p := ⟨gb354, 2, none⟩) (Kd.N_far (p := ⟨gb354, 1, none⟩) (Kd.N_far (p := ⟨gb354, 0, none⟩) (Kd.N_mono HO_31.out (fun k_ hk => (⟨hk, hk.2⟩ : _ ∧ k_ ≠ gb354))) (fun _ hk => hk.2) (.int .i64 ((rd_T193 t350 x33_3).f0.f0.f0))) (fun _ hk => hk.2) (.int .i64 ((rd_T193 t350 x33_3).f0.f0.f1))) (fun _ hk => hk.2) (.int .i64 ((rd_T193 t350 x33_3).f0.f1))) (fun _ hk => hk.2) (.slice A353_3 ((rd_T193 t350 x33_3).f1).length c353_3)) (fun _ h_ => h_.1))) hb); replace BK345 := Aside0.mk (blk_below (g := gb345) (o := .cells #[.int .i64 ((rd_T56 l0 x20_2).f0), .int .i64 ((rd_T56 l0 x20_2).f1.f0), .int .i64 ((rd_T56 l0 x20_2).f1.f1), .int .i64 ((rd_T56 l0 x20_2).f2), .int .i64 ((rd_T56 l0 x20_2).f3.f0), .int .i64 ((rd_T56 l0 x20_2).f3.f1), .int .i64 ((rd_T56 l0 x20_2).f4.f0), .int .i64 ((rd_T56 l0 x20_2).f4.f1), .int .i64 ((rd_T56 l0 x20_2).f5), .int .i64 ((rd_T56 l0 x20_2).f6)] 56 (0, 0)) (bk_ BK345) hb); replace HR353_3 := Aside0.mk (Kd.C_below ((Kd.V_reads' (by (with_reducible repeat (first | apply Kd.V_alloc | apply Kd.V_drewN | apply Kd.V_drew)); exact (Kd.V_mono (Kd.V_far (p := ⟨gb354, 3, none⟩) (Kd.V_far (p := ⟨gb354, 2, none⟩) (Kd.V_far (p := ⟨gb354, 1, none⟩) (Kd.V_far (p := ⟨gb354, 0, none⟩) (Kd.V_mono HL353_3.out (fun k_ hk => (⟨hk, hk.2⟩ : _ ∧ k_ ≠ gb354))) (fun _ hk => hk.2) (.int .i64 ((rd_T193 t350 x33_3).f0.f0.f0))) (fun _ hk => hk.2) (.int .i64 ((rd_T193 t350 x33_3).f0.f0.f1))) (fun _ hk => hk.2) (.int .i64 ((rd_T193 t350 x33_3).f0.f1))) (fun _ hk => hk.2) (.slice A353_3 ((rd_T193 t350 x33_3).f1).length c353_3)) (fun _ h_ => h_.1)))).2.2) hb); replace HL353_3 := Aside0.mk (Kd.V_below (by (with_reducible repeat (first | apply Kd.V_alloc | apply Kd.V_drewN | apply Kd.V_drew)); exact (Kd.V_mono (Kd.V_far (p := ⟨gb354, 3, none⟩) (Kd.V_far (p := ⟨gb354, 2, none⟩) (Kd.V_far (p := ⟨gb354, 1, none⟩) (Kd.V_far (p := ⟨gb354, 0, none⟩) (Kd.V_mono HL353_3.out (fun k_ hk => (⟨hk, hk.2⟩ : _ ∧ k_ ≠ gb354))) (fun _ hk => hk.2) (.int .i64 ((rd_T193 t350 x33_3).f0.f0.f0))) (fun _ hk => hk.2) (.int .i64 ((rd_T193 t350 x33_3).f0.f0.f1))) (fun _ hk => hk.2) (.int .i64 ((rd_T193 t350 x33_3).f0.f1))) (fun _ hk => hk.2) (.slice A353_3 ((rd_T193 t350 x33_3).f1).length c353_3)) (fun _ h_ => h_.1))) hb); replace BK354 := Aside0.mk (blk_below (g := gb354) (o := .cells #[.int .i64 ((rd_T193 t350 x33_3).f0.f0.f0), .int .i64 ((rd_T193 t350 x33_3).f0.f0.f1), .int .i64 ((rd_T193 t350 x33_3).f0.f1), .slice A353_3 ((rd_T193 t350 x33_3).f1).length c353_3] 193 (0, 0)) (bk_ BK354) hb); replace HB := hbs_ hb; clear hb))
            go_roundg k3
            case measure => have := HK1.out; have := HK2.out; have := HK3.out; omega
            case rel => exact ⟨(x3_3), (x4_3), (wrap64 (x33_3 + 1)), rf_, H', ⟨by have := HK1.out; have := HK2.out; have := HK3.out; omega⟩, ⟨by (with_reducible repeat (first | apply Kd.R_alloc | apply Kd.R_drewN | apply Kd.R_drew)); exact HO_3.out⟩, ⟨by (with_reducible repeat (first | apply Kd.N_alloc | apply Kd.N_drewN | apply Kd.N_drew)); exact Kd.N_mono HO_4.out (fun _ hk => ⟨hk.1.1, ⟨hk.1.2.1, ⟨hk.1.2.2.1, hk.1.2.2.2⟩⟩⟩)⟩, ⟨by (with_reducible repeat (first | apply Kd.N_alloc | apply Kd.N_drewN | apply Kd.N_drew)); exact Kd.N_mono HO_31.out (fun _ hk => ⟨hk.1.1, ⟨hk.1.2.1, ⟨hk.1.2.2.1, hk.1.2.2.2⟩⟩⟩)⟩, ⟨bk_ BK345⟩, ⟨bl_⟩⟩
           ·replace c28 := Bool.eq_false_iff.mpr c28
            subst c28
            replace H := ite_f_ H
            obtain ⟨c34, H⟩ := ifn_ H
            have LMc34 := Aside0.mk c34
            clear c34
            obtain ⟨y356, hy356⟩ : ∃ y_ : List (S51), y_ = (x3_3 ++ [(⟨(⟨(rd_T193 t350 x33_3).f0.f0.f0, (rd_T193 t350 x33_3).f0.f0.f1⟩ : S49), (rd_T193 t350 x33_3).f0.f1⟩ : S51)]) := ⟨_, rfl⟩
            replace H : (if x4_3.length < 2513169434916 then (impl_findFacts.l2 k3 l0 y356 (x4_3 ++ [(⟨(⟨(⟨(rd_T193 t350 x33_3).f0.f0.f0, (rd_T193 t350 x33_3).f0.f0.f1⟩ : S49), (rd_T193 t350 x33_3).f0.f1⟩ : S51), x20_2, (rd_T193 t350 x33_3).f1⟩ : S188)]) (x3_1.length : Int) x20_2 l0 (l0.length : Int) x20_2 t350 (t350.length : Int) (wrap64 (x33_3 + 1))) else (none)) = some r := by first | (rw [hy356]; with_reducible exact H) | (have H2_ := (Option.bind_some _ _).symm.trans H; rw [hy356]; with_reducible exact H2_) | (have H2_ := (Option.bind_some _ _).symm.trans H; with_reducible exact H2_) | with_reducible exact H | (rw [hy356]; exact H) | exact H
            have Ny356 := Aside0.mk hy356
            clear hy356
            obtain ⟨c35, H⟩ := ifn_ H
            have LMc35 := Aside0.mk c35
            clear c35
            obtain ⟨y359, hy359⟩ : ∃ y_ : List (S188), y_ = (x4_3 ++ [(⟨(⟨(⟨(rd_T193 t350 x33_3).f0.f0.f0, (rd_T193 t350 x33_3).f0.f0.f1⟩ : S49), (rd_T193 t350 x33_3).f0.f1⟩ : S51), x20_2, (rd_T193 t350 x33_3).f1⟩ : S188)]) := ⟨_, rfl⟩
            replace H : (impl_findFacts.l2 k3 l0 y356 y359 (x3_1.length : Int) x20_2 l0 (l0.length : Int) x20_2 t350 (t350.length : Int) (wrap64 (x33_3 + 1))) = some r := by first | (rw [hy359]; with_reducible exact H) | (have H2_ := (Option.bind_some _ _).symm.trans H; rw [hy359]; with_reducible exact H2_) | (have H2_ := (Option.bind_some _ _).symm.trans H; with_reducible exact H2_) | with_reducible exact H | (rw [hy359]; exact H) | exact H
            have Ny359 := Aside0.mk hy359
            clear hy359
            have H' := Aside0.mk H
            clear H
            have p353 : 0 ≤ (x33_3 : Int) := od_
            have q353 : x33_3 < (t350.length : Int) := od_
            obtain ⟨ad353, A353_3, c353_3, e353, hx353_0, hx353_1, hx353_2, hx353_3, hl353_3, hi353_3⟩ := at_T193 (Kd.N_reads' HO_31.out).2.2 x33_3 p353 q353
            cases e353
            obtain ⟨ce353, hce353, hMe353, hcc353⟩ := Kd.N_get HO_31.out z193 x33_3 p353 (by first | exact q353 | exact od_ | (have e_ := (Kd.N_reads' HO_31.out).1; omega))
            obtain ⟨ua353_3, uc353_3, rfl, ul353_3, ge353_3⟩ := k193_openF hMe353
            have hv353_3 := hcc353 3 _ rfl
            rw [add_field _ _ 3 (by omega)] at hv353_3
            replace hv353_3 := Option.some.inj (hv353_3.symm.trans hx353_3)
            injection hv353_3 with hva_ hvn_ hvc_
            rw [hva_] at ge353_3
            rw [hvc_] at ul353_3
            have HL353_3 := Aside0.mk (show Kd.V (Kd.int .i64) 3 _ w.heap.size _ _ ((rd_T193 t350 x33_3).f1) from Kd.V_mk ul353_3 ge353_3)
            clear hva_ hvn_ hvc_ ge353_3 ul353_3
            clear hcc353 hce353
            have HR353_3 := Aside0.mk hi353_3
            have HC353_3 := Aside0.mk hl353_3
            clear hi353_3 hl353_3
            replace p353 := eq_true p353
            replace q353 := eq_true q353
            go_wp2_with (first | ((with_reducible refine gate_dst (N := 9) rfl ?_); refine box_event ?hg (N := 9) ?hd (cs := #[.int .i64 0, .int .i64 0, .int .i64 0, .slice none 0 0]) (t := 193) ?hr ?_; (case hd => rfl); (case hg => rfl); (case hr => first | (go_simp; done) | (go_simp; rfl)); intro gb354 hg w36 hbox hb; replace HO_3 := hob_ HO_3 hb; replace HO_4 := Aside0.mk (Kd.N_below (Kd.N_elderB (by (with_reducible repeat (first | apply Kd.N_alloc | apply Kd.N_drewN | apply Kd.N_drew)); exact HO_4.out) gb354 (Nat.le_of_eq hg.symm)) hb); replace HO_31 := Aside0.mk (Kd.N_below (Kd.N_elderB (by (with_reducible repeat (first | apply Kd.N_alloc | apply Kd.N_drewN | apply Kd.N_drew)); exact HO_31.out) gb354 (Nat.le_of_eq hg.symm)) hb); replace HL353_3 := Aside0.mk (Kd.V_below (Kd.V_elderB (by (with_reducible repeat (first | apply Kd.V_alloc | apply Kd.V_drewN | apply Kd.V_drew)); exact HL353_3.out) gb354 (Nat.le_of_eq hg.symm)) hb); replace HR353_3 := Aside0.mk (Kd.C_below (by repeat (first | (with_reducible exact HR353_3.out) | (with_reducible refine Kd.C_alloc ?_ _) | (with_reducible refine Kd.C_drewN ?_ _) | (with_reducible refine Kd.C_drew ?_) | exact HR353_3.out)) hb); have BK354 := Aside0.mk (hbox); have GW354 := gs_ hg; have GE354 := gs_ hg; replace HB := hbs_ hb; have NB345_354 := nl_ hg BK345; have NB354_345 := nr_ hg BK345; replace BK345 := bkb_ BK345 hb; clear hb hbox hg; have hnb37 := NB354_345.out; have hnc37 := NB345_354.out; have hcz38 := blk_cell BK354.out; have hfz38 := blk_frozen BK354.out; obtain ⟨Ao39, co39, eo39⟩ := Kd.R_slice HO_3.out; subst eo39) | ((with_reducible refine gate_callee (f := 119) rfl ?_); refine goesC_ (some 40) Try.func119 #[.slice Ao39 x3_3.length co39, .agg #[.int .i64 ((rd_T193 t350 x33_3).f0.f0.f0), .int .i64 ((rd_T193 t350 x33_3).f0.f0.f1), .int .i64 ((rd_T193 t350 x33_3).f0.f1)]] ?_; (with_reducible refine (impl_Fact_119.calls k3 _ _ x3_3 ((rd_T193 t350 x33_3).f0.f0.f0) ((rd_T193 t350 x33_3).f0.f0.f1) ((rd_T193 t350 x33_3).f0.f1) false _ ?side1 ?side2 A27.out).mono ?_); (case side1 => refine (Kd.R_reads' (e := 51) (base := w.heap.size) (ok := fun k_ => (w.heap.size ≤ k_)) (n := x3_3.length) (c := co39) ?_).2.2; exact (by (with_reducible repeat (first | apply Kd.R_alloc | apply Kd.R_drewN | apply Kd.R_drew)); exact (Kd.R_mono (Kd.R_far (p := ⟨gb354, 3, none⟩) (Kd.R_far (p := ⟨gb354, 2, none⟩) (Kd.R_far (p := ⟨gb354, 1, none⟩) (Kd.R_far (p := ⟨gb354, 0, none⟩) (Kd.R_types HO_3.out BK354.out (by decide)) (fun _ hk => hk.2) (.int .i64 ((rd_T193 t350 x33_3).f0.f0.f0))) (fun _ hk => hk.2) (.int .i64 ((rd_T193 t350 x33_3).f0.f0.f1))) (fun _ hk => hk.2) (.int .i64 ((rd_T193 t350 x33_3).f0.f1))) (fun _ hk => hk.2) (.slice A353_3 ((rd_T193 t350 x33_3).f1).length c353_3)) (fun _ h_ => h_.1)))); (case side2 => exact (Kd.R_reads' HO_3.out).2.1); rintro e w40 ⟨rfl, hb⟩; refine ⟨_, rfl, ?_⟩; replace HO_3 := Aside0.mk (Kd.R_below (by (with_reducible repeat (first | apply Kd.R_alloc | apply Kd.R_drewN | apply Kd.R_drew)); exact (Kd.R_mono (Kd.R_far (p := ⟨gb354, 3, none⟩) (Kd.R_far (p := ⟨gb354, 2, none⟩) (Kd.R_far (p := ⟨gb354, 1, none⟩) (Kd.R_far (p := ⟨gb354, 0, none⟩) (Kd.R_types HO_3.out BK354.out (by decide)) (fun _ hk => hk.2) (.int .i64 ((rd_T193 t350 x33_3).f0.f0.f0))) (fun _ hk => hk.2) (.int .i64 ((rd_T193 t350 x33_3).f0.f0.f1))) (fun _ hk => hk.2) (.int .i64 ((rd_T193 t350 x33_3).f0.f1))) (fun _ hk => hk.2) (.slice A353_3 ((rd_T193 t350 x33_3).f1).length c353_3)) (fun _ h_ => h_.1))) hb); replace HO_4 := Aside0.mk (Kd.N_below (by (with_reducible repeat (first | apply Kd.N_alloc | apply Kd.N_drewN | apply Kd.N_drew)); exact (Kd.N_mono (Kd.N_far (p := ⟨gb354, 3, none⟩) (Kd.N_far (p := ⟨gb354, 2, none⟩) (Kd.N_far (p := ⟨gb354, 1, none⟩) (Kd.N_far (p := ⟨gb354, 0, none⟩) (Kd.N_mono HO_4.out (fun k_ hk => (⟨hk, hk.2⟩ : _ ∧ k_ ≠ gb354))) (fun _ hk => hk.2) (.int .i64 ((rd_T193 t350 x33_3).f0.f0.f0))) (fun _ hk => hk.2) (.int .i64 ((rd_T193 t350 x33_3).f0.f0.f1))) (fun _ hk => hk.2) (.int .i64 ((rd_T193 t350 x33_3).f0.f1))) (fun _ hk => hk.2) (.slice A353_3 ((rd_T193 t350 x33_3).f1).length c353_3)) (fun _ h_ => h_.1))) hb); replace HO_31 := Aside0.mk (Kd.N_below (by (with_reducible repeat (first | apply Kd.N_alloc | apply Kd.N_drewN | apply Kd.N_drew)); exact (Kd.N_mono (Kd.N_far (p := ⟨gb354, 3, none⟩) (Kd.N_far (p := ⟨gb354, 2, none⟩) (Kd.N_far (p := ⟨gb354, 1, none⟩) (Kd.N_far (p := ⟨gb354, 0, none⟩) (Kd.N_mono HO_31.out (fun k_ hk => (⟨hk, hk.2⟩ : _ ∧ k_ ≠ gb354))) (fun _ hk => hk.2) (.int .i64 ((rd_T193 t350 x33_3).f0.f0.f0))) (fun _ hk => hk.2) (.int .i64 ((rd_T193 t350 x33_3).f0.f0.f1))) (fun _ hk => hk.2) (.int .i64 ((rd_T193 t350 x33_3).f0.f1))) (fun _ hk => hk.2) (.slice A353_3 ((rd_T193 t350 x33_3).f1).length c353_3)) (fun _ h_ => h_.1))) hb); replace BK345 := Aside0.mk (blk_below (g := gb345) (o := .cells #[.int .i64 ((rd_T56 l0 x20_2).f0), .int .i64 ((rd_T56 l0 x20_2).f1.f0), .int .i64 ((rd_T56 l0 x20_2).f1.f1), .int .i64 ((rd_T56 l0 x20_2).f2), .int .i64 ((rd_T56 l0 x20_2).f3.f0), .int .i64 ((rd_T56 l0 x20_2).f3.f1), .int .i64 ((rd_T56 l0 x20_2).f4.f0), .int .i64 ((rd_T56 l0 x20_2).f4.f1), .int .i64 ((rd_T56 l0 x20_2).f5), .int .i64 ((rd_T56 l0 x20_2).f6)] 56 (0, 0)) (bk_ BK345) hb); replace HR353_3 := Aside0.mk (Kd.C_below ((Kd.V_reads' (by (with_reducible repeat (first | apply Kd.V_alloc | apply Kd.V_drewN | apply Kd.V_drew)); exact (Kd.V_mono (Kd.V_far (p := ⟨gb354, 3, none⟩) (Kd.V_far (p := ⟨gb354, 2, none⟩) (Kd.V_far (p := ⟨gb354, 1, none⟩) (Kd.V_far (p := ⟨gb354, 0, none⟩) (Kd.V_mono HL353_3.out (fun k_ hk => (⟨hk, hk.2⟩ : _ ∧ k_ ≠ gb354))) (fun _ hk => hk.2) (.int .i64 ((rd_T193 t350 x33_3).f0.f0.f0))) (fun _ hk => hk.2) (.int .i64 ((rd_T193 t350 x33_3).f0.f0.f1))) (fun _ hk => hk.2) (.int .i64 ((rd_T193 t350 x33_3).f0.f1))) (fun _ hk => hk.2) (.slice A353_3 ((rd_T193 t350 x33_3).f1).length c353_3)) (fun _ h_ => h_.1)))).2.2) hb); replace HL353_3 := Aside0.mk (Kd.V_below (by (with_reducible repeat (first | apply Kd.V_alloc | apply Kd.V_drewN | apply Kd.V_drew)); exact (Kd.V_mono (Kd.V_far (p := ⟨gb354, 3, none⟩) (Kd.V_far (p := ⟨gb354, 2, none⟩) (Kd.V_far (p := ⟨gb354, 1, none⟩) (Kd.V_far (p := ⟨gb354, 0, none⟩) (Kd.V_mono HL353_3.out (fun k_ hk => (⟨hk, hk.2⟩ : _ ∧ k_ ≠ gb354))) (fun _ hk => hk.2) (.int .i64 ((rd_T193 t350 x33_3).f0.f0.f0))) (fun _ hk => hk.2) (.int .i64 ((rd_T193 t350 x33_3).f0.f0.f1))) (fun _ hk => hk.2) (.int .i64 ((rd_T193 t350 x33_3).f0.f1))) (fun _ hk => hk.2) (.slice A353_3 ((rd_T193 t350 x33_3).f1).length c353_3)) (fun _ h_ => h_.1))) hb); replace BK354 := Aside0.mk (blk_below (g := gb354) (o := .cells #[.int .i64 ((rd_T193 t350 x33_3).f0.f0.f0), .int .i64 ((rd_T193 t350 x33_3).f0.f0.f1), .int .i64 ((rd_T193 t350 x33_3).f0.f1), .slice A353_3 ((rd_T193 t350 x33_3).f1).length c353_3] 193 (0, 0)) (bk_ BK354) hb); replace HB := hbs_ hb; clear hb; have hcz41 := blk_cell BK354.out; have hfz41 := blk_frozen BK354.out) | ((with_reducible refine gate_builtin (b := .append) (xs := #[.tmp 42, .tmp 45]) rfl ?_); at_builtin; refine Kd.R_append k51 (w0 := w) w.heap.size rfl (.tmp 42) (.tmp 45) 46 51 (.agg #[(.int .i64 0), (.int .i64 0), (.int .i64 0)]) 24 rfl Try.underlying46 info51 rfl (by decide) (by omega) (.slice Ao39 x3_3.length co39) x3_3 (⟨(⟨(rd_T193 t350 x33_3).f0.f0.f0, (rd_T193 t350 x33_3).f0.f0.f1⟩ : S49), (rd_T193 t350 x33_3).f0.f1⟩ : S51) [.int .i64 ((rd_T193 t350 x33_3).f0.f0.f0), .int .i64 ((rd_T193 t350 x33_3).f0.f0.f1), .int .i64 ((rd_T193 t350 x33_3).f0.f1)] (fun k_ => (w.heap.size ≤ k_)) (fun _ => False) rfl rfl ?aP (fun _ hk => hk.elim) ?aF ?aO ?aB ?aS ?aL ?_; (case aP => exact k51_mkM _ _ _ (⟨(⟨(rd_T193 t350 x33_3).f0.f0.f0, (rd_T193 t350 x33_3).f0.f0.f1⟩ : S49), (rd_T193 t350 x33_3).f0.f1⟩ : S51)); (case aB => exact bl_); (case aF => exact (fun k_ hk => (Nat.le_trans bls_ hk))); (case aO => exact (by (with_reducible repeat (first | apply Kd.R_alloc | apply Kd.R_drewN | apply Kd.R_drew)); exact HO_3.out)); (case aS => exact bls_); (case aL => have := LMc34.out; omega); intro v357 w42 ho hb hg hat; rw [← Ny356.out] at ho; replace HO_4 := Aside0.mk (Kd.N_afterv (ok := (fun k_ => (w.heap.size ≤ k_) ∧ some k_ ≠ (.slice (some ad353) t350.length co23 : Value).ownBlock ∧ k_ ≠ gb345 ∧ k_ ≠ gb354)) (by (with_reducible repeat (first | apply Kd.N_alloc | apply Kd.N_drewN | apply Kd.N_drew)); exact Kd.N_mono HO_4.out (fun _ hk => ⟨⟨hk.1.1, ⟨hk.1.2.2.1, ⟨hk.1.2.2.2, hk.2⟩⟩⟩, hk.1.2.1⟩)) hg hat); replace HO_31 := Aside0.mk (Kd.N_afterv (ok := (fun k_ => (w.heap.size ≤ k_) ∧ some k_ ≠ (u4 : Value).ownBlock ∧ k_ ≠ gb345 ∧ k_ ≠ gb354)) (by (with_reducible repeat (first | apply Kd.N_alloc | apply Kd.N_drewN | apply Kd.N_drew)); exact Kd.N_mono HO_31.out (fun _ hk => ⟨⟨hk.1.1, ⟨hk.1.2.2.1, ⟨hk.1.2.2.2, hk.2⟩⟩⟩, hk.1.2.1⟩)) hg hat); replace BK345 := Aside0.mk (blk_grown (g := gb345) (o := .cells #[.int .i64 ((rd_T56 l0 x20_2).f0), .int .i64 ((rd_T56 l0 x20_2).f1.f0), .int .i64 ((rd_T56 l0 x20_2).f1.f1), .int .i64 ((rd_T56 l0 x20_2).f2), .int .i64 ((rd_T56 l0 x20_2).f3.f0), .int .i64 ((rd_T56 l0 x20_2).f3.f1), .int .i64 ((rd_T56 l0 x20_2).f4.f0), .int .i64 ((rd_T56 l0 x20_2).f4.f1), .int .i64 ((rd_T56 l0 x20_2).f5), .int .i64 ((rd_T56 l0 x20_2).f6)] 56 (0, 0)) (bk_ BK345) hg (Kd.R_ne HO_3.out BK345.out (by decide))); replace HL353_3 := Aside0.mk (Kd.V_afterv (ok := (fun k_ => (w.heap.size ≤ k_) ∧ some k_ ≠ (u4 : Value).ownBlock ∧ some k_ ≠ (.slice (some ad353) t350.length co23 : Value).ownBlock ∧ k_ ≠ gb345 ∧ k_ ≠ gb354)) (by (with_reducible repeat (first | apply Kd.V_alloc | apply Kd.V_drewN | apply Kd.V_drew)); exact Kd.V_mono HL353_3.out (fun _ hk => ⟨⟨hk.1.1.1, ⟨hk.1.1.2.2.1, ⟨hk.1.2, ⟨hk.1.1.2.2.2, hk.2⟩⟩⟩⟩, hk.1.1.2.1⟩)) hg hat); replace BK354 := Aside0.mk (blk_grown (g := gb354) (o := .cells #[.int .i64 ((rd_T193 t350 x33_3).f0.f0.f0), .int .i64 ((rd_T193 t350 x33_3).f0.f0.f1), .int .i64 ((rd_T193 t350 x33_3).f0.f1), .slice A353_3 ((rd_T193 t350 x33_3).f1).length c353_3] 193 (0, 0)) (bk_ BK354) hg (Kd.R_ne HO_3.out BK354.out (by decide))); replace HB := Aside0.mk (hb); have HO358 := Aside0.mk (ho); clear HO_3; clear ho hb hg hat; have hcz43 := blk_cell BK354.out; have hfz43 := blk_frozen BK354.out) | ((with_reducible refine gate_builtin (b := .append) (xs := #[.tmp 47, .tmp 54]) rfl ?_); at_builtin; refine Kd.N_append k188 (w0 := w) w.heap.size rfl (.tmp 47) (.tmp 54) 185 188 (.agg #[(.int .i64 0), (.int .i64 0), (.int .i64 0), (.int .i64 0), (.slice none 0 0)]) 56 rfl Try.underlying185 info188 rfl (by decide) (by omega) u4 x4_3 (⟨(⟨(⟨(rd_T193 t350 x33_3).f0.f0.f0, (rd_T193 t350 x33_3).f0.f0.f1⟩ : S49), (rd_T193 t350 x33_3).f0.f1⟩ : S51), x20_2, (rd_T193 t350 x33_3).f1⟩ : S188) [.int .i64 ((rd_T193 t350 x33_3).f0.f0.f0), .int .i64 ((rd_T193 t350 x33_3).f0.f0.f1), .int .i64 ((rd_T193 t350 x33_3).f0.f1), .int .i64 x20_2, .slice A353_3 ((rd_T193 t350 x33_3).f1).length c353_3] (fun k_ => (w.heap.size ≤ k_) ∧ some k_ ≠ (.slice (some ad353) t350.length co23 : Value).ownBlock ∧ some k_ ≠ (v357 : Value).ownBlock ∧ k_ ≠ gb345 ∧ k_ ≠ gb354) (fun k_ => ((fun k_ => (w.heap.size ≤ k_) ∧ some k_ ≠ (.slice (some ad353) t350.length co23 : Value).ownBlock ∧ some k_ ≠ (v357 : Value).ownBlock ∧ k_ ≠ gb345 ∧ k_ ≠ gb354)) k_ ∧ some k_ ≠ (u4 : Value).ownBlock) rfl rfl ?aP (fun _ hk => hk) ?aF ?aO ?aB ?aS ?aL ?_; (case aP => exact (k188_mkF _ _ (⟨(⟨(⟨(rd_T193 t350 x33_3).f0.f0.f0, (rd_T193 t350 x33_3).f0.f0.f1⟩ : S49), (rd_T193 t350 x33_3).f0.f1⟩ : S51), x20_2, (rd_T193 t350 x33_3).f1⟩ : S188) (Kd.V_reads' (Kd.V_mono (ok' := (fun k_ => ((fun k_ => (w.heap.size ≤ k_) ∧ some k_ ≠ (.slice (some ad353) t350.length co23 : Value).ownBlock ∧ some k_ ≠ (v357 : Value).ownBlock ∧ k_ ≠ gb345 ∧ k_ ≠ gb354)) k_ ∧ some k_ ≠ (u4 : Value).ownBlock)) (HL353_3.out) (fun k_ hk => ⟨⟨hk.1.1, ⟨hk.1.2.2.1, ⟨hk.2, ⟨hk.1.2.2.2.1, hk.1.2.2.2.2⟩⟩⟩⟩, hk.1.2.1⟩))).2.1 (Kd.V_F (Kd.V_mono (ok' := (fun k_ => ((fun k_ => (w.heap.size ≤ k_) ∧ some k_ ≠ (.slice (some ad353) t350.length co23 : Value).ownBlock ∧ some k_ ≠ (v357 : Value).ownBlock ∧ k_ ≠ gb345 ∧ k_ ≠ gb354)) k_ ∧ some k_ ≠ (u4 : Value).ownBlock)) (HL353_3.out) (fun k_ hk => ⟨⟨hk.1.1, ⟨hk.1.2.2.1, ⟨hk.2, ⟨hk.1.2.2.2.1, hk.1.2.2.2.2⟩⟩⟩⟩, hk.1.2.1⟩))))); (case aB => exact bl_); (case aF => exact (fun k_ hk => ⟨(Nat.le_trans bls_ hk), Kd.fresh' (Kd.N_lt (by (with_reducible repeat (first | apply Kd.N_alloc | apply Kd.N_drewN | apply Kd.N_drew)); exact HO_31.out)) k_ hk, Kd.fresh' (Kd.R_lt (by (with_reducible repeat (first | apply Kd.R_alloc | apply Kd.R_drewN | apply Kd.R_drew)); exact HO358.out)) k_ hk, Kd.freshB (g := gb345) (o := .cells #[.int .i64 ((rd_T56 l0 x20_2).f0), .int .i64 ((rd_T56 l0 x20_2).f1.f0), .int .i64 ((rd_T56 l0 x20_2).f1.f1), .int .i64 ((rd_T56 l0 x20_2).f2), .int .i64 ((rd_T56 l0 x20_2).f3.f0), .int .i64 ((rd_T56 l0 x20_2).f3.f1), .int .i64 ((rd_T56 l0 x20_2).f4.f0), .int .i64 ((rd_T56 l0 x20_2).f4.f1), .int .i64 ((rd_T56 l0 x20_2).f5), .int .i64 ((rd_T56 l0 x20_2).f6)] 56 (0, 0)) (bk_ BK345) k_ hk, Kd.freshB (g := gb354) (o := .cells #[.int .i64 ((rd_T193 t350 x33_3).f0.f0.f0), .int .i64 ((rd_T193 t350 x33_3).f0.f0.f1), .int .i64 ((rd_T193 t350 x33_3).f0.f1), .slice A353_3 ((rd_T193 t350 x33_3).f1).length c353_3] 193 (0, 0)) (bk_ BK354) k_ hk⟩)); (case aO => exact (by (with_reducible repeat (first | apply Kd.N_alloc | apply Kd.N_drewN | apply Kd.N_drew)); exact Kd.N_mono HO_4.out (fun _ hk => ⟨hk.1.1, ⟨hk.1.2.1, ⟨hk.2, ⟨hk.1.2.2.1, hk.1.2.2.2⟩⟩⟩⟩))); (case aS => exact bls_); (case aL => have := LMc35.out; omega); intro v360 w44 ho hb hg hat; rw [← Ny359.out] at ho; replace HO_31 := Aside0.mk (Kd.N_afterv (ok := (fun k_ => (w.heap.size ≤ k_) ∧ some k_ ≠ (v357 : Value).ownBlock ∧ k_ ≠ gb345 ∧ k_ ≠ gb354)) (by (with_reducible repeat (first | apply Kd.N_alloc | apply Kd.N_drewN | apply Kd.N_drew)); exact Kd.N_mono HO_31.out (fun _ hk => ⟨⟨hk.1.1, ⟨hk.2, ⟨hk.1.2.2.1, hk.1.2.2.2⟩⟩⟩, hk.1.2.1⟩)) hg hat); replace BK345 := Aside0.mk (blk_grown (g := gb345) (o := .cells #[.int .i64 ((rd_T56 l0 x20_2).f0), .int .i64 ((rd_T56 l0 x20_2).f1.f0), .int .i64 ((rd_T56 l0 x20_2).f1.f1), .int .i64 ((rd_T56 l0 x20_2).f2), .int .i64 ((rd_T56 l0 x20_2).f3.f0), .int .i64 ((rd_T56 l0 x20_2).f3.f1), .int .i64 ((rd_T56 l0 x20_2).f4.f0), .int .i64 ((rd_T56 l0 x20_2).f4.f1), .int .i64 ((rd_T56 l0 x20_2).f5), .int .i64 ((rd_T56 l0 x20_2).f6)] 56 (0, 0)) (bk_ BK345) hg (Kd.N_ne HO_4.out BK345.out (by decide))); replace HL353_3 := Aside0.mk (Kd.V_afterv (ok := (fun k_ => (w.heap.size ≤ k_) ∧ some k_ ≠ (.slice (some ad353) t350.length co23 : Value).ownBlock ∧ some k_ ≠ (v357 : Value).ownBlock ∧ k_ ≠ gb345 ∧ k_ ≠ gb354)) (by (with_reducible repeat (first | apply Kd.V_alloc | apply Kd.V_drewN | apply Kd.V_drew)); exact Kd.V_mono HL353_3.out (fun _ hk => ⟨⟨hk.1.1, ⟨hk.1.2.2.1, ⟨hk.2, ⟨hk.1.2.2.2.1, hk.1.2.2.2.2⟩⟩⟩⟩, hk.1.2.1⟩)) hg hat); replace BK354 := Aside0.mk (blk_grown (g := gb354) (o := .cells #[.int .i64 ((rd_T193 t350 x33_3).f0.f0.f0), .int .i64 ((rd_T193 t350 x33_3).f0.f0.f1), .int .i64 ((rd_T193 t350 x33_3).f0.f1), .slice A353_3 ((rd_T193 t350 x33_3).f1).length c353_3] 193 (0, 0)) (bk_ BK354) hg (Kd.N_ne HO_4.out BK354.out (by decide))); replace HO358 := Aside0.mk (Kd.R_over' (by (with_reducible repeat (first | apply Kd.R_alloc | apply Kd.R_drewN | apply Kd.R_drew)); exact HO358.out) (Kd.N_typed (by (with_reducible repeat (first | apply Kd.N_alloc | apply Kd.N_drewN | apply Kd.N_drew)); exact HO_4.out)) (by decide) hg); replace HB := Aside0.mk (hb); have HO361 := Aside0.mk (ho); clear HO_4; clear ho hb hg hat))
            go_roundg k3
            case measure => have := HK1.out; have := HK2.out; have := HK3.out; omega
            case rel => exact ⟨(y356), (y359), (wrap64 (x33_3 + 1)), rf_, H', ⟨by have := HK1.out; have := HK2.out; have := HK3.out; omega⟩, ⟨by (with_reducible repeat (first | apply Kd.R_alloc | apply Kd.R_drewN | apply Kd.R_drew)); exact HO358.out⟩, ⟨by (with_reducible repeat (first | apply Kd.N_alloc | apply Kd.N_drewN | apply Kd.N_drew)); exact Kd.N_mono HO361.out (fun _ hk => ⟨hk.1, ⟨hk.2.2.1, ⟨hk.2.1, hk.2.2.2.1⟩⟩⟩)⟩, ⟨by (with_reducible repeat (first | apply Kd.N_alloc | apply Kd.N_drewN | apply Kd.N_drew)); exact Kd.N_mono HO_31.out (fun _ hk => ⟨hk.1.1, ⟨hk.1.2.1, ⟨hk.2, hk.1.2.2.1⟩⟩⟩)⟩, ⟨bk_ BK345⟩, ⟨bl_⟩⟩
          ·rw [if_neg c24] at H
           have c24b0 : decide (x33_3 < (t350.length : Int)) = false := decide_eq_false c24
           clear c24
           have H' := Aside0.mk H
           clear H
           go_wp2
           go_roundg k3
           case measure => have := HK1.out; have := HK2.out; have := HK3.out; omega
           case rel => exact ⟨(x3_3), (x4_3), (wrap64 (x20_2 + 1)), rf_, H', ⟨by have := HK1.out; have := HK2.out; have := HK3.out; omega⟩, ⟨by (with_reducible repeat (first | apply Kd.R_alloc | apply Kd.R_drewN | apply Kd.R_drew)); exact HO_3.out⟩, ⟨by (with_reducible repeat (first | apply Kd.N_alloc | apply Kd.N_drewN | apply Kd.N_drew)); exact Kd.N_mono HO_4.out (fun _ hk => ⟨hk.1, hk.2.1⟩)⟩, ⟨bl_⟩⟩
       ·replace c12 := Bool.eq_false_iff.mpr c12
        subst c12
        replace H := ite_f_ H
        have H' := Aside0.mk H
        clear H
        have p344 : 0 ≤ (x20_2 : Int) := od_
        have q344 : x20_2 < (l0.length : Int) := od_
        obtain ⟨ad344, e344, hx344_0, hx344_1, hx344_2, hx344_3, hx344_4, hx344_5, hx344_6, hx344_7, hx344_8, hx344_9⟩ := at_T56 (Kd.C_below HR0.out HB.out) x20_2 p344 q344
        cases e344
        replace p344 := eq_true p344
        replace q344 := eq_true q344
        go_wp2_with (first | ((with_reducible refine gate_dst (N := 7) rfl ?_); refine box_event ?hg (N := 7) ?hd (cs := #[.int .i64 0, .int .i64 0, .int .i64 0, .int .i64 0, .int .i64 0, .int .i64 0, .int .i64 0, .int .i64 0, .int .i64 0, .int .i64 0]) (t := 56) ?hr ?_; (case hd => rfl); (case hg => rfl); (case hr => first | (go_simp; done) | (go_simp; rfl)); intro gb345 hg w45 hbox hb; replace HO_3 := hob_ HO_3 hb; replace HO_4 := Aside0.mk (Kd.N_below (Kd.N_elderB (by (with_reducible repeat (first | apply Kd.N_alloc | apply Kd.N_drewN | apply Kd.N_drew)); exact HO_4.out) gb345 (Nat.le_of_eq hg.symm)) hb); have BK345 := Aside0.mk (hbox); have GW345 := gs_ hg; have GE345 := gs_ hg; replace HB := hbs_ hb; clear hb hbox hg; have hcz46 := blk_cell BK345.out; have hfz46 := blk_frozen BK345.out) | ((with_reducible refine gate_callee (f := 96) rfl ?_); refine goesC_ (some 26) Try.func96 #[.agg #[.int .i64 ((rd_T56 l0 x20_2).f0), .int .i64 ((rd_T56 l0 x20_2).f1.f0), .int .i64 ((rd_T56 l0 x20_2).f1.f1), .int .i64 ((rd_T56 l0 x20_2).f2), .int .i64 ((rd_T56 l0 x20_2).f3.f0), .int .i64 ((rd_T56 l0 x20_2).f3.f1), .int .i64 ((rd_T56 l0 x20_2).f4.f0), .int .i64 ((rd_T56 l0 x20_2).f4.f1), .int .i64 ((rd_T56 l0 x20_2).f5), .int .i64 ((rd_T56 l0 x20_2).f6)]] ?_; (with_reducible refine (impl_CredOk.calls k2 ((rd_T56 l0 x20_2).f0) ((rd_T56 l0 x20_2).f1.f0) ((rd_T56 l0 x20_2).f1.f1) ((rd_T56 l0 x20_2).f2) ((rd_T56 l0 x20_2).f3.f0) ((rd_T56 l0 x20_2).f3.f1) ((rd_T56 l0 x20_2).f4.f0) ((rd_T56 l0 x20_2).f4.f1) ((rd_T56 l0 x20_2).f5) ((rd_T56 l0 x20_2).f6) false _ A11.out).mono ?_); rintro e w47 ⟨rfl, hb⟩; refine ⟨_, rfl, ?_⟩; replace HO_3 := Aside0.mk (Kd.R_below (by (with_reducible repeat (first | apply Kd.R_alloc | apply Kd.R_drewN | apply Kd.R_drew)); exact (Kd.R_mono (Kd.R_far (p := ⟨gb345, 9, none⟩) (Kd.R_far (p := ⟨gb345, 8, none⟩) (Kd.R_far (p := ⟨gb345, 7, none⟩) (Kd.R_far (p := ⟨gb345, 6, none⟩) (Kd.R_far (p := ⟨gb345, 5, none⟩) (Kd.R_far (p := ⟨gb345, 4, none⟩) (Kd.R_far (p := ⟨gb345, 3, none⟩) (Kd.R_far (p := ⟨gb345, 2, none⟩) (Kd.R_far (p := ⟨gb345, 1, none⟩) (Kd.R_far (p := ⟨gb345, 0, none⟩) (Kd.R_types HO_3.out BK345.out (by decide)) (fun _ hk => hk.2) (.int .i64 ((rd_T56 l0 x20_2).f0))) (fun _ hk => hk.2) (.int .i64 ((rd_T56 l0 x20_2).f1.f0))) (fun _ hk => hk.2) (.int .i64 ((rd_T56 l0 x20_2).f1.f1))) (fun _ hk => hk.2) (.int .i64 ((rd_T56 l0 x20_2).f2))) (fun _ hk => hk.2) (.int .i64 ((rd_T56 l0 x20_2).f3.f0))) (fun _ hk => hk.2) (.int .i64 ((rd_T56 l0 x20_2).f3.f1))) (fun _ hk => hk.2) (.int .i64 ((rd_T56 l0 x20_2).f4.f0))) (fun _ hk => hk.2) (.int .i64 ((rd_T56 l0 x20_2).f4.f1))) (fun _ hk => hk.2) (.int .i64 ((rd_T56 l0 x20_2).f5))) (fun _ hk => hk.2) (.int .i64 ((rd_T56 l0 x20_2).f6))) (fun _ h_ => h_.1))) hb); replace HO_4 := Aside0.mk (Kd.N_below (by (with_reducible repeat (first | apply Kd.N_alloc | apply Kd.N_drewN | apply Kd.N_drew)); exact (Kd.N_mono (Kd.N_far (p := ⟨gb345, 9, none⟩) (Kd.N_far (p := ⟨gb345, 8, none⟩) (Kd.N_far (p := ⟨gb345, 7, none⟩) (Kd.N_far (p := ⟨gb345, 6, none⟩) (Kd.N_far (p := ⟨gb345, 5, none⟩) (Kd.N_far (p := ⟨gb345, 4, none⟩) (Kd.N_far (p := ⟨gb345, 3, none⟩) (Kd.N_far (p := ⟨gb345, 2, none⟩) (Kd.N_far (p := ⟨gb345, 1, none⟩) (Kd.N_far (p := ⟨gb345, 0, none⟩) (Kd.N_mono HO_4.out (fun k_ hk => (⟨hk, hk.2⟩ : _ ∧ k_ ≠ gb345))) (fun _ hk => hk.2) (.int .i64 ((rd_T56 l0 x20_2).f0))) (fun _ hk => hk.2) (.int .i64 ((rd_T56 l0 x20_2).f1.f0))) (fun _ hk => hk.2) (.int .i64 ((rd_T56 l0 x20_2).f1.f1))) (fun _ hk => hk.2) (.int .i64 ((rd_T56 l0 x20_2).f2))) (fun _ hk => hk.2) (.int .i64 ((rd_T56 l0 x20_2).f3.f0))) (fun _ hk => hk.2) (.int .i64 ((rd_T56 l0 x20_2).f3.f1))) (fun _ hk => hk.2) (.int .i64 ((rd_T56 l0 x20_2).f4.f0))) (fun _ hk => hk.2) (.int .i64 ((rd_T56 l0 x20_2).f4.f1))) (fun _ hk => hk.2) (.int .i64 ((rd_T56 l0 x20_2).f5))) (fun _ hk => hk.2) (.int .i64 ((rd_T56 l0 x20_2).f6))) (fun _ h_ => h_.1))) hb); replace BK345 := Aside0.mk (blk_below (g := gb345) (o := .cells #[.int .i64 ((rd_T56 l0 x20_2).f0), .int .i64 ((rd_T56 l0 x20_2).f1.f0), .int .i64 ((rd_T56 l0 x20_2).f1.f1), .int .i64 ((rd_T56 l0 x20_2).f2), .int .i64 ((rd_T56 l0 x20_2).f3.f0), .int .i64 ((rd_T56 l0 x20_2).f3.f1), .int .i64 ((rd_T56 l0 x20_2).f4.f0), .int .i64 ((rd_T56 l0 x20_2).f4.f1), .int .i64 ((rd_T56 l0 x20_2).f5), .int .i64 ((rd_T56 l0 x20_2).f6)] 56 (0, 0)) (bk_ BK345) hb); replace HB := hbs_ hb; clear hb))
        go_roundg k2
        case measure => have := HK1.out; have := HK2.out; omega
        case rel => exact ⟨(x3_2), (x4_2), (wrap64 (x20_2 + 1)), rf_, H', ⟨by have := HK1.out; have := HK2.out; omega⟩, ⟨by (with_reducible repeat (first | apply Kd.R_alloc | apply Kd.R_drewN | apply Kd.R_drew)); exact HO_3.out⟩, ⟨by (with_reducible repeat (first | apply Kd.N_alloc | apply Kd.N_drewN | apply Kd.N_drew)); exact Kd.N_mono HO_4.out (fun _ hk => ⟨hk.1.1, hk.1.2⟩)⟩, ⟨bl_⟩⟩
      ·rw [if_neg c8] at H
       have c8b0 : decide (x20_2 < (l0.length : Int)) = false := decide_eq_false c8
       clear c8
       have H' := Aside0.mk H
       clear H
       go_wp2
       go_roundg k2
       case measure => have := HK1.out; have := HK2.out; omega
       case rel => exact ⟨(x3_2), (x4_2), ((x3_1.length : Int)), rf_, H', ⟨by have := HK1.out; have := HK2.out; omega⟩, ⟨by (with_reducible repeat (first | apply Kd.R_alloc | apply Kd.R_drewN | apply Kd.R_drew)); exact HO_3.out⟩, ⟨by (with_reducible repeat (first | apply Kd.N_alloc | apply Kd.N_drewN | apply Kd.N_drew)); exact HO_4.out⟩, ⟨bl_⟩⟩
   ·rw [if_neg c6] at H
    have c6b0 : decide (x5_1 < (x3_1.length : Int)) = false := decide_eq_false c6
    clear c6
    obtain rfl := Option.some.inj H
    obtain ⟨Ao48, co48, eo48⟩ := Kd.R_slice HO_3.out
    subst eo48
    go_wp2
    go_ret
    exact ⟨_, eq_, by (with_reducible repeat (first | apply Kd.N_alloc | apply Kd.N_drewN | apply Kd.N_drew)); exact Kd.N_mono HO_4.out (fun _ hk => hk.1), bl_⟩
def impl_FactsOf.l0 : Nat → List (S51) → List (S188) → Int → Int → Option ((List (S51)))
 | 0, _, _, _, _ => none
 | k + 1, x3, x8, x9, x10 => if x10 < x9 then (if 0 ≤ x10 then (if x10 < (x8.length : Int) then (if x3.length < 5864062014805 then (impl_FactsOf.l0 k (x3 ++ [(⟨(⟨(rd_T188 x8 x10).f0.f0.f0, (rd_T188 x8 x10).f0.f0.f1⟩ : S49), (rd_T188 x8 x10).f0.f1⟩ : S51)]) x8 x9 (wrap64 (x10 + 1))) else (none)) else (none)) else (none)) else (some x3)
def impl_FactsOf.f (k : Nat) (l0 : List (S56)) : Option ((List (S51))) := (impl_findFacts.f k l0).bind fun t365 => (impl_FactsOf.l0 k (([] : List (S51))) t365 (t365.length : Int) 0)
set_option maxHeartbeats 8000000 in
set_option maxRecDepth 100000 in
theorem impl_FactsOf.calls (k : Nat) (A0 : Option Addr) (c0 : Nat) (l0 : List (S56)) (r : List (S51)) (w : World) (hr0 : Kd.C k56 w A0 l0.length l0) (hc0 : l0.length ≤ c0) (h : impl_FactsOf.f k l0 = some r) :
  Calls Try.prog 90 #[.slice A0 l0.length c0] w fun e w' => ∃ v0_ : Value, e = .returned (v0_) ∧ Kd.R k51 51 w' w.heap.size (fun _ => True) v0_ r ∧ Below w.heap.size w w' := by
 have hu188 := Try.underlying188
 have hu51 := Try.underlying51
 have HR0 := Aside0.mk hr0
 have HC0 := Aside0.mk hc0
 clear hr0 hc0
 have HB := Aside0.mk (Below.refl w.heap.size w)
 have H : ((impl_findFacts.f k l0).bind fun t365 => (impl_FactsOf.l0 k (([] : List (S51))) t365 (t365.length : Int) 0)) = some r := h
 clear h
 obtain ⟨y362, hy362⟩ : ∃ y_ : List (S51), y_ = (([] : List (S51))) := ⟨_, rfl⟩
 replace H : ((impl_findFacts.f k l0).bind fun t365 => (impl_FactsOf.l0 k y362 t365 (t365.length : Int) 0)) = some r := by first | (rw [hy362]; with_reducible exact H) | (have H2_ := (Option.bind_some _ _).symm.trans H; rw [hy362]; with_reducible exact H2_) | (have H2_ := (Option.bind_some _ _).symm.trans H; with_reducible exact H2_) | with_reducible exact H | (rw [hy362]; exact H) | exact H
 have Ny362 := Aside0.mk hy362
 clear hy362
 obtain ⟨t365, A2, H⟩ := bindE_ H
 have H' := Aside0.mk H
 clear H
 go_enter Try.func90, Try.ntmps90
 go_wp2_with (first | ((with_reducible refine gate_dst (N := 6) rfl ?_); refine Kd.R_lit k51 _ 51 ?hg (N := 6) ?hd (xs := ([] : List (S51))) (inner := []) (ok := fun _ => True) (okp := fun _ => True) ?hr ?hp (fun _ hk => hk) trivial (Below.refl _ _) (Nat.le_refl _) (by simp) ?_; (case hd => rfl); (case hg => rfl); (case hr => first | (go_simp; done) | (go_simp; rfl)); (case hp => exact (Reps.none _ _)); intro v363 w3 ho4 hb hg_ hnew_; clear hg_ hnew_; (first | rw [← Ny362.out] at ho4 | (simp only [Int.reduceToNat] at ho4; rw [← Ny362.out] at ho4)); have HO364 := Aside0.mk (Kd.R_lower ho4 bls_); replace HB := hbs_ hb; clear hb ho4) | ((with_reducible refine gate_callee (f := 167) rfl ?_); refine goesC_ (some 8) Try.func167 #[.slice A0 l0.length c0] ?_; (with_reducible refine (impl_findFacts.calls k _ _ l0 t365 _ ?side1 ?side2 A2.out).mono ?_); (case side1 => repeat (first | exact (Kd.C_below HR0.out HB.out) | (with_reducible refine Kd.C_alloc ?_ _) | (with_reducible refine Kd.C_drewN ?_ _) | (with_reducible refine Kd.C_drew ?_))); (case side2 => exact HC0.out); rintro e w5 ⟨v366, rfl, ho0, hb⟩; refine ⟨_, rfl, ?_⟩; have HO367 := Aside0.mk (Kd.N_lower (Kd.N_mono (ok' := fun k_ => some k_ ≠ (v363 : Value).ownBlock) ho0 (fun k_ hk_ => (Kd.fresh' (Kd.R_lt (by (with_reducible repeat (first | apply Kd.R_alloc | apply Kd.R_drewN | apply Kd.R_drew)); exact HO364.out)) k_ hk_))) bls_); replace HO364 := hob_ HO364 hb; replace HB := hbs_ hb; (try clear hb); (try clear hb2); (try clear hk); (try clear hi); (try clear ho0); obtain ⟨Ao6, co6, eo6⟩ := Kd.N_slice HO367.out; subst eo6))
 go_loopg [3, 10] k (fun kq v3 v10 w' => ∃ (x3_1 : List (S51)) (x10_1 : Int), v10 = .int .i64 x10_1 ∧ Aside0 (impl_FactsOf.l0 kq x3_1 t365 (t365.length : Int) x10_1 = some r) ∧ Aside0 (kq ≤ k) ∧ Aside0 (Kd.R k51 51 w' w.heap.size (fun _ => True) v3 x3_1) ∧ Aside0 (Kd.N k188 188 w' w.heap.size (fun k_ => some k_ ≠ (v3 : Value).ownBlock) (.slice Ao6 t365.length co6) t365) ∧ Aside0 (Below w.heap.size w w'))
 case atStart => exact ⟨(y362), (0), rf_, H', ⟨Nat.le_refl _⟩, ⟨by (with_reducible repeat (first | apply Kd.R_alloc | apply Kd.R_drewN | apply Kd.R_drew)); exact HO364.out⟩, ⟨by (with_reducible repeat (first | apply Kd.N_alloc | apply Kd.N_drewN | apply Kd.N_drew)); exact HO367.out⟩, ⟨bl_⟩⟩
 case round =>
  clear H'
  try clear c1
  try clear p2
  obtain ⟨x3_1, x10_1, rfl, HA, HK1, HO_3, HO_8, HB⟩ := hrel
  cases gk with
  | zero => exact absurd HA.out (by simp [impl_FactsOf.l0])
  | succ k1 =>
   have H := HA.out
   clear HA
   simp only [impl_FactsOf.l0] at H
   by_cases c7 : x10_1 < (t365.length : Int)
   ·rw [if_pos c7] at H
    have c7b0 : decide (x10_1 < (t365.length : Int)) = true := decide_eq_true c7
    clear c7
    obtain ⟨c8b0, H⟩ := ifd_ H
    obtain ⟨c9b0, H⟩ := ifd_ H
    obtain ⟨c10, H⟩ := ifn_ H
    have LMc10 := Aside0.mk c10
    clear c10
    obtain ⟨y370, hy370⟩ : ∃ y_ : List (S51), y_ = (x3_1 ++ [(⟨(⟨(rd_T188 t365 x10_1).f0.f0.f0, (rd_T188 t365 x10_1).f0.f0.f1⟩ : S49), (rd_T188 t365 x10_1).f0.f1⟩ : S51)]) := ⟨_, rfl⟩
    replace H : (impl_FactsOf.l0 k1 y370 t365 (t365.length : Int) (wrap64 (x10_1 + 1))) = some r := by first | (rw [hy370]; with_reducible exact H) | (have H2_ := (Option.bind_some _ _).symm.trans H; rw [hy370]; with_reducible exact H2_) | (have H2_ := (Option.bind_some _ _).symm.trans H; with_reducible exact H2_) | with_reducible exact H | (rw [hy370]; exact H) | exact H
    have Ny370 := Aside0.mk hy370
    clear hy370
    have H' := Aside0.mk H
    clear H
    have p368 : 0 ≤ (x10_1 : Int) := od_
    have q368 : x10_1 < (t365.length : Int) := od_
    obtain ⟨ad368, A368_4, c368_4, e368, hx368_0, hx368_1, hx368_2, hx368_3, hx368_4, hl368_4, hi368_4⟩ := at_T188 (Kd.N_reads' HO_8.out).2.2 x10_1 p368 q368
    cases e368
    obtain ⟨ce368, hce368, hMe368, hcc368⟩ := Kd.N_get HO_8.out z188 x10_1 p368 (by first | exact q368 | exact od_ | (have e_ := (Kd.N_reads' HO_8.out).1; omega))
    obtain ⟨ua368_4, uc368_4, rfl, ul368_4, ge368_4⟩ := k188_openF hMe368
    have hv368_4 := hcc368 4 _ rfl
    rw [add_field _ _ 4 (by omega)] at hv368_4
    replace hv368_4 := Option.some.inj (hv368_4.symm.trans hx368_4)
    injection hv368_4 with hva_ hvn_ hvc_
    rw [hva_] at ge368_4
    rw [hvc_] at ul368_4
    have HL368_4 := Aside0.mk (show Kd.V (Kd.int .i64) 3 _ w.heap.size _ _ ((rd_T188 t365 x10_1).f2) from Kd.V_mk ul368_4 ge368_4)
    clear hva_ hvn_ hvc_ ge368_4 ul368_4
    clear hcc368 hce368
    have HR368_4 := Aside0.mk hi368_4
    have HC368_4 := Aside0.mk hl368_4
    clear hi368_4 hl368_4
    replace p368 := eq_true p368
    replace q368 := eq_true q368
    go_wp2_with (first | ((with_reducible refine gate_dst (N := 5) rfl ?_); refine box_event ?hg (N := 5) ?hd (cs := #[.int .i64 0, .int .i64 0, .int .i64 0, .int .i64 0, .slice none 0 0]) (t := 188) ?hr ?_; (case hd => rfl); (case hg => rfl); (case hr => first | (go_simp; done) | (go_simp; rfl)); intro gb369 hg w11 hbox hb; replace HO_3 := hob_ HO_3 hb; replace HO_8 := Aside0.mk (Kd.N_below (Kd.N_elderB (by (with_reducible repeat (first | apply Kd.N_alloc | apply Kd.N_drewN | apply Kd.N_drew)); exact HO_8.out) gb369 (Nat.le_of_eq hg.symm)) hb); replace HL368_4 := Aside0.mk (Kd.V_below (Kd.V_elderB (by (with_reducible repeat (first | apply Kd.V_alloc | apply Kd.V_drewN | apply Kd.V_drew)); exact HL368_4.out) gb369 (Nat.le_of_eq hg.symm)) hb); replace HR368_4 := Aside0.mk (Kd.C_below (by repeat (first | (with_reducible exact HR368_4.out) | (with_reducible refine Kd.C_alloc ?_ _) | (with_reducible refine Kd.C_drewN ?_ _) | (with_reducible refine Kd.C_drew ?_) | exact HR368_4.out)) hb); have BK369 := Aside0.mk (hbox); have GW369 := gs_ hg; have GE369 := gs_ hg; replace HB := hbs_ hb; clear hb hbox hg; have hcz12 := blk_cell BK369.out; have hfz12 := blk_frozen BK369.out) | ((with_reducible refine gate_builtin (b := .append) (xs := #[.tmp 14, .tmp 17]) rfl ?_); at_builtin; refine Kd.R_append k51 (w0 := w) w.heap.size rfl (.tmp 14) (.tmp 17) 46 51 (.agg #[(.int .i64 0), (.int .i64 0), (.int .i64 0)]) 24 rfl Try.underlying46 info51 rfl (by decide) (by omega) u3 x3_1 (⟨(⟨(rd_T188 t365 x10_1).f0.f0.f0, (rd_T188 t365 x10_1).f0.f0.f1⟩ : S49), (rd_T188 t365 x10_1).f0.f1⟩ : S51) [.int .i64 ((rd_T188 t365 x10_1).f0.f0.f0), .int .i64 ((rd_T188 t365 x10_1).f0.f0.f1), .int .i64 ((rd_T188 t365 x10_1).f0.f1)] (fun _ => True) (fun _ => False) rfl (by first | (go_simp; done) | (go_simp; rfl)) ?aP (fun _ hk => hk.elim) ?aF ?aO ?aB ?aS ?aL ?_; (case aP => exact k51_mkM _ _ _ (⟨(⟨(rd_T188 t365 x10_1).f0.f0.f0, (rd_T188 t365 x10_1).f0.f0.f1⟩ : S49), (rd_T188 t365 x10_1).f0.f1⟩ : S51)); (case aB => exact bl_); (case aF => exact (fun _ _ => trivial)); (case aO => exact (by (with_reducible repeat (first | apply Kd.R_alloc | apply Kd.R_drewN | apply Kd.R_drew)); exact Kd.R_mono (Kd.R_far (p := ⟨gb369, 4, none⟩) (Kd.R_far (p := ⟨gb369, 3, none⟩) (Kd.R_far (p := ⟨gb369, 2, none⟩) (Kd.R_far (p := ⟨gb369, 1, none⟩) (Kd.R_far (p := ⟨gb369, 0, none⟩) (Kd.R_types HO_3.out BK369.out (by decide)) (fun _ hk => hk.2) (.int .i64 ((rd_T188 t365 x10_1).f0.f0.f0))) (fun _ hk => hk.2) (.int .i64 ((rd_T188 t365 x10_1).f0.f0.f1))) (fun _ hk => hk.2) (.int .i64 ((rd_T188 t365 x10_1).f0.f1))) (fun _ hk => hk.2) (.int .i64 ((rd_T188 t365 x10_1).f1))) (fun _ hk => hk.2) (.slice A368_4 ((rd_T188 t365 x10_1).f2).length c368_4)) (fun _ hk => trivial))); (case aS => exact bls_); (case aL => have := LMc10.out; omega); intro v371 w13 ho hb hg hat; rw [← Ny370.out] at ho; replace HO_8 := Aside0.mk (Kd.N_afterv (ok := (fun k_ => k_ ≠ gb369)) (by (with_reducible repeat (first | apply Kd.N_alloc | apply Kd.N_drewN | apply Kd.N_drew)); exact Kd.N_mono (Kd.N_far (p := ⟨gb369, 4, none⟩) (Kd.N_far (p := ⟨gb369, 3, none⟩) (Kd.N_far (p := ⟨gb369, 2, none⟩) (Kd.N_far (p := ⟨gb369, 1, none⟩) (Kd.N_far (p := ⟨gb369, 0, none⟩) (Kd.N_mono HO_8.out (fun k_ hk => (⟨hk, hk.2⟩ : _ ∧ k_ ≠ gb369))) (fun _ hk => hk.2) (.int .i64 ((rd_T188 t365 x10_1).f0.f0.f0))) (fun _ hk => hk.2) (.int .i64 ((rd_T188 t365 x10_1).f0.f0.f1))) (fun _ hk => hk.2) (.int .i64 ((rd_T188 t365 x10_1).f0.f1))) (fun _ hk => hk.2) (.int .i64 ((rd_T188 t365 x10_1).f1))) (fun _ hk => hk.2) (.slice A368_4 ((rd_T188 t365 x10_1).f2).length c368_4)) (fun _ hk => ⟨hk.1.2, hk.1.1⟩)) hg hat); replace HL368_4 := Aside0.mk (Kd.V_afterv (ok := (fun k_ => some k_ ≠ (.slice (some ad368) t365.length co6 : Value).ownBlock ∧ k_ ≠ gb369)) (by (with_reducible repeat (first | apply Kd.V_alloc | apply Kd.V_drewN | apply Kd.V_drew)); exact Kd.V_mono (Kd.V_far (p := ⟨gb369, 4, none⟩) (Kd.V_far (p := ⟨gb369, 3, none⟩) (Kd.V_far (p := ⟨gb369, 2, none⟩) (Kd.V_far (p := ⟨gb369, 1, none⟩) (Kd.V_far (p := ⟨gb369, 0, none⟩) (Kd.V_mono HL368_4.out (fun k_ hk => (⟨hk, hk.2⟩ : _ ∧ k_ ≠ gb369))) (fun _ hk => hk.2) (.int .i64 ((rd_T188 t365 x10_1).f0.f0.f0))) (fun _ hk => hk.2) (.int .i64 ((rd_T188 t365 x10_1).f0.f0.f1))) (fun _ hk => hk.2) (.int .i64 ((rd_T188 t365 x10_1).f0.f1))) (fun _ hk => hk.2) (.int .i64 ((rd_T188 t365 x10_1).f1))) (fun _ hk => hk.2) (.slice A368_4 ((rd_T188 t365 x10_1).f2).length c368_4)) (fun _ hk => ⟨⟨hk.1.1.2, hk.1.2⟩, hk.1.1.1⟩)) hg hat); replace BK369 := Aside0.mk (blk_grown (g := gb369) (o := .cells #[.int .i64 ((rd_T188 t365 x10_1).f0.f0.f0), .int .i64 ((rd_T188 t365 x10_1).f0.f0.f1), .int .i64 ((rd_T188 t365 x10_1).f0.f1), .int .i64 ((rd_T188 t365 x10_1).f1), .slice A368_4 ((rd_T188 t365 x10_1).f2).length c368_4] 188 (0, 0)) (bk_ BK369) hg (Kd.R_ne HO_3.out BK369.out (by decide))); replace HB := Aside0.mk (hb); have HO372 := Aside0.mk (ho); clear HO_3; clear ho hb hg hat))
    go_roundg k1
    case measure => have := HK1.out; omega
    case rel => exact ⟨(y370), (wrap64 (x10_1 + 1)), rf_, H', ⟨by have := HK1.out; omega⟩, ⟨by (with_reducible repeat (first | apply Kd.R_alloc | apply Kd.R_drewN | apply Kd.R_drew)); exact HO372.out⟩, ⟨by (with_reducible repeat (first | apply Kd.N_alloc | apply Kd.N_drewN | apply Kd.N_drew)); exact Kd.N_mono HO_8.out (fun _ hk => hk.2)⟩, ⟨bl_⟩⟩
   ·rw [if_neg c7] at H
    have c7b0 : decide (x10_1 < (t365.length : Int)) = false := decide_eq_false c7
    clear c7
    obtain rfl := Option.some.inj H
    go_wp2
    go_ret
    exact ⟨_, eq_, by (with_reducible repeat (first | apply Kd.R_alloc | apply Kd.R_drewN | apply Kd.R_drew)); exact HO_3.out, bl_⟩
end Go.Proofs.Ytjpjidgfcljpcaa.PC
