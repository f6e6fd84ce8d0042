import Derived.Test.YteehgihclnlaoaaKDPAx9
-- printed by wip/tools
namespace Go.Proofs.Yteehgihclnlaoaa.PA
open Go.RowKit Go.Proofs.YteehgihclnlaoaaW.PrintWords Go.Proofs.YteehgihclnlaoaaW.PrintLast Go.Proofs.YteehgihclnlaoaaW.PrintMore
attribute [local go_sem] max2_int min2_int max_two min_two max_three min_three max_four min_four
set_option linter.unusedVariables false
set_option linter.unusedSimpArgs false
def impl_Fact_72.f (l0 : List (S54)) : Option (List (S54)) := if l0.length < 5864062014805 then some l0 else none
set_option maxHeartbeats 8000000 in
set_option maxRecDepth 100000 in
theorem impl_Fact_72.calls (A0 : Option Addr) (c0 : Nat) (l0 : List (S54)) (r : List (S54)) (w : World) (hr0 : Kd.C k54 w A0 l0.length l0) (hc0 : l0.length ≤ c0) (h : impl_Fact_72.f l0 = some r) :
  Calls Try.prog 72 #[.slice A0 l0.length c0] w fun e w' => ∃ v0_ : Value, e = .returned (v0_) ∧ Kd.R k54 54 w' w.heap.size (fun _ => True) v0_ r ∧ Below w.heap.size w w' := by
 have HR0 := Aside0.mk hr0
 have HC0 := Aside0.mk hc0
 clear hr0 hc0
 have hq : ∀ (w : World) (a : Option Addr) (n c n' c' : Nat), (binOp .eql 38 (.slice a n c) (.slice none n' c')).run Try.prog w = .ok (.bool a.isNone) w := fun w a n c n' c' => Lib.run_eql_slice_nil w _ _ a n c n' c' Try.underlying38
 have HB := Aside0.mk (Below.refl w.heap.size w)
 unfold impl_Fact_72.f at h
 by_cases hl : l0.length < 5864062014805
 ·rw [if_pos hl] at h
  have LM := Aside0.mk hl
  clear hl
  obtain rfl := Option.some.inj h
  clear h
  cases A0 with
  | none =>
   have e0 : l0 = [] := by
    rcases l0 with _ | ⟨x, xs⟩
    ·rfl
    ·obtain ⟨ad, c, e, _⟩ := Kd.C_get HR0.out x 0 (by omega) (by rw [List.length_cons]; omega)
     cases e
   subst e0
   clear HR0 HC0 LM
   go_enter Try.func72, Try.ntmps72
   go_wp2
   go_ret
   exact ⟨_, eq_, Kd.R_nil _ _ _ _ _, bl_⟩
  | some ad =>
   obtain ⟨y1, hy1⟩ : ∃ y_ : List (S54), y_ = (([] : List (S54))) := ⟨_, rfl⟩
   have Ny1 := Aside0.mk hy1
   clear hy1
   go_enter Try.func72, Try.ntmps72
   go_wp2_with (first | ((with_reducible refine gate_dst (N := 5) rfl ?_); refine Kd.R_lit k54 _ 54 ?hg (N := 5) ?hd (xs := ([] : List (S54))) (inner := []) (ok := fun _ => True) (okp := fun _ => True) ?hr ?hp (fun _ hk => hk) trivial (Below.refl _ _) (Nat.le_refl _) (by simp) ?_; (case hd => rfl); (case hg => rfl); (case hr => first | (go_simp; done) | (go_simp; rfl)); (case hp => exact (Reps.none _ _)); intro v161 w9 ho10 hb hg_ hnew_; clear hg_ hnew_; (first | rw [← Ny1.out] at ho10 | (simp only [Int.reduceToNat] at ho10; rw [← Ny1.out] at ho10)); have HO162 := Aside0.mk (Kd.R_lower ho10 bls_); replace HB := hbs_ hb; clear hb ho10) | ((with_reducible refine gate_builtin (b := .append) (xs := #[.tmp 5, .tmp 6]) rfl ?_); at_builtin; refine Kd.R_append_rows k54 (w0 := w) w.heap.size rfl (.tmp 5) (.tmp 6) 38 54 (.agg #[(.int .i64 0), (.int .i64 0), (.int .i64 0)]) 24 rfl Try.underlying38 info54 rfl (by decide) (by omega) v161 y1 l0 _ _ _ (fun _ => True) (fun _ => False) rfl rfl ?aO ?aR (fun _ _ h => h) (fun _ h => h.elim) ?aF ?aB ?aS ?aL ?_; (case aR => repeat (first | exact (Kd.C_below HR0.out HB.out) | (with_reducible refine Kd.C_alloc ?_ _) | (with_reducible refine Kd.C_drewN ?_ _) | (with_reducible refine Kd.C_drew ?_))); (case aB => exact bl_); (case aF => exact (fun _ _ => trivial)); (case aO => exact (by (with_reducible repeat (first | apply Kd.R_alloc | apply Kd.R_drewN | apply Kd.R_drew)); exact HO162.out)); (case aS => exact bls_); (case aL => have := LM.out; rw [Ny1.out]; simp only [List.length_nil]; omega); intro v164 w11 ho hb hg hat; rw [Ny1.out, List.nil_append] at ho; replace HB := Aside0.mk (hb); have HO165 := Aside0.mk (ho); clear HO162; clear ho hb hg hat))
   go_ret
   exact ⟨_, eq_, by (with_reducible repeat (first | apply Kd.R_alloc | apply Kd.R_drewN | apply Kd.R_drew)); exact HO165.out, bl_⟩
 ·rw [if_neg hl] at h
  exact absurd h (by simp)
mutual
def impl_findFacts.l0 : Nat → List (S48) → List (S54) → List (S74) → Int → Option ((List (S74)))
 | 0, _, _, _, _ => none
 | k + 1, x0, x3, x4, x5 => if x5 < (x3.length : Int) then (impl_findFacts.l1 k x0 x3 x4 (x3.length : Int) x0 (x0.length : Int) 0) else (some x4)
def impl_findFacts.l1 : Nat → List (S48) → List (S54) → List (S74) → Int → List (S48) → Int → Int → Option ((List (S74)))
 | 0, _, _, _, _, _, _, _ => none
 | k + 1, x0, x3, x4, x5, x18, x19, x20 => if x20 < x19 then (if 0 ≤ x20 then (if x20 < (x18.length : Int) then ((impl_CredOk.f k ((rd_T48 x18 x20).f0) ((rd_T48 x18 x20).f1.f0) ((rd_T48 x18 x20).f1.f1) ((rd_T48 x18 x20).f2) ((rd_T48 x18 x20).f3.f0) ((rd_T48 x18 x20).f3.f1) ((rd_T48 x18 x20).f4.f0) ((rd_T48 x18 x20).f4.f1) ((rd_T48 x18 x20).f5) ((rd_T48 x18 x20).f6)).bind fun t421 => (if t421 = true then ((impl_Fact_72.f x3).bind fun t422 => ((impl_derive.f k t422 ((rd_T48 x18 x20).f0) ((rd_T48 x18 x20).f1.f0) ((rd_T48 x18 x20).f1.f1) ((rd_T48 x18 x20).f2) ((rd_T48 x18 x20).f3.f0) ((rd_T48 x18 x20).f3.f1) ((rd_T48 x18 x20).f4.f0) ((rd_T48 x18 x20).f4.f1) ((rd_T48 x18 x20).f5) ((rd_T48 x18 x20).f6)).bind fun t425 => (impl_findFacts.l2 k x0 x3 x4 x5 x20 x18 x19 x20 t425 (t425.length : Int) 0))) else (impl_findFacts.l1 k x0 x3 x4 x5 x18 x19 (wrap64 (x20 + 1))))) else (none)) else (none)) else (impl_findFacts.l0 k x0 x3 x4 x5)
def impl_findFacts.l2 : Nat → List (S48) → List (S54) → List (S74) → Int → Int → List (S48) → Int → Int → List (S97) → Int → Int → Option ((List (S74)))
 | 0, _, _, _, _, _, _, _, _, _, _, _ => none
 | k + 1, x0, x3, x4, x5, x6, x18, x19, x20, x31, x32, x33 => if x33 < x32 then (if 0 ≤ x33 then (if x33 < (x31.length : Int) then ((impl_Fact_39.f k x3 ((rd_T97 x31 x33).f0.f0.f0) ((rd_T97 x31 x33).f0.f0.f1) ((rd_T97 x31 x33).f0.f1)).bind fun t430 => (if t430 = true then (impl_findFacts.l2 k x0 x3 x4 x5 x6 x18 x19 x20 x31 x32 (wrap64 (x33 + 1))) else (if x3.length < 5864062014805 then (if x4.length < 2513169434916 then (impl_findFacts.l2 k x0 (x3 ++ [(⟨(⟨(rd_T97 x31 x33).f0.f0.f0, (rd_T97 x31 x33).f0.f0.f1⟩ : S26), (rd_T97 x31 x33).f0.f1⟩ : S54)]) (x4 ++ [(⟨(⟨(⟨(rd_T97 x31 x33).f0.f0.f0, (rd_T97 x31 x33).f0.f0.f1⟩ : S26), (rd_T97 x31 x33).f0.f1⟩ : S54), x6, (rd_T97 x31 x33).f1⟩ : S74)]) x5 x6 x18 x19 x20 x31 x32 (wrap64 (x33 + 1))) else (none)) else (none)))) else (none)) else (none)) else (impl_findFacts.l1 k x0 x3 x4 x5 x18 x19 (wrap64 (x20 + 1)))
end
def impl_findFacts.f (k : Nat) (l0 : List (S48)) : Option ((List (S74))) := impl_findFacts.l0 k l0 (([] : List (S54))) (([] : List (S74))) (-1)
set_option maxHeartbeats 8000000 in
set_option maxRecDepth 100000 in
theorem impl_findFacts.calls (k : Nat) (A0 : Option Addr) (c0 : Nat) (l0 : List (S48)) (r : List (S74)) (w : World) (hr0 : Kd.C k48 w A0 l0.length l0) (hc0 : l0.length ≤ c0) (h : impl_findFacts.f k l0 = some r) :
  Calls Try.prog 51 #[.slice A0 l0.length c0] w fun e w' => ∃ v0_ : Value, e = .returned (v0_) ∧ Kd.N k74 74 w' w.heap.size (fun k_ => (w.heap.size ≤ k_)) v0_ r ∧ Below w.heap.size w w' := by
 have hu48 := Try.underlying48
 have hu97 := Try.underlying97
 have hu54 := Try.underlying54
 have hu74 := Try.underlying74
 have HR0 := Aside0.mk hr0
 have HC0 := Aside0.mk hc0
 clear hr0 hc0
 have HB := Aside0.mk (Below.refl w.heap.size w)
 have H : (impl_findFacts.l0 k l0 (([] : List (S54))) (([] : List (S74))) (-1)) = some r := h
 clear h
 obtain ⟨y413, hy413⟩ : ∃ y_ : List (S54), y_ = (([] : List (S54))) := ⟨_, rfl⟩
 replace H : (impl_findFacts.l0 k l0 y413 (([] : List (S74))) (-1)) = some r := by first | (rw [hy413]; with_reducible exact H) | (have H2_ := (Option.bind_some _ _).symm.trans H; rw [hy413]; with_reducible exact H2_) | (have H2_ := (Option.bind_some _ _).symm.trans H; with_reducible exact H2_) | with_reducible exact H | (rw [hy413]; exact H) | exact H
 have Ny413 := Aside0.mk hy413
 clear hy413
 obtain ⟨y416, hy416⟩ : ∃ y_ : List (S74), y_ = (([] : List (S74))) := ⟨_, rfl⟩
 replace H : (impl_findFacts.l0 k l0 y413 y416 (-1)) = some r := by first | (rw [hy416]; with_reducible exact H) | (have H2_ := (Option.bind_some _ _).symm.trans H; rw [hy416]; with_reducible exact H2_) | (have H2_ := (Option.bind_some _ _).symm.trans H; with_reducible exact H2_) | with_reducible exact H | (rw [hy416]; exact H) | exact H
 have Ny416 := Aside0.mk hy416
 clear hy416
 have H' := Aside0.mk H
 clear H
 go_enter Try.func51, Try.ntmps51
 go_wp2_with (first | ((with_reducible refine gate_dst (N := 10) rfl ?_); refine Kd.R_lit k54 _ 54 ?hg (N := 10) ?hd (xs := ([] : List (S54))) (inner := []) (ok := fun _ => True) (okp := fun _ => True) ?hr ?hp (fun _ hk => hk) trivial (Below.refl _ _) (Nat.le_refl _) (by simp) ?_; (case hd => rfl); (case hg => rfl); (case hr => first | (go_simp; done) | (go_simp; rfl)); (case hp => exact (Reps.none _ _)); intro v414 w2 ho3 hb hg_ hnew_; clear hg_ hnew_; (first | rw [← Ny413.out] at ho3 | (simp only [Int.reduceToNat] at ho3; rw [← Ny413.out] at ho3)); have HO415 := Aside0.mk (Kd.R_lower (Kd.R_newM (M := fun k_ => (w.heap.size ≤ k_)) ho3 bls_ (fun k_ h_ => h_)) bls_); replace HB := hbs_ hb; clear hb ho3) | ((with_reducible refine gate_dst (N := 11) rfl ?_); refine Kd.N_lit k74 _ 74 ?hg (N' := 11) ?hd (xs := ([] : List (S74))) (inner := []) (ok := (fun k_ => (w.heap.size ≤ k_) ∧ some k_ ≠ (v414 : Value).ownBlock)) (okp := (fun k_ => (w.heap.size ≤ k_) ∧ some k_ ≠ (v414 : Value).ownBlock)) ?hr ?hp (fun _ hk => hk) ((show ∀ k_, w2.heap.size ≤ k_ → (fun k_ => (w.heap.size ≤ k_) ∧ some k_ ≠ (v414 : Value).ownBlock) k_ from fun k_ hk => ⟨(Nat.le_trans bls_ hk), Kd.fresh' (Kd.R_lt (by (with_reducible repeat (first | apply Kd.R_alloc | apply Kd.R_drewN | apply Kd.R_drew)); exact HO415.out)) k_ hk⟩) _ (Nat.le_refl _)) (Below.refl _ _) (Nat.le_refl _) (by simp) ?_; (case hd => rfl); (case hg => rfl); (case hr => first | (go_simp; done) | (go_simp; rfl)); (case hp => exact (Reps.none _ _)); intro v417 w4 ho5 hb hg_ hnew_; clear hg_ hnew_; (first | rw [← Ny416.out] at ho5 | (simp only [Int.reduceToNat] at ho5; rw [← Ny416.out] at ho5)); replace HO415 := hob_ HO415 hb; have HO418 := Aside0.mk (Kd.N_lower ho5 bls_); replace HB := hbs_ hb; clear hb ho5))
 go_loopg [3, 4, 5] k (fun kq v3 v4 v5 w' => ∃ (x3_1 : List (S54)) (x4_1 : List (S74)) (x5_1 : Int), v5 = .int .i64 x5_1 ∧ Aside0 (impl_findFacts.l0 kq l0 x3_1 x4_1 x5_1 = some r) ∧ Aside0 (kq ≤ k) ∧ Aside0 (Kd.R k54 54 w' w.heap.size (fun k_ => (w.heap.size ≤ k_)) v3 x3_1) ∧ Aside0 (Kd.N k74 74 w' w.heap.size (fun k_ => (w.heap.size ≤ k_) ∧ some k_ ≠ (v3 : Value).ownBlock) v4 x4_1) ∧ Aside0 (Below w.heap.size w w'))
 case atStart => exact ⟨(y413), (y416), ((-1)), rf_, H', ⟨Nat.le_refl _⟩, ⟨by (with_reducible repeat (first | apply Kd.R_alloc | apply Kd.R_drewN | apply Kd.R_drew)); exact Kd.R_mono HO415.out (fun _ hk => hk.1)⟩, ⟨by (with_reducible repeat (first | apply Kd.N_alloc | apply Kd.N_drewN | apply Kd.N_drew)); exact HO418.out⟩, ⟨bl_⟩⟩
 case round =>
  clear H'
  try clear p2
  try clear c5
  obtain ⟨x3_1, x4_1, x5_1, rfl, HA, HK1, HO_3, HO_4, HB⟩ := hrel
  cases gk with
  | zero => exact absurd HA.out (by simp [impl_findFacts.l0])
  | succ k1 =>
   have H := HA.out
   clear HA
   simp only [impl_findFacts.l0] at H
   by_cases c6 : x5_1 < (x3_1.length : Int)
   ·rw [if_pos c6] at H
    have c6b0 : decide (x5_1 < (x3_1.length : Int)) = true := decide_eq_true c6
    clear c6
    have H' := Aside0.mk H
    clear H
    obtain ⟨Ao7, co7, eo7⟩ := Kd.R_slice HO_3.out
    subst eo7
    go_wp2
    go_loopg [3, 4, 20] k1 (fun kq v3 v4 v20 w' => ∃ (x3_2 : List (S54)) (x4_2 : List (S74)) (x20_2 : Int), v20 = .int .i64 x20_2 ∧ Aside0 (impl_findFacts.l1 kq l0 x3_2 x4_2 (x3_1.length : Int) l0 (l0.length : Int) x20_2 = some r) ∧ Aside0 (kq ≤ k1) ∧ Aside0 (Kd.R k54 54 w' w.heap.size (fun k_ => (w.heap.size ≤ k_)) v3 x3_2) ∧ Aside0 (Kd.N k74 74 w' w.heap.size (fun k_ => (w.heap.size ≤ k_) ∧ some k_ ≠ (v3 : Value).ownBlock) v4 x4_2) ∧ Aside0 (Below w.heap.size w w'))
    case atStart => exact ⟨(x3_1), (x4_1), (0), rf_, H', ⟨Nat.le_refl _⟩, ⟨by (with_reducible repeat (first | apply Kd.R_alloc | apply Kd.R_drewN | apply Kd.R_drew)); exact HO_3.out⟩, ⟨by (with_reducible repeat (first | apply Kd.N_alloc | apply Kd.N_drewN | apply Kd.N_drew)); exact HO_4.out⟩, ⟨bl_⟩⟩
    case round =>
     clear H'
     try clear p2
     try clear c5
     try clear c6
     try clear c6b0
     try clear p2
     obtain ⟨x3_2, x4_2, x20_2, rfl, HA, HK2, HO_3, HO_4, HB⟩ := hrel
     cases gk with
     | zero => exact absurd HA.out (by simp [impl_findFacts.l1])
     | succ k2 =>
      have H := HA.out
      clear HA
      simp only [impl_findFacts.l1] at H
      by_cases c8 : x20_2 < (l0.length : Int)
      ·rw [if_pos c8] at H
       have c8b0 : decide (x20_2 < (l0.length : Int)) = true := decide_eq_true c8
       clear c8
       obtain ⟨c9b0, H⟩ := ifd_ H
       obtain ⟨c10b0, H⟩ := ifd_ H
       obtain ⟨t421, A11, H⟩ := bindE_ H
       by_cases c12 : t421 = true
       ·subst c12
        replace H := ite_t_ H
        obtain ⟨t422, A13, H⟩ := bindE_ H
        obtain ⟨t425, A14, H⟩ := bindE_ H
        have H' := Aside0.mk H
        clear H
        have p419 : 0 ≤ (x20_2 : Int) := od_
        have q419 : x20_2 < (l0.length : Int) := od_
        obtain ⟨ad419, e419, hx419_0, hx419_1, hx419_2, hx419_3, hx419_4, hx419_5, hx419_6, hx419_7, hx419_8, hx419_9⟩ := at_T48 (Kd.C_below HR0.out HB.out) x20_2 p419 q419
        cases e419
        replace p419 := eq_true p419
        replace q419 := eq_true q419
        try go_wp2_with (first | ((with_reducible refine gate_dst (N := 7) rfl ?_); refine box_event ?hg (N := 7) ?hd (cs := #[.int .i64 0, .int .i64 0, .int .i64 0, .int .i64 0, .int .i64 0, .int .i64 0, .int .i64 0, .int .i64 0, .int .i64 0, .int .i64 0]) (t := 48) ?hr ?_; (case hd => rfl); (case hg => rfl); (case hr => first | (go_simp; done) | (go_simp; rfl)); intro gb420 hg w15 hbox hb; replace HO_3 := hob_ HO_3 hb; replace HO_4 := Aside0.mk (Kd.N_below (Kd.N_elderB (by (with_reducible repeat (first | apply Kd.N_alloc | apply Kd.N_drewN | apply Kd.N_drew)); exact HO_4.out) gb420 (Nat.le_of_eq hg.symm)) hb); have BK420 := Aside0.mk (hbox); have GW420 := gs_ hg; have GE420 := gs_ hg; replace HB := hbs_ hb; clear hb hbox hg; have hcz16 := blk_cell BK420.out; have hfz16 := blk_frozen BK420.out) | ((with_reducible refine gate_callee (f := 29) rfl ?_); refine goesC_ (some 26) Try.func29 #[.agg #[.int .i64 ((rd_T48 l0 x20_2).f0), .int .i64 ((rd_T48 l0 x20_2).f1.f0), .int .i64 ((rd_T48 l0 x20_2).f1.f1), .int .i64 ((rd_T48 l0 x20_2).f2), .int .i64 ((rd_T48 l0 x20_2).f3.f0), .int .i64 ((rd_T48 l0 x20_2).f3.f1), .int .i64 ((rd_T48 l0 x20_2).f4.f0), .int .i64 ((rd_T48 l0 x20_2).f4.f1), .int .i64 ((rd_T48 l0 x20_2).f5), .int .i64 ((rd_T48 l0 x20_2).f6)]] ?_; (with_reducible refine (impl_CredOk.calls k2 ((rd_T48 l0 x20_2).f0) ((rd_T48 l0 x20_2).f1.f0) ((rd_T48 l0 x20_2).f1.f1) ((rd_T48 l0 x20_2).f2) ((rd_T48 l0 x20_2).f3.f0) ((rd_T48 l0 x20_2).f3.f1) ((rd_T48 l0 x20_2).f4.f0) ((rd_T48 l0 x20_2).f4.f1) ((rd_T48 l0 x20_2).f5) ((rd_T48 l0 x20_2).f6) true _ A11.out).mono ?_); rintro e w17 ⟨rfl, hb⟩; refine ⟨_, rfl, ?_⟩; replace HO_3 := Aside0.mk (Kd.R_below (by (with_reducible repeat (first | apply Kd.R_alloc | apply Kd.R_drewN | apply Kd.R_drew)); exact (Kd.R_mono (Kd.R_far (p := ⟨gb420, 9, none⟩) (Kd.R_far (p := ⟨gb420, 8, none⟩) (Kd.R_far (p := ⟨gb420, 7, none⟩) (Kd.R_far (p := ⟨gb420, 6, none⟩) (Kd.R_far (p := ⟨gb420, 5, none⟩) (Kd.R_far (p := ⟨gb420, 4, none⟩) (Kd.R_far (p := ⟨gb420, 3, none⟩) (Kd.R_far (p := ⟨gb420, 2, none⟩) (Kd.R_far (p := ⟨gb420, 1, none⟩) (Kd.R_far (p := ⟨gb420, 0, none⟩) (Kd.R_types HO_3.out BK420.out (by decide)) (fun _ hk => hk.2) (.int .i64 ((rd_T48 l0 x20_2).f0))) (fun _ hk => hk.2) (.int .i64 ((rd_T48 l0 x20_2).f1.f0))) (fun _ hk => hk.2) (.int .i64 ((rd_T48 l0 x20_2).f1.f1))) (fun _ hk => hk.2) (.int .i64 ((rd_T48 l0 x20_2).f2))) (fun _ hk => hk.2) (.int .i64 ((rd_T48 l0 x20_2).f3.f0))) (fun _ hk => hk.2) (.int .i64 ((rd_T48 l0 x20_2).f3.f1))) (fun _ hk => hk.2) (.int .i64 ((rd_T48 l0 x20_2).f4.f0))) (fun _ hk => hk.2) (.int .i64 ((rd_T48 l0 x20_2).f4.f1))) (fun _ hk => hk.2) (.int .i64 ((rd_T48 l0 x20_2).f5))) (fun _ hk => hk.2) (.int .i64 ((rd_T48 l0 x20_2).f6))) (fun _ h_ => h_.1))) hb); replace HO_4 := Aside0.mk (Kd.N_below (by (with_reducible repeat (first | apply Kd.N_alloc | apply Kd.N_drewN | apply Kd.N_drew)); exact (Kd.N_mono (Kd.N_far (p := ⟨gb420, 9, none⟩) (Kd.N_far (p := ⟨gb420, 8, none⟩) (Kd.N_far (p := ⟨gb420, 7, none⟩) (Kd.N_far (p := ⟨gb420, 6, none⟩) (Kd.N_far (p := ⟨gb420, 5, none⟩) (Kd.N_far (p := ⟨gb420, 4, none⟩) (Kd.N_far (p := ⟨gb420, 3, none⟩) (Kd.N_far (p := ⟨gb420, 2, none⟩) (Kd.N_far (p := ⟨gb420, 1, none⟩) (Kd.N_far (p := ⟨gb420, 0, none⟩) (Kd.N_mono HO_4.out (fun k_ hk => (⟨hk, hk.2⟩ : _ ∧ k_ ≠ gb420))) (fun _ hk => hk.2) (.int .i64 ((rd_T48 l0 x20_2).f0))) (fun _ hk => hk.2) (.int .i64 ((rd_T48 l0 x20_2).f1.f0))) (fun _ hk => hk.2) (.int .i64 ((rd_T48 l0 x20_2).f1.f1))) (fun _ hk => hk.2) (.int .i64 ((rd_T48 l0 x20_2).f2))) (fun _ hk => hk.2) (.int .i64 ((rd_T48 l0 x20_2).f3.f0))) (fun _ hk => hk.2) (.int .i64 ((rd_T48 l0 x20_2).f3.f1))) (fun _ hk => hk.2) (.int .i64 ((rd_T48 l0 x20_2).f4.f0))) (fun _ hk => hk.2) (.int .i64 ((rd_T48 l0 x20_2).f4.f1))) (fun _ hk => hk.2) (.int .i64 ((rd_T48 l0 x20_2).f5))) (fun _ hk => hk.2) (.int .i64 ((rd_T48 l0 x20_2).f6))) (fun _ h_ => h_.1))) hb); replace BK420 := Aside0.mk (blk_below (g := gb420) (o := .cells #[.int .i64 ((rd_T48 l0 x20_2).f0), .int .i64 ((rd_T48 l0 x20_2).f1.f0), .int .i64 ((rd_T48 l0 x20_2).f1.f1), .int .i64 ((rd_T48 l0 x20_2).f2), .int .i64 ((rd_T48 l0 x20_2).f3.f0), .int .i64 ((rd_T48 l0 x20_2).f3.f1), .int .i64 ((rd_T48 l0 x20_2).f4.f0), .int .i64 ((rd_T48 l0 x20_2).f4.f1), .int .i64 ((rd_T48 l0 x20_2).f5), .int .i64 ((rd_T48 l0 x20_2).f6)] 48 (0, 0)) (bk_ BK420) hb); replace HB := hbs_ hb; clear hb))
        replace HO_3 := Aside0.mk (Kd.R_drew HO_3.out)
        replace HO_4 := Aside0.mk (Kd.N_drew HO_4.out)
        replace BK420 := Aside0.mk (blk_drew BK420.out)
        replace HB := Aside0.mk (below_drew1 HB.out)
        obtain ⟨Ao19, co19, eo19⟩ := Kd.R_slice HO_3.out
        (first | subst eo19 | (injection eo19 with f1_ f2_ f3_; have f4_ := f1_.symm; have f5_ := f3_.symm; clear f1_ f2_ f3_; subst f4_; subst f5_))
        refine start_ (n := 6) (S := fun w' => w'.cell? ⟨gb420, 0, none⟩ = some (.int .i64 ((rd_T48 l0 x20_2).f0)) ∧ w'.cell? ⟨gb420, 1, none⟩ = some (.int .i64 ((rd_T48 l0 x20_2).f1.f0)) ∧ w'.cell? ⟨gb420, 2, none⟩ = some (.int .i64 ((rd_T48 l0 x20_2).f1.f1)) ∧ w'.cell? ⟨gb420, 3, none⟩ = some (.int .i64 ((rd_T48 l0 x20_2).f2)) ∧ w'.cell? ⟨gb420, 4, none⟩ = some (.int .i64 ((rd_T48 l0 x20_2).f3.f0)) ∧ w'.cell? ⟨gb420, 5, none⟩ = some (.int .i64 ((rd_T48 l0 x20_2).f3.f1)) ∧ w'.cell? ⟨gb420, 6, none⟩ = some (.int .i64 ((rd_T48 l0 x20_2).f4.f0)) ∧ w'.cell? ⟨gb420, 7, none⟩ = some (.int .i64 ((rd_T48 l0 x20_2).f4.f1)) ∧ w'.cell? ⟨gb420, 8, none⟩ = some (.int .i64 ((rd_T48 l0 x20_2).f5)) ∧ w'.cell? ⟨gb420, 9, none⟩ = some (.int .i64 ((rd_T48 l0 x20_2).f6))) (ds := []) #[false, false, false, false, false, false] (by kernel_rfl) rfl rfl ⟨(blk_cell BK420.out 0).trans rfl, (blk_cell BK420.out 1).trans rfl, (blk_cell BK420.out 2).trans rfl, (blk_cell BK420.out 3).trans rfl, (blk_cell BK420.out 4).trans rfl, (blk_cell BK420.out 5).trans rfl, (blk_cell BK420.out 6).trans rfl, (blk_cell BK420.out 7).trans rfl, (blk_cell BK420.out 8).trans rfl, (blk_cell BK420.out 9).trans rfl⟩ (fun hHeld => ?_)
        generalize w17.drew = w18 at HO_3 HO_4 BK420 HB hHeld ⊢
        refine pure_ (i := 0) (N := some 28) (v := ?_) (a' := ?_) #[true, false, false, false, false, false] rfl rfl (by kernel_rfl) (fun _ _ _ h => h) (Or.inl ⟨by rfl, ?_⟩) ?_ ?_
        rotate_left
        ·intro w'
         go_simp
         with_reducible rfl
        rotate_left
        ·simp only [Act.put, List.setIfInBounds_toArray, List.set_cons_zero, List.set_cons_succ, i64_w, i32_w]
         rfl
        refine pure_ (i := 5) (N := some 33) (v := ?_) (a' := ?_) #[true, false, false, false, false, true] rfl rfl (by kernel_rfl) (fun _ _ _ h => h) (Or.inl ⟨by rfl, ?_⟩) ?_ ?_
        rotate_left
        ·intro w'
         go_simp
         with_reducible rfl
        rotate_left
        ·simp only [Act.put, List.setIfInBounds_toArray, List.set_cons_zero, List.set_cons_succ, i64_w, i32_w]
         rfl
        refine take_ (i := 2) (N := some 30) (v := ?_) (a' := ?_) #[true, false, true, false, false, true] rfl rfl (by kernel_rfl) (fun _ _ _ h => h) (Or.inl ⟨by rfl, ?_⟩) hHeld ?_ ?_
        rotate_left
        ·rintro w' ⟨s0, s1, s2, s3, s4, s5, s6, s7, s8, s9⟩
         go_simp
         with_reducible rfl
        rotate_left
        ·simp only [Act.put, List.setIfInBounds_toArray, List.set_cons_zero, List.set_cons_succ, i64_w, i32_w]
         rfl
        refine one_ (i := 1) (N := some 29) #[true, true, true, false, false, true] rfl rfl (by kernel_rfl) (by decide) (fun K hK => ?_)
        refine goes_ Try.func72 (by kernel_rfl) rfl #[.slice Ao19 x3_2.length co19] (by rfl) rfl rfl (by (try simp only [List.map_toArray, List.map_cons, List.map_nil]); first | done | rfl | (simp only [List.length_drop, List.length_take]; rfl)) ?_
        with_reducible refine (impl_Fact_72.calls _ _ x3_2 t422 _ ?side1 ?side2 A13.out).mono ?_
        (case side1 => repeat (first | exact (Kd.R_reads' HO_3.out).2.2 | (with_reducible refine Kd.C_alloc ?_ _) | (with_reducible refine Kd.C_drewN ?_ _) | (with_reducible refine Kd.C_drew ?_)))
        (case side2 => exact (Kd.R_reads' HO_3.out).2.1)
        rintro e w20 ⟨v423, rfl, ho0, hb⟩
        refine ⟨_, rfl, ?_⟩
        replace HO_4 := Aside0.mk (Kd.N_elder' (by (with_reducible repeat (first | apply Kd.N_alloc | apply Kd.N_drewN | apply Kd.N_drew)); exact HO_4.out) (Kd.R_base ho0) hb)
        have HO424 := Aside0.mk (Kd.R_lower (Kd.R_new' (Kd.R_newM (M := fun k_ => (w.heap.size ≤ k_)) ho0 bls_ (fun k_ h_ => h_)) (Kd.R_lt (by (with_reducible repeat (first | apply Kd.R_alloc | apply Kd.R_drewN | apply Kd.R_drew)); exact HO_3.out))) bls_)
        replace HO_3 := Aside0.mk (Kd.R_elder' (by (with_reducible repeat (first | apply Kd.R_alloc | apply Kd.R_drewN | apply Kd.R_drew)); exact HO_3.out) (Kd.R_base ho0) hb)
        replace BK420 := bkb_ BK420 hb
        replace HB := hbs_ hb
        (try clear hb)
        (try clear hb2)
        (try clear hk)
        (try clear hi)
        (try clear ho0)
        obtain ⟨Ao21, co21, eo21⟩ := Kd.R_slice HO424.out
        (first | subst eo21 | (injection eo21 with f1_ f2_ f3_; have f4_ := f1_.symm; have f5_ := f3_.symm; clear f1_ f2_ f3_; subst f4_; subst f5_))
        refine hK.out _ _ ⟨(blk_cell BK420.out 0).trans rfl, (blk_cell BK420.out 1).trans rfl, (blk_cell BK420.out 2).trans rfl, (blk_cell BK420.out 3).trans rfl, (blk_cell BK420.out 4).trans rfl, (blk_cell BK420.out 5).trans rfl, (blk_cell BK420.out 6).trans rfl, (blk_cell BK420.out 7).trans rfl, (blk_cell BK420.out 8).trans rfl, (blk_cell BK420.out 9).trans rfl⟩ (fun hHeld => ?_)
        clear hK K
        refine norm_ (a' := ?_) ?_ ?_
        rotate_left
        ·show Act.put _ (some 29) _ = _
         simp only [Act.put, List.setIfInBounds_toArray, List.set_cons_zero, List.set_cons_succ, i64_w, i32_w]
         rfl
        refine one_ (i := 3) (N := some 31) #[true, true, true, true, false, true] rfl rfl (by kernel_rfl) (by decide) (fun K hK => ?_)
        refine goes_ Try.func71 (by kernel_rfl) rfl #[.slice Ao21 t422.length co21, .agg #[.int .i64 ((rd_T48 l0 x20_2).f0), .int .i64 ((rd_T48 l0 x20_2).f1.f0), .int .i64 ((rd_T48 l0 x20_2).f1.f1), .int .i64 ((rd_T48 l0 x20_2).f2), .int .i64 ((rd_T48 l0 x20_2).f3.f0), .int .i64 ((rd_T48 l0 x20_2).f3.f1), .int .i64 ((rd_T48 l0 x20_2).f4.f0), .int .i64 ((rd_T48 l0 x20_2).f4.f1), .int .i64 ((rd_T48 l0 x20_2).f5), .int .i64 ((rd_T48 l0 x20_2).f6)]] (by rfl) rfl rfl (by (try simp only [List.map_toArray, List.map_cons, List.map_nil]); first | done | rfl | (simp only [List.length_drop, List.length_take]; rfl)) ?_
        with_reducible refine (impl_derive.calls k2 _ _ t422 ((rd_T48 l0 x20_2).f0) ((rd_T48 l0 x20_2).f1.f0) ((rd_T48 l0 x20_2).f1.f1) ((rd_T48 l0 x20_2).f2) ((rd_T48 l0 x20_2).f3.f0) ((rd_T48 l0 x20_2).f3.f1) ((rd_T48 l0 x20_2).f4.f0) ((rd_T48 l0 x20_2).f4.f1) ((rd_T48 l0 x20_2).f5) ((rd_T48 l0 x20_2).f6) t425 _ ?side1 ?side2 A14.out).mono ?_
        (case side1 => repeat (first | exact (Kd.R_reads' HO424.out).2.2 | (with_reducible refine Kd.C_alloc ?_ _) | (with_reducible refine Kd.C_drewN ?_ _) | (with_reducible refine Kd.C_drew ?_)))
        (case side2 => exact (Kd.R_reads' HO424.out).2.1)
        rintro e w22 ⟨v426, rfl, ho0, hb⟩
        refine ⟨_, rfl, ?_⟩
        have HO427 := Aside0.mk (Kd.N_lower (Kd.N_mono (ok' := fun k_ => (w.heap.size ≤ k_) ∧ some k_ ≠ (.slice Ao19 x3_2.length co19 : Value).ownBlock ∧ some k_ ≠ (u4 : Value).ownBlock ∧ some k_ ≠ (.slice Ao21 t422.length co21 : Value).ownBlock ∧ k_ ≠ gb420) (Kd.S_N (Kd.S_bound ho0)) (fun k_ hk_ => ⟨(Nat.le_trans bls_ hk_.2.1), (Kd.fresh' (Kd.R_lt (by (with_reducible repeat (first | apply Kd.R_alloc | apply Kd.R_drewN | apply Kd.R_drew)); exact HO_3.out)) k_ hk_.2.1), (Kd.fresh' (Kd.N_lt (by (with_reducible repeat (first | apply Kd.N_alloc | apply Kd.N_drewN | apply Kd.N_drew)); exact HO_4.out)) k_ hk_.2.1), (Kd.fresh' (Kd.R_lt (by (with_reducible repeat (first | apply Kd.R_alloc | apply Kd.R_drewN | apply Kd.R_drew)); exact HO424.out)) k_ hk_.2.1), (Kd.freshB (g := gb420) (o := .cells #[.int .i64 ((rd_T48 l0 x20_2).f0), .int .i64 ((rd_T48 l0 x20_2).f1.f0), .int .i64 ((rd_T48 l0 x20_2).f1.f1), .int .i64 ((rd_T48 l0 x20_2).f2), .int .i64 ((rd_T48 l0 x20_2).f3.f0), .int .i64 ((rd_T48 l0 x20_2).f3.f1), .int .i64 ((rd_T48 l0 x20_2).f4.f0), .int .i64 ((rd_T48 l0 x20_2).f4.f1), .int .i64 ((rd_T48 l0 x20_2).f5), .int .i64 ((rd_T48 l0 x20_2).f6)] 48 (0, 0)) (bk_ BK420) k_ hk_.2.1)⟩)) bls_)
        replace HO_3 := hob_ HO_3 hb
        replace HO_4 := Aside0.mk (Kd.N_elder' (by (with_reducible repeat (first | apply Kd.N_alloc | apply Kd.N_drewN | apply Kd.N_drew)); exact HO_4.out) (Kd.S_base ho0) hb)
        replace HO424 := hob_ HO424 hb
        replace BK420 := bkb_ BK420 hb
        replace HB := hbs_ hb
        (try clear hb)
        (try clear hb2)
        (try clear hk)
        (try clear hi)
        (try clear ho0)
        obtain ⟨Ao23, co23, eo23⟩ := Kd.N_slice HO427.out
        (first | subst eo23 | (injection eo23 with f1_ f2_ f3_; have f4_ := f1_.symm; have f5_ := f3_.symm; clear f1_ f2_ f3_; subst f4_; subst f5_))
        refine hK.out _ _ ⟨(blk_cell BK420.out 0).trans rfl, (blk_cell BK420.out 1).trans rfl, (blk_cell BK420.out 2).trans rfl, (blk_cell BK420.out 3).trans rfl, (blk_cell BK420.out 4).trans rfl, (blk_cell BK420.out 5).trans rfl, (blk_cell BK420.out 6).trans rfl, (blk_cell BK420.out 7).trans rfl, (blk_cell BK420.out 8).trans rfl, (blk_cell BK420.out 9).trans rfl⟩ (fun hHeld => ?_)
        clear hK K
        refine norm_ (a' := ?_) ?_ ?_
        rotate_left
        ·show Act.put _ (some 31) _ = _
         simp only [Act.put, List.setIfInBounds_toArray, List.set_cons_zero, List.set_cons_succ, i64_w, i32_w]
         rfl
        refine pure_ (i := 4) (N := some 32) (v := ?_) (a' := ?_) #[true, true, true, true, true, true] rfl rfl (by kernel_rfl) (fun _ _ _ h => h) (Or.inl ⟨by rfl, ?_⟩) ?_ ?_
        rotate_left
        ·intro w'
         go_simp
         with_reducible rfl
        rotate_left
        ·simp only [Act.put, List.setIfInBounds_toArray, List.set_cons_zero, List.set_cons_succ, i64_w, i32_w]
         rfl
        refine done_ (by kernel_rfl) ?_
        try go_wp2
        go_loopg [3, 4, 33] k2 (fun kq v3 v4 v33 w' => ∃ (x3_3 : List (S54)) (x4_3 : List (S74)) (x33_3 : Int), v33 = .int .i64 x33_3 ∧ Aside0 (impl_findFacts.l2 kq l0 x3_3 x4_3 (x3_1.length : Int) x20_2 l0 (l0.length : Int) x20_2 t425 (t425.length : Int) x33_3 = some r) ∧ Aside0 (kq ≤ k2) ∧ Aside0 (Kd.R k54 54 w' w.heap.size (fun k_ => (w.heap.size ≤ k_)) v3 x3_3) ∧ Aside0 (Kd.N k74 74 w' w.heap.size (fun k_ => (w.heap.size ≤ k_) ∧ some k_ ≠ (v3 : Value).ownBlock ∧ some k_ ≠ ((.slice Ao23 t425.length co23) : Value).ownBlock ∧ k_ ≠ gb420) v4 x4_3) ∧ Aside0 (Kd.N k97 97 w' w.heap.size (fun k_ => (w.heap.size ≤ k_) ∧ some k_ ≠ (v3 : Value).ownBlock ∧ some k_ ≠ (v4 : Value).ownBlock ∧ k_ ≠ gb420) (.slice Ao23 t425.length co23) t425) ∧ Aside0 (w'.heap[gb420]? = some (.cells #[.int .i64 ((rd_T48 l0 x20_2).f0), .int .i64 ((rd_T48 l0 x20_2).f1.f0), .int .i64 ((rd_T48 l0 x20_2).f1.f1), .int .i64 ((rd_T48 l0 x20_2).f2), .int .i64 ((rd_T48 l0 x20_2).f3.f0), .int .i64 ((rd_T48 l0 x20_2).f3.f1), .int .i64 ((rd_T48 l0 x20_2).f4.f0), .int .i64 ((rd_T48 l0 x20_2).f4.f1), .int .i64 ((rd_T48 l0 x20_2).f5), .int .i64 ((rd_T48 l0 x20_2).f6)] 48 (0, 0))) ∧ Aside0 (Below w.heap.size w w'))
        case atStart => exact ⟨(x3_2), (x4_2), (0), rf_, H', ⟨Nat.le_refl _⟩, ⟨by (with_reducible repeat (first | apply Kd.R_alloc | apply Kd.R_drewN | apply Kd.R_drew)); exact Kd.R_mono HO_3.out (fun _ hk => hk.1)⟩, ⟨by (with_reducible repeat (first | apply Kd.N_alloc | apply Kd.N_drewN | apply Kd.N_drew)); exact Kd.N_mono HO_4.out (fun _ hk => ⟨hk.1.1.1.1, ⟨hk.1.1.1.2, ⟨hk.2, hk.1.1.2⟩⟩⟩)⟩, ⟨by (with_reducible repeat (first | apply Kd.N_alloc | apply Kd.N_drewN | apply Kd.N_drew)); exact Kd.N_mono HO427.out (fun _ hk => ⟨hk.1, ⟨hk.2.1, ⟨hk.2.2.1, hk.2.2.2.2⟩⟩⟩)⟩, ⟨bk_ BK420⟩, ⟨bl_⟩⟩
        case round =>
         clear H'
         try clear c1
         try clear c2
         try clear p2
         try clear p4
         try clear q4
         try clear hx4
         try clear c5
         try clear c6
         try clear c6b0
         try clear c7
         try clear c8
         try clear c8b0
         try clear c9
         try clear c9b0
         try clear c10
         try clear c10b0
         try clear c12
         try clear hcz16
         try clear hfz16
         try clear hx419_0
         try clear hx419_1
         try clear hx419_2
         try clear hx419_3
         try clear hx419_4
         try clear hx419_5
         try clear hx419_6
         try clear hx419_7
         try clear hx419_8
         try clear hx419_9
         try clear p2
         try clear p419
         try clear q419
         obtain ⟨x3_3, x4_3, x33_3, rfl, HA, HK3, HO_3, HO_4, HO_31, BK420, HB⟩ := hrel
         cases gk with
         | zero => exact absurd HA.out (by simp [impl_findFacts.l2])
         | succ k3 =>
          have H := HA.out
          clear HA
          simp only [impl_findFacts.l2] at H
          by_cases c24 : x33_3 < (t425.length : Int)
          ·rw [if_pos c24] at H
           have c24b0 : decide (x33_3 < (t425.length : Int)) = true := decide_eq_true c24
           clear c24
           obtain ⟨c25b0, H⟩ := ifd_ H
           obtain ⟨c26b0, H⟩ := ifd_ H
           obtain ⟨t430, A27, H⟩ := bindE_ H
           by_cases c28 : t430 = true
           ·subst c28
            replace H := ite_t_ H
            have H' := Aside0.mk H
            clear H
            have p428 : 0 ≤ (x33_3 : Int) := od_
            have q428 : x33_3 < (t425.length : Int) := od_
            obtain ⟨ad428, A428_3, c428_3, e428, hx428_0, hx428_1, hx428_2, hx428_3, hl428_3, hi428_3⟩ := at_T97 (Kd.N_reads' HO_31.out).2.2 x33_3 p428 q428
            cases e428
            obtain ⟨ce428, hce428, hMe428, hcc428⟩ := Kd.N_get HO_31.out z97 x33_3 p428 (by first | exact q428 | exact od_ | (have e_ := (Kd.N_reads' HO_31.out).1; omega))
            obtain ⟨ua428_3, uc428_3, rfl, ul428_3, ge428_3⟩ := k97_openF hMe428
            have hv428_3 := hcc428 3 _ rfl
            rw [add_field _ _ 3 (by omega)] at hv428_3
            replace hv428_3 := Option.some.inj (hv428_3.symm.trans hx428_3)
            injection hv428_3 with hva_ hvn_ hvc_
            rw [hva_] at ge428_3
            rw [hvc_] at ul428_3
            have HL428_3 := Aside0.mk (show Kd.V (Kd.int .i64) 3 _ w.heap.size _ _ ((rd_T97 t425 x33_3).f1) from Kd.V_mk ul428_3 ge428_3)
            clear hva_ hvn_ hvc_ ge428_3 ul428_3
            clear hcc428 hce428
            have HR428_3 := Aside0.mk hi428_3
            have HC428_3 := Aside0.mk hl428_3
            clear hi428_3 hl428_3
            replace p428 := eq_true p428
            replace q428 := eq_true q428
            go_wp2_with (first | ((with_reducible refine gate_dst (N := 9) rfl ?_); refine box_event ?hg (N := 9) ?hd (cs := #[.int .i64 0, .int .i64 0, .int .i64 0, .slice none 0 0]) (t := 97) ?hr ?_; (case hd => rfl); (case hg => rfl); (case hr => first | (go_simp; done) | (go_simp; rfl)); intro gb429 hg w29 hbox hb; replace HO_3 := hob_ HO_3 hb; replace HO_4 := Aside0.mk (Kd.N_below (Kd.N_elderB (by (with_reducible repeat (first | apply Kd.N_alloc | apply Kd.N_drewN | apply Kd.N_drew)); exact HO_4.out) gb429 (Nat.le_of_eq hg.symm)) hb); replace HO_31 := Aside0.mk (Kd.N_below (Kd.N_elderB (by (with_reducible repeat (first | apply Kd.N_alloc | apply Kd.N_drewN | apply Kd.N_drew)); exact HO_31.out) gb429 (Nat.le_of_eq hg.symm)) hb); replace HL428_3 := Aside0.mk (Kd.V_below (Kd.V_elderB (by (with_reducible repeat (first | apply Kd.V_alloc | apply Kd.V_drewN | apply Kd.V_drew)); exact HL428_3.out) gb429 (Nat.le_of_eq hg.symm)) hb); replace HR428_3 := Aside0.mk (Kd.C_below (by repeat (first | (with_reducible exact HR428_3.out) | (with_reducible refine Kd.C_alloc ?_ _) | (with_reducible refine Kd.C_drewN ?_ _) | (with_reducible refine Kd.C_drew ?_) | exact HR428_3.out)) hb); have BK429 := Aside0.mk (hbox); have GW429 := gs_ hg; have GE429 := gs_ hg; replace HB := hbs_ hb; have NB420_429 := nl_ hg BK420; have NB429_420 := nr_ hg BK420; replace BK420 := bkb_ BK420 hb; clear hb hbox hg; have hnb30 := NB429_420.out; have hnc30 := NB420_429.out; have hcz31 := blk_cell BK429.out; have hfz31 := blk_frozen BK429.out; obtain ⟨Ao32, co32, eo32⟩ := Kd.R_slice HO_3.out; subst eo32) | ((with_reducible refine gate_callee (f := 39) rfl ?_); refine goesC_ (some 40) Try.func39 #[.slice Ao32 x3_3.length co32, .agg #[.int .i64 ((rd_T97 t425 x33_3).f0.f0.f0), .int .i64 ((rd_T97 t425 x33_3).f0.f0.f1), .int .i64 ((rd_T97 t425 x33_3).f0.f1)]] ?_; (with_reducible refine (impl_Fact_39.calls k3 _ _ x3_3 ((rd_T97 t425 x33_3).f0.f0.f0) ((rd_T97 t425 x33_3).f0.f0.f1) ((rd_T97 t425 x33_3).f0.f1) true _ ?side1 ?side2 A27.out).mono ?_); (case side1 => refine (Kd.R_reads' (e := 54) (base := w.heap.size) (ok := fun k_ => (w.heap.size ≤ k_)) (n := x3_3.length) (c := co32) ?_).2.2; exact (by (with_reducible repeat (first | apply Kd.R_alloc | apply Kd.R_drewN | apply Kd.R_drew)); exact (Kd.R_mono (Kd.R_far (p := ⟨gb429, 3, none⟩) (Kd.R_far (p := ⟨gb429, 2, none⟩) (Kd.R_far (p := ⟨gb429, 1, none⟩) (Kd.R_far (p := ⟨gb429, 0, none⟩) (Kd.R_types HO_3.out BK429.out (by decide)) (fun _ hk => hk.2) (.int .i64 ((rd_T97 t425 x33_3).f0.f0.f0))) (fun _ hk => hk.2) (.int .i64 ((rd_T97 t425 x33_3).f0.f0.f1))) (fun _ hk => hk.2) (.int .i64 ((rd_T97 t425 x33_3).f0.f1))) (fun _ hk => hk.2) (.slice A428_3 ((rd_T97 t425 x33_3).f1).length c428_3)) (fun _ h_ => h_.1)))); (case side2 => exact (Kd.R_reads' HO_3.out).2.1); rintro e w33 ⟨rfl, hb⟩; refine ⟨_, rfl, ?_⟩; replace HO_3 := Aside0.mk (Kd.R_below (by (with_reducible repeat (first | apply Kd.R_alloc | apply Kd.R_drewN | apply Kd.R_drew)); exact (Kd.R_mono (Kd.R_far (p := ⟨gb429, 3, none⟩) (Kd.R_far (p := ⟨gb429, 2, none⟩) (Kd.R_far (p := ⟨gb429, 1, none⟩) (Kd.R_far (p := ⟨gb429, 0, none⟩) (Kd.R_types HO_3.out BK429.out (by decide)) (fun _ hk => hk.2) (.int .i64 ((rd_T97 t425 x33_3).f0.f0.f0))) (fun _ hk => hk.2) (.int .i64 ((rd_T97 t425 x33_3).f0.f0.f1))) (fun _ hk => hk.2) (.int .i64 ((rd_T97 t425 x33_3).f0.f1))) (fun _ hk => hk.2) (.slice A428_3 ((rd_T97 t425 x33_3).f1).length c428_3)) (fun _ h_ => h_.1))) hb); replace HO_4 := Aside0.mk (Kd.N_below (by (with_reducible repeat (first | apply Kd.N_alloc | apply Kd.N_drewN | apply Kd.N_drew)); exact (Kd.N_mono (Kd.N_far (p := ⟨gb429, 3, none⟩) (Kd.N_far (p := ⟨gb429, 2, none⟩) (Kd.N_far (p := ⟨gb429, 1, none⟩) (Kd.N_far (p := ⟨gb429, 0, none⟩) (Kd.N_mono HO_4.out (fun k_ hk => (⟨hk, hk.2⟩ : _ ∧ k_ ≠ gb429))) (fun _ hk => hk.2) (.int .i64 ((rd_T97 t425 x33_3).f0.f0.f0))) (fun _ hk => hk.2) (.int .i64 ((rd_T97 t425 x33_3).f0.f0.f1))) (fun _ hk => hk.2) (.int .i64 ((rd_T97 t425 x33_3).f0.f1))) (fun _ hk => hk.2) (.slice A428_3 ((rd_T97 t425 x33_3).f1).length c428_3)) (fun _ h_ => h_.1))) hb); replace HO_31 := Aside0.mk (Kd.N_below (by (with_reducible repeat (first | apply Kd.N_alloc | apply Kd.N_drewN | apply Kd.N_drew)); exact (Kd.N_mono (Kd.N_far (p := ⟨gb429, 3, none⟩) (Kd.N_far (p := ⟨gb429, 2, none⟩) (Kd.N_far (p := ⟨gb429, 1, none⟩) (Kd.N_far (p := ⟨gb429, 0, none⟩) (Kd.N_mono HO_31.out (fun k_ hk => (⟨hk, hk.2⟩ : _ ∧ k_ ≠ gb429))) (fun _ hk => hk.2) (.int .i64 ((rd_T97 t425 x33_3).f0.f0.f0))) (fun _ hk => hk.2) (.int .i64 ((rd_T97 t425 x33_3).f0.f0.f1))) (fun _ hk => hk.2) (.int .i64 ((rd_T97 t425 x33_3).f0.f1))) (fun _ hk => hk.2) (.slice A428_3 ((rd_T97 t425 x33_3).f1).length c428_3)) (fun _ h_ => h_.1))) hb); replace BK420 := Aside0.mk (blk_below (g := gb420) (o := .cells #[.int .i64 ((rd_T48 l0 x20_2).f0), .int .i64 ((rd_T48 l0 x20_2).f1.f0), .int .i64 ((rd_T48 l0 x20_2).f1.f1), .int .i64 ((rd_T48 l0 x20_2).f2), .int .i64 ((rd_T48 l0 x20_2).f3.f0), .int .i64 ((rd_T48 l0 x20_2).f3.f1), .int .i64 ((rd_T48 l0 x20_2).f4.f0), .int .i64 ((rd_T48 l0 x20_2).f4.f1), .int .i64 ((rd_T48 l0 x20_2).f5), .int .i64 ((rd_T48 l0 x20_2).f6)] 48 (0, 0)) (bk_ BK420) hb); replace HR428_3 := Aside0.mk (Kd.C_below ((Kd.V_reads' (by (with_reducible repeat (first | apply Kd.V_alloc | apply Kd.V_drewN | apply Kd.V_drew)); exact (Kd.V_mono (Kd.V_far (p := ⟨gb429, 3, none⟩) (Kd.V_far (p := ⟨gb429, 2, none⟩) (Kd.V_far (p := ⟨gb429, 1, none⟩) (Kd.V_far (p := ⟨gb429, 0, none⟩) (Kd.V_mono HL428_3.out (fun k_ hk => (⟨hk, hk.2⟩ : _ ∧ k_ ≠ gb429))) (fun _ hk => hk.2) (.int .i64 ((rd_T97 t425 x33_3).f0.f0.f0))) (fun _ hk => hk.2) (.int .i64 ((rd_T97 t425 x33_3).f0.f0.f1))) (fun _ hk => hk.2) (.int .i64 ((rd_T97 t425 x33_3).f0.f1))) (fun _ hk => hk.2) (.slice A428_3 ((rd_T97 t425 x33_3).f1).length c428_3)) (fun _ h_ => h_.1)))).2.2) hb); replace HL428_3 := Aside0.mk (Kd.V_below (by (with_reducible repeat (first | apply Kd.V_alloc | apply Kd.V_drewN | apply Kd.V_drew)); exact (Kd.V_mono (Kd.V_far (p := ⟨gb429, 3, none⟩) (Kd.V_far (p := ⟨gb429, 2, none⟩) (Kd.V_far (p := ⟨gb429, 1, none⟩) (Kd.V_far (p := ⟨gb429, 0, none⟩) (Kd.V_mono HL428_3.out (fun k_ hk => (⟨hk, hk.2⟩ : _ ∧ k_ ≠ gb429))) (fun _ hk => hk.2) (.int .i64 ((rd_T97 t425 x33_3).f0.f0.f0))) (fun _ hk => hk.2) (.int .i64 ((rd_T97 t425 x33_3).f0.f0.f1))) (fun _ hk => hk.2) (.int .i64 ((rd_T97 t425 x33_3).f0.f1))) (fun _ hk => hk.2) (.slice A428_3 ((rd_T97 t425 x33_3).f1).length c428_3)) (fun _ h_ => h_.1))) hb); replace BK429 := Aside0.mk (blk_below (g := gb429) (o := .cells #[.int .i64 ((rd_T97 t425 x33_3).f0.f0.f0), .int .i64 ((rd_T97 t425 x33_3).f0.f0.f1), .int .i64 ((rd_T97 t425 x33_3).f0.f1), .slice A428_3 ((rd_T97 t425 x33_3).f1).length c428_3] 97 (0, 0)) (bk_ BK429) hb); replace HB := hbs_ hb; clear hb))
            go_roundg k3
            case measure => have := HK1.out; have := HK2.out; have := HK3.out; omega
            case rel => exact ⟨(x3_3), (x4_3), (wrap64 (x33_3 + 1)), rf_, H', ⟨by have := HK1.out; have := HK2.out; have := HK3.out; omega⟩, ⟨by (with_reducible repeat (first | apply Kd.R_alloc | apply Kd.R_drewN | apply Kd.R_drew)); exact HO_3.out⟩, ⟨by (with_reducible repeat (first | apply Kd.N_alloc | apply Kd.N_drewN | apply Kd.N_drew)); exact Kd.N_mono HO_4.out (fun _ hk => ⟨hk.1.1, ⟨hk.1.2.1, ⟨hk.1.2.2.1, hk.1.2.2.2⟩⟩⟩)⟩, ⟨by (with_reducible repeat (first | apply Kd.N_alloc | apply Kd.N_drewN | apply Kd.N_drew)); exact Kd.N_mono HO_31.out (fun _ hk => ⟨hk.1.1, ⟨hk.1.2.1, ⟨hk.1.2.2.1, hk.1.2.2.2⟩⟩⟩)⟩, ⟨bk_ BK420⟩, ⟨bl_⟩⟩
           ·replace c28 := Bool.eq_false_iff.mpr c28
            subst c28
            replace H := ite_f_ H
            obtain ⟨c34, H⟩ := ifn_ H
            have LMc34 := Aside0.mk c34
            clear c34
            obtain ⟨y431, hy431⟩ : ∃ y_ : List (S54), y_ = (x3_3 ++ [(⟨(⟨(rd_T97 t425 x33_3).f0.f0.f0, (rd_T97 t425 x33_3).f0.f0.f1⟩ : S26), (rd_T97 t425 x33_3).f0.f1⟩ : S54)]) := ⟨_, rfl⟩
            replace H : (if x4_3.length < 2513169434916 then (impl_findFacts.l2 k3 l0 y431 (x4_3 ++ [(⟨(⟨(⟨(rd_T97 t425 x33_3).f0.f0.f0, (rd_T97 t425 x33_3).f0.f0.f1⟩ : S26), (rd_T97 t425 x33_3).f0.f1⟩ : S54), x20_2, (rd_T97 t425 x33_3).f1⟩ : S74)]) (x3_1.length : Int) x20_2 l0 (l0.length : Int) x20_2 t425 (t425.length : Int) (wrap64 (x33_3 + 1))) else (none)) = some r := by first | (rw [hy431]; with_reducible exact H) | (have H2_ := (Option.bind_some _ _).symm.trans H; rw [hy431]; with_reducible exact H2_) | (have H2_ := (Option.bind_some _ _).symm.trans H; with_reducible exact H2_) | with_reducible exact H | (rw [hy431]; exact H) | exact H
            have Ny431 := Aside0.mk hy431
            clear hy431
            obtain ⟨c35, H⟩ := ifn_ H
            have LMc35 := Aside0.mk c35
            clear c35
            obtain ⟨y434, hy434⟩ : ∃ y_ : List (S74), y_ = (x4_3 ++ [(⟨(⟨(⟨(rd_T97 t425 x33_3).f0.f0.f0, (rd_T97 t425 x33_3).f0.f0.f1⟩ : S26), (rd_T97 t425 x33_3).f0.f1⟩ : S54), x20_2, (rd_T97 t425 x33_3).f1⟩ : S74)]) := ⟨_, rfl⟩
            replace H : (impl_findFacts.l2 k3 l0 y431 y434 (x3_1.length : Int) x20_2 l0 (l0.length : Int) x20_2 t425 (t425.length : Int) (wrap64 (x33_3 + 1))) = some r := by first | (rw [hy434]; with_reducible exact H) | (have H2_ := (Option.bind_some _ _).symm.trans H; rw [hy434]; with_reducible exact H2_) | (have H2_ := (Option.bind_some _ _).symm.trans H; with_reducible exact H2_) | with_reducible exact H | (rw [hy434]; exact H) | exact H
            have Ny434 := Aside0.mk hy434
            clear hy434
            have H' := Aside0.mk H
            clear H
            have p428 : 0 ≤ (x33_3 : Int) := od_
            have q428 : x33_3 < (t425.length : Int) := od_
            obtain ⟨ad428, A428_3, c428_3, e428, hx428_0, hx428_1, hx428_2, hx428_3, hl428_3, hi428_3⟩ := at_T97 (Kd.N_reads' HO_31.out).2.2 x33_3 p428 q428
            cases e428
            obtain ⟨ce428, hce428, hMe428, hcc428⟩ := Kd.N_get HO_31.out z97 x33_3 p428 (by first | exact q428 | exact od_ | (have e_ := (Kd.N_reads' HO_31.out).1; omega))
            obtain ⟨ua428_3, uc428_3, rfl, ul428_3, ge428_3⟩ := k97_openF hMe428
            have hv428_3 := hcc428 3 _ rfl
            rw [add_field _ _ 3 (by omega)] at hv428_3
            replace hv428_3 := Option.some.inj (hv428_3.symm.trans hx428_3)
            injection hv428_3 with hva_ hvn_ hvc_
            rw [hva_] at ge428_3
            rw [hvc_] at ul428_3
            have HL428_3 := Aside0.mk (show Kd.V (Kd.int .i64) 3 _ w.heap.size _ _ ((rd_T97 t425 x33_3).f1) from Kd.V_mk ul428_3 ge428_3)
            clear hva_ hvn_ hvc_ ge428_3 ul428_3
            clear hcc428 hce428
            have HR428_3 := Aside0.mk hi428_3
            have HC428_3 := Aside0.mk hl428_3
            clear hi428_3 hl428_3
            replace p428 := eq_true p428
            replace q428 := eq_true q428
            go_wp2_with (first | ((with_reducible refine gate_dst (N := 9) rfl ?_); refine box_event ?hg (N := 9) ?hd (cs := #[.int .i64 0, .int .i64 0, .int .i64 0, .slice none 0 0]) (t := 97) ?hr ?_; (case hd => rfl); (case hg => rfl); (case hr => first | (go_simp; done) | (go_simp; rfl)); intro gb429 hg w36 hbox hb; replace HO_3 := hob_ HO_3 hb; replace HO_4 := Aside0.mk (Kd.N_below (Kd.N_elderB (by (with_reducible repeat (first | apply Kd.N_alloc | apply Kd.N_drewN | apply Kd.N_drew)); exact HO_4.out) gb429 (Nat.le_of_eq hg.symm)) hb); replace HO_31 := Aside0.mk (Kd.N_below (Kd.N_elderB (by (with_reducible repeat (first | apply Kd.N_alloc | apply Kd.N_drewN | apply Kd.N_drew)); exact HO_31.out) gb429 (Nat.le_of_eq hg.symm)) hb); replace HL428_3 := Aside0.mk (Kd.V_below (Kd.V_elderB (by (with_reducible repeat (first | apply Kd.V_alloc | apply Kd.V_drewN | apply Kd.V_drew)); exact HL428_3.out) gb429 (Nat.le_of_eq hg.symm)) hb); replace HR428_3 := Aside0.mk (Kd.C_below (by repeat (first | (with_reducible exact HR428_3.out) | (with_reducible refine Kd.C_alloc ?_ _) | (with_reducible refine Kd.C_drewN ?_ _) | (with_reducible refine Kd.C_drew ?_) | exact HR428_3.out)) hb); have BK429 := Aside0.mk (hbox); have GW429 := gs_ hg; have GE429 := gs_ hg; replace HB := hbs_ hb; have NB420_429 := nl_ hg BK420; have NB429_420 := nr_ hg BK420; replace BK420 := bkb_ BK420 hb; clear hb hbox hg; have hnb37 := NB429_420.out; have hnc37 := NB420_429.out; have hcz38 := blk_cell BK429.out; have hfz38 := blk_frozen BK429.out; obtain ⟨Ao39, co39, eo39⟩ := Kd.R_slice HO_3.out; subst eo39) | ((with_reducible refine gate_callee (f := 39) rfl ?_); refine goesC_ (some 40) Try.func39 #[.slice Ao39 x3_3.length co39, .agg #[.int .i64 ((rd_T97 t425 x33_3).f0.f0.f0), .int .i64 ((rd_T97 t425 x33_3).f0.f0.f1), .int .i64 ((rd_T97 t425 x33_3).f0.f1)]] ?_; (with_reducible refine (impl_Fact_39.calls k3 _ _ x3_3 ((rd_T97 t425 x33_3).f0.f0.f0) ((rd_T97 t425 x33_3).f0.f0.f1) ((rd_T97 t425 x33_3).f0.f1) false _ ?side1 ?side2 A27.out).mono ?_); (case side1 => refine (Kd.R_reads' (e := 54) (base := w.heap.size) (ok := fun k_ => (w.heap.size ≤ k_)) (n := x3_3.length) (c := co39) ?_).2.2; exact (by (with_reducible repeat (first | apply Kd.R_alloc | apply Kd.R_drewN | apply Kd.R_drew)); exact (Kd.R_mono (Kd.R_far (p := ⟨gb429, 3, none⟩) (Kd.R_far (p := ⟨gb429, 2, none⟩) (Kd.R_far (p := ⟨gb429, 1, none⟩) (Kd.R_far (p := ⟨gb429, 0, none⟩) (Kd.R_types HO_3.out BK429.out (by decide)) (fun _ hk => hk.2) (.int .i64 ((rd_T97 t425 x33_3).f0.f0.f0))) (fun _ hk => hk.2) (.int .i64 ((rd_T97 t425 x33_3).f0.f0.f1))) (fun _ hk => hk.2) (.int .i64 ((rd_T97 t425 x33_3).f0.f1))) (fun _ hk => hk.2) (.slice A428_3 ((rd_T97 t425 x33_3).f1).length c428_3)) (fun _ h_ => h_.1)))); (case side2 => exact (Kd.R_reads' HO_3.out).2.1); rintro e w40 ⟨rfl, hb⟩; refine ⟨_, rfl, ?_⟩; replace HO_3 := Aside0.mk (Kd.R_below (by (with_reducible repeat (first | apply Kd.R_alloc | apply Kd.R_drewN | apply Kd.R_drew)); exact (Kd.R_mono (Kd.R_far (p := ⟨gb429, 3, none⟩) (Kd.R_far (p := ⟨gb429, 2, none⟩) (Kd.R_far (p := ⟨gb429, 1, none⟩) (Kd.R_far (p := ⟨gb429, 0, none⟩) (Kd.R_types HO_3.out BK429.out (by decide)) (fun _ hk => hk.2) (.int .i64 ((rd_T97 t425 x33_3).f0.f0.f0))) (fun _ hk => hk.2) (.int .i64 ((rd_T97 t425 x33_3).f0.f0.f1))) (fun _ hk => hk.2) (.int .i64 ((rd_T97 t425 x33_3).f0.f1))) (fun _ hk => hk.2) (.slice A428_3 ((rd_T97 t425 x33_3).f1).length c428_3)) (fun _ h_ => h_.1))) hb); replace HO_4 := Aside0.mk (Kd.N_below (by (with_reducible repeat (first | apply Kd.N_alloc | apply Kd.N_drewN | apply Kd.N_drew)); exact (Kd.N_mono (Kd.N_far (p := ⟨gb429, 3, none⟩) (Kd.N_far (p := ⟨gb429, 2, none⟩) (Kd.N_far (p := ⟨gb429, 1, none⟩) (Kd.N_far (p := ⟨gb429, 0, none⟩) (Kd.N_mono HO_4.out (fun k_ hk => (⟨hk, hk.2⟩ : _ ∧ k_ ≠ gb429))) (fun _ hk => hk.2) (.int .i64 ((rd_T97 t425 x33_3).f0.f0.f0))) (fun _ hk => hk.2) (.int .i64 ((rd_T97 t425 x33_3).f0.f0.f1))) (fun _ hk => hk.2) (.int .i64 ((rd_T97 t425 x33_3).f0.f1))) (fun _ hk => hk.2) (.slice A428_3 ((rd_T97 t425 x33_3).f1).length c428_3)) (fun _ h_ => h_.1))) hb); replace HO_31 := Aside0.mk (Kd.N_below (by (with_reducible repeat (first | apply Kd.N_alloc | apply Kd.N_drewN | apply Kd.N_drew)); exact (Kd.N_mono (Kd.N_far (p := ⟨gb429, 3, none⟩) (Kd.N_far (p := ⟨gb429, 2, none⟩) (Kd.N_far (p := ⟨gb429, 1, none⟩) (Kd.N_far (p := ⟨gb429, 0, none⟩) (Kd.N_mono HO_31.out (fun k_ hk => (⟨hk, hk.2⟩ : _ ∧ k_ ≠ gb429))) (fun _ hk => hk.2) (.int .i64 ((rd_T97 t425 x33_3).f0.f0.f0))) (fun _ hk => hk.2) (.int .i64 ((rd_T97 t425 x33_3).f0.f0.f1))) (fun _ hk => hk.2) (.int .i64 ((rd_T97 t425 x33_3).f0.f1))) (fun _ hk => hk.2) (.slice A428_3 ((rd_T97 t425 x33_3).f1).length c428_3)) (fun _ h_ => h_.1))) hb); replace BK420 := Aside0.mk (blk_below (g := gb420) (o := .cells #[.int .i64 ((rd_T48 l0 x20_2).f0), .int .i64 ((rd_T48 l0 x20_2).f1.f0), .int .i64 ((rd_T48 l0 x20_2).f1.f1), .int .i64 ((rd_T48 l0 x20_2).f2), .int .i64 ((rd_T48 l0 x20_2).f3.f0), .int .i64 ((rd_T48 l0 x20_2).f3.f1), .int .i64 ((rd_T48 l0 x20_2).f4.f0), .int .i64 ((rd_T48 l0 x20_2).f4.f1), .int .i64 ((rd_T48 l0 x20_2).f5), .int .i64 ((rd_T48 l0 x20_2).f6)] 48 (0, 0)) (bk_ BK420) hb); replace HR428_3 := Aside0.mk (Kd.C_below ((Kd.V_reads' (by (with_reducible repeat (first | apply Kd.V_alloc | apply Kd.V_drewN | apply Kd.V_drew)); exact (Kd.V_mono (Kd.V_far (p := ⟨gb429, 3, none⟩) (Kd.V_far (p := ⟨gb429, 2, none⟩) (Kd.V_far (p := ⟨gb429, 1, none⟩) (Kd.V_far (p := ⟨gb429, 0, none⟩) (Kd.V_mono HL428_3.out (fun k_ hk => (⟨hk, hk.2⟩ : _ ∧ k_ ≠ gb429))) (fun _ hk => hk.2) (.int .i64 ((rd_T97 t425 x33_3).f0.f0.f0))) (fun _ hk => hk.2) (.int .i64 ((rd_T97 t425 x33_3).f0.f0.f1))) (fun _ hk => hk.2) (.int .i64 ((rd_T97 t425 x33_3).f0.f1))) (fun _ hk => hk.2) (.slice A428_3 ((rd_T97 t425 x33_3).f1).length c428_3)) (fun _ h_ => h_.1)))).2.2) hb); replace HL428_3 := Aside0.mk (Kd.V_below (by (with_reducible repeat (first | apply Kd.V_alloc | apply Kd.V_drewN | apply Kd.V_drew)); exact (Kd.V_mono (Kd.V_far (p := ⟨gb429, 3, none⟩) (Kd.V_far (p := ⟨gb429, 2, none⟩) (Kd.V_far (p := ⟨gb429, 1, none⟩) (Kd.V_far (p := ⟨gb429, 0, none⟩) (Kd.V_mono HL428_3.out (fun k_ hk => (⟨hk, hk.2⟩ : _ ∧ k_ ≠ gb429))) (fun _ hk => hk.2) (.int .i64 ((rd_T97 t425 x33_3).f0.f0.f0))) (fun _ hk => hk.2) (.int .i64 ((rd_T97 t425 x33_3).f0.f0.f1))) (fun _ hk => hk.2) (.int .i64 ((rd_T97 t425 x33_3).f0.f1))) (fun _ hk => hk.2) (.slice A428_3 ((rd_T97 t425 x33_3).f1).length c428_3)) (fun _ h_ => h_.1))) hb); replace BK429 := Aside0.mk (blk_below (g := gb429) (o := .cells #[.int .i64 ((rd_T97 t425 x33_3).f0.f0.f0), .int .i64 ((rd_T97 t425 x33_3).f0.f0.f1), .int .i64 ((rd_T97 t425 x33_3).f0.f1), .slice A428_3 ((rd_T97 t425 x33_3).f1).length c428_3] 97 (0, 0)) (bk_ BK429) hb); replace HB := hbs_ hb; clear hb; have hcz41 := blk_cell BK429.out; have hfz41 := blk_frozen BK429.out) | ((with_reducible refine gate_builtin (b := .append) (xs := #[.tmp 42, .tmp 45]) rfl ?_); at_builtin; refine Kd.R_append k54 (w0 := w) w.heap.size rfl (.tmp 42) (.tmp 45) 38 54 (.agg #[(.int .i64 0), (.int .i64 0), (.int .i64 0)]) 24 rfl Try.underlying38 info54 rfl (by decide) (by omega) (.slice Ao39 x3_3.length co39) x3_3 (⟨(⟨(rd_T97 t425 x33_3).f0.f0.f0, (rd_T97 t425 x33_3).f0.f0.f1⟩ : S26), (rd_T97 t425 x33_3).f0.f1⟩ : S54) [.int .i64 ((rd_T97 t425 x33_3).f0.f0.f0), .int .i64 ((rd_T97 t425 x33_3).f0.f0.f1), .int .i64 ((rd_T97 t425 x33_3).f0.f1)] (fun k_ => (w.heap.size ≤ k_)) (fun _ => False) rfl rfl ?aP (fun _ hk => hk.elim) ?aF ?aO ?aB ?aS ?aL ?_; (case aP => exact k54_mkM _ _ _ (⟨(⟨(rd_T97 t425 x33_3).f0.f0.f0, (rd_T97 t425 x33_3).f0.f0.f1⟩ : S26), (rd_T97 t425 x33_3).f0.f1⟩ : S54)); (case aB => exact bl_); (case aF => exact (fun k_ hk => (Nat.le_trans bls_ hk))); (case aO => exact (by (with_reducible repeat (first | apply Kd.R_alloc | apply Kd.R_drewN | apply Kd.R_drew)); exact HO_3.out)); (case aS => exact bls_); (case aL => have := LMc34.out; omega); intro v432 w42 ho hb hg hat; rw [← Ny431.out] at ho; replace HO_4 := Aside0.mk (Kd.N_afterv (ok := (fun k_ => (w.heap.size ≤ k_) ∧ some k_ ≠ (.slice (some ad428) t425.length co23 : Value).ownBlock ∧ k_ ≠ gb420 ∧ k_ ≠ gb429)) (by (with_reducible repeat (first | apply Kd.N_alloc | apply Kd.N_drewN | apply Kd.N_drew)); exact Kd.N_mono HO_4.out (fun _ hk => ⟨⟨hk.1.1, ⟨hk.1.2.2.1, ⟨hk.1.2.2.2, hk.2⟩⟩⟩, hk.1.2.1⟩)) hg hat); replace HO_31 := Aside0.mk (Kd.N_afterv (ok := (fun k_ => (w.heap.size ≤ k_) ∧ some k_ ≠ (u4 : Value).ownBlock ∧ k_ ≠ gb420 ∧ k_ ≠ gb429)) (by (with_reducible repeat (first | apply Kd.N_alloc | apply Kd.N_drewN | apply Kd.N_drew)); exact Kd.N_mono HO_31.out (fun _ hk => ⟨⟨hk.1.1, ⟨hk.1.2.2.1, ⟨hk.1.2.2.2, hk.2⟩⟩⟩, hk.1.2.1⟩)) hg hat); replace BK420 := Aside0.mk (blk_grown (g := gb420) (o := .cells #[.int .i64 ((rd_T48 l0 x20_2).f0), .int .i64 ((rd_T48 l0 x20_2).f1.f0), .int .i64 ((rd_T48 l0 x20_2).f1.f1), .int .i64 ((rd_T48 l0 x20_2).f2), .int .i64 ((rd_T48 l0 x20_2).f3.f0), .int .i64 ((rd_T48 l0 x20_2).f3.f1), .int .i64 ((rd_T48 l0 x20_2).f4.f0), .int .i64 ((rd_T48 l0 x20_2).f4.f1), .int .i64 ((rd_T48 l0 x20_2).f5), .int .i64 ((rd_T48 l0 x20_2).f6)] 48 (0, 0)) (bk_ BK420) hg (Kd.R_ne HO_3.out BK420.out (by decide))); replace HL428_3 := Aside0.mk (Kd.V_afterv (ok := (fun k_ => (w.heap.size ≤ k_) ∧ some k_ ≠ (u4 : Value).ownBlock ∧ some k_ ≠ (.slice (some ad428) t425.length co23 : Value).ownBlock ∧ k_ ≠ gb420 ∧ k_ ≠ gb429)) (by (with_reducible repeat (first | apply Kd.V_alloc | apply Kd.V_drewN | apply Kd.V_drew)); exact Kd.V_mono HL428_3.out (fun _ hk => ⟨⟨hk.1.1.1, ⟨hk.1.1.2.2.1, ⟨hk.1.2, ⟨hk.1.1.2.2.2, hk.2⟩⟩⟩⟩, hk.1.1.2.1⟩)) hg hat); replace BK429 := Aside0.mk (blk_grown (g := gb429) (o := .cells #[.int .i64 ((rd_T97 t425 x33_3).f0.f0.f0), .int .i64 ((rd_T97 t425 x33_3).f0.f0.f1), .int .i64 ((rd_T97 t425 x33_3).f0.f1), .slice A428_3 ((rd_T97 t425 x33_3).f1).length c428_3] 97 (0, 0)) (bk_ BK429) hg (Kd.R_ne HO_3.out BK429.out (by decide))); replace HB := Aside0.mk (hb); have HO433 := Aside0.mk (ho); clear HO_3; clear ho hb hg hat; have hcz43 := blk_cell BK429.out; have hfz43 := blk_frozen BK429.out) | ((with_reducible refine gate_builtin (b := .append) (xs := #[.tmp 47, .tmp 54]) rfl ?_); at_builtin; refine Kd.N_append k74 (w0 := w) w.heap.size rfl (.tmp 47) (.tmp 54) 71 74 (.agg #[(.int .i64 0), (.int .i64 0), (.int .i64 0), (.int .i64 0), (.slice none 0 0)]) 56 rfl Try.underlying71 info74 rfl (by decide) (by omega) u4 x4_3 (⟨(⟨(⟨(rd_T97 t425 x33_3).f0.f0.f0, (rd_T97 t425 x33_3).f0.f0.f1⟩ : S26), (rd_T97 t425 x33_3).f0.f1⟩ : S54), x20_2, (rd_T97 t425 x33_3).f1⟩ : S74) [.int .i64 ((rd_T97 t425 x33_3).f0.f0.f0), .int .i64 ((rd_T97 t425 x33_3).f0.f0.f1), .int .i64 ((rd_T97 t425 x33_3).f0.f1), .int .i64 x20_2, .slice A428_3 ((rd_T97 t425 x33_3).f1).length c428_3] (fun k_ => (w.heap.size ≤ k_) ∧ some k_ ≠ (.slice (some ad428) t425.length co23 : Value).ownBlock ∧ some k_ ≠ (v432 : Value).ownBlock ∧ k_ ≠ gb420 ∧ k_ ≠ gb429) (fun k_ => ((fun k_ => (w.heap.size ≤ k_) ∧ some k_ ≠ (.slice (some ad428) t425.length co23 : Value).ownBlock ∧ some k_ ≠ (v432 : Value).ownBlock ∧ k_ ≠ gb420 ∧ k_ ≠ gb429)) k_ ∧ some k_ ≠ (u4 : Value).ownBlock) rfl rfl ?aP (fun _ hk => hk) ?aF ?aO ?aB ?aS ?aL ?_; (case aP => exact (k74_mkF _ _ (⟨(⟨(⟨(rd_T97 t425 x33_3).f0.f0.f0, (rd_T97 t425 x33_3).f0.f0.f1⟩ : S26), (rd_T97 t425 x33_3).f0.f1⟩ : S54), x20_2, (rd_T97 t425 x33_3).f1⟩ : S74) (Kd.V_reads' (Kd.V_mono (ok' := (fun k_ => ((fun k_ => (w.heap.size ≤ k_) ∧ some k_ ≠ (.slice (some ad428) t425.length co23 : Value).ownBlock ∧ some k_ ≠ (v432 : Value).ownBlock ∧ k_ ≠ gb420 ∧ k_ ≠ gb429)) k_ ∧ some k_ ≠ (u4 : Value).ownBlock)) (HL428_3.out) (fun k_ hk => ⟨⟨hk.1.1, ⟨hk.1.2.2.1, ⟨hk.2, ⟨hk.1.2.2.2.1, hk.1.2.2.2.2⟩⟩⟩⟩, hk.1.2.1⟩))).2.1 (Kd.V_F (Kd.V_mono (ok' := (fun k_ => ((fun k_ => (w.heap.size ≤ k_) ∧ some k_ ≠ (.slice (some ad428) t425.length co23 : Value).ownBlock ∧ some k_ ≠ (v432 : Value).ownBlock ∧ k_ ≠ gb420 ∧ k_ ≠ gb429)) k_ ∧ some k_ ≠ (u4 : Value).ownBlock)) (HL428_3.out) (fun k_ hk => ⟨⟨hk.1.1, ⟨hk.1.2.2.1, ⟨hk.2, ⟨hk.1.2.2.2.1, hk.1.2.2.2.2⟩⟩⟩⟩, hk.1.2.1⟩))))); (case aB => exact bl_); (case aF => exact (fun k_ hk => ⟨(Nat.le_trans bls_ hk), Kd.fresh' (Kd.N_lt (by (with_reducible repeat (first | apply Kd.N_alloc | apply Kd.N_drewN | apply Kd.N_drew)); exact HO_31.out)) k_ hk, Kd.fresh' (Kd.R_lt (by (with_reducible repeat (first | apply Kd.R_alloc | apply Kd.R_drewN | apply Kd.R_drew)); exact HO433.out)) k_ hk, Kd.freshB (g := gb420) (o := .cells #[.int .i64 ((rd_T48 l0 x20_2).f0), .int .i64 ((rd_T48 l0 x20_2).f1.f0), .int .i64 ((rd_T48 l0 x20_2).f1.f1), .int .i64 ((rd_T48 l0 x20_2).f2), .int .i64 ((rd_T48 l0 x20_2).f3.f0), .int .i64 ((rd_T48 l0 x20_2).f3.f1), .int .i64 ((rd_T48 l0 x20_2).f4.f0), .int .i64 ((rd_T48 l0 x20_2).f4.f1), .int .i64 ((rd_T48 l0 x20_2).f5), .int .i64 ((rd_T48 l0 x20_2).f6)] 48 (0, 0)) (bk_ BK420) k_ hk, Kd.freshB (g := gb429) (o := .cells #[.int .i64 ((rd_T97 t425 x33_3).f0.f0.f0), .int .i64 ((rd_T97 t425 x33_3).f0.f0.f1), .int .i64 ((rd_T97 t425 x33_3).f0.f1), .slice A428_3 ((rd_T97 t425 x33_3).f1).length c428_3] 97 (0, 0)) (bk_ BK429) k_ hk⟩)); (case aO => exact (by (with_reducible repeat (first | apply Kd.N_alloc | apply Kd.N_drewN | apply Kd.N_drew)); exact Kd.N_mono HO_4.out (fun _ hk => ⟨hk.1.1, ⟨hk.1.2.1, ⟨hk.2, ⟨hk.1.2.2.1, hk.1.2.2.2⟩⟩⟩⟩))); (case aS => exact bls_); (case aL => have := LMc35.out; omega); intro v435 w44 ho hb hg hat; rw [← Ny434.out] at ho; replace HO_31 := Aside0.mk (Kd.N_afterv (ok := (fun k_ => (w.heap.size ≤ k_) ∧ some k_ ≠ (v432 : Value).ownBlock ∧ k_ ≠ gb420 ∧ k_ ≠ gb429)) (by (with_reducible repeat (first | apply Kd.N_alloc | apply Kd.N_drewN | apply Kd.N_drew)); exact Kd.N_mono HO_31.out (fun _ hk => ⟨⟨hk.1.1, ⟨hk.2, ⟨hk.1.2.2.1, hk.1.2.2.2⟩⟩⟩, hk.1.2.1⟩)) hg hat); replace BK420 := Aside0.mk (blk_grown (g := gb420) (o := .cells #[.int .i64 ((rd_T48 l0 x20_2).f0), .int .i64 ((rd_T48 l0 x20_2).f1.f0), .int .i64 ((rd_T48 l0 x20_2).f1.f1), .int .i64 ((rd_T48 l0 x20_2).f2), .int .i64 ((rd_T48 l0 x20_2).f3.f0), .int .i64 ((rd_T48 l0 x20_2).f3.f1), .int .i64 ((rd_T48 l0 x20_2).f4.f0), .int .i64 ((rd_T48 l0 x20_2).f4.f1), .int .i64 ((rd_T48 l0 x20_2).f5), .int .i64 ((rd_T48 l0 x20_2).f6)] 48 (0, 0)) (bk_ BK420) hg (Kd.N_ne HO_4.out BK420.out (by decide))); replace HL428_3 := Aside0.mk (Kd.V_afterv (ok := (fun k_ => (w.heap.size ≤ k_) ∧ some k_ ≠ (.slice (some ad428) t425.length co23 : Value).ownBlock ∧ some k_ ≠ (v432 : Value).ownBlock ∧ k_ ≠ gb420 ∧ k_ ≠ gb429)) (by (with_reducible repeat (first | apply Kd.V_alloc | apply Kd.V_drewN | apply Kd.V_drew)); exact Kd.V_mono HL428_3.out (fun _ hk => ⟨⟨hk.1.1, ⟨hk.1.2.2.1, ⟨hk.2, ⟨hk.1.2.2.2.1, hk.1.2.2.2.2⟩⟩⟩⟩, hk.1.2.1⟩)) hg hat); replace BK429 := Aside0.mk (blk_grown (g := gb429) (o := .cells #[.int .i64 ((rd_T97 t425 x33_3).f0.f0.f0), .int .i64 ((rd_T97 t425 x33_3).f0.f0.f1), .int .i64 ((rd_T97 t425 x33_3).f0.f1), .slice A428_3 ((rd_T97 t425 x33_3).f1).length c428_3] 97 (0, 0)) (bk_ BK429) hg (Kd.N_ne HO_4.out BK429.out (by decide))); replace HO433 := Aside0.mk (Kd.R_over' (by (with_reducible repeat (first | apply Kd.R_alloc | apply Kd.R_drewN | apply Kd.R_drew)); exact HO433.out) (Kd.N_typed (by (with_reducible repeat (first | apply Kd.N_alloc | apply Kd.N_drewN | apply Kd.N_drew)); exact HO_4.out)) (by decide) hg); replace HB := Aside0.mk (hb); have HO436 := Aside0.mk (ho); clear HO_4; clear ho hb hg hat))
            go_roundg k3
            case measure => have := HK1.out; have := HK2.out; have := HK3.out; omega
            case rel => exact ⟨(y431), (y434), (wrap64 (x33_3 + 1)), rf_, H', ⟨by have := HK1.out; have := HK2.out; have := HK3.out; omega⟩, ⟨by (with_reducible repeat (first | apply Kd.R_alloc | apply Kd.R_drewN | apply Kd.R_drew)); exact HO433.out⟩, ⟨by (with_reducible repeat (first | apply Kd.N_alloc | apply Kd.N_drewN | apply Kd.N_drew)); exact Kd.N_mono HO436.out (fun _ hk => ⟨hk.1, ⟨hk.2.2.1, ⟨hk.2.1, hk.2.2.2.1⟩⟩⟩)⟩, ⟨by (with_reducible repeat (first | apply Kd.N_alloc | apply Kd.N_drewN | apply Kd.N_drew)); exact Kd.N_mono HO_31.out (fun _ hk => ⟨hk.1.1, ⟨hk.1.2.1, ⟨hk.2, hk.1.2.2.1⟩⟩⟩)⟩, ⟨bk_ BK420⟩, ⟨bl_⟩⟩
          ·rw [if_neg c24] at H
           have c24b0 : decide (x33_3 < (t425.length : Int)) = false := decide_eq_false c24
           clear c24
           have H' := Aside0.mk H
           clear H
           go_wp2
           go_roundg k3
           case measure => have := HK1.out; have := HK2.out; have := HK3.out; omega
           case rel => exact ⟨(x3_3), (x4_3), (wrap64 (x20_2 + 1)), rf_, H', ⟨by have := HK1.out; have := HK2.out; have := HK3.out; omega⟩, ⟨by (with_reducible repeat (first | apply Kd.R_alloc | apply Kd.R_drewN | apply Kd.R_drew)); exact HO_3.out⟩, ⟨by (with_reducible repeat (first | apply Kd.N_alloc | apply Kd.N_drewN | apply Kd.N_drew)); exact Kd.N_mono HO_4.out (fun _ hk => ⟨hk.1, hk.2.1⟩)⟩, ⟨bl_⟩⟩
       ·replace c12 := Bool.eq_false_iff.mpr c12
        subst c12
        replace H := ite_f_ H
        have H' := Aside0.mk H
        clear H
        have p419 : 0 ≤ (x20_2 : Int) := od_
        have q419 : x20_2 < (l0.length : Int) := od_
        obtain ⟨ad419, e419, hx419_0, hx419_1, hx419_2, hx419_3, hx419_4, hx419_5, hx419_6, hx419_7, hx419_8, hx419_9⟩ := at_T48 (Kd.C_below HR0.out HB.out) x20_2 p419 q419
        cases e419
        replace p419 := eq_true p419
        replace q419 := eq_true q419
        go_wp2_with (first | ((with_reducible refine gate_dst (N := 7) rfl ?_); refine box_event ?hg (N := 7) ?hd (cs := #[.int .i64 0, .int .i64 0, .int .i64 0, .int .i64 0, .int .i64 0, .int .i64 0, .int .i64 0, .int .i64 0, .int .i64 0, .int .i64 0]) (t := 48) ?hr ?_; (case hd => rfl); (case hg => rfl); (case hr => first | (go_simp; done) | (go_simp; rfl)); intro gb420 hg w45 hbox hb; replace HO_3 := hob_ HO_3 hb; replace HO_4 := Aside0.mk (Kd.N_below (Kd.N_elderB (by (with_reducible repeat (first | apply Kd.N_alloc | apply Kd.N_drewN | apply Kd.N_drew)); exact HO_4.out) gb420 (Nat.le_of_eq hg.symm)) hb); have BK420 := Aside0.mk (hbox); have GW420 := gs_ hg; have GE420 := gs_ hg; replace HB := hbs_ hb; clear hb hbox hg; have hcz46 := blk_cell BK420.out; have hfz46 := blk_frozen BK420.out) | ((with_reducible refine gate_callee (f := 29) rfl ?_); refine goesC_ (some 26) Try.func29 #[.agg #[.int .i64 ((rd_T48 l0 x20_2).f0), .int .i64 ((rd_T48 l0 x20_2).f1.f0), .int .i64 ((rd_T48 l0 x20_2).f1.f1), .int .i64 ((rd_T48 l0 x20_2).f2), .int .i64 ((rd_T48 l0 x20_2).f3.f0), .int .i64 ((rd_T48 l0 x20_2).f3.f1), .int .i64 ((rd_T48 l0 x20_2).f4.f0), .int .i64 ((rd_T48 l0 x20_2).f4.f1), .int .i64 ((rd_T48 l0 x20_2).f5), .int .i64 ((rd_T48 l0 x20_2).f6)]] ?_; (with_reducible refine (impl_CredOk.calls k2 ((rd_T48 l0 x20_2).f0) ((rd_T48 l0 x20_2).f1.f0) ((rd_T48 l0 x20_2).f1.f1) ((rd_T48 l0 x20_2).f2) ((rd_T48 l0 x20_2).f3.f0) ((rd_T48 l0 x20_2).f3.f1) ((rd_T48 l0 x20_2).f4.f0) ((rd_T48 l0 x20_2).f4.f1) ((rd_T48 l0 x20_2).f5) ((rd_T48 l0 x20_2).f6) false _ A11.out).mono ?_); rintro e w47 ⟨rfl, hb⟩; refine ⟨_, rfl, ?_⟩; replace HO_3 := Aside0.mk (Kd.R_below (by (with_reducible repeat (first | apply Kd.R_alloc | apply Kd.R_drewN | apply Kd.R_drew)); exact (Kd.R_mono (Kd.R_far (p := ⟨gb420, 9, none⟩) (Kd.R_far (p := ⟨gb420, 8, none⟩) (Kd.R_far (p := ⟨gb420, 7, none⟩) (Kd.R_far (p := ⟨gb420, 6, none⟩) (Kd.R_far (p := ⟨gb420, 5, none⟩) (Kd.R_far (p := ⟨gb420, 4, none⟩) (Kd.R_far (p := ⟨gb420, 3, none⟩) (Kd.R_far (p := ⟨gb420, 2, none⟩) (Kd.R_far (p := ⟨gb420, 1, none⟩) (Kd.R_far (p := ⟨gb420, 0, none⟩) (Kd.R_types HO_3.out BK420.out (by decide)) (fun _ hk => hk.2) (.int .i64 ((rd_T48 l0 x20_2).f0))) (fun _ hk => hk.2) (.int .i64 ((rd_T48 l0 x20_2).f1.f0))) (fun _ hk => hk.2) (.int .i64 ((rd_T48 l0 x20_2).f1.f1))) (fun _ hk => hk.2) (.int .i64 ((rd_T48 l0 x20_2).f2))) (fun _ hk => hk.2) (.int .i64 ((rd_T48 l0 x20_2).f3.f0))) (fun _ hk => hk.2) (.int .i64 ((rd_T48 l0 x20_2).f3.f1))) (fun _ hk => hk.2) (.int .i64 ((rd_T48 l0 x20_2).f4.f0))) (fun _ hk => hk.2) (.int .i64 ((rd_T48 l0 x20_2).f4.f1))) (fun _ hk => hk.2) (.int .i64 ((rd_T48 l0 x20_2).f5))) (fun _ hk => hk.2) (.int .i64 ((rd_T48 l0 x20_2).f6))) (fun _ h_ => h_.1))) hb); replace HO_4 := Aside0.mk (Kd.N_below (by (with_reducible repeat (first | apply Kd.N_alloc | apply Kd.N_drewN | apply Kd.N_drew)); exact (Kd.N_mono (Kd.N_far (p := ⟨gb420, 9, none⟩) (Kd.N_far (p := ⟨gb420, 8, none⟩) (Kd.N_far (p := ⟨gb420, 7, none⟩) (Kd.N_far (p := ⟨gb420, 6, none⟩) (Kd.N_far (p := ⟨gb420, 5, none⟩) (Kd.N_far (p := ⟨gb420, 4, none⟩) (Kd.N_far (p := ⟨gb420, 3, none⟩) (Kd.N_far (p := ⟨gb420, 2, none⟩) (Kd.N_far (p := ⟨gb420, 1, none⟩) (Kd.N_far (p := ⟨gb420, 0, none⟩) (Kd.N_mono HO_4.out (fun k_ hk => (⟨hk, hk.2⟩ : _ ∧ k_ ≠ gb420))) (fun _ hk => hk.2) (.int .i64 ((rd_T48 l0 x20_2).f0))) (fun _ hk => hk.2) (.int .i64 ((rd_T48 l0 x20_2).f1.f0))) (fun _ hk => hk.2) (.int .i64 ((rd_T48 l0 x20_2).f1.f1))) (fun _ hk => hk.2) (.int .i64 ((rd_T48 l0 x20_2).f2))) (fun _ hk => hk.2) (.int .i64 ((rd_T48 l0 x20_2).f3.f0))) (fun _ hk => hk.2) (.int .i64 ((rd_T48 l0 x20_2).f3.f1))) (fun _ hk => hk.2) (.int .i64 ((rd_T48 l0 x20_2).f4.f0))) (fun _ hk => hk.2) (.int .i64 ((rd_T48 l0 x20_2).f4.f1))) (fun _ hk => hk.2) (.int .i64 ((rd_T48 l0 x20_2).f5))) (fun _ hk => hk.2) (.int .i64 ((rd_T48 l0 x20_2).f6))) (fun _ h_ => h_.1))) hb); replace BK420 := Aside0.mk (blk_below (g := gb420) (o := .cells #[.int .i64 ((rd_T48 l0 x20_2).f0), .int .i64 ((rd_T48 l0 x20_2).f1.f0), .int .i64 ((rd_T48 l0 x20_2).f1.f1), .int .i64 ((rd_T48 l0 x20_2).f2), .int .i64 ((rd_T48 l0 x20_2).f3.f0), .int .i64 ((rd_T48 l0 x20_2).f3.f1), .int .i64 ((rd_T48 l0 x20_2).f4.f0), .int .i64 ((rd_T48 l0 x20_2).f4.f1), .int .i64 ((rd_T48 l0 x20_2).f5), .int .i64 ((rd_T48 l0 x20_2).f6)] 48 (0, 0)) (bk_ BK420) hb); replace HB := hbs_ hb; clear hb))
        go_roundg k2
        case measure => have := HK1.out; have := HK2.out; omega
        case rel => exact ⟨(x3_2), (x4_2), (wrap64 (x20_2 + 1)), rf_, H', ⟨by have := HK1.out; have := HK2.out; omega⟩, ⟨by (with_reducible repeat (first | apply Kd.R_alloc | apply Kd.R_drewN | apply Kd.R_drew)); exact HO_3.out⟩, ⟨by (with_reducible repeat (first | apply Kd.N_alloc | apply Kd.N_drewN | apply Kd.N_drew)); exact Kd.N_mono HO_4.out (fun _ hk => ⟨hk.1.1, hk.1.2⟩)⟩, ⟨bl_⟩⟩
      ·rw [if_neg c8] at H
       have c8b0 : decide (x20_2 < (l0.length : Int)) = false := decide_eq_false c8
       clear c8
       have H' := Aside0.mk H
       clear H
       go_wp2
       go_roundg k2
       case measure => have := HK1.out; have := HK2.out; omega
       case rel => exact ⟨(x3_2), (x4_2), ((x3_1.length : Int)), rf_, H', ⟨by have := HK1.out; have := HK2.out; omega⟩, ⟨by (with_reducible repeat (first | apply Kd.R_alloc | apply Kd.R_drewN | apply Kd.R_drew)); exact HO_3.out⟩, ⟨by (with_reducible repeat (first | apply Kd.N_alloc | apply Kd.N_drewN | apply Kd.N_drew)); exact HO_4.out⟩, ⟨bl_⟩⟩
   ·rw [if_neg c6] at H
    have c6b0 : decide (x5_1 < (x3_1.length : Int)) = false := decide_eq_false c6
    clear c6
    obtain rfl := Option.some.inj H
    obtain ⟨Ao48, co48, eo48⟩ := Kd.R_slice HO_3.out
    subst eo48
    go_wp2
    go_ret
    exact ⟨_, eq_, by (with_reducible repeat (first | apply Kd.N_alloc | apply Kd.N_drewN | apply Kd.N_drew)); exact Kd.N_mono HO_4.out (fun _ hk => hk.1), bl_⟩
def impl_FactsOf.l0 : Nat → List (S54) → List (S74) → Int → Int → Option ((List (S54)))
 | 0, _, _, _, _ => none
 | k + 1, x3, x8, x9, x10 => if x10 < x9 then (if 0 ≤ x10 then (if x10 < (x8.length : Int) then (if x3.length < 5864062014805 then (impl_FactsOf.l0 k (x3 ++ [(⟨(⟨(rd_T74 x8 x10).f0.f0.f0, (rd_T74 x8 x10).f0.f0.f1⟩ : S26), (rd_T74 x8 x10).f0.f1⟩ : S54)]) x8 x9 (wrap64 (x10 + 1))) else (none)) else (none)) else (none)) else (some x3)
def impl_FactsOf.f (k : Nat) (l0 : List (S48)) : Option ((List (S54))) := (impl_findFacts.f k l0).bind fun t440 => (impl_FactsOf.l0 k (([] : List (S54))) t440 (t440.length : Int) 0)
set_option maxHeartbeats 8000000 in
set_option maxRecDepth 100000 in
theorem impl_FactsOf.calls (k : Nat) (A0 : Option Addr) (c0 : Nat) (l0 : List (S48)) (r : List (S54)) (w : World) (hr0 : Kd.C k48 w A0 l0.length l0) (hc0 : l0.length ≤ c0) (h : impl_FactsOf.f k l0 = some r) :
  Calls Try.prog 34 #[.slice A0 l0.length c0] w fun e w' => ∃ v0_ : Value, e = .returned (v0_) ∧ Kd.R k54 54 w' w.heap.size (fun _ => True) v0_ r ∧ Below w.heap.size w w' := by
 have hu74 := Try.underlying74
 have hu54 := Try.underlying54
 have HR0 := Aside0.mk hr0
 have HC0 := Aside0.mk hc0
 clear hr0 hc0
 have HB := Aside0.mk (Below.refl w.heap.size w)
 have H : ((impl_findFacts.f k l0).bind fun t440 => (impl_FactsOf.l0 k (([] : List (S54))) t440 (t440.length : Int) 0)) = some r := h
 clear h
 obtain ⟨y437, hy437⟩ : ∃ y_ : List (S54), y_ = (([] : List (S54))) := ⟨_, rfl⟩
 replace H : ((impl_findFacts.f k l0).bind fun t440 => (impl_FactsOf.l0 k y437 t440 (t440.length : Int) 0)) = some r := by first | (rw [hy437]; with_reducible exact H) | (have H2_ := (Option.bind_some _ _).symm.trans H; rw [hy437]; with_reducible exact H2_) | (have H2_ := (Option.bind_some _ _).symm.trans H; with_reducible exact H2_) | with_reducible exact H | (rw [hy437]; exact H) | exact H
 have Ny437 := Aside0.mk hy437
 clear hy437
 obtain ⟨t440, A2, H⟩ := bindE_ H
 have H' := Aside0.mk H
 clear H
 go_enter Try.func34, Try.ntmps34
 go_wp2_with (first | ((with_reducible refine gate_dst (N := 6) rfl ?_); refine Kd.R_lit k54 _ 54 ?hg (N := 6) ?hd (xs := ([] : List (S54))) (inner := []) (ok := fun _ => True) (okp := fun _ => True) ?hr ?hp (fun _ hk => hk) trivial (Below.refl _ _) (Nat.le_refl _) (by simp) ?_; (case hd => rfl); (case hg => rfl); (case hr => first | (go_simp; done) | (go_simp; rfl)); (case hp => exact (Reps.none _ _)); intro v438 w3 ho4 hb hg_ hnew_; clear hg_ hnew_; (first | rw [← Ny437.out] at ho4 | (simp only [Int.reduceToNat] at ho4; rw [← Ny437.out] at ho4)); have HO439 := Aside0.mk (Kd.R_lower ho4 bls_); replace HB := hbs_ hb; clear hb ho4) | ((with_reducible refine gate_callee (f := 51) rfl ?_); refine goesC_ (some 8) Try.func51 #[.slice A0 l0.length c0] ?_; (with_reducible refine (impl_findFacts.calls k _ _ l0 t440 _ ?side1 ?side2 A2.out).mono ?_); (case side1 => repeat (first | exact (Kd.C_below HR0.out HB.out) | (with_reducible refine Kd.C_alloc ?_ _) | (with_reducible refine Kd.C_drewN ?_ _) | (with_reducible refine Kd.C_drew ?_))); (case side2 => exact HC0.out); rintro e w5 ⟨v441, rfl, ho0, hb⟩; refine ⟨_, rfl, ?_⟩; have HO442 := Aside0.mk (Kd.N_lower (Kd.N_mono (ok' := fun k_ => some k_ ≠ (v438 : Value).ownBlock) ho0 (fun k_ hk_ => (Kd.fresh' (Kd.R_lt (by (with_reducible repeat (first | apply Kd.R_alloc | apply Kd.R_drewN | apply Kd.R_drew)); exact HO439.out)) k_ hk_))) bls_); replace HO439 := hob_ HO439 hb; replace HB := hbs_ hb; (try clear hb); (try clear hb2); (try clear hk); (try clear hi); (try clear ho0); obtain ⟨Ao6, co6, eo6⟩ := Kd.N_slice HO442.out; subst eo6))
 go_loopg [3, 10] k (fun kq v3 v10 w' => ∃ (x3_1 : List (S54)) (x10_1 : Int), v10 = .int .i64 x10_1 ∧ Aside0 (impl_FactsOf.l0 kq x3_1 t440 (t440.length : Int) x10_1 = some r) ∧ Aside0 (kq ≤ k) ∧ Aside0 (Kd.R k54 54 w' w.heap.size (fun _ => True) v3 x3_1) ∧ Aside0 (Kd.N k74 74 w' w.heap.size (fun k_ => some k_ ≠ (v3 : Value).ownBlock) (.slice Ao6 t440.length co6) t440) ∧ Aside0 (Below w.heap.size w w'))
 case atStart => exact ⟨(y437), (0), rf_, H', ⟨Nat.le_refl _⟩, ⟨by (with_reducible repeat (first | apply Kd.R_alloc | apply Kd.R_drewN | apply Kd.R_drew)); exact HO439.out⟩, ⟨by (with_reducible repeat (first | apply Kd.N_alloc | apply Kd.N_drewN | apply Kd.N_drew)); exact HO442.out⟩, ⟨bl_⟩⟩
 case round =>
  clear H'
  try clear p2
  try clear c3
  try clear c5
  obtain ⟨x3_1, x10_1, rfl, HA, HK1, HO_3, HO_8, HB⟩ := hrel
  cases gk with
  | zero => exact absurd HA.out (by simp [impl_FactsOf.l0])
  | succ k1 =>
   have H := HA.out
   clear HA
   simp only [impl_FactsOf.l0] at H
   by_cases c7 : x10_1 < (t440.length : Int)
   ·rw [if_pos c7] at H
    have c7b0 : decide (x10_1 < (t440.length : Int)) = true := decide_eq_true c7
    clear c7
    obtain ⟨c8b0, H⟩ := ifd_ H
    obtain ⟨c9b0, H⟩ := ifd_ H
    obtain ⟨c10, H⟩ := ifn_ H
    have LMc10 := Aside0.mk c10
    clear c10
    obtain ⟨y445, hy445⟩ : ∃ y_ : List (S54), y_ = (x3_1 ++ [(⟨(⟨(rd_T74 t440 x10_1).f0.f0.f0, (rd_T74 t440 x10_1).f0.f0.f1⟩ : S26), (rd_T74 t440 x10_1).f0.f1⟩ : S54)]) := ⟨_, rfl⟩
    replace H : (impl_FactsOf.l0 k1 y445 t440 (t440.length : Int) (wrap64 (x10_1 + 1))) = some r := by first | (rw [hy445]; with_reducible exact H) | (have H2_ := (Option.bind_some _ _).symm.trans H; rw [hy445]; with_reducible exact H2_) | (have H2_ := (Option.bind_some _ _).symm.trans H; with_reducible exact H2_) | with_reducible exact H | (rw [hy445]; exact H) | exact H
    have Ny445 := Aside0.mk hy445
    clear hy445
    have H' := Aside0.mk H
    clear H
    have p443 : 0 ≤ (x10_1 : Int) := od_
    have q443 : x10_1 < (t440.length : Int) := od_
    obtain ⟨ad443, A443_4, c443_4, e443, hx443_0, hx443_1, hx443_2, hx443_3, hx443_4, hl443_4, hi443_4⟩ := at_T74 (Kd.N_reads' HO_8.out).2.2 x10_1 p443 q443
    cases e443
    obtain ⟨ce443, hce443, hMe443, hcc443⟩ := Kd.N_get HO_8.out z74 x10_1 p443 (by first | exact q443 | exact od_ | (have e_ := (Kd.N_reads' HO_8.out).1; omega))
    obtain ⟨ua443_4, uc443_4, rfl, ul443_4, ge443_4⟩ := k74_openF hMe443
    have hv443_4 := hcc443 4 _ rfl
    rw [add_field _ _ 4 (by omega)] at hv443_4
    replace hv443_4 := Option.some.inj (hv443_4.symm.trans hx443_4)
    injection hv443_4 with hva_ hvn_ hvc_
    rw [hva_] at ge443_4
    rw [hvc_] at ul443_4
    have HL443_4 := Aside0.mk (show Kd.V (Kd.int .i64) 3 _ w.heap.size _ _ ((rd_T74 t440 x10_1).f2) from Kd.V_mk ul443_4 ge443_4)
    clear hva_ hvn_ hvc_ ge443_4 ul443_4
    clear hcc443 hce443
    have HR443_4 := Aside0.mk hi443_4
    have HC443_4 := Aside0.mk hl443_4
    clear hi443_4 hl443_4
    replace p443 := eq_true p443
    replace q443 := eq_true q443
    go_wp2_with (first | ((with_reducible refine gate_dst (N := 5) rfl ?_); refine box_event ?hg (N := 5) ?hd (cs := #[.int .i64 0, .int .i64 0, .int .i64 0, .int .i64 0, .slice none 0 0]) (t := 74) ?hr ?_; (case hd => rfl); (case hg => rfl); (case hr => first | (go_simp; done) | (go_simp; rfl)); intro gb444 hg w11 hbox hb; replace HO_3 := hob_ HO_3 hb; replace HO_8 := Aside0.mk (Kd.N_below (Kd.N_elderB (by (with_reducible repeat (first | apply Kd.N_alloc | apply Kd.N_drewN | apply Kd.N_drew)); exact HO_8.out) gb444 (Nat.le_of_eq hg.symm)) hb); replace HL443_4 := Aside0.mk (Kd.V_below (Kd.V_elderB (by (with_reducible repeat (first | apply Kd.V_alloc | apply Kd.V_drewN | apply Kd.V_drew)); exact HL443_4.out) gb444 (Nat.le_of_eq hg.symm)) hb); replace HR443_4 := Aside0.mk (Kd.C_below (by repeat (first | (with_reducible exact HR443_4.out) | (with_reducible refine Kd.C_alloc ?_ _) | (with_reducible refine Kd.C_drewN ?_ _) | (with_reducible refine Kd.C_drew ?_) | exact HR443_4.out)) hb); have BK444 := Aside0.mk (hbox); have GW444 := gs_ hg; have GE444 := gs_ hg; replace HB := hbs_ hb; clear hb hbox hg; have hcz12 := blk_cell BK444.out; have hfz12 := blk_frozen BK444.out) | ((with_reducible refine gate_builtin (b := .append) (xs := #[.tmp 14, .tmp 17]) rfl ?_); at_builtin; refine Kd.R_append k54 (w0 := w) w.heap.size rfl (.tmp 14) (.tmp 17) 38 54 (.agg #[(.int .i64 0), (.int .i64 0), (.int .i64 0)]) 24 rfl Try.underlying38 info54 rfl (by decide) (by omega) u3 x3_1 (⟨(⟨(rd_T74 t440 x10_1).f0.f0.f0, (rd_T74 t440 x10_1).f0.f0.f1⟩ : S26), (rd_T74 t440 x10_1).f0.f1⟩ : S54) [.int .i64 ((rd_T74 t440 x10_1).f0.f0.f0), .int .i64 ((rd_T74 t440 x10_1).f0.f0.f1), .int .i64 ((rd_T74 t440 x10_1).f0.f1)] (fun _ => True) (fun _ => False) rfl (by first | (go_simp; done) | (go_simp; rfl)) ?aP (fun _ hk => hk.elim) ?aF ?aO ?aB ?aS ?aL ?_; (case aP => exact k54_mkM _ _ _ (⟨(⟨(rd_T74 t440 x10_1).f0.f0.f0, (rd_T74 t440 x10_1).f0.f0.f1⟩ : S26), (rd_T74 t440 x10_1).f0.f1⟩ : S54)); (case aB => exact bl_); (case aF => exact (fun _ _ => trivial)); (case aO => exact (by (with_reducible repeat (first | apply Kd.R_alloc | apply Kd.R_drewN | apply Kd.R_drew)); exact Kd.R_mono (Kd.R_far (p := ⟨gb444, 4, none⟩) (Kd.R_far (p := ⟨gb444, 3, none⟩) (Kd.R_far (p := ⟨gb444, 2, none⟩) (Kd.R_far (p := ⟨gb444, 1, none⟩) (Kd.R_far (p := ⟨gb444, 0, none⟩) (Kd.R_types HO_3.out BK444.out (by decide)) (fun _ hk => hk.2) (.int .i64 ((rd_T74 t440 x10_1).f0.f0.f0))) (fun _ hk => hk.2) (.int .i64 ((rd_T74 t440 x10_1).f0.f0.f1))) (fun _ hk => hk.2) (.int .i64 ((rd_T74 t440 x10_1).f0.f1))) (fun _ hk => hk.2) (.int .i64 ((rd_T74 t440 x10_1).f1))) (fun _ hk => hk.2) (.slice A443_4 ((rd_T74 t440 x10_1).f2).length c443_4)) (fun _ hk => trivial))); (case aS => exact bls_); (case aL => have := LMc10.out; omega); intro v446 w13 ho hb hg hat; rw [← Ny445.out] at ho; replace HO_8 := Aside0.mk (Kd.N_afterv (ok := (fun k_ => k_ ≠ gb444)) (by (with_reducible repeat (first | apply Kd.N_alloc | apply Kd.N_drewN | apply Kd.N_drew)); exact Kd.N_mono (Kd.N_far (p := ⟨gb444, 4, none⟩) (Kd.N_far (p := ⟨gb444, 3, none⟩) (Kd.N_far (p := ⟨gb444, 2, none⟩) (Kd.N_far (p := ⟨gb444, 1, none⟩) (Kd.N_far (p := ⟨gb444, 0, none⟩) (Kd.N_mono HO_8.out (fun k_ hk => (⟨hk, hk.2⟩ : _ ∧ k_ ≠ gb444))) (fun _ hk => hk.2) (.int .i64 ((rd_T74 t440 x10_1).f0.f0.f0))) (fun _ hk => hk.2) (.int .i64 ((rd_T74 t440 x10_1).f0.f0.f1))) (fun _ hk => hk.2) (.int .i64 ((rd_T74 t440 x10_1).f0.f1))) (fun _ hk => hk.2) (.int .i64 ((rd_T74 t440 x10_1).f1))) (fun _ hk => hk.2) (.slice A443_4 ((rd_T74 t440 x10_1).f2).length c443_4)) (fun _ hk => ⟨hk.1.2, hk.1.1⟩)) hg hat); replace HL443_4 := Aside0.mk (Kd.V_afterv (ok := (fun k_ => some k_ ≠ (.slice (some ad443) t440.length co6 : Value).ownBlock ∧ k_ ≠ gb444)) (by (with_reducible repeat (first | apply Kd.V_alloc | apply Kd.V_drewN | apply Kd.V_drew)); exact Kd.V_mono (Kd.V_far (p := ⟨gb444, 4, none⟩) (Kd.V_far (p := ⟨gb444, 3, none⟩) (Kd.V_far (p := ⟨gb444, 2, none⟩) (Kd.V_far (p := ⟨gb444, 1, none⟩) (Kd.V_far (p := ⟨gb444, 0, none⟩) (Kd.V_mono HL443_4.out (fun k_ hk => (⟨hk, hk.2⟩ : _ ∧ k_ ≠ gb444))) (fun _ hk => hk.2) (.int .i64 ((rd_T74 t440 x10_1).f0.f0.f0))) (fun _ hk => hk.2) (.int .i64 ((rd_T74 t440 x10_1).f0.f0.f1))) (fun _ hk => hk.2) (.int .i64 ((rd_T74 t440 x10_1).f0.f1))) (fun _ hk => hk.2) (.int .i64 ((rd_T74 t440 x10_1).f1))) (fun _ hk => hk.2) (.slice A443_4 ((rd_T74 t440 x10_1).f2).length c443_4)) (fun _ hk => ⟨⟨hk.1.1.2, hk.1.2⟩, hk.1.1.1⟩)) hg hat); replace BK444 := Aside0.mk (blk_grown (g := gb444) (o := .cells #[.int .i64 ((rd_T74 t440 x10_1).f0.f0.f0), .int .i64 ((rd_T74 t440 x10_1).f0.f0.f1), .int .i64 ((rd_T74 t440 x10_1).f0.f1), .int .i64 ((rd_T74 t440 x10_1).f1), .slice A443_4 ((rd_T74 t440 x10_1).f2).length c443_4] 74 (0, 0)) (bk_ BK444) hg (Kd.R_ne HO_3.out BK444.out (by decide))); replace HB := Aside0.mk (hb); have HO447 := Aside0.mk (ho); clear HO_3; clear ho hb hg hat))
    go_roundg k1
    case measure => have := HK1.out; omega
    case rel => exact ⟨(y445), (wrap64 (x10_1 + 1)), rf_, H', ⟨by have := HK1.out; omega⟩, ⟨by (with_reducible repeat (first | apply Kd.R_alloc | apply Kd.R_drewN | apply Kd.R_drew)); exact HO447.out⟩, ⟨by (with_reducible repeat (first | apply Kd.N_alloc | apply Kd.N_drewN | apply Kd.N_drew)); exact Kd.N_mono HO_8.out (fun _ hk => hk.2)⟩, ⟨bl_⟩⟩
   ·rw [if_neg c7] at H
    have c7b0 : decide (x10_1 < (t440.length : Int)) = false := decide_eq_false c7
    clear c7
    obtain rfl := Option.some.inj H
    go_wp2
    go_ret
    exact ⟨_, eq_, by (with_reducible repeat (first | apply Kd.R_alloc | apply Kd.R_drewN | apply Kd.R_drew)); exact HO_3.out, bl_⟩
end Go.Proofs.Yteehgihclnlaoaa.PA
