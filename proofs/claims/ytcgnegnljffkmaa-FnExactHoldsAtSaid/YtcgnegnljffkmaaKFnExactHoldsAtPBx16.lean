import Derived.Test.YtcgnegnljffkmaaKFnExactHoldsAtPBx0
import Derived.Test.YtcgnegnljffkmaaKFnExactHoldsAtPBx13
import Derived.Test.YtcgnegnljffkmaaKFnExactHoldsAtPBx15
-- A text of this claim: written by the session's own program out of the translation (wip/tools). Lean checks it.
namespace Go.Proofs.Ytcgnegnljffkmaa.PB
open Go.RowKit Go.Proofs.YtcgnegnljffkmaaW.PrintWords Go.Proofs.YtcgnegnljffkmaaW.PrintLast Go.Proofs.YtcgnegnljffkmaaW.PrintMore
attribute [local go_sem] max2_int min2_int max_two min_two max_three min_three max_four min_four   -- for this text's walks alone
set_option linter.unusedVariables false
set_option linter.unusedSimpArgs false
def impl_Fact_143.f (k : Nat) (l0 : List (S55)) (a1_0 : Int) (a1_1 : Int) (a1_2 : Int) : Option (Bool) := (impl_Fact_93.f k l0 a1_0 a1_1 a1_2).bind fun t517 => (some (decide (t517 ≥ 0)))
set_option maxHeartbeats 8000000 in
set_option maxRecDepth 100000 in
theorem impl_Fact_143.calls (k : Nat) (A0 : Option Addr) (c0 : Nat) (l0 : List (S55)) (a1_0 : Int) (a1_1 : Int) (a1_2 : Int) (r : Bool) (w : World) (hr0 : Kd.C k55 w A0 l0.length l0) (hc0 : l0.length ≤ c0) (h : impl_Fact_143.f k l0 a1_0 a1_1 a1_2 = some r) :
  Calls Try.prog 143 #[.slice A0 l0.length c0, .agg #[.int .i64 a1_0, .int .i64 a1_1, .int .i64 a1_2]] w fun e w' => e = .returned (.bool r) ∧ Below w.heap.size w w' := by
 have hu55 := Try.underlying55
 have HR0 := Aside0.mk hr0
 have HC0 := Aside0.mk hc0
 clear hr0 hc0
 have HB := Aside0.mk (Below.refl w.heap.size w)
 have H : ((impl_Fact_93.f k l0 a1_0 a1_1 a1_2).bind fun t517 => (some (decide (t517 ≥ 0)))) = some r := h
 clear h
 obtain ⟨t517, A3, H⟩ := bindE_ H
 obtain rfl := Option.some.inj H
 go_enter Try.func143, Try.ntmps143
 go_wp2_with (first | ((with_reducible refine gate_dst (N := 3) rfl ?_); refine box_event ?hg (N := 3) ?hd (cs := #[.int .i64 a1_0, .int .i64 a1_1, .int .i64 a1_2]) (t := 55) ?hr ?_; (case hd => rfl); (case hg => rfl); (case hr => first | (go_simp; done) | (go_simp; rfl)); intro gb516 hg w4 hbox hb; have BK516 := Aside0.mk (hbox); have GW516 := gs_ hg; have GE516 := gs_ hg; replace HB := hbs_ hb; clear hb hbox hg; have hcz5 := blk_cell BK516.out; have hfz5 := blk_frozen BK516.out) | ((with_reducible refine gate_callee (f := 93) rfl ?_); refine goesC_ (some 7) Try.func93 #[.slice A0 l0.length c0, .agg #[.int .i64 a1_0, .int .i64 a1_1, .int .i64 a1_2]] ?_; (with_reducible refine (impl_Fact_93.calls k _ _ l0 a1_0 a1_1 a1_2 t517 _ ?side1 ?side2 A3.out).mono ?_); (case side1 => repeat (first | exact (Kd.C_below HR0.out HB.out) | (with_reducible refine Kd.C_alloc ?_ _) | (with_reducible refine Kd.C_drewN ?_ _) | (with_reducible refine Kd.C_drew ?_))); (case side2 => exact HC0.out); rintro e w6 ⟨rfl, hb⟩; refine ⟨_, rfl, ?_⟩; replace BK516 := bkb_ BK516 hb; replace HB := hbs_ hb; clear hb))
 go_ret
 exact ⟨eq_, bl_⟩
def impl_Fact_152.f (l0 : List (S55)) : Option (List (S55)) := if l0.length < 5864062014805 then some l0 else none
set_option maxHeartbeats 8000000 in
set_option maxRecDepth 100000 in
theorem impl_Fact_152.calls (A0 : Option Addr) (c0 : Nat) (l0 : List (S55)) (r : List (S55)) (w : World) (hr0 : Kd.C k55 w A0 l0.length l0) (hc0 : l0.length ≤ c0) (h : impl_Fact_152.f l0 = some r) :
  Calls Try.prog 152 #[.slice A0 l0.length c0] w fun e w' => ∃ v0_ : Value, e = .returned (v0_) ∧ Kd.R k55 55 w' w.heap.size (fun _ => True) v0_ r ∧ Below w.heap.size w w' := by
 have HR0 := Aside0.mk hr0
 have HC0 := Aside0.mk hc0
 clear hr0 hc0
 have hq : ∀ (w : World) (a : Option Addr) (n c n' c' : Nat), (binOp .eql 118 (.slice a n c) (.slice none n' c')).run Try.prog w = .ok (.bool a.isNone) w := fun w a n c n' c' => Lib.run_eql_slice_nil w _ _ a n c n' c' Try.underlying118
 have HB := Aside0.mk (Below.refl w.heap.size w)
 unfold impl_Fact_152.f at h
 by_cases hl : l0.length < 5864062014805
 ·rw [if_pos hl] at h
  have LM := Aside0.mk hl
  clear hl
  obtain rfl := Option.some.inj h
  clear h
  cases A0 with
  | none =>
   have e0 : l0 = [] := by
    rcases l0 with _ | ⟨x, xs⟩
    ·rfl
    ·obtain ⟨ad, c, e, _⟩ := Kd.C_get HR0.out x 0 (by omega) (by rw [List.length_cons]; omega)
     cases e
   subst e0
   clear HR0 HC0 LM
   go_enter Try.func152, Try.ntmps152
   go_wp2
   go_ret
   exact ⟨_, eq_, Kd.R_nil _ _ _ _ _, bl_⟩
  | some ad =>
   obtain ⟨y1, hy1⟩ : ∃ y_ : List (S55), y_ = (([] : List (S55))) := ⟨_, rfl⟩
   have Ny1 := Aside0.mk hy1
   clear hy1
   go_enter Try.func152, Try.ntmps152
   go_wp2_with (first | ((with_reducible refine gate_dst (N := 5) rfl ?_); refine Kd.R_lit k55 _ 55 ?hg (N := 5) ?hd (xs := ([] : List (S55))) (inner := []) (ok := fun _ => True) (okp := fun _ => True) ?hr ?hp (fun _ hk => hk) trivial (Below.refl _ _) (Nat.le_refl _) (by simp) ?_; (case hd => rfl); (case hg => rfl); (case hr => first | (go_simp; done) | (go_simp; rfl)); (case hp => exact (Reps.none _ _)); intro v161 w9 ho10 hb hg_ hnew_; clear hg_ hnew_; (first | rw [← Ny1.out] at ho10 | (simp only [Int.reduceToNat] at ho10; rw [← Ny1.out] at ho10)); have HO162 := Aside0.mk (Kd.R_lower ho10 bls_); replace HB := hbs_ hb; clear hb ho10) | ((with_reducible refine gate_builtin (b := .append) (xs := #[.tmp 5, .tmp 6]) rfl ?_); at_builtin; refine Kd.R_append_rows k55 (w0 := w) w.heap.size rfl (.tmp 5) (.tmp 6) 118 55 (.agg #[(.int .i64 0), (.int .i64 0), (.int .i64 0)]) 24 rfl Try.underlying118 info55 rfl (by decide) (by omega) v161 y1 l0 _ _ _ (fun _ => True) (fun _ => False) rfl rfl ?aO ?aR (fun _ _ h => h) (fun _ h => h.elim) ?aF ?aB ?aS ?aL ?_; (case aR => repeat (first | exact (Kd.C_below HR0.out HB.out) | (with_reducible refine Kd.C_alloc ?_ _) | (with_reducible refine Kd.C_drewN ?_ _) | (with_reducible refine Kd.C_drew ?_))); (case aB => exact bl_); (case aF => exact (fun _ _ => trivial)); (case aO => exact (by (with_reducible repeat (first | apply Kd.R_alloc | apply Kd.R_drewN | apply Kd.R_drew)); exact HO162.out)); (case aS => exact bls_); (case aL => have := LM.out; rw [Ny1.out]; simp only [List.length_nil]; omega); intro v164 w11 ho hb hg hat; rw [Ny1.out, List.nil_append] at ho; replace HB := Aside0.mk (hb); have HO165 := Aside0.mk (ho); clear HO162; clear ho hb hg hat))
   go_ret
   exact ⟨_, eq_, by (with_reducible repeat (first | apply Kd.R_alloc | apply Kd.R_drewN | apply Kd.R_drew)); exact HO165.out, bl_⟩
 ·rw [if_neg hl] at h
  exact absurd h (by simp)
mutual
def impl_findFacts.l0 : Nat → List (S29) → List (S55) → List (S160) → Int → Option ((List (S160)))
 | 0, _, _, _, _ => none
 | k + 1, x0, x3, x4, x5 => if x5 < (x3.length : Int) then (impl_findFacts.l1 k x0 x3 x4 (x3.length : Int) x0 (x0.length : Int) 0) else (some x4)
def impl_findFacts.l1 : Nat → List (S29) → List (S55) → List (S160) → Int → List (S29) → Int → Int → Option ((List (S160)))
 | 0, _, _, _, _, _, _, _ => none
 | k + 1, x0, x3, x4, x5, x18, x19, x20 => if x20 < x19 then (if 0 ≤ x20 then (if x20 < (x18.length : Int) then ((impl_CredOk.f k ((rd_T29 x18 x20).f0) ((rd_T29 x18 x20).f1.f0) ((rd_T29 x18 x20).f1.f1) ((rd_T29 x18 x20).f2) ((rd_T29 x18 x20).f3.f0) ((rd_T29 x18 x20).f3.f1) ((rd_T29 x18 x20).f4.f0) ((rd_T29 x18 x20).f4.f1) ((rd_T29 x18 x20).f5) ((rd_T29 x18 x20).f6)).bind fun t526 => (if t526 = true then ((impl_Fact_152.f x3).bind fun t527 => ((impl_derive.f k t527 ((rd_T29 x18 x20).f0) ((rd_T29 x18 x20).f1.f0) ((rd_T29 x18 x20).f1.f1) ((rd_T29 x18 x20).f2) ((rd_T29 x18 x20).f3.f0) ((rd_T29 x18 x20).f3.f1) ((rd_T29 x18 x20).f4.f0) ((rd_T29 x18 x20).f4.f1) ((rd_T29 x18 x20).f5) ((rd_T29 x18 x20).f6)).bind fun t530 => (impl_findFacts.l2 k x0 x3 x4 x5 x20 x18 x19 x20 t530 (t530.length : Int) 0))) else (impl_findFacts.l1 k x0 x3 x4 x5 x18 x19 (wrap64 (x20 + 1))))) else (none)) else (none)) else (impl_findFacts.l0 k x0 x3 x4 x5)
def impl_findFacts.l2 : Nat → List (S29) → List (S55) → List (S160) → Int → Int → List (S29) → Int → Int → List (S165) → Int → Int → Option ((List (S160)))
 | 0, _, _, _, _, _, _, _, _, _, _, _ => none
 | k + 1, x0, x3, x4, x5, x6, x18, x19, x20, x31, x32, x33 => if x33 < x32 then (if 0 ≤ x33 then (if x33 < (x31.length : Int) then ((impl_Fact_143.f k x3 ((rd_T165 x31 x33).f0.f0.f0) ((rd_T165 x31 x33).f0.f0.f1) ((rd_T165 x31 x33).f0.f1)).bind fun t535 => (if t535 = true then (impl_findFacts.l2 k x0 x3 x4 x5 x6 x18 x19 x20 x31 x32 (wrap64 (x33 + 1))) else (if x3.length < 5864062014805 then (if x4.length < 2513169434916 then (impl_findFacts.l2 k x0 (x3 ++ [(⟨(⟨(rd_T165 x31 x33).f0.f0.f0, (rd_T165 x31 x33).f0.f0.f1⟩ : S27), (rd_T165 x31 x33).f0.f1⟩ : S55)]) (x4 ++ [(⟨(⟨(⟨(rd_T165 x31 x33).f0.f0.f0, (rd_T165 x31 x33).f0.f0.f1⟩ : S27), (rd_T165 x31 x33).f0.f1⟩ : S55), x6, (rd_T165 x31 x33).f1⟩ : S160)]) x5 x6 x18 x19 x20 x31 x32 (wrap64 (x33 + 1))) else (none)) else (none)))) else (none)) else (none)) else (impl_findFacts.l1 k x0 x3 x4 x5 x18 x19 (wrap64 (x20 + 1)))
end
def impl_findFacts.f (k : Nat) (l0 : List (S29)) : Option ((List (S160))) := impl_findFacts.l0 k l0 (([] : List (S55))) (([] : List (S160))) (-1)
set_option maxHeartbeats 8000000 in
set_option maxRecDepth 100000 in
theorem impl_findFacts.calls (k : Nat) (A0 : Option Addr) (c0 : Nat) (l0 : List (S29)) (r : List (S160)) (w : World) (hr0 : Kd.C k29 w A0 l0.length l0) (hc0 : l0.length ≤ c0) (h : impl_findFacts.f k l0 = some r) :
  Calls Try.prog 130 #[.slice A0 l0.length c0] w fun e w' => ∃ v0_ : Value, e = .returned (v0_) ∧ Kd.N k160 160 w' w.heap.size (fun k_ => (w.heap.size ≤ k_)) v0_ r ∧ Below w.heap.size w w' := by
 have hu29 := Try.underlying29
 have hu165 := Try.underlying165
 have hu55 := Try.underlying55
 have hu160 := Try.underlying160
 have HR0 := Aside0.mk hr0
 have HC0 := Aside0.mk hc0
 clear hr0 hc0
 have HB := Aside0.mk (Below.refl w.heap.size w)
 have H : (impl_findFacts.l0 k l0 (([] : List (S55))) (([] : List (S160))) (-1)) = some r := h
 clear h
 obtain ⟨y518, hy518⟩ : ∃ y_ : List (S55), y_ = (([] : List (S55))) := ⟨_, rfl⟩
 replace H : (impl_findFacts.l0 k l0 y518 (([] : List (S160))) (-1)) = some r := by first | (rw [hy518]; with_reducible exact H) | (have H2_ := (Option.bind_some _ _).symm.trans H; rw [hy518]; with_reducible exact H2_) | (have H2_ := (Option.bind_some _ _).symm.trans H; with_reducible exact H2_) | with_reducible exact H | (rw [hy518]; exact H) | exact H
 have Ny518 := Aside0.mk hy518
 clear hy518
 obtain ⟨y521, hy521⟩ : ∃ y_ : List (S160), y_ = (([] : List (S160))) := ⟨_, rfl⟩
 replace H : (impl_findFacts.l0 k l0 y518 y521 (-1)) = some r := by first | (rw [hy521]; with_reducible exact H) | (have H2_ := (Option.bind_some _ _).symm.trans H; rw [hy521]; with_reducible exact H2_) | (have H2_ := (Option.bind_some _ _).symm.trans H; with_reducible exact H2_) | with_reducible exact H | (rw [hy521]; exact H) | exact H
 have Ny521 := Aside0.mk hy521
 clear hy521
 have H' := Aside0.mk H
 clear H
 go_enter Try.func130, Try.ntmps130
 go_wp2_with (first | ((with_reducible refine gate_dst (N := 10) rfl ?_); refine Kd.R_lit k55 _ 55 ?hg (N := 10) ?hd (xs := ([] : List (S55))) (inner := []) (ok := fun _ => True) (okp := fun _ => True) ?hr ?hp (fun _ hk => hk) trivial (Below.refl _ _) (Nat.le_refl _) (by simp) ?_; (case hd => rfl); (case hg => rfl); (case hr => first | (go_simp; done) | (go_simp; rfl)); (case hp => exact (Reps.none _ _)); intro v519 w2 ho3 hb hg_ hnew_; clear hg_ hnew_; (first | rw [← Ny518.out] at ho3 | (simp only [Int.reduceToNat] at ho3; rw [← Ny518.out] at ho3)); have HO520 := Aside0.mk (Kd.R_lower (Kd.R_newM (M := fun k_ => (w.heap.size ≤ k_)) ho3 bls_ (fun k_ h_ => h_)) bls_); replace HB := hbs_ hb; clear hb ho3) | ((with_reducible refine gate_dst (N := 11) rfl ?_); refine Kd.N_lit k160 _ 160 ?hg (N' := 11) ?hd (xs := ([] : List (S160))) (inner := []) (ok := (fun k_ => (w.heap.size ≤ k_) ∧ some k_ ≠ (v519 : Value).ownBlock)) (okp := (fun k_ => (w.heap.size ≤ k_) ∧ some k_ ≠ (v519 : Value).ownBlock)) ?hr ?hp (fun _ hk => hk) ((show ∀ k_, w2.heap.size ≤ k_ → (fun k_ => (w.heap.size ≤ k_) ∧ some k_ ≠ (v519 : Value).ownBlock) k_ from fun k_ hk => ⟨(Nat.le_trans bls_ hk), Kd.fresh' (Kd.R_lt (by (with_reducible repeat (first | apply Kd.R_alloc | apply Kd.R_drewN | apply Kd.R_drew)); exact HO520.out)) k_ hk⟩) _ (Nat.le_refl _)) (Below.refl _ _) (Nat.le_refl _) (by simp) ?_; (case hd => rfl); (case hg => rfl); (case hr => first | (go_simp; done) | (go_simp; rfl)); (case hp => exact (Reps.none _ _)); intro v522 w4 ho5 hb hg_ hnew_; clear hg_ hnew_; (first | rw [← Ny521.out] at ho5 | (simp only [Int.reduceToNat] at ho5; rw [← Ny521.out] at ho5)); replace HO520 := Aside0.mk (Kd.R_below (by (with_reducible repeat (first | apply Kd.R_alloc | apply Kd.R_drewN | apply Kd.R_drew)); exact HO520.out) hb); have HO523 := Aside0.mk (Kd.N_lower ho5 bls_); replace HB := hbs_ hb; clear hb ho5))
 go_loopg [3, 4, 5] k (fun kq v3 v4 v5 w' => ∃ (x3_1 : List (S55)) (x4_1 : List (S160)) (x5_1 : Int), v5 = .int .i64 x5_1 ∧ Aside0 (impl_findFacts.l0 kq l0 x3_1 x4_1 x5_1 = some r) ∧ Aside0 (kq ≤ k) ∧ Aside0 (Kd.R k55 55 w' w.heap.size (fun k_ => (w.heap.size ≤ k_)) v3 x3_1) ∧ Aside0 (Kd.N k160 160 w' w.heap.size (fun k_ => (w.heap.size ≤ k_) ∧ some k_ ≠ (v3 : Value).ownBlock) v4 x4_1) ∧ Aside0 (Below w.heap.size w w'))
 case atStart => exact ⟨(y518), (y521), ((-1)), (by first | rfl | (simp; done) | (simp [*]; done)), H', ⟨Nat.le_refl _⟩, ⟨by (with_reducible repeat (first | apply Kd.R_alloc | apply Kd.R_drewN | apply Kd.R_drew)); exact Kd.R_mono HO520.out (fun _ hk => hk.1)⟩, ⟨by (with_reducible repeat (first | apply Kd.N_alloc | apply Kd.N_drewN | apply Kd.N_drew)); exact HO523.out⟩, ⟨bl_⟩⟩
 case round =>
  clear H'
  try clear c1
  try clear p2
  obtain ⟨x3_1, x4_1, x5_1, rfl, HA, HK1, HO_3, HO_4, HB⟩ := hrel
  cases gk with
  | zero => exact absurd HA.out (by simp [impl_findFacts.l0])
  | succ k1 =>
   have H := HA.out
   clear HA
   simp only [impl_findFacts.l0] at H
   by_cases c6 : x5_1 < (x3_1.length : Int)
   ·rw [if_pos c6] at H
    have c6b0 : decide (x5_1 < (x3_1.length : Int)) = true := decide_eq_true c6
    clear c6
    have H' := Aside0.mk H
    clear H
    obtain ⟨Ao7, co7, eo7⟩ := Kd.R_slice HO_3.out
    subst eo7
    go_wp2
    go_loopg [3, 4, 20] k1 (fun kq v3 v4 v20 w' => ∃ (x3_2 : List (S55)) (x4_2 : List (S160)) (x20_2 : Int), v20 = .int .i64 x20_2 ∧ Aside0 (impl_findFacts.l1 kq l0 x3_2 x4_2 (x3_1.length : Int) l0 (l0.length : Int) x20_2 = some r) ∧ Aside0 (kq ≤ k1) ∧ Aside0 (Kd.R k55 55 w' w.heap.size (fun k_ => (w.heap.size ≤ k_)) v3 x3_2) ∧ Aside0 (Kd.N k160 160 w' w.heap.size (fun k_ => (w.heap.size ≤ k_) ∧ some k_ ≠ (v3 : Value).ownBlock) v4 x4_2) ∧ Aside0 (Below w.heap.size w w'))
    case atStart => exact ⟨(x3_1), (x4_1), (0), (by first | rfl | (simp; done) | (simp [*]; done)), H', ⟨Nat.le_refl _⟩, ⟨by (with_reducible repeat (first | apply Kd.R_alloc | apply Kd.R_drewN | apply Kd.R_drew)); exact HO_3.out⟩, ⟨by (with_reducible repeat (first | apply Kd.N_alloc | apply Kd.N_drewN | apply Kd.N_drew)); exact HO_4.out⟩, ⟨bl_⟩⟩
    case round =>
     clear H'
     try clear c1
     try clear p2
     try clear c6
     try clear c6b0
     try clear p2
     obtain ⟨x3_2, x4_2, x20_2, rfl, HA, HK2, HO_3, HO_4, HB⟩ := hrel
     cases gk with
     | zero => exact absurd HA.out (by simp [impl_findFacts.l1])
     | succ k2 =>
      have H := HA.out
      clear HA
      simp only [impl_findFacts.l1] at H
      by_cases c8 : x20_2 < (l0.length : Int)
      ·rw [if_pos c8] at H
       have c8b0 : decide (x20_2 < (l0.length : Int)) = true := decide_eq_true c8
       clear c8
       by_cases c9 : 0 ≤ x20_2
       ·rw [if_pos c9] at H
        have c9b0 : decide (0 ≤ x20_2) = true := decide_eq_true c9
        clear c9
        by_cases c10 : x20_2 < (l0.length : Int)
        ·rw [if_pos c10] at H
         have c10b0 : decide (x20_2 < (l0.length : Int)) = true := decide_eq_true c10
         clear c10
         obtain ⟨t526, A11, H⟩ := bindE_ H
         by_cases c12 : t526 = true
         ·subst c12
          replace H := ite_t_ H
          obtain ⟨t527, A13, H⟩ := bindE_ H
          obtain ⟨t530, A14, H⟩ := bindE_ H
          have H' := Aside0.mk H
          clear H
          have p524 : 0 ≤ (x20_2 : Int) := of_decide_eq_true (by first | (with_reducible assumption) | assumption)
          have q524 : x20_2 < (l0.length : Int) := of_decide_eq_true (by first | (with_reducible assumption) | assumption)
          obtain ⟨ad524, e524, hx524_0, hx524_1, hx524_2, hx524_3, hx524_4, hx524_5, hx524_6, hx524_7, hx524_8, hx524_9⟩ := at_T29 (Kd.C_below HR0.out HB.out) x20_2 p524 q524
          cases e524
          replace p524 := eq_true p524
          replace q524 := eq_true q524
          try go_wp2_with (first | ((with_reducible refine gate_dst (N := 7) rfl ?_); refine box_event ?hg (N := 7) ?hd (cs := #[.int .i64 0, .int .i64 0, .int .i64 0, .int .i64 0, .int .i64 0, .int .i64 0, .int .i64 0, .int .i64 0, .int .i64 0, .int .i64 0]) (t := 29) ?hr ?_; (case hd => rfl); (case hg => rfl); (case hr => first | (go_simp; done) | (go_simp; rfl)); intro gb525 hg w15 hbox hb; replace HO_3 := Aside0.mk (Kd.R_below (by (with_reducible repeat (first | apply Kd.R_alloc | apply Kd.R_drewN | apply Kd.R_drew)); exact HO_3.out) hb); replace HO_4 := Aside0.mk (Kd.N_below (Kd.N_elderB (by (with_reducible repeat (first | apply Kd.N_alloc | apply Kd.N_drewN | apply Kd.N_drew)); exact HO_4.out) gb525 (Nat.le_of_eq hg.symm)) hb); have BK525 := Aside0.mk (hbox); have GW525 := gs_ hg; have GE525 := gs_ hg; replace HB := hbs_ hb; clear hb hbox hg; have hcz16 := blk_cell BK525.out; have hfz16 := blk_frozen BK525.out) | ((with_reducible refine gate_callee (f := 71) rfl ?_); refine goesC_ (some 26) Try.func71 #[.agg #[.int .i64 ((rd_T29 l0 x20_2).f0), .int .i64 ((rd_T29 l0 x20_2).f1.f0), .int .i64 ((rd_T29 l0 x20_2).f1.f1), .int .i64 ((rd_T29 l0 x20_2).f2), .int .i64 ((rd_T29 l0 x20_2).f3.f0), .int .i64 ((rd_T29 l0 x20_2).f3.f1), .int .i64 ((rd_T29 l0 x20_2).f4.f0), .int .i64 ((rd_T29 l0 x20_2).f4.f1), .int .i64 ((rd_T29 l0 x20_2).f5), .int .i64 ((rd_T29 l0 x20_2).f6)]] ?_; (with_reducible refine (impl_CredOk.calls k2 ((rd_T29 l0 x20_2).f0) ((rd_T29 l0 x20_2).f1.f0) ((rd_T29 l0 x20_2).f1.f1) ((rd_T29 l0 x20_2).f2) ((rd_T29 l0 x20_2).f3.f0) ((rd_T29 l0 x20_2).f3.f1) ((rd_T29 l0 x20_2).f4.f0) ((rd_T29 l0 x20_2).f4.f1) ((rd_T29 l0 x20_2).f5) ((rd_T29 l0 x20_2).f6) true _ A11.out).mono ?_); rintro e w17 ⟨rfl, hb⟩; refine ⟨_, rfl, ?_⟩; replace HO_3 := Aside0.mk (Kd.R_below (by (with_reducible repeat (first | apply Kd.R_alloc | apply Kd.R_drewN | apply Kd.R_drew)); exact (Kd.R_mono (Kd.R_far (p := ⟨gb525, 9, none⟩) (Kd.R_far (p := ⟨gb525, 8, none⟩) (Kd.R_far (p := ⟨gb525, 7, none⟩) (Kd.R_far (p := ⟨gb525, 6, none⟩) (Kd.R_far (p := ⟨gb525, 5, none⟩) (Kd.R_far (p := ⟨gb525, 4, none⟩) (Kd.R_far (p := ⟨gb525, 3, none⟩) (Kd.R_far (p := ⟨gb525, 2, none⟩) (Kd.R_far (p := ⟨gb525, 1, none⟩) (Kd.R_far (p := ⟨gb525, 0, none⟩) (Kd.R_types HO_3.out BK525.out (by decide)) (fun _ hk => hk.2) (.int .i64 ((rd_T29 l0 x20_2).f0))) (fun _ hk => hk.2) (.int .i64 ((rd_T29 l0 x20_2).f1.f0))) (fun _ hk => hk.2) (.int .i64 ((rd_T29 l0 x20_2).f1.f1))) (fun _ hk => hk.2) (.int .i64 ((rd_T29 l0 x20_2).f2))) (fun _ hk => hk.2) (.int .i64 ((rd_T29 l0 x20_2).f3.f0))) (fun _ hk => hk.2) (.int .i64 ((rd_T29 l0 x20_2).f3.f1))) (fun _ hk => hk.2) (.int .i64 ((rd_T29 l0 x20_2).f4.f0))) (fun _ hk => hk.2) (.int .i64 ((rd_T29 l0 x20_2).f4.f1))) (fun _ hk => hk.2) (.int .i64 ((rd_T29 l0 x20_2).f5))) (fun _ hk => hk.2) (.int .i64 ((rd_T29 l0 x20_2).f6))) (fun _ h_ => h_.1))) hb); replace HO_4 := Aside0.mk (Kd.N_below (by (with_reducible repeat (first | apply Kd.N_alloc | apply Kd.N_drewN | apply Kd.N_drew)); exact (Kd.N_mono (Kd.N_far (p := ⟨gb525, 9, none⟩) (Kd.N_far (p := ⟨gb525, 8, none⟩) (Kd.N_far (p := ⟨gb525, 7, none⟩) (Kd.N_far (p := ⟨gb525, 6, none⟩) (Kd.N_far (p := ⟨gb525, 5, none⟩) (Kd.N_far (p := ⟨gb525, 4, none⟩) (Kd.N_far (p := ⟨gb525, 3, none⟩) (Kd.N_far (p := ⟨gb525, 2, none⟩) (Kd.N_far (p := ⟨gb525, 1, none⟩) (Kd.N_far (p := ⟨gb525, 0, none⟩) (Kd.N_mono HO_4.out (fun k_ hk => (⟨hk, hk.2⟩ : _ ∧ k_ ≠ gb525))) (fun _ hk => hk.2) (.int .i64 ((rd_T29 l0 x20_2).f0))) (fun _ hk => hk.2) (.int .i64 ((rd_T29 l0 x20_2).f1.f0))) (fun _ hk => hk.2) (.int .i64 ((rd_T29 l0 x20_2).f1.f1))) (fun _ hk => hk.2) (.int .i64 ((rd_T29 l0 x20_2).f2))) (fun _ hk => hk.2) (.int .i64 ((rd_T29 l0 x20_2).f3.f0))) (fun _ hk => hk.2) (.int .i64 ((rd_T29 l0 x20_2).f3.f1))) (fun _ hk => hk.2) (.int .i64 ((rd_T29 l0 x20_2).f4.f0))) (fun _ hk => hk.2) (.int .i64 ((rd_T29 l0 x20_2).f4.f1))) (fun _ hk => hk.2) (.int .i64 ((rd_T29 l0 x20_2).f5))) (fun _ hk => hk.2) (.int .i64 ((rd_T29 l0 x20_2).f6))) (fun _ h_ => h_.1))) hb); replace BK525 := Aside0.mk (blk_below (g := gb525) (o := .cells #[.int .i64 ((rd_T29 l0 x20_2).f0), .int .i64 ((rd_T29 l0 x20_2).f1.f0), .int .i64 ((rd_T29 l0 x20_2).f1.f1), .int .i64 ((rd_T29 l0 x20_2).f2), .int .i64 ((rd_T29 l0 x20_2).f3.f0), .int .i64 ((rd_T29 l0 x20_2).f3.f1), .int .i64 ((rd_T29 l0 x20_2).f4.f0), .int .i64 ((rd_T29 l0 x20_2).f4.f1), .int .i64 ((rd_T29 l0 x20_2).f5), .int .i64 ((rd_T29 l0 x20_2).f6)] 29 (0, 0)) (bk_ BK525) hb); replace HB := hbs_ hb; clear hb))
          replace HO_3 := Aside0.mk (Kd.R_drew HO_3.out)
          replace HO_4 := Aside0.mk (Kd.N_drew HO_4.out)
          replace BK525 := Aside0.mk (blk_drew BK525.out)
          replace HB := Aside0.mk (below_drew1 HB.out)
          obtain ⟨Ao19, co19, eo19⟩ := Kd.R_slice HO_3.out
          (first | subst eo19 | (injection eo19 with f1_ f2_ f3_; have f4_ := f1_.symm; have f5_ := f3_.symm; clear f1_ f2_ f3_; subst f4_; subst f5_))
          refine start_ (n := 6) (S := fun w' => w'.cell? ⟨gb525, 0, none⟩ = some (.int .i64 ((rd_T29 l0 x20_2).f0)) ∧ w'.cell? ⟨gb525, 1, none⟩ = some (.int .i64 ((rd_T29 l0 x20_2).f1.f0)) ∧ w'.cell? ⟨gb525, 2, none⟩ = some (.int .i64 ((rd_T29 l0 x20_2).f1.f1)) ∧ w'.cell? ⟨gb525, 3, none⟩ = some (.int .i64 ((rd_T29 l0 x20_2).f2)) ∧ w'.cell? ⟨gb525, 4, none⟩ = some (.int .i64 ((rd_T29 l0 x20_2).f3.f0)) ∧ w'.cell? ⟨gb525, 5, none⟩ = some (.int .i64 ((rd_T29 l0 x20_2).f3.f1)) ∧ w'.cell? ⟨gb525, 6, none⟩ = some (.int .i64 ((rd_T29 l0 x20_2).f4.f0)) ∧ w'.cell? ⟨gb525, 7, none⟩ = some (.int .i64 ((rd_T29 l0 x20_2).f4.f1)) ∧ w'.cell? ⟨gb525, 8, none⟩ = some (.int .i64 ((rd_T29 l0 x20_2).f5)) ∧ w'.cell? ⟨gb525, 9, none⟩ = some (.int .i64 ((rd_T29 l0 x20_2).f6))) (ds := []) #[false, false, false, false, false, false] (by kernel_rfl) rfl rfl ⟨(blk_cell BK525.out 0).trans rfl, (blk_cell BK525.out 1).trans rfl, (blk_cell BK525.out 2).trans rfl, (blk_cell BK525.out 3).trans rfl, (blk_cell BK525.out 4).trans rfl, (blk_cell BK525.out 5).trans rfl, (blk_cell BK525.out 6).trans rfl, (blk_cell BK525.out 7).trans rfl, (blk_cell BK525.out 8).trans rfl, (blk_cell BK525.out 9).trans rfl⟩ (fun hHeld => ?_)
          generalize w17.drew = w18 at HO_3 HO_4 BK525 HB hHeld ⊢
          refine pure_ (i := 0) (N := some 28) (v := ?_) (a' := ?_) #[true, false, false, false, false, false] rfl rfl (by kernel_rfl) (fun _ _ _ h => h) (Or.inl ⟨by rfl, ?_⟩) ?_ ?_
          rotate_left
          ·intro w'
           go_simp
           with_reducible rfl
          rotate_left
          ·simp only [Act.put, List.setIfInBounds_toArray, List.set_cons_zero, List.set_cons_succ, i64_w, i32_w]
           rfl
          refine pure_ (i := 5) (N := some 33) (v := ?_) (a' := ?_) #[true, false, false, false, false, true] rfl rfl (by kernel_rfl) (fun _ _ _ h => h) (Or.inl ⟨by rfl, ?_⟩) ?_ ?_
          rotate_left
          ·intro w'
           go_simp
           with_reducible rfl
          rotate_left
          ·simp only [Act.put, List.setIfInBounds_toArray, List.set_cons_zero, List.set_cons_succ, i64_w, i32_w]
           rfl
          refine take_ (i := 2) (N := some 30) (v := ?_) (a' := ?_) #[true, false, true, false, false, true] rfl rfl (by kernel_rfl) (fun _ _ _ h => h) (Or.inl ⟨by rfl, ?_⟩) hHeld ?_ ?_
          rotate_left
          ·rintro w' ⟨s0, s1, s2, s3, s4, s5, s6, s7, s8, s9⟩
           go_simp
           with_reducible rfl
          rotate_left
          ·simp only [Act.put, List.setIfInBounds_toArray, List.set_cons_zero, List.set_cons_succ, i64_w, i32_w]
           rfl
          refine one_ (i := 1) (N := some 29) #[true, true, true, false, false, true] rfl rfl (by kernel_rfl) (by decide) (fun K hK => ?_)
          refine goes_ Try.func152 (by kernel_rfl) rfl #[.slice Ao19 x3_2.length co19] (by rfl) rfl rfl (by (try simp only [List.map_toArray, List.map_cons, List.map_nil]); first | done | rfl | (simp only [List.length_drop, List.length_take]; rfl)) ?_
          with_reducible refine (impl_Fact_152.calls _ _ x3_2 t527 _ ?side1 ?side2 A13.out).mono ?_
          (case side1 => repeat (first | exact (Kd.R_reads' HO_3.out).2.2 | (with_reducible refine Kd.C_alloc ?_ _) | (with_reducible refine Kd.C_drewN ?_ _) | (with_reducible refine Kd.C_drew ?_)))
          (case side2 => exact (Kd.R_reads' HO_3.out).2.1)
          rintro e w20 ⟨v528, rfl, ho0, hb⟩
          refine ⟨_, rfl, ?_⟩
          replace HO_4 := Aside0.mk (Kd.N_elder' (by (with_reducible repeat (first | apply Kd.N_alloc | apply Kd.N_drewN | apply Kd.N_drew)); exact HO_4.out) (Kd.R_base ho0) hb)
          have HO529 := Aside0.mk (Kd.R_lower (Kd.R_new' (Kd.R_newM (M := fun k_ => (w.heap.size ≤ k_)) ho0 bls_ (fun k_ h_ => h_)) (Kd.R_lt (by (with_reducible repeat (first | apply Kd.R_alloc | apply Kd.R_drewN | apply Kd.R_drew)); exact HO_3.out))) bls_)
          replace HO_3 := Aside0.mk (Kd.R_elder' (by (with_reducible repeat (first | apply Kd.R_alloc | apply Kd.R_drewN | apply Kd.R_drew)); exact HO_3.out) (Kd.R_base ho0) hb)
          replace BK525 := bkb_ BK525 hb
          replace HB := hbs_ hb
          (try clear hb)
          (try clear hb2)
          (try clear hk)
          (try clear hi)
          (try clear ho0)
          obtain ⟨Ao21, co21, eo21⟩ := Kd.R_slice HO529.out
          (first | subst eo21 | (injection eo21 with f1_ f2_ f3_; have f4_ := f1_.symm; have f5_ := f3_.symm; clear f1_ f2_ f3_; subst f4_; subst f5_))
          refine hK.out _ _ ⟨(blk_cell BK525.out 0).trans rfl, (blk_cell BK525.out 1).trans rfl, (blk_cell BK525.out 2).trans rfl, (blk_cell BK525.out 3).trans rfl, (blk_cell BK525.out 4).trans rfl, (blk_cell BK525.out 5).trans rfl, (blk_cell BK525.out 6).trans rfl, (blk_cell BK525.out 7).trans rfl, (blk_cell BK525.out 8).trans rfl, (blk_cell BK525.out 9).trans rfl⟩ (fun hHeld => ?_)
          clear hK K
          refine norm_ (a' := ?_) ?_ ?_
          rotate_left
          ·show Act.put _ (some 29) _ = _
           simp only [Act.put, List.setIfInBounds_toArray, List.set_cons_zero, List.set_cons_succ, i64_w, i32_w]
           rfl
          refine one_ (i := 3) (N := some 31) #[true, true, true, true, false, true] rfl rfl (by kernel_rfl) (by decide) (fun K hK => ?_)
          refine goes_ Try.func132 (by kernel_rfl) rfl #[.slice Ao21 t527.length co21, .agg #[.int .i64 ((rd_T29 l0 x20_2).f0), .int .i64 ((rd_T29 l0 x20_2).f1.f0), .int .i64 ((rd_T29 l0 x20_2).f1.f1), .int .i64 ((rd_T29 l0 x20_2).f2), .int .i64 ((rd_T29 l0 x20_2).f3.f0), .int .i64 ((rd_T29 l0 x20_2).f3.f1), .int .i64 ((rd_T29 l0 x20_2).f4.f0), .int .i64 ((rd_T29 l0 x20_2).f4.f1), .int .i64 ((rd_T29 l0 x20_2).f5), .int .i64 ((rd_T29 l0 x20_2).f6)]] (by rfl) rfl rfl (by (try simp only [List.map_toArray, List.map_cons, List.map_nil]); first | done | rfl | (simp only [List.length_drop, List.length_take]; rfl)) ?_
          with_reducible refine (impl_derive.calls k2 _ _ t527 ((rd_T29 l0 x20_2).f0) ((rd_T29 l0 x20_2).f1.f0) ((rd_T29 l0 x20_2).f1.f1) ((rd_T29 l0 x20_2).f2) ((rd_T29 l0 x20_2).f3.f0) ((rd_T29 l0 x20_2).f3.f1) ((rd_T29 l0 x20_2).f4.f0) ((rd_T29 l0 x20_2).f4.f1) ((rd_T29 l0 x20_2).f5) ((rd_T29 l0 x20_2).f6) t530 _ ?side1 ?side2 A14.out).mono ?_
          (case side1 => repeat (first | exact (Kd.R_reads' HO529.out).2.2 | (with_reducible refine Kd.C_alloc ?_ _) | (with_reducible refine Kd.C_drewN ?_ _) | (with_reducible refine Kd.C_drew ?_)))
          (case side2 => exact (Kd.R_reads' HO529.out).2.1)
          rintro e w22 ⟨v531, rfl, ho0, hb⟩
          refine ⟨_, rfl, ?_⟩
          have HO532 := Aside0.mk (Kd.N_lower (Kd.N_mono (ok' := fun k_ => (w.heap.size ≤ k_) ∧ some k_ ≠ (.slice Ao19 x3_2.length co19 : Value).ownBlock ∧ some k_ ≠ (u4 : Value).ownBlock ∧ some k_ ≠ (.slice Ao21 t527.length co21 : Value).ownBlock ∧ k_ ≠ gb525) (Kd.S_N (Kd.S_bound ho0)) (fun k_ hk_ => ⟨(Nat.le_trans bls_ hk_.2.1), (Kd.fresh' (Kd.R_lt (by (with_reducible repeat (first | apply Kd.R_alloc | apply Kd.R_drewN | apply Kd.R_drew)); exact HO_3.out)) k_ hk_.2.1), (Kd.fresh' (Kd.N_lt (by (with_reducible repeat (first | apply Kd.N_alloc | apply Kd.N_drewN | apply Kd.N_drew)); exact HO_4.out)) k_ hk_.2.1), (Kd.fresh' (Kd.R_lt (by (with_reducible repeat (first | apply Kd.R_alloc | apply Kd.R_drewN | apply Kd.R_drew)); exact HO529.out)) k_ hk_.2.1), (Kd.freshB (g := gb525) (o := .cells #[.int .i64 ((rd_T29 l0 x20_2).f0), .int .i64 ((rd_T29 l0 x20_2).f1.f0), .int .i64 ((rd_T29 l0 x20_2).f1.f1), .int .i64 ((rd_T29 l0 x20_2).f2), .int .i64 ((rd_T29 l0 x20_2).f3.f0), .int .i64 ((rd_T29 l0 x20_2).f3.f1), .int .i64 ((rd_T29 l0 x20_2).f4.f0), .int .i64 ((rd_T29 l0 x20_2).f4.f1), .int .i64 ((rd_T29 l0 x20_2).f5), .int .i64 ((rd_T29 l0 x20_2).f6)] 29 (0, 0)) (bk_ BK525) k_ hk_.2.1)⟩)) bls_)
          replace HO_3 := Aside0.mk (Kd.R_below (by (with_reducible repeat (first | apply Kd.R_alloc | apply Kd.R_drewN | apply Kd.R_drew)); exact HO_3.out) hb)
          replace HO_4 := Aside0.mk (Kd.N_elder' (by (with_reducible repeat (first | apply Kd.N_alloc | apply Kd.N_drewN | apply Kd.N_drew)); exact HO_4.out) (Kd.S_base ho0) hb)
          replace HO529 := Aside0.mk (Kd.R_below (by (with_reducible repeat (first | apply Kd.R_alloc | apply Kd.R_drewN | apply Kd.R_drew)); exact HO529.out) hb)
          replace BK525 := bkb_ BK525 hb
          replace HB := hbs_ hb
          (try clear hb)
          (try clear hb2)
          (try clear hk)
          (try clear hi)
          (try clear ho0)
          obtain ⟨Ao23, co23, eo23⟩ := Kd.N_slice HO532.out
          (first | subst eo23 | (injection eo23 with f1_ f2_ f3_; have f4_ := f1_.symm; have f5_ := f3_.symm; clear f1_ f2_ f3_; subst f4_; subst f5_))
          refine hK.out _ _ ⟨(blk_cell BK525.out 0).trans rfl, (blk_cell BK525.out 1).trans rfl, (blk_cell BK525.out 2).trans rfl, (blk_cell BK525.out 3).trans rfl, (blk_cell BK525.out 4).trans rfl, (blk_cell BK525.out 5).trans rfl, (blk_cell BK525.out 6).trans rfl, (blk_cell BK525.out 7).trans rfl, (blk_cell BK525.out 8).trans rfl, (blk_cell BK525.out 9).trans rfl⟩ (fun hHeld => ?_)
          clear hK K
          refine norm_ (a' := ?_) ?_ ?_
          rotate_left
          ·show Act.put _ (some 31) _ = _
           simp only [Act.put, List.setIfInBounds_toArray, List.set_cons_zero, List.set_cons_succ, i64_w, i32_w]
           rfl
          refine pure_ (i := 4) (N := some 32) (v := ?_) (a' := ?_) #[true, true, true, true, true, true] rfl rfl (by kernel_rfl) (fun _ _ _ h => h) (Or.inl ⟨by rfl, ?_⟩) ?_ ?_
          rotate_left
          ·intro w'
           go_simp
           with_reducible rfl
          rotate_left
          ·simp only [Act.put, List.setIfInBounds_toArray, List.set_cons_zero, List.set_cons_succ, i64_w, i32_w]
           rfl
          refine done_ (by kernel_rfl) ?_
          try go_wp2
          go_loopg [3, 4, 33] k2 (fun kq v3 v4 v33 w' => ∃ (x3_3 : List (S55)) (x4_3 : List (S160)) (x33_3 : Int), v33 = .int .i64 x33_3 ∧ Aside0 (impl_findFacts.l2 kq l0 x3_3 x4_3 (x3_1.length : Int) x20_2 l0 (l0.length : Int) x20_2 t530 (t530.length : Int) x33_3 = some r) ∧ Aside0 (kq ≤ k2) ∧ Aside0 (Kd.R k55 55 w' w.heap.size (fun k_ => (w.heap.size ≤ k_)) v3 x3_3) ∧ Aside0 (Kd.N k160 160 w' w.heap.size (fun k_ => (w.heap.size ≤ k_) ∧ some k_ ≠ (v3 : Value).ownBlock ∧ some k_ ≠ ((.slice Ao23 t530.length co23) : Value).ownBlock ∧ k_ ≠ gb525) v4 x4_3) ∧ Aside0 (Kd.N k165 165 w' w.heap.size (fun k_ => (w.heap.size ≤ k_) ∧ some k_ ≠ (v3 : Value).ownBlock ∧ some k_ ≠ (v4 : Value).ownBlock ∧ k_ ≠ gb525) (.slice Ao23 t530.length co23) t530) ∧ Aside0 (w'.heap[gb525]? = some (.cells #[.int .i64 ((rd_T29 l0 x20_2).f0), .int .i64 ((rd_T29 l0 x20_2).f1.f0), .int .i64 ((rd_T29 l0 x20_2).f1.f1), .int .i64 ((rd_T29 l0 x20_2).f2), .int .i64 ((rd_T29 l0 x20_2).f3.f0), .int .i64 ((rd_T29 l0 x20_2).f3.f1), .int .i64 ((rd_T29 l0 x20_2).f4.f0), .int .i64 ((rd_T29 l0 x20_2).f4.f1), .int .i64 ((rd_T29 l0 x20_2).f5), .int .i64 ((rd_T29 l0 x20_2).f6)] 29 (0, 0))) ∧ Aside0 (Below w.heap.size w w'))
          case atStart => exact ⟨(x3_2), (x4_2), (0), (by first | rfl | (simp; done) | (simp [*]; done)), H', ⟨Nat.le_refl _⟩, ⟨by (with_reducible repeat (first | apply Kd.R_alloc | apply Kd.R_drewN | apply Kd.R_drew)); exact Kd.R_mono HO_3.out (fun _ hk => hk.1)⟩, ⟨by (with_reducible repeat (first | apply Kd.N_alloc | apply Kd.N_drewN | apply Kd.N_drew)); exact Kd.N_mono HO_4.out (fun _ hk => ⟨hk.1.1.1.1, ⟨hk.1.1.1.2, ⟨hk.2, hk.1.1.2⟩⟩⟩)⟩, ⟨by (with_reducible repeat (first | apply Kd.N_alloc | apply Kd.N_drewN | apply Kd.N_drew)); exact Kd.N_mono HO532.out (fun _ hk => ⟨hk.1, ⟨hk.2.1, ⟨hk.2.2.1, hk.2.2.2.2⟩⟩⟩)⟩, ⟨bk_ BK525⟩, ⟨bl_⟩⟩
          case round =>
           clear H'
           try clear c1
           try clear p2
           try clear p5
           try clear q5
           try clear hx5
           try clear c6
           try clear c6b0
           try clear c7
           try clear c8
           try clear c8b0
           try clear c9
           try clear c9b0
           try clear c10
           try clear c10b0
           try clear c12
           try clear c13
           try clear c15
           try clear hcz16
           try clear hfz16
           try clear hx524_0
           try clear hx524_1
           try clear hx524_2
           try clear hx524_3
           try clear hx524_4
           try clear hx524_5
           try clear hx524_6
           try clear hx524_7
           try clear hx524_8
           try clear hx524_9
           try clear p2
           try clear p524
           try clear q524
           obtain ⟨x3_3, x4_3, x33_3, rfl, HA, HK3, HO_3, HO_4, HO_31, BK525, HB⟩ := hrel
           cases gk with
           | zero => exact absurd HA.out (by simp [impl_findFacts.l2])
           | succ k3 =>
            have H := HA.out
            clear HA
            simp only [impl_findFacts.l2] at H
            by_cases c24 : x33_3 < (t530.length : Int)
            ·rw [if_pos c24] at H
             have c24b0 : decide (x33_3 < (t530.length : Int)) = true := decide_eq_true c24
             clear c24
             by_cases c25 : 0 ≤ x33_3
             ·rw [if_pos c25] at H
              have c25b0 : decide (0 ≤ x33_3) = true := decide_eq_true c25
              clear c25
              by_cases c26 : x33_3 < (t530.length : Int)
              ·rw [if_pos c26] at H
               have c26b0 : decide (x33_3 < (t530.length : Int)) = true := decide_eq_true c26
               clear c26
               obtain ⟨t535, A27, H⟩ := bindE_ H
               by_cases c28 : t535 = true
               ·subst c28
                replace H := ite_t_ H
                have H' := Aside0.mk H
                clear H
                have p533 : 0 ≤ (x33_3 : Int) := of_decide_eq_true (by first | (with_reducible assumption) | assumption)
                have q533 : x33_3 < (t530.length : Int) := of_decide_eq_true (by first | (with_reducible assumption) | assumption)
                obtain ⟨ad533, A533_3, c533_3, e533, hx533_0, hx533_1, hx533_2, hx533_3, hl533_3, hi533_3⟩ := at_T165 (Kd.N_reads' HO_31.out).2.2 x33_3 p533 q533
                cases e533
                obtain ⟨ce533, hce533, hMe533, hcc533⟩ := Kd.N_get HO_31.out z165 x33_3 p533 (by first | exact q533 | exact of_decide_eq_true (by first | (with_reducible assumption) | assumption) | (have e_ := (Kd.N_reads' HO_31.out).1; omega))
                obtain ⟨ua533_3, uc533_3, rfl, ul533_3, ge533_3⟩ := k165_openF hMe533
                have hv533_3 := hcc533 3 _ rfl
                rw [add_field _ _ 3 (by omega)] at hv533_3
                replace hv533_3 := Option.some.inj (hv533_3.symm.trans hx533_3)
                injection hv533_3 with hva_ hvn_ hvc_
                rw [hva_] at ge533_3
                rw [hvc_] at ul533_3
                have HL533_3 := Aside0.mk (show Kd.V (Kd.int .i64) 3 _ w.heap.size _ _ ((rd_T165 t530 x33_3).f1) from Kd.V_mk ul533_3 ge533_3)
                clear hva_ hvn_ hvc_ ge533_3 ul533_3
                clear hcc533 hce533
                have HR533_3 := Aside0.mk hi533_3
                have HC533_3 := Aside0.mk hl533_3
                clear hi533_3 hl533_3
                replace p533 := eq_true p533
                replace q533 := eq_true q533
                go_wp2_with (first | ((with_reducible refine gate_dst (N := 9) rfl ?_); refine box_event ?hg (N := 9) ?hd (cs := #[.int .i64 0, .int .i64 0, .int .i64 0, .slice none 0 0]) (t := 165) ?hr ?_; (case hd => rfl); (case hg => rfl); (case hr => first | (go_simp; done) | (go_simp; rfl)); intro gb534 hg w29 hbox hb; replace HO_3 := Aside0.mk (Kd.R_below (by (with_reducible repeat (first | apply Kd.R_alloc | apply Kd.R_drewN | apply Kd.R_drew)); exact HO_3.out) hb); replace HO_4 := Aside0.mk (Kd.N_below (Kd.N_elderB (by (with_reducible repeat (first | apply Kd.N_alloc | apply Kd.N_drewN | apply Kd.N_drew)); exact HO_4.out) gb534 (Nat.le_of_eq hg.symm)) hb); replace HO_31 := Aside0.mk (Kd.N_below (Kd.N_elderB (by (with_reducible repeat (first | apply Kd.N_alloc | apply Kd.N_drewN | apply Kd.N_drew)); exact HO_31.out) gb534 (Nat.le_of_eq hg.symm)) hb); replace HL533_3 := Aside0.mk (Kd.V_below (Kd.V_elderB (by (with_reducible repeat (first | apply Kd.V_alloc | apply Kd.V_drewN | apply Kd.V_drew)); exact HL533_3.out) gb534 (Nat.le_of_eq hg.symm)) hb); replace HR533_3 := Aside0.mk (Kd.C_below (by repeat (first | (with_reducible exact HR533_3.out) | (with_reducible refine Kd.C_alloc ?_ _) | (with_reducible refine Kd.C_drewN ?_ _) | (with_reducible refine Kd.C_drew ?_) | exact HR533_3.out)) hb); have BK534 := Aside0.mk (hbox); have GW534 := gs_ hg; have GE534 := gs_ hg; replace HB := hbs_ hb; have NB525_534 := Aside0.mk ((by rw [hg]; exact Nat.ne_of_lt (blk_lt (g := gb525) (o := .cells #[.int .i64 ((rd_T29 l0 x20_2).f0), .int .i64 ((rd_T29 l0 x20_2).f1.f0), .int .i64 ((rd_T29 l0 x20_2).f1.f1), .int .i64 ((rd_T29 l0 x20_2).f2), .int .i64 ((rd_T29 l0 x20_2).f3.f0), .int .i64 ((rd_T29 l0 x20_2).f3.f1), .int .i64 ((rd_T29 l0 x20_2).f4.f0), .int .i64 ((rd_T29 l0 x20_2).f4.f1), .int .i64 ((rd_T29 l0 x20_2).f5), .int .i64 ((rd_T29 l0 x20_2).f6)] 29 (0, 0)) (bk_ BK525)) : gb525 ≠ gb534)); have NB534_525 := Aside0.mk ((by rw [hg]; exact Nat.ne_of_gt (blk_lt (g := gb525) (o := .cells #[.int .i64 ((rd_T29 l0 x20_2).f0), .int .i64 ((rd_T29 l0 x20_2).f1.f0), .int .i64 ((rd_T29 l0 x20_2).f1.f1), .int .i64 ((rd_T29 l0 x20_2).f2), .int .i64 ((rd_T29 l0 x20_2).f3.f0), .int .i64 ((rd_T29 l0 x20_2).f3.f1), .int .i64 ((rd_T29 l0 x20_2).f4.f0), .int .i64 ((rd_T29 l0 x20_2).f4.f1), .int .i64 ((rd_T29 l0 x20_2).f5), .int .i64 ((rd_T29 l0 x20_2).f6)] 29 (0, 0)) (bk_ BK525)) : gb534 ≠ gb525)); replace BK525 := bkb_ BK525 hb; clear hb hbox hg; have hnb30 := NB534_525.out; have hnc30 := NB525_534.out; have hcz31 := blk_cell BK534.out; have hfz31 := blk_frozen BK534.out; obtain ⟨Ao32, co32, eo32⟩ := Kd.R_slice HO_3.out; subst eo32) | ((with_reducible refine gate_callee (f := 143) rfl ?_); refine goesC_ (some 40) Try.func143 #[.slice Ao32 x3_3.length co32, .agg #[.int .i64 ((rd_T165 t530 x33_3).f0.f0.f0), .int .i64 ((rd_T165 t530 x33_3).f0.f0.f1), .int .i64 ((rd_T165 t530 x33_3).f0.f1)]] ?_; (with_reducible refine (impl_Fact_143.calls k3 _ _ x3_3 ((rd_T165 t530 x33_3).f0.f0.f0) ((rd_T165 t530 x33_3).f0.f0.f1) ((rd_T165 t530 x33_3).f0.f1) true _ ?side1 ?side2 A27.out).mono ?_); (case side1 => refine (Kd.R_reads' (e := 55) (base := w.heap.size) (ok := fun k_ => (w.heap.size ≤ k_)) (n := x3_3.length) (c := co32) ?_).2.2; exact (by (with_reducible repeat (first | apply Kd.R_alloc | apply Kd.R_drewN | apply Kd.R_drew)); exact (Kd.R_mono (Kd.R_far (p := ⟨gb534, 3, none⟩) (Kd.R_far (p := ⟨gb534, 2, none⟩) (Kd.R_far (p := ⟨gb534, 1, none⟩) (Kd.R_far (p := ⟨gb534, 0, none⟩) (Kd.R_types HO_3.out BK534.out (by decide)) (fun _ hk => hk.2) (.int .i64 ((rd_T165 t530 x33_3).f0.f0.f0))) (fun _ hk => hk.2) (.int .i64 ((rd_T165 t530 x33_3).f0.f0.f1))) (fun _ hk => hk.2) (.int .i64 ((rd_T165 t530 x33_3).f0.f1))) (fun _ hk => hk.2) (.slice A533_3 ((rd_T165 t530 x33_3).f1).length c533_3)) (fun _ h_ => h_.1)))); (case side2 => exact (Kd.R_reads' HO_3.out).2.1); rintro e w33 ⟨rfl, hb⟩; refine ⟨_, rfl, ?_⟩; replace HO_3 := Aside0.mk (Kd.R_below (by (with_reducible repeat (first | apply Kd.R_alloc | apply Kd.R_drewN | apply Kd.R_drew)); exact (Kd.R_mono (Kd.R_far (p := ⟨gb534, 3, none⟩) (Kd.R_far (p := ⟨gb534, 2, none⟩) (Kd.R_far (p := ⟨gb534, 1, none⟩) (Kd.R_far (p := ⟨gb534, 0, none⟩) (Kd.R_types HO_3.out BK534.out (by decide)) (fun _ hk => hk.2) (.int .i64 ((rd_T165 t530 x33_3).f0.f0.f0))) (fun _ hk => hk.2) (.int .i64 ((rd_T165 t530 x33_3).f0.f0.f1))) (fun _ hk => hk.2) (.int .i64 ((rd_T165 t530 x33_3).f0.f1))) (fun _ hk => hk.2) (.slice A533_3 ((rd_T165 t530 x33_3).f1).length c533_3)) (fun _ h_ => h_.1))) hb); replace HO_4 := Aside0.mk (Kd.N_below (by (with_reducible repeat (first | apply Kd.N_alloc | apply Kd.N_drewN | apply Kd.N_drew)); exact (Kd.N_mono (Kd.N_far (p := ⟨gb534, 3, none⟩) (Kd.N_far (p := ⟨gb534, 2, none⟩) (Kd.N_far (p := ⟨gb534, 1, none⟩) (Kd.N_far (p := ⟨gb534, 0, none⟩) (Kd.N_mono HO_4.out (fun k_ hk => (⟨hk, hk.2⟩ : _ ∧ k_ ≠ gb534))) (fun _ hk => hk.2) (.int .i64 ((rd_T165 t530 x33_3).f0.f0.f0))) (fun _ hk => hk.2) (.int .i64 ((rd_T165 t530 x33_3).f0.f0.f1))) (fun _ hk => hk.2) (.int .i64 ((rd_T165 t530 x33_3).f0.f1))) (fun _ hk => hk.2) (.slice A533_3 ((rd_T165 t530 x33_3).f1).length c533_3)) (fun _ h_ => h_.1))) hb); replace HO_31 := Aside0.mk (Kd.N_below (by (with_reducible repeat (first | apply Kd.N_alloc | apply Kd.N_drewN | apply Kd.N_drew)); exact (Kd.N_mono (Kd.N_far (p := ⟨gb534, 3, none⟩) (Kd.N_far (p := ⟨gb534, 2, none⟩) (Kd.N_far (p := ⟨gb534, 1, none⟩) (Kd.N_far (p := ⟨gb534, 0, none⟩) (Kd.N_mono HO_31.out (fun k_ hk => (⟨hk, hk.2⟩ : _ ∧ k_ ≠ gb534))) (fun _ hk => hk.2) (.int .i64 ((rd_T165 t530 x33_3).f0.f0.f0))) (fun _ hk => hk.2) (.int .i64 ((rd_T165 t530 x33_3).f0.f0.f1))) (fun _ hk => hk.2) (.int .i64 ((rd_T165 t530 x33_3).f0.f1))) (fun _ hk => hk.2) (.slice A533_3 ((rd_T165 t530 x33_3).f1).length c533_3)) (fun _ h_ => h_.1))) hb); replace BK525 := Aside0.mk (blk_below (g := gb525) (o := .cells #[.int .i64 ((rd_T29 l0 x20_2).f0), .int .i64 ((rd_T29 l0 x20_2).f1.f0), .int .i64 ((rd_T29 l0 x20_2).f1.f1), .int .i64 ((rd_T29 l0 x20_2).f2), .int .i64 ((rd_T29 l0 x20_2).f3.f0), .int .i64 ((rd_T29 l0 x20_2).f3.f1), .int .i64 ((rd_T29 l0 x20_2).f4.f0), .int .i64 ((rd_T29 l0 x20_2).f4.f1), .int .i64 ((rd_T29 l0 x20_2).f5), .int .i64 ((rd_T29 l0 x20_2).f6)] 29 (0, 0)) (bk_ BK525) hb); replace HR533_3 := Aside0.mk (Kd.C_below ((Kd.V_reads' (by (with_reducible repeat (first | apply Kd.V_alloc | apply Kd.V_drewN | apply Kd.V_drew)); exact (Kd.V_mono (Kd.V_far (p := ⟨gb534, 3, none⟩) (Kd.V_far (p := ⟨gb534, 2, none⟩) (Kd.V_far (p := ⟨gb534, 1, none⟩) (Kd.V_far (p := ⟨gb534, 0, none⟩) (Kd.V_mono HL533_3.out (fun k_ hk => (⟨hk, hk.2⟩ : _ ∧ k_ ≠ gb534))) (fun _ hk => hk.2) (.int .i64 ((rd_T165 t530 x33_3).f0.f0.f0))) (fun _ hk => hk.2) (.int .i64 ((rd_T165 t530 x33_3).f0.f0.f1))) (fun _ hk => hk.2) (.int .i64 ((rd_T165 t530 x33_3).f0.f1))) (fun _ hk => hk.2) (.slice A533_3 ((rd_T165 t530 x33_3).f1).length c533_3)) (fun _ h_ => h_.1)))).2.2) hb); replace HL533_3 := Aside0.mk (Kd.V_below (by (with_reducible repeat (first | apply Kd.V_alloc | apply Kd.V_drewN | apply Kd.V_drew)); exact (Kd.V_mono (Kd.V_far (p := ⟨gb534, 3, none⟩) (Kd.V_far (p := ⟨gb534, 2, none⟩) (Kd.V_far (p := ⟨gb534, 1, none⟩) (Kd.V_far (p := ⟨gb534, 0, none⟩) (Kd.V_mono HL533_3.out (fun k_ hk => (⟨hk, hk.2⟩ : _ ∧ k_ ≠ gb534))) (fun _ hk => hk.2) (.int .i64 ((rd_T165 t530 x33_3).f0.f0.f0))) (fun _ hk => hk.2) (.int .i64 ((rd_T165 t530 x33_3).f0.f0.f1))) (fun _ hk => hk.2) (.int .i64 ((rd_T165 t530 x33_3).f0.f1))) (fun _ hk => hk.2) (.slice A533_3 ((rd_T165 t530 x33_3).f1).length c533_3)) (fun _ h_ => h_.1))) hb); replace BK534 := Aside0.mk (blk_below (g := gb534) (o := .cells #[.int .i64 ((rd_T165 t530 x33_3).f0.f0.f0), .int .i64 ((rd_T165 t530 x33_3).f0.f0.f1), .int .i64 ((rd_T165 t530 x33_3).f0.f1), .slice A533_3 ((rd_T165 t530 x33_3).f1).length c533_3] 165 (0, 0)) (bk_ BK534) hb); replace HB := hbs_ hb; clear hb))
                go_roundg k3
                case measure => have := HK1.out; have := HK2.out; have := HK3.out; omega
                case rel => exact ⟨(x3_3), (x4_3), (wrap64 (x33_3 + 1)), (by first | rfl | (simp; done) | (simp [*]; done)), H', ⟨by have := HK1.out; have := HK2.out; have := HK3.out; omega⟩, ⟨by (with_reducible repeat (first | apply Kd.R_alloc | apply Kd.R_drewN | apply Kd.R_drew)); exact HO_3.out⟩, ⟨by (with_reducible repeat (first | apply Kd.N_alloc | apply Kd.N_drewN | apply Kd.N_drew)); exact Kd.N_mono HO_4.out (fun _ hk => ⟨hk.1.1, ⟨hk.1.2.1, ⟨hk.1.2.2.1, hk.1.2.2.2⟩⟩⟩)⟩, ⟨by (with_reducible repeat (first | apply Kd.N_alloc | apply Kd.N_drewN | apply Kd.N_drew)); exact Kd.N_mono HO_31.out (fun _ hk => ⟨hk.1.1, ⟨hk.1.2.1, ⟨hk.1.2.2.1, hk.1.2.2.2⟩⟩⟩)⟩, ⟨bk_ BK525⟩, ⟨bl_⟩⟩
               ·replace c28 := Bool.eq_false_iff.mpr c28
                subst c28
                replace H := ite_f_ H
                by_cases c34 : x3_3.length < 5864062014805
                ·rw [if_pos c34] at H
                 have LMc34 := Aside0.mk c34
                 clear c34
                 obtain ⟨y536, hy536⟩ : ∃ y_ : List (S55), y_ = (x3_3 ++ [(⟨(⟨(rd_T165 t530 x33_3).f0.f0.f0, (rd_T165 t530 x33_3).f0.f0.f1⟩ : S27), (rd_T165 t530 x33_3).f0.f1⟩ : S55)]) := ⟨_, rfl⟩
                 replace H : (if x4_3.length < 2513169434916 then (impl_findFacts.l2 k3 l0 y536 (x4_3 ++ [(⟨(⟨(⟨(rd_T165 t530 x33_3).f0.f0.f0, (rd_T165 t530 x33_3).f0.f0.f1⟩ : S27), (rd_T165 t530 x33_3).f0.f1⟩ : S55), x20_2, (rd_T165 t530 x33_3).f1⟩ : S160)]) (x3_1.length : Int) x20_2 l0 (l0.length : Int) x20_2 t530 (t530.length : Int) (wrap64 (x33_3 + 1))) else (none)) = some r := by first | (rw [hy536]; with_reducible exact H) | (have H2_ := (Option.bind_some _ _).symm.trans H; rw [hy536]; with_reducible exact H2_) | (have H2_ := (Option.bind_some _ _).symm.trans H; with_reducible exact H2_) | with_reducible exact H | (rw [hy536]; exact H) | exact H
                 have Ny536 := Aside0.mk hy536
                 clear hy536
                 by_cases c35 : x4_3.length < 2513169434916
                 ·rw [if_pos c35] at H
                  have LMc35 := Aside0.mk c35
                  clear c35
                  obtain ⟨y539, hy539⟩ : ∃ y_ : List (S160), y_ = (x4_3 ++ [(⟨(⟨(⟨(rd_T165 t530 x33_3).f0.f0.f0, (rd_T165 t530 x33_3).f0.f0.f1⟩ : S27), (rd_T165 t530 x33_3).f0.f1⟩ : S55), x20_2, (rd_T165 t530 x33_3).f1⟩ : S160)]) := ⟨_, rfl⟩
                  replace H : (impl_findFacts.l2 k3 l0 y536 y539 (x3_1.length : Int) x20_2 l0 (l0.length : Int) x20_2 t530 (t530.length : Int) (wrap64 (x33_3 + 1))) = some r := by first | (rw [hy539]; with_reducible exact H) | (have H2_ := (Option.bind_some _ _).symm.trans H; rw [hy539]; with_reducible exact H2_) | (have H2_ := (Option.bind_some _ _).symm.trans H; with_reducible exact H2_) | with_reducible exact H | (rw [hy539]; exact H) | exact H
                  have Ny539 := Aside0.mk hy539
                  clear hy539
                  have H' := Aside0.mk H
                  clear H
                  have p533 : 0 ≤ (x33_3 : Int) := of_decide_eq_true (by first | (with_reducible assumption) | assumption)
                  have q533 : x33_3 < (t530.length : Int) := of_decide_eq_true (by first | (with_reducible assumption) | assumption)
                  obtain ⟨ad533, A533_3, c533_3, e533, hx533_0, hx533_1, hx533_2, hx533_3, hl533_3, hi533_3⟩ := at_T165 (Kd.N_reads' HO_31.out).2.2 x33_3 p533 q533
                  cases e533
                  obtain ⟨ce533, hce533, hMe533, hcc533⟩ := Kd.N_get HO_31.out z165 x33_3 p533 (by first | exact q533 | exact of_decide_eq_true (by first | (with_reducible assumption) | assumption) | (have e_ := (Kd.N_reads' HO_31.out).1; omega))
                  obtain ⟨ua533_3, uc533_3, rfl, ul533_3, ge533_3⟩ := k165_openF hMe533
                  have hv533_3 := hcc533 3 _ rfl
                  rw [add_field _ _ 3 (by omega)] at hv533_3
                  replace hv533_3 := Option.some.inj (hv533_3.symm.trans hx533_3)
                  injection hv533_3 with hva_ hvn_ hvc_
                  rw [hva_] at ge533_3
                  rw [hvc_] at ul533_3
                  have HL533_3 := Aside0.mk (show Kd.V (Kd.int .i64) 3 _ w.heap.size _ _ ((rd_T165 t530 x33_3).f1) from Kd.V_mk ul533_3 ge533_3)
                  clear hva_ hvn_ hvc_ ge533_3 ul533_3
                  clear hcc533 hce533
                  have HR533_3 := Aside0.mk hi533_3
                  have HC533_3 := Aside0.mk hl533_3
                  clear hi533_3 hl533_3
                  replace p533 := eq_true p533
                  replace q533 := eq_true q533
                  go_wp2_with (first | ((with_reducible refine gate_dst (N := 9) rfl ?_); refine box_event ?hg (N := 9) ?hd (cs := #[.int .i64 0, .int .i64 0, .int .i64 0, .slice none 0 0]) (t := 165) ?hr ?_; (case hd => rfl); (case hg => rfl); (case hr => first | (go_simp; done) | (go_simp; rfl)); intro gb534 hg w36 hbox hb; replace HO_3 := Aside0.mk (Kd.R_below (by (with_reducible repeat (first | apply Kd.R_alloc | apply Kd.R_drewN | apply Kd.R_drew)); exact HO_3.out) hb); replace HO_4 := Aside0.mk (Kd.N_below (Kd.N_elderB (by (with_reducible repeat (first | apply Kd.N_alloc | apply Kd.N_drewN | apply Kd.N_drew)); exact HO_4.out) gb534 (Nat.le_of_eq hg.symm)) hb); replace HO_31 := Aside0.mk (Kd.N_below (Kd.N_elderB (by (with_reducible repeat (first | apply Kd.N_alloc | apply Kd.N_drewN | apply Kd.N_drew)); exact HO_31.out) gb534 (Nat.le_of_eq hg.symm)) hb); replace HL533_3 := Aside0.mk (Kd.V_below (Kd.V_elderB (by (with_reducible repeat (first | apply Kd.V_alloc | apply Kd.V_drewN | apply Kd.V_drew)); exact HL533_3.out) gb534 (Nat.le_of_eq hg.symm)) hb); replace HR533_3 := Aside0.mk (Kd.C_below (by repeat (first | (with_reducible exact HR533_3.out) | (with_reducible refine Kd.C_alloc ?_ _) | (with_reducible refine Kd.C_drewN ?_ _) | (with_reducible refine Kd.C_drew ?_) | exact HR533_3.out)) hb); have BK534 := Aside0.mk (hbox); have GW534 := gs_ hg; have GE534 := gs_ hg; replace HB := hbs_ hb; have NB525_534 := Aside0.mk ((by rw [hg]; exact Nat.ne_of_lt (blk_lt (g := gb525) (o := .cells #[.int .i64 ((rd_T29 l0 x20_2).f0), .int .i64 ((rd_T29 l0 x20_2).f1.f0), .int .i64 ((rd_T29 l0 x20_2).f1.f1), .int .i64 ((rd_T29 l0 x20_2).f2), .int .i64 ((rd_T29 l0 x20_2).f3.f0), .int .i64 ((rd_T29 l0 x20_2).f3.f1), .int .i64 ((rd_T29 l0 x20_2).f4.f0), .int .i64 ((rd_T29 l0 x20_2).f4.f1), .int .i64 ((rd_T29 l0 x20_2).f5), .int .i64 ((rd_T29 l0 x20_2).f6)] 29 (0, 0)) (bk_ BK525)) : gb525 ≠ gb534)); have NB534_525 := Aside0.mk ((by rw [hg]; exact Nat.ne_of_gt (blk_lt (g := gb525) (o := .cells #[.int .i64 ((rd_T29 l0 x20_2).f0), .int .i64 ((rd_T29 l0 x20_2).f1.f0), .int .i64 ((rd_T29 l0 x20_2).f1.f1), .int .i64 ((rd_T29 l0 x20_2).f2), .int .i64 ((rd_T29 l0 x20_2).f3.f0), .int .i64 ((rd_T29 l0 x20_2).f3.f1), .int .i64 ((rd_T29 l0 x20_2).f4.f0), .int .i64 ((rd_T29 l0 x20_2).f4.f1), .int .i64 ((rd_T29 l0 x20_2).f5), .int .i64 ((rd_T29 l0 x20_2).f6)] 29 (0, 0)) (bk_ BK525)) : gb534 ≠ gb525)); replace BK525 := bkb_ BK525 hb; clear hb hbox hg; have hnb37 := NB534_525.out; have hnc37 := NB525_534.out; have hcz38 := blk_cell BK534.out; have hfz38 := blk_frozen BK534.out; obtain ⟨Ao39, co39, eo39⟩ := Kd.R_slice HO_3.out; subst eo39) | ((with_reducible refine gate_callee (f := 143) rfl ?_); refine goesC_ (some 40) Try.func143 #[.slice Ao39 x3_3.length co39, .agg #[.int .i64 ((rd_T165 t530 x33_3).f0.f0.f0), .int .i64 ((rd_T165 t530 x33_3).f0.f0.f1), .int .i64 ((rd_T165 t530 x33_3).f0.f1)]] ?_; (with_reducible refine (impl_Fact_143.calls k3 _ _ x3_3 ((rd_T165 t530 x33_3).f0.f0.f0) ((rd_T165 t530 x33_3).f0.f0.f1) ((rd_T165 t530 x33_3).f0.f1) false _ ?side1 ?side2 A27.out).mono ?_); (case side1 => refine (Kd.R_reads' (e := 55) (base := w.heap.size) (ok := fun k_ => (w.heap.size ≤ k_)) (n := x3_3.length) (c := co39) ?_).2.2; exact (by (with_reducible repeat (first | apply Kd.R_alloc | apply Kd.R_drewN | apply Kd.R_drew)); exact (Kd.R_mono (Kd.R_far (p := ⟨gb534, 3, none⟩) (Kd.R_far (p := ⟨gb534, 2, none⟩) (Kd.R_far (p := ⟨gb534, 1, none⟩) (Kd.R_far (p := ⟨gb534, 0, none⟩) (Kd.R_types HO_3.out BK534.out (by decide)) (fun _ hk => hk.2) (.int .i64 ((rd_T165 t530 x33_3).f0.f0.f0))) (fun _ hk => hk.2) (.int .i64 ((rd_T165 t530 x33_3).f0.f0.f1))) (fun _ hk => hk.2) (.int .i64 ((rd_T165 t530 x33_3).f0.f1))) (fun _ hk => hk.2) (.slice A533_3 ((rd_T165 t530 x33_3).f1).length c533_3)) (fun _ h_ => h_.1)))); (case side2 => exact (Kd.R_reads' HO_3.out).2.1); rintro e w40 ⟨rfl, hb⟩; refine ⟨_, rfl, ?_⟩; replace HO_3 := Aside0.mk (Kd.R_below (by (with_reducible repeat (first | apply Kd.R_alloc | apply Kd.R_drewN | apply Kd.R_drew)); exact (Kd.R_mono (Kd.R_far (p := ⟨gb534, 3, none⟩) (Kd.R_far (p := ⟨gb534, 2, none⟩) (Kd.R_far (p := ⟨gb534, 1, none⟩) (Kd.R_far (p := ⟨gb534, 0, none⟩) (Kd.R_types HO_3.out BK534.out (by decide)) (fun _ hk => hk.2) (.int .i64 ((rd_T165 t530 x33_3).f0.f0.f0))) (fun _ hk => hk.2) (.int .i64 ((rd_T165 t530 x33_3).f0.f0.f1))) (fun _ hk => hk.2) (.int .i64 ((rd_T165 t530 x33_3).f0.f1))) (fun _ hk => hk.2) (.slice A533_3 ((rd_T165 t530 x33_3).f1).length c533_3)) (fun _ h_ => h_.1))) hb); replace HO_4 := Aside0.mk (Kd.N_below (by (with_reducible repeat (first | apply Kd.N_alloc | apply Kd.N_drewN | apply Kd.N_drew)); exact (Kd.N_mono (Kd.N_far (p := ⟨gb534, 3, none⟩) (Kd.N_far (p := ⟨gb534, 2, none⟩) (Kd.N_far (p := ⟨gb534, 1, none⟩) (Kd.N_far (p := ⟨gb534, 0, none⟩) (Kd.N_mono HO_4.out (fun k_ hk => (⟨hk, hk.2⟩ : _ ∧ k_ ≠ gb534))) (fun _ hk => hk.2) (.int .i64 ((rd_T165 t530 x33_3).f0.f0.f0))) (fun _ hk => hk.2) (.int .i64 ((rd_T165 t530 x33_3).f0.f0.f1))) (fun _ hk => hk.2) (.int .i64 ((rd_T165 t530 x33_3).f0.f1))) (fun _ hk => hk.2) (.slice A533_3 ((rd_T165 t530 x33_3).f1).length c533_3)) (fun _ h_ => h_.1))) hb); replace HO_31 := Aside0.mk (Kd.N_below (by (with_reducible repeat (first | apply Kd.N_alloc | apply Kd.N_drewN | apply Kd.N_drew)); exact (Kd.N_mono (Kd.N_far (p := ⟨gb534, 3, none⟩) (Kd.N_far (p := ⟨gb534, 2, none⟩) (Kd.N_far (p := ⟨gb534, 1, none⟩) (Kd.N_far (p := ⟨gb534, 0, none⟩) (Kd.N_mono HO_31.out (fun k_ hk => (⟨hk, hk.2⟩ : _ ∧ k_ ≠ gb534))) (fun _ hk => hk.2) (.int .i64 ((rd_T165 t530 x33_3).f0.f0.f0))) (fun _ hk => hk.2) (.int .i64 ((rd_T165 t530 x33_3).f0.f0.f1))) (fun _ hk => hk.2) (.int .i64 ((rd_T165 t530 x33_3).f0.f1))) (fun _ hk => hk.2) (.slice A533_3 ((rd_T165 t530 x33_3).f1).length c533_3)) (fun _ h_ => h_.1))) hb); replace BK525 := Aside0.mk (blk_below (g := gb525) (o := .cells #[.int .i64 ((rd_T29 l0 x20_2).f0), .int .i64 ((rd_T29 l0 x20_2).f1.f0), .int .i64 ((rd_T29 l0 x20_2).f1.f1), .int .i64 ((rd_T29 l0 x20_2).f2), .int .i64 ((rd_T29 l0 x20_2).f3.f0), .int .i64 ((rd_T29 l0 x20_2).f3.f1), .int .i64 ((rd_T29 l0 x20_2).f4.f0), .int .i64 ((rd_T29 l0 x20_2).f4.f1), .int .i64 ((rd_T29 l0 x20_2).f5), .int .i64 ((rd_T29 l0 x20_2).f6)] 29 (0, 0)) (bk_ BK525) hb); replace HR533_3 := Aside0.mk (Kd.C_below ((Kd.V_reads' (by (with_reducible repeat (first | apply Kd.V_alloc | apply Kd.V_drewN | apply Kd.V_drew)); exact (Kd.V_mono (Kd.V_far (p := ⟨gb534, 3, none⟩) (Kd.V_far (p := ⟨gb534, 2, none⟩) (Kd.V_far (p := ⟨gb534, 1, none⟩) (Kd.V_far (p := ⟨gb534, 0, none⟩) (Kd.V_mono HL533_3.out (fun k_ hk => (⟨hk, hk.2⟩ : _ ∧ k_ ≠ gb534))) (fun _ hk => hk.2) (.int .i64 ((rd_T165 t530 x33_3).f0.f0.f0))) (fun _ hk => hk.2) (.int .i64 ((rd_T165 t530 x33_3).f0.f0.f1))) (fun _ hk => hk.2) (.int .i64 ((rd_T165 t530 x33_3).f0.f1))) (fun _ hk => hk.2) (.slice A533_3 ((rd_T165 t530 x33_3).f1).length c533_3)) (fun _ h_ => h_.1)))).2.2) hb); replace HL533_3 := Aside0.mk (Kd.V_below (by (with_reducible repeat (first | apply Kd.V_alloc | apply Kd.V_drewN | apply Kd.V_drew)); exact (Kd.V_mono (Kd.V_far (p := ⟨gb534, 3, none⟩) (Kd.V_far (p := ⟨gb534, 2, none⟩) (Kd.V_far (p := ⟨gb534, 1, none⟩) (Kd.V_far (p := ⟨gb534, 0, none⟩) (Kd.V_mono HL533_3.out (fun k_ hk => (⟨hk, hk.2⟩ : _ ∧ k_ ≠ gb534))) (fun _ hk => hk.2) (.int .i64 ((rd_T165 t530 x33_3).f0.f0.f0))) (fun _ hk => hk.2) (.int .i64 ((rd_T165 t530 x33_3).f0.f0.f1))) (fun _ hk => hk.2) (.int .i64 ((rd_T165 t530 x33_3).f0.f1))) (fun _ hk => hk.2) (.slice A533_3 ((rd_T165 t530 x33_3).f1).length c533_3)) (fun _ h_ => h_.1))) hb); replace BK534 := Aside0.mk (blk_below (g := gb534) (o := .cells #[.int .i64 ((rd_T165 t530 x33_3).f0.f0.f0), .int .i64 ((rd_T165 t530 x33_3).f0.f0.f1), .int .i64 ((rd_T165 t530 x33_3).f0.f1), .slice A533_3 ((rd_T165 t530 x33_3).f1).length c533_3] 165 (0, 0)) (bk_ BK534) hb); replace HB := hbs_ hb; clear hb; have hcz41 := blk_cell BK534.out; have hfz41 := blk_frozen BK534.out) | ((with_reducible refine gate_builtin (b := .append) (xs := #[.tmp 42, .tmp 45]) rfl ?_); at_builtin; refine Kd.R_append k55 (w0 := w) w.heap.size rfl (.tmp 42) (.tmp 45) 118 55 (.agg #[(.int .i64 0), (.int .i64 0), (.int .i64 0)]) 24 rfl Try.underlying118 info55 rfl (by decide) (by omega) (.slice Ao39 x3_3.length co39) x3_3 (⟨(⟨(rd_T165 t530 x33_3).f0.f0.f0, (rd_T165 t530 x33_3).f0.f0.f1⟩ : S27), (rd_T165 t530 x33_3).f0.f1⟩ : S55) [.int .i64 ((rd_T165 t530 x33_3).f0.f0.f0), .int .i64 ((rd_T165 t530 x33_3).f0.f0.f1), .int .i64 ((rd_T165 t530 x33_3).f0.f1)] (fun k_ => (w.heap.size ≤ k_)) (fun _ => False) rfl rfl ?aP (fun _ hk => hk.elim) ?aF ?aO ?aB ?aS ?aL ?_; (case aP => exact k55_mkM _ _ _ (⟨(⟨(rd_T165 t530 x33_3).f0.f0.f0, (rd_T165 t530 x33_3).f0.f0.f1⟩ : S27), (rd_T165 t530 x33_3).f0.f1⟩ : S55)); (case aB => exact bl_); (case aF => exact (fun k_ hk => (Nat.le_trans bls_ hk))); (case aO => exact (by (with_reducible repeat (first | apply Kd.R_alloc | apply Kd.R_drewN | apply Kd.R_drew)); exact HO_3.out)); (case aS => exact bls_); (case aL => have := LMc34.out; omega); intro v537 w42 ho hb hg hat; rw [← Ny536.out] at ho; replace HO_4 := Aside0.mk (Kd.N_afterv (ok := (fun k_ => (w.heap.size ≤ k_) ∧ some k_ ≠ (.slice (some ad533) t530.length co23 : Value).ownBlock ∧ k_ ≠ gb525 ∧ k_ ≠ gb534)) (by (with_reducible repeat (first | apply Kd.N_alloc | apply Kd.N_drewN | apply Kd.N_drew)); exact Kd.N_mono HO_4.out (fun _ hk => ⟨⟨hk.1.1, ⟨hk.1.2.2.1, ⟨hk.1.2.2.2, hk.2⟩⟩⟩, hk.1.2.1⟩)) hg hat); replace HO_31 := Aside0.mk (Kd.N_afterv (ok := (fun k_ => (w.heap.size ≤ k_) ∧ some k_ ≠ (u4 : Value).ownBlock ∧ k_ ≠ gb525 ∧ k_ ≠ gb534)) (by (with_reducible repeat (first | apply Kd.N_alloc | apply Kd.N_drewN | apply Kd.N_drew)); exact Kd.N_mono HO_31.out (fun _ hk => ⟨⟨hk.1.1, ⟨hk.1.2.2.1, ⟨hk.1.2.2.2, hk.2⟩⟩⟩, hk.1.2.1⟩)) hg hat); replace BK525 := Aside0.mk (blk_grown (g := gb525) (o := .cells #[.int .i64 ((rd_T29 l0 x20_2).f0), .int .i64 ((rd_T29 l0 x20_2).f1.f0), .int .i64 ((rd_T29 l0 x20_2).f1.f1), .int .i64 ((rd_T29 l0 x20_2).f2), .int .i64 ((rd_T29 l0 x20_2).f3.f0), .int .i64 ((rd_T29 l0 x20_2).f3.f1), .int .i64 ((rd_T29 l0 x20_2).f4.f0), .int .i64 ((rd_T29 l0 x20_2).f4.f1), .int .i64 ((rd_T29 l0 x20_2).f5), .int .i64 ((rd_T29 l0 x20_2).f6)] 29 (0, 0)) (bk_ BK525) hg (Kd.R_ne HO_3.out BK525.out (by decide))); replace HL533_3 := Aside0.mk (Kd.V_afterv (ok := (fun k_ => (w.heap.size ≤ k_) ∧ some k_ ≠ (u4 : Value).ownBlock ∧ some k_ ≠ (.slice (some ad533) t530.length co23 : Value).ownBlock ∧ k_ ≠ gb525 ∧ k_ ≠ gb534)) (by (with_reducible repeat (first | apply Kd.V_alloc | apply Kd.V_drewN | apply Kd.V_drew)); exact Kd.V_mono HL533_3.out (fun _ hk => ⟨⟨hk.1.1.1, ⟨hk.1.1.2.2.1, ⟨hk.1.2, ⟨hk.1.1.2.2.2, hk.2⟩⟩⟩⟩, hk.1.1.2.1⟩)) hg hat); replace BK534 := Aside0.mk (blk_grown (g := gb534) (o := .cells #[.int .i64 ((rd_T165 t530 x33_3).f0.f0.f0), .int .i64 ((rd_T165 t530 x33_3).f0.f0.f1), .int .i64 ((rd_T165 t530 x33_3).f0.f1), .slice A533_3 ((rd_T165 t530 x33_3).f1).length c533_3] 165 (0, 0)) (bk_ BK534) hg (Kd.R_ne HO_3.out BK534.out (by decide))); replace HB := Aside0.mk (hb); have HO538 := Aside0.mk (ho); clear HO_3; clear ho hb hg hat; have hcz43 := blk_cell BK534.out; have hfz43 := blk_frozen BK534.out) | ((with_reducible refine gate_builtin (b := .append) (xs := #[.tmp 47, .tmp 54]) rfl ?_); at_builtin; refine Kd.N_append k160 (w0 := w) w.heap.size rfl (.tmp 47) (.tmp 54) 157 160 (.agg #[(.int .i64 0), (.int .i64 0), (.int .i64 0), (.int .i64 0), (.slice none 0 0)]) 56 rfl Try.underlying157 info160 rfl (by decide) (by omega) u4 x4_3 (⟨(⟨(⟨(rd_T165 t530 x33_3).f0.f0.f0, (rd_T165 t530 x33_3).f0.f0.f1⟩ : S27), (rd_T165 t530 x33_3).f0.f1⟩ : S55), x20_2, (rd_T165 t530 x33_3).f1⟩ : S160) [.int .i64 ((rd_T165 t530 x33_3).f0.f0.f0), .int .i64 ((rd_T165 t530 x33_3).f0.f0.f1), .int .i64 ((rd_T165 t530 x33_3).f0.f1), .int .i64 x20_2, .slice A533_3 ((rd_T165 t530 x33_3).f1).length c533_3] (fun k_ => (w.heap.size ≤ k_) ∧ some k_ ≠ (.slice (some ad533) t530.length co23 : Value).ownBlock ∧ some k_ ≠ (v537 : Value).ownBlock ∧ k_ ≠ gb525 ∧ k_ ≠ gb534) (fun k_ => ((fun k_ => (w.heap.size ≤ k_) ∧ some k_ ≠ (.slice (some ad533) t530.length co23 : Value).ownBlock ∧ some k_ ≠ (v537 : Value).ownBlock ∧ k_ ≠ gb525 ∧ k_ ≠ gb534)) k_ ∧ some k_ ≠ (u4 : Value).ownBlock) rfl rfl ?aP (fun _ hk => hk) ?aF ?aO ?aB ?aS ?aL ?_; (case aP => exact (k160_mkF _ _ (⟨(⟨(⟨(rd_T165 t530 x33_3).f0.f0.f0, (rd_T165 t530 x33_3).f0.f0.f1⟩ : S27), (rd_T165 t530 x33_3).f0.f1⟩ : S55), x20_2, (rd_T165 t530 x33_3).f1⟩ : S160) (Kd.V_reads' (Kd.V_mono (ok' := (fun k_ => ((fun k_ => (w.heap.size ≤ k_) ∧ some k_ ≠ (.slice (some ad533) t530.length co23 : Value).ownBlock ∧ some k_ ≠ (v537 : Value).ownBlock ∧ k_ ≠ gb525 ∧ k_ ≠ gb534)) k_ ∧ some k_ ≠ (u4 : Value).ownBlock)) (HL533_3.out) (fun k_ hk => ⟨⟨hk.1.1, ⟨hk.1.2.2.1, ⟨hk.2, ⟨hk.1.2.2.2.1, hk.1.2.2.2.2⟩⟩⟩⟩, hk.1.2.1⟩))).2.1 (Kd.V_F (Kd.V_mono (ok' := (fun k_ => ((fun k_ => (w.heap.size ≤ k_) ∧ some k_ ≠ (.slice (some ad533) t530.length co23 : Value).ownBlock ∧ some k_ ≠ (v537 : Value).ownBlock ∧ k_ ≠ gb525 ∧ k_ ≠ gb534)) k_ ∧ some k_ ≠ (u4 : Value).ownBlock)) (HL533_3.out) (fun k_ hk => ⟨⟨hk.1.1, ⟨hk.1.2.2.1, ⟨hk.2, ⟨hk.1.2.2.2.1, hk.1.2.2.2.2⟩⟩⟩⟩, hk.1.2.1⟩))))); (case aB => exact bl_); (case aF => exact (fun k_ hk => ⟨(Nat.le_trans bls_ hk), Kd.fresh' (Kd.N_lt (by (with_reducible repeat (first | apply Kd.N_alloc | apply Kd.N_drewN | apply Kd.N_drew)); exact HO_31.out)) k_ hk, Kd.fresh' (Kd.R_lt (by (with_reducible repeat (first | apply Kd.R_alloc | apply Kd.R_drewN | apply Kd.R_drew)); exact HO538.out)) k_ hk, Kd.freshB (g := gb525) (o := .cells #[.int .i64 ((rd_T29 l0 x20_2).f0), .int .i64 ((rd_T29 l0 x20_2).f1.f0), .int .i64 ((rd_T29 l0 x20_2).f1.f1), .int .i64 ((rd_T29 l0 x20_2).f2), .int .i64 ((rd_T29 l0 x20_2).f3.f0), .int .i64 ((rd_T29 l0 x20_2).f3.f1), .int .i64 ((rd_T29 l0 x20_2).f4.f0), .int .i64 ((rd_T29 l0 x20_2).f4.f1), .int .i64 ((rd_T29 l0 x20_2).f5), .int .i64 ((rd_T29 l0 x20_2).f6)] 29 (0, 0)) (bk_ BK525) k_ hk, Kd.freshB (g := gb534) (o := .cells #[.int .i64 ((rd_T165 t530 x33_3).f0.f0.f0), .int .i64 ((rd_T165 t530 x33_3).f0.f0.f1), .int .i64 ((rd_T165 t530 x33_3).f0.f1), .slice A533_3 ((rd_T165 t530 x33_3).f1).length c533_3] 165 (0, 0)) (bk_ BK534) k_ hk⟩)); (case aO => exact (by (with_reducible repeat (first | apply Kd.N_alloc | apply Kd.N_drewN | apply Kd.N_drew)); exact Kd.N_mono HO_4.out (fun _ hk => ⟨hk.1.1, ⟨hk.1.2.1, ⟨hk.2, ⟨hk.1.2.2.1, hk.1.2.2.2⟩⟩⟩⟩))); (case aS => exact bls_); (case aL => have := LMc35.out; omega); intro v540 w44 ho hb hg hat; rw [← Ny539.out] at ho; replace HO_31 := Aside0.mk (Kd.N_afterv (ok := (fun k_ => (w.heap.size ≤ k_) ∧ some k_ ≠ (v537 : Value).ownBlock ∧ k_ ≠ gb525 ∧ k_ ≠ gb534)) (by (with_reducible repeat (first | apply Kd.N_alloc | apply Kd.N_drewN | apply Kd.N_drew)); exact Kd.N_mono HO_31.out (fun _ hk => ⟨⟨hk.1.1, ⟨hk.2, ⟨hk.1.2.2.1, hk.1.2.2.2⟩⟩⟩, hk.1.2.1⟩)) hg hat); replace BK525 := Aside0.mk (blk_grown (g := gb525) (o := .cells #[.int .i64 ((rd_T29 l0 x20_2).f0), .int .i64 ((rd_T29 l0 x20_2).f1.f0), .int .i64 ((rd_T29 l0 x20_2).f1.f1), .int .i64 ((rd_T29 l0 x20_2).f2), .int .i64 ((rd_T29 l0 x20_2).f3.f0), .int .i64 ((rd_T29 l0 x20_2).f3.f1), .int .i64 ((rd_T29 l0 x20_2).f4.f0), .int .i64 ((rd_T29 l0 x20_2).f4.f1), .int .i64 ((rd_T29 l0 x20_2).f5), .int .i64 ((rd_T29 l0 x20_2).f6)] 29 (0, 0)) (bk_ BK525) hg (Kd.N_ne HO_4.out BK525.out (by decide))); replace HL533_3 := Aside0.mk (Kd.V_afterv (ok := (fun k_ => (w.heap.size ≤ k_) ∧ some k_ ≠ (.slice (some ad533) t530.length co23 : Value).ownBlock ∧ some k_ ≠ (v537 : Value).ownBlock ∧ k_ ≠ gb525 ∧ k_ ≠ gb534)) (by (with_reducible repeat (first | apply Kd.V_alloc | apply Kd.V_drewN | apply Kd.V_drew)); exact Kd.V_mono HL533_3.out (fun _ hk => ⟨⟨hk.1.1, ⟨hk.1.2.2.1, ⟨hk.2, ⟨hk.1.2.2.2.1, hk.1.2.2.2.2⟩⟩⟩⟩, hk.1.2.1⟩)) hg hat); replace BK534 := Aside0.mk (blk_grown (g := gb534) (o := .cells #[.int .i64 ((rd_T165 t530 x33_3).f0.f0.f0), .int .i64 ((rd_T165 t530 x33_3).f0.f0.f1), .int .i64 ((rd_T165 t530 x33_3).f0.f1), .slice A533_3 ((rd_T165 t530 x33_3).f1).length c533_3] 165 (0, 0)) (bk_ BK534) hg (Kd.N_ne HO_4.out BK534.out (by decide))); replace HO538 := Aside0.mk (Kd.R_over' (by (with_reducible repeat (first | apply Kd.R_alloc | apply Kd.R_drewN | apply Kd.R_drew)); exact HO538.out) (Kd.N_typed (by (with_reducible repeat (first | apply Kd.N_alloc | apply Kd.N_drewN | apply Kd.N_drew)); exact HO_4.out)) (by decide) hg); replace HB := Aside0.mk (hb); have HO541 := Aside0.mk (ho); clear HO_4; clear ho hb hg hat))
                  go_roundg k3
                  case measure => have := HK1.out; have := HK2.out; have := HK3.out; omega
                  case rel => exact ⟨(y536), (y539), (wrap64 (x33_3 + 1)), (by first | rfl | (simp; done) | (simp [*]; done)), H', ⟨by have := HK1.out; have := HK2.out; have := HK3.out; omega⟩, ⟨by (with_reducible repeat (first | apply Kd.R_alloc | apply Kd.R_drewN | apply Kd.R_drew)); exact HO538.out⟩, ⟨by (with_reducible repeat (first | apply Kd.N_alloc | apply Kd.N_drewN | apply Kd.N_drew)); exact Kd.N_mono HO541.out (fun _ hk => ⟨hk.1, ⟨hk.2.2.1, ⟨hk.2.1, hk.2.2.2.1⟩⟩⟩)⟩, ⟨by (with_reducible repeat (first | apply Kd.N_alloc | apply Kd.N_drewN | apply Kd.N_drew)); exact Kd.N_mono HO_31.out (fun _ hk => ⟨hk.1.1, ⟨hk.1.2.1, ⟨hk.2, hk.1.2.2.1⟩⟩⟩)⟩, ⟨bk_ BK525⟩, ⟨bl_⟩⟩
                 ·rw [if_neg c35] at H
                  exact absurd H (by simp)
                ·rw [if_neg c34] at H
                 exact absurd H (by simp)
              ·rw [if_neg c26] at H
               exact absurd H (by simp)
             ·rw [if_neg c25] at H
              exact absurd H (by simp)
            ·rw [if_neg c24] at H
             have c24b0 : decide (x33_3 < (t530.length : Int)) = false := decide_eq_false c24
             clear c24
             have H' := Aside0.mk H
             clear H
             go_wp2
             go_roundg k3
             case measure => have := HK1.out; have := HK2.out; have := HK3.out; omega
             case rel => exact ⟨(x3_3), (x4_3), (wrap64 (x20_2 + 1)), (by first | rfl | (simp; done) | (simp [*]; done)), H', ⟨by have := HK1.out; have := HK2.out; have := HK3.out; omega⟩, ⟨by (with_reducible repeat (first | apply Kd.R_alloc | apply Kd.R_drewN | apply Kd.R_drew)); exact HO_3.out⟩, ⟨by (with_reducible repeat (first | apply Kd.N_alloc | apply Kd.N_drewN | apply Kd.N_drew)); exact Kd.N_mono HO_4.out (fun _ hk => ⟨hk.1, hk.2.1⟩)⟩, ⟨bl_⟩⟩
         ·replace c12 := Bool.eq_false_iff.mpr c12
          subst c12
          replace H := ite_f_ H
          have H' := Aside0.mk H
          clear H
          have p524 : 0 ≤ (x20_2 : Int) := of_decide_eq_true (by first | (with_reducible assumption) | assumption)
          have q524 : x20_2 < (l0.length : Int) := of_decide_eq_true (by first | (with_reducible assumption) | assumption)
          obtain ⟨ad524, e524, hx524_0, hx524_1, hx524_2, hx524_3, hx524_4, hx524_5, hx524_6, hx524_7, hx524_8, hx524_9⟩ := at_T29 (Kd.C_below HR0.out HB.out) x20_2 p524 q524
          cases e524
          replace p524 := eq_true p524
          replace q524 := eq_true q524
          go_wp2_with (first | ((with_reducible refine gate_dst (N := 7) rfl ?_); refine box_event ?hg (N := 7) ?hd (cs := #[.int .i64 0, .int .i64 0, .int .i64 0, .int .i64 0, .int .i64 0, .int .i64 0, .int .i64 0, .int .i64 0, .int .i64 0, .int .i64 0]) (t := 29) ?hr ?_; (case hd => rfl); (case hg => rfl); (case hr => first | (go_simp; done) | (go_simp; rfl)); intro gb525 hg w45 hbox hb; replace HO_3 := Aside0.mk (Kd.R_below (by (with_reducible repeat (first | apply Kd.R_alloc | apply Kd.R_drewN | apply Kd.R_drew)); exact HO_3.out) hb); replace HO_4 := Aside0.mk (Kd.N_below (Kd.N_elderB (by (with_reducible repeat (first | apply Kd.N_alloc | apply Kd.N_drewN | apply Kd.N_drew)); exact HO_4.out) gb525 (Nat.le_of_eq hg.symm)) hb); have BK525 := Aside0.mk (hbox); have GW525 := gs_ hg; have GE525 := gs_ hg; replace HB := hbs_ hb; clear hb hbox hg; have hcz46 := blk_cell BK525.out; have hfz46 := blk_frozen BK525.out) | ((with_reducible refine gate_callee (f := 71) rfl ?_); refine goesC_ (some 26) Try.func71 #[.agg #[.int .i64 ((rd_T29 l0 x20_2).f0), .int .i64 ((rd_T29 l0 x20_2).f1.f0), .int .i64 ((rd_T29 l0 x20_2).f1.f1), .int .i64 ((rd_T29 l0 x20_2).f2), .int .i64 ((rd_T29 l0 x20_2).f3.f0), .int .i64 ((rd_T29 l0 x20_2).f3.f1), .int .i64 ((rd_T29 l0 x20_2).f4.f0), .int .i64 ((rd_T29 l0 x20_2).f4.f1), .int .i64 ((rd_T29 l0 x20_2).f5), .int .i64 ((rd_T29 l0 x20_2).f6)]] ?_; (with_reducible refine (impl_CredOk.calls k2 ((rd_T29 l0 x20_2).f0) ((rd_T29 l0 x20_2).f1.f0) ((rd_T29 l0 x20_2).f1.f1) ((rd_T29 l0 x20_2).f2) ((rd_T29 l0 x20_2).f3.f0) ((rd_T29 l0 x20_2).f3.f1) ((rd_T29 l0 x20_2).f4.f0) ((rd_T29 l0 x20_2).f4.f1) ((rd_T29 l0 x20_2).f5) ((rd_T29 l0 x20_2).f6) false _ A11.out).mono ?_); rintro e w47 ⟨rfl, hb⟩; refine ⟨_, rfl, ?_⟩; replace HO_3 := Aside0.mk (Kd.R_below (by (with_reducible repeat (first | apply Kd.R_alloc | apply Kd.R_drewN | apply Kd.R_drew)); exact (Kd.R_mono (Kd.R_far (p := ⟨gb525, 9, none⟩) (Kd.R_far (p := ⟨gb525, 8, none⟩) (Kd.R_far (p := ⟨gb525, 7, none⟩) (Kd.R_far (p := ⟨gb525, 6, none⟩) (Kd.R_far (p := ⟨gb525, 5, none⟩) (Kd.R_far (p := ⟨gb525, 4, none⟩) (Kd.R_far (p := ⟨gb525, 3, none⟩) (Kd.R_far (p := ⟨gb525, 2, none⟩) (Kd.R_far (p := ⟨gb525, 1, none⟩) (Kd.R_far (p := ⟨gb525, 0, none⟩) (Kd.R_types HO_3.out BK525.out (by decide)) (fun _ hk => hk.2) (.int .i64 ((rd_T29 l0 x20_2).f0))) (fun _ hk => hk.2) (.int .i64 ((rd_T29 l0 x20_2).f1.f0))) (fun _ hk => hk.2) (.int .i64 ((rd_T29 l0 x20_2).f1.f1))) (fun _ hk => hk.2) (.int .i64 ((rd_T29 l0 x20_2).f2))) (fun _ hk => hk.2) (.int .i64 ((rd_T29 l0 x20_2).f3.f0))) (fun _ hk => hk.2) (.int .i64 ((rd_T29 l0 x20_2).f3.f1))) (fun _ hk => hk.2) (.int .i64 ((rd_T29 l0 x20_2).f4.f0))) (fun _ hk => hk.2) (.int .i64 ((rd_T29 l0 x20_2).f4.f1))) (fun _ hk => hk.2) (.int .i64 ((rd_T29 l0 x20_2).f5))) (fun _ hk => hk.2) (.int .i64 ((rd_T29 l0 x20_2).f6))) (fun _ h_ => h_.1))) hb); replace HO_4 := Aside0.mk (Kd.N_below (by (with_reducible repeat (first | apply Kd.N_alloc | apply Kd.N_drewN | apply Kd.N_drew)); exact (Kd.N_mono (Kd.N_far (p := ⟨gb525, 9, none⟩) (Kd.N_far (p := ⟨gb525, 8, none⟩) (Kd.N_far (p := ⟨gb525, 7, none⟩) (Kd.N_far (p := ⟨gb525, 6, none⟩) (Kd.N_far (p := ⟨gb525, 5, none⟩) (Kd.N_far (p := ⟨gb525, 4, none⟩) (Kd.N_far (p := ⟨gb525, 3, none⟩) (Kd.N_far (p := ⟨gb525, 2, none⟩) (Kd.N_far (p := ⟨gb525, 1, none⟩) (Kd.N_far (p := ⟨gb525, 0, none⟩) (Kd.N_mono HO_4.out (fun k_ hk => (⟨hk, hk.2⟩ : _ ∧ k_ ≠ gb525))) (fun _ hk => hk.2) (.int .i64 ((rd_T29 l0 x20_2).f0))) (fun _ hk => hk.2) (.int .i64 ((rd_T29 l0 x20_2).f1.f0))) (fun _ hk => hk.2) (.int .i64 ((rd_T29 l0 x20_2).f1.f1))) (fun _ hk => hk.2) (.int .i64 ((rd_T29 l0 x20_2).f2))) (fun _ hk => hk.2) (.int .i64 ((rd_T29 l0 x20_2).f3.f0))) (fun _ hk => hk.2) (.int .i64 ((rd_T29 l0 x20_2).f3.f1))) (fun _ hk => hk.2) (.int .i64 ((rd_T29 l0 x20_2).f4.f0))) (fun _ hk => hk.2) (.int .i64 ((rd_T29 l0 x20_2).f4.f1))) (fun _ hk => hk.2) (.int .i64 ((rd_T29 l0 x20_2).f5))) (fun _ hk => hk.2) (.int .i64 ((rd_T29 l0 x20_2).f6))) (fun _ h_ => h_.1))) hb); replace BK525 := Aside0.mk (blk_below (g := gb525) (o := .cells #[.int .i64 ((rd_T29 l0 x20_2).f0), .int .i64 ((rd_T29 l0 x20_2).f1.f0), .int .i64 ((rd_T29 l0 x20_2).f1.f1), .int .i64 ((rd_T29 l0 x20_2).f2), .int .i64 ((rd_T29 l0 x20_2).f3.f0), .int .i64 ((rd_T29 l0 x20_2).f3.f1), .int .i64 ((rd_T29 l0 x20_2).f4.f0), .int .i64 ((rd_T29 l0 x20_2).f4.f1), .int .i64 ((rd_T29 l0 x20_2).f5), .int .i64 ((rd_T29 l0 x20_2).f6)] 29 (0, 0)) (bk_ BK525) hb); replace HB := hbs_ hb; clear hb))
          go_roundg k2
          case measure => have := HK1.out; have := HK2.out; omega
          case rel => exact ⟨(x3_2), (x4_2), (wrap64 (x20_2 + 1)), (by first | rfl | (simp; done) | (simp [*]; done)), H', ⟨by have := HK1.out; have := HK2.out; omega⟩, ⟨by (with_reducible repeat (first | apply Kd.R_alloc | apply Kd.R_drewN | apply Kd.R_drew)); exact HO_3.out⟩, ⟨by (with_reducible repeat (first | apply Kd.N_alloc | apply Kd.N_drewN | apply Kd.N_drew)); exact Kd.N_mono HO_4.out (fun _ hk => ⟨hk.1.1, hk.1.2⟩)⟩, ⟨bl_⟩⟩
        ·rw [if_neg c10] at H
         exact absurd H (by simp)
       ·rw [if_neg c9] at H
        exact absurd H (by simp)
      ·rw [if_neg c8] at H
       have c8b0 : decide (x20_2 < (l0.length : Int)) = false := decide_eq_false c8
       clear c8
       have H' := Aside0.mk H
       clear H
       go_wp2
       go_roundg k2
       case measure => have := HK1.out; have := HK2.out; omega
       case rel => exact ⟨(x3_2), (x4_2), ((x3_1.length : Int)), (by first | rfl | (simp; done) | (simp [*]; done)), H', ⟨by have := HK1.out; have := HK2.out; omega⟩, ⟨by (with_reducible repeat (first | apply Kd.R_alloc | apply Kd.R_drewN | apply Kd.R_drew)); exact HO_3.out⟩, ⟨by (with_reducible repeat (first | apply Kd.N_alloc | apply Kd.N_drewN | apply Kd.N_drew)); exact HO_4.out⟩, ⟨bl_⟩⟩
   ·rw [if_neg c6] at H
    have c6b0 : decide (x5_1 < (x3_1.length : Int)) = false := decide_eq_false c6
    clear c6
    obtain rfl := Option.some.inj H
    obtain ⟨Ao48, co48, eo48⟩ := Kd.R_slice HO_3.out
    subst eo48
    go_wp2
    go_ret
    exact ⟨_, eq_, by (with_reducible repeat (first | apply Kd.N_alloc | apply Kd.N_drewN | apply Kd.N_drew)); exact Kd.N_mono HO_4.out (fun _ hk => hk.1), bl_⟩
end Go.Proofs.Ytcgnegnljffkmaa.PB
