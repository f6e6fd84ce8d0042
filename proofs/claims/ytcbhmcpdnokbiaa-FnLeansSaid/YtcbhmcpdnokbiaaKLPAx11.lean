import Derived.Test.YtcbhmcpdnokbiaaKLPAx10
-- printed by wip/tools
namespace Go.Proofs.Ytcbhmcpdnokbiaa.PA
open Go.RowKit Go.Proofs.YtcbhmcpdnokbiaaW.PrintWords Go.Proofs.YtcbhmcpdnokbiaaW.PrintLast Go.Proofs.YtcbhmcpdnokbiaaW.PrintMore
attribute [local go_sem] max2_int min2_int max_two min_two max_three min_three max_four min_four
set_option linter.unusedVariables false
set_option linter.unusedSimpArgs false
def impl_Fact_55.f (l0 : List (S29)) : Option (List (S29)) := if l0.length < 5864062014805 then some l0 else none
set_option maxHeartbeats 8000000 in
set_option maxRecDepth 100000 in
theorem impl_Fact_55.calls (A0 : Option Addr) (c0 : Nat) (l0 : List (S29)) (r : List (S29)) (w : World) (hr0 : Kd.C k29 w A0 l0.length l0) (hc0 : l0.length ≤ c0) (h : impl_Fact_55.f l0 = some r) :
  Calls Try.prog 55 #[.slice A0 l0.length c0] w fun e w' => ∃ v0_ : Value, e = .returned (v0_) ∧ Kd.R k29 29 w' w.heap.size (fun _ => True) v0_ r ∧ Below w.heap.size w w' := by
 have HR0 := aa_ hr0
 have HC0 := aa_ hc0
 clear hr0 hc0
 have hq : ∀ (w : World) (a : Option Addr) (n c n' c' : Nat), (binOp .eql 53 (.slice a n c) (.slice none n' c')).run Try.prog w = .ok (.bool a.isNone) w := fun w a n c n' c' => Lib.run_eql_slice_nil w _ _ a n c n' c' Try.underlying53
 have HB := aa_ (Below.refl w.heap.size w)
 unfold impl_Fact_55.f at h
 by_cases hl : l0.length < 5864062014805
 ·rw [if_pos hl] at h
  have LM := aa_ hl
  clear hl
  obtain rfl := Option.some.inj h
  clear h
  cases A0 with
  | none =>
   have e0 : l0 = [] := by
    rcases l0 with _ | ⟨x, xs⟩
    ·rfl
    ·obtain ⟨ad, c, e, _⟩ := Kd.C_get HR0.out x 0 (by omega) (by rw [List.length_cons]; omega)
     cases e
   subst e0
   clear HR0 HC0 LM
   go_enter Try.func55, Try.ntmps55
   go_wp2
   go_ret
   exact ⟨_, eq_, Kd.R_nil _ _ _ _ _, bl_⟩
  | some ad =>
   obtain ⟨y1, hy1⟩ : ∃ y_ : List (S29), y_ = (([] : List (S29))) := ⟨_, rfl⟩
   have Ny1 := aa_ hy1
   clear hy1
   go_enter Try.func55, Try.ntmps55
   go_wp2_with (first | ((with_reducible refine gD_ 5 rfl ?_); refine Kd.R_lit k29 _ 29 ?hg (N := 5) ?hd (xs := ([] : List (S29))) (inner := []) (ok := fun _ => True) (okp := fun _ => True) ?hr ?hp (fun _ hk => hk) trivial (Below.refl _ _) (Nat.le_refl _) (by simp) ?_; (case hd => rfl); (case hg => rfl); (case hr => first | (go_simp; done) | (go_simp; rfl)); (case hp => exact (Reps.none _ _)); intro v161 w9 ho10 hb hg_ hnew_; clear hg_ hnew_; (first | rw [← Ny1.out] at ho10 | (simp only [Int.reduceToNat] at ho10; rw [← Ny1.out] at ho10)); have HO162 := aa_ (Kd.R_lower ho10 bls_); replace HB := hbs_ hb; clear hb ho10) | ((with_reducible refine gate_builtin (b := .append) (xs := #[.tmp 5, .tmp 6]) rfl ?_); at_builtin; refine Kd.R_append_rows k29 (w0 := w) w.heap.size rfl (.tmp 5) (.tmp 6) 53 29 (.agg #[(.int .i64 0), (.int .i64 0), (.int .i64 0)]) 24 rfl Try.underlying53 info29 rfl (by decide) (by omega) v161 y1 l0 _ _ _ (fun _ => True) (fun _ => False) rfl rfl ?aO ?aR (fun _ _ h => h) (fun _ h => h.elim) ?aF ?aB ?aS ?aL ?_; (case aR => repeat (first | exact (Kd.C_below HR0.out HB.out) | (with_reducible refine Kd.C_alloc ?_ _) | (with_reducible refine Kd.C_drewN ?_ _) | (with_reducible refine Kd.C_drew ?_))); (case aB => exact bl_); (case aF => exact (fun _ _ => trivial)); (case aO => exact (rr_ HO162)); (case aS => exact bls_); (case aL => have := LM.out; rw [Ny1.out]; simp only [List.length_nil]; omega); intro v164 w11 ho hb hg hat; rw [Ny1.out, List.nil_append] at ho; replace HB := aa_ (hb); have HO165 := aa_ (ho); clear HO162; clear ho hb hg hat))
   go_ret
   exact ⟨_, eq_, by (with_reducible repeat (first | apply Kd.R_alloc | apply Kd.R_drewN | apply Kd.R_drew)); exact HO165.out, bl_⟩
 ·rw [if_neg hl] at h
  exact absurd h (by simp)
mutual
def impl_findFacts.l0 : Nat → List (S46) → List (S29) → List (S84) → Int → Option ((List (S84)))
 | 0, _, _, _, _ => none
 | k + 1, x0, x3, x4, x5 => if x5 < (x3.length : Int) then (impl_findFacts.l1 k x0 x3 x4 (x3.length : Int) x0 (x0.length : Int) 0) else (some x4)
def impl_findFacts.l1 : Nat → List (S46) → List (S29) → List (S84) → Int → List (S46) → Int → Int → Option ((List (S84)))
 | 0, _, _, _, _, _, _, _ => none
 | k + 1, x0, x3, x4, x5, x18, x19, x20 => if x20 < x19 then (if 0 ≤ x20 then (if x20 < (x18.length : Int) then ((impl_CredOk.f k ((rd_T46 x18 x20).f0) ((rd_T46 x18 x20).f1.f0) ((rd_T46 x18 x20).f1.f1) ((rd_T46 x18 x20).f2) ((rd_T46 x18 x20).f3.f0) ((rd_T46 x18 x20).f3.f1) ((rd_T46 x18 x20).f4.f0) ((rd_T46 x18 x20).f4.f1) ((rd_T46 x18 x20).f5) ((rd_T46 x18 x20).f6)).bind fun t385 => (if t385 = true then ((impl_Fact_55.f x3).bind fun t386 => ((impl_derive.f k t386 ((rd_T46 x18 x20).f0) ((rd_T46 x18 x20).f1.f0) ((rd_T46 x18 x20).f1.f1) ((rd_T46 x18 x20).f2) ((rd_T46 x18 x20).f3.f0) ((rd_T46 x18 x20).f3.f1) ((rd_T46 x18 x20).f4.f0) ((rd_T46 x18 x20).f4.f1) ((rd_T46 x18 x20).f5) ((rd_T46 x18 x20).f6)).bind fun t389 => (impl_findFacts.l2 k x0 x3 x4 x5 x20 x18 x19 x20 t389 (t389.length : Int) 0))) else (impl_findFacts.l1 k x0 x3 x4 x5 x18 x19 (wrap64 (x20 + 1))))) else (none)) else (none)) else (impl_findFacts.l0 k x0 x3 x4 x5)
def impl_findFacts.l2 : Nat → List (S46) → List (S29) → List (S84) → Int → Int → List (S46) → Int → Int → List (S91) → Int → Int → Option ((List (S84)))
 | 0, _, _, _, _, _, _, _, _, _, _, _ => none
 | k + 1, x0, x3, x4, x5, x6, x18, x19, x20, x31, x32, x33 => if x33 < x32 then (if 0 ≤ x33 then (if x33 < (x31.length : Int) then ((impl_Fact_40.f k x3 ((rd_T91 x31 x33).f0.f0.f0) ((rd_T91 x31 x33).f0.f0.f1) ((rd_T91 x31 x33).f0.f1)).bind fun t394 => (if t394 = true then (impl_findFacts.l2 k x0 x3 x4 x5 x6 x18 x19 x20 x31 x32 (wrap64 (x33 + 1))) else (if x3.length < 5864062014805 then (if x4.length < 2513169434916 then (impl_findFacts.l2 k x0 (x3 ++ [(⟨(⟨(rd_T91 x31 x33).f0.f0.f0, (rd_T91 x31 x33).f0.f0.f1⟩ : S27), (rd_T91 x31 x33).f0.f1⟩ : S29)]) (x4 ++ [(⟨(⟨(⟨(rd_T91 x31 x33).f0.f0.f0, (rd_T91 x31 x33).f0.f0.f1⟩ : S27), (rd_T91 x31 x33).f0.f1⟩ : S29), x6, (rd_T91 x31 x33).f1⟩ : S84)]) x5 x6 x18 x19 x20 x31 x32 (wrap64 (x33 + 1))) else (none)) else (none)))) else (none)) else (none)) else (impl_findFacts.l1 k x0 x3 x4 x5 x18 x19 (wrap64 (x20 + 1)))
end
def impl_findFacts.f (k : Nat) (l0 : List (S46)) : Option ((List (S84))) := impl_findFacts.l0 k l0 (([] : List (S29))) (([] : List (S84))) (-1)
set_option maxHeartbeats 8000000 in
set_option maxRecDepth 100000 in
theorem impl_findFacts.calls (k : Nat) (A0 : Option Addr) (c0 : Nat) (l0 : List (S46)) (r : List (S84)) (w : World) (hr0 : Kd.C k46 w A0 l0.length l0) (hc0 : l0.length ≤ c0) (h : impl_findFacts.f k l0 = some r) :
  Calls Try.prog 49 #[.slice A0 l0.length c0] w fun e w' => ∃ v0_ : Value, e = .returned (v0_) ∧ Kd.N k84 84 w' w.heap.size (fun k_ => (w.heap.size ≤ k_)) v0_ r ∧ Below w.heap.size w w' := by
 have hu46 := Try.underlying46
 have hu91 := Try.underlying91
 have hu29 := Try.underlying29
 have hu84 := Try.underlying84
 have HR0 := aa_ hr0
 have HC0 := aa_ hc0
 clear hr0 hc0
 have HB := aa_ (Below.refl w.heap.size w)
 have H : (impl_findFacts.l0 k l0 (([] : List (S29))) (([] : List (S84))) (-1)) = some r := h
 clear h
 obtain ⟨y377, hy377⟩ : ∃ y_ : List (S29), y_ = (([] : List (S29))) := ⟨_, rfl⟩
 replace H : (impl_findFacts.l0 k l0 y377 (([] : List (S84))) (-1)) = some r := rh_ hy377 H
 have Ny377 := aa_ hy377
 clear hy377
 obtain ⟨y380, hy380⟩ : ∃ y_ : List (S84), y_ = (([] : List (S84))) := ⟨_, rfl⟩
 replace H : (impl_findFacts.l0 k l0 y377 y380 (-1)) = some r := rh_ hy380 H
 have Ny380 := aa_ hy380
 clear hy380
 have H' := aa_ H
 clear H
 go_enter Try.func49, Try.ntmps49
 go_wp2_with (first | ((with_reducible refine gD_ 10 rfl ?_); refine Kd.R_lit k29 _ 29 ?hg (N := 10) ?hd (xs := ([] : List (S29))) (inner := []) (ok := fun _ => True) (okp := fun _ => True) ?hr ?hp (fun _ hk => hk) trivial (Below.refl _ _) (Nat.le_refl _) (by simp) ?_; (case hd => rfl); (case hg => rfl); (case hr => first | (go_simp; done) | (go_simp; rfl)); (case hp => exact (Reps.none _ _)); intro v378 w2 ho3 hb hg_ hnew_; clear hg_ hnew_; (first | rw [← Ny377.out] at ho3 | (simp only [Int.reduceToNat] at ho3; rw [← Ny377.out] at ho3)); have HO379 := aa_ (Kd.R_lower (Kd.R_newM (M := fun k_ => (w.heap.size ≤ k_)) ho3 bls_ (fun k_ h_ => h_)) bls_); replace HB := hbs_ hb; clear hb ho3) | ((with_reducible refine gD_ 11 rfl ?_); refine Kd.N_lit k84 _ 84 ?hg (N' := 11) ?hd (xs := ([] : List (S84))) (inner := []) (ok := (fun k_ => (w.heap.size ≤ k_) ∧ some k_ ≠ (v378 : Value).ownBlock)) (okp := (fun k_ => (w.heap.size ≤ k_) ∧ some k_ ≠ (v378 : Value).ownBlock)) ?hr ?hp (fun _ hk => hk) ((show ∀ k_, w2.heap.size ≤ k_ → (fun k_ => (w.heap.size ≤ k_) ∧ some k_ ≠ (v378 : Value).ownBlock) k_ from fun k_ hk => ⟨(Nat.le_trans bls_ hk), Kd.fresh' (Kd.R_lt (rr_ HO379)) k_ hk⟩) _ (Nat.le_refl _)) (Below.refl _ _) (Nat.le_refl _) (by simp) ?_; (case hd => rfl); (case hg => rfl); (case hr => first | (go_simp; done) | (go_simp; rfl)); (case hp => exact (Reps.none _ _)); intro v381 w4 ho5 hb hg_ hnew_; clear hg_ hnew_; (first | rw [← Ny380.out] at ho5 | (simp only [Int.reduceToNat] at ho5; rw [← Ny380.out] at ho5)); replace HO379 := hob_ HO379 hb; have HO382 := aa_ (Kd.N_lower ho5 bls_); replace HB := hbs_ hb; clear hb ho5))
 go_loopg [3, 4, 5] k (fun kq v3 v4 v5 w' => ∃ (x3_1 : List (S29)) (x4_1 : List (S84)) (x5_1 : Int), v5 = .int .i64 x5_1 ∧ Aside0 (impl_findFacts.l0 kq l0 x3_1 x4_1 x5_1 = some r) ∧ Aside0 (kq ≤ k) ∧ Aside0 (Kd.R k29 29 w' w.heap.size (fun k_ => (w.heap.size ≤ k_)) v3 x3_1) ∧ Aside0 (Kd.N k84 84 w' w.heap.size (fun k_ => (w.heap.size ≤ k_) ∧ some k_ ≠ (v3 : Value).ownBlock) v4 x4_1) ∧ Aside0 (Below w.heap.size w w'))
 case atStart => exact ⟨(y377), (y380), ((-1)), rf_, H', ⟨Nat.le_refl _⟩, ⟨by (with_reducible repeat (first | apply Kd.R_alloc | apply Kd.R_drewN | apply Kd.R_drew)); exact Kd.R_mono HO379.out (fun _ hk => hk.1)⟩, ⟨rn_ HO382⟩, ⟨bl_⟩⟩
 case round =>
  clear H'
  try clear p2
  try clear c4
  obtain ⟨x3_1, x4_1, x5_1, rfl, HA, HK1, HO_3, HO_4, HB⟩ := hrel
  cases gk with
  | zero => exact absurd HA.out (by simp [impl_findFacts.l0])
  | succ k1 =>
   have H := HA.out
   clear HA
   simp only [impl_findFacts.l0] at H
   by_cases c6 : x5_1 < (x3_1.length : Int)
   ·rw [if_pos c6] at H
    have c6b0 : decide (x5_1 < (x3_1.length : Int)) = true := decide_eq_true c6
    clear c6
    have H' := aa_ H
    clear H
    obtain ⟨Ao7, co7, eo7⟩ := Kd.R_slice HO_3.out
    subst eo7
    go_wp2
    go_loopg [3, 4, 20] k1 (fun kq v3 v4 v20 w' => ∃ (x3_2 : List (S29)) (x4_2 : List (S84)) (x20_2 : Int), v20 = .int .i64 x20_2 ∧ Aside0 (impl_findFacts.l1 kq l0 x3_2 x4_2 (x3_1.length : Int) l0 (l0.length : Int) x20_2 = some r) ∧ Aside0 (kq ≤ k1) ∧ Aside0 (Kd.R k29 29 w' w.heap.size (fun k_ => (w.heap.size ≤ k_)) v3 x3_2) ∧ Aside0 (Kd.N k84 84 w' w.heap.size (fun k_ => (w.heap.size ≤ k_) ∧ some k_ ≠ (v3 : Value).ownBlock) v4 x4_2) ∧ Aside0 (Below w.heap.size w w'))
    case atStart => exact ⟨(x3_1), (x4_1), (0), rf_, H', ⟨Nat.le_refl _⟩, ⟨rr_ HO_3⟩, ⟨rn_ HO_4⟩, ⟨bl_⟩⟩
    case round =>
     clear H'
     try clear p2
     try clear c4
     try clear c6
     try clear c6b0
     try clear p2
     obtain ⟨x3_2, x4_2, x20_2, rfl, HA, HK2, HO_3, HO_4, HB⟩ := hrel
     cases gk with
     | zero => exact absurd HA.out (by simp [impl_findFacts.l1])
     | succ k2 =>
      have H := HA.out
      clear HA
      simp only [impl_findFacts.l1] at H
      by_cases c8 : x20_2 < (l0.length : Int)
      ·rw [if_pos c8] at H
       have c8b0 : decide (x20_2 < (l0.length : Int)) = true := decide_eq_true c8
       clear c8
       obtain ⟨c9b0, H⟩ := ifd_ H
       obtain ⟨c10b0, H⟩ := ifd_ H
       obtain ⟨t385, A11, H⟩ := bindE_ H
       have HC12 := aa_ H
       clear H
       have p383 : 0 ≤ (x20_2 : Int) := od_
       have q383 : x20_2 < (l0.length : Int) := od_
       obtain ⟨ad383, e383, hx383_0, hx383_1, hx383_2, hx383_3, hx383_4, hx383_5, hx383_6, hx383_7, hx383_8, hx383_9⟩ := at_T46 (Kd.C_below HR0.out HB.out) x20_2 p383 q383
       cases e383
       replace p383 := eq_true p383
       replace q383 := eq_true q383
       go_upto_if 27 with (first | ((with_reducible refine gD_ 7 rfl ?_); refine bx_ (N := 7) (cs := #[.int .i64 0, .int .i64 0, .int .i64 0, .int .i64 0, .int .i64 0, .int .i64 0, .int .i64 0, .int .i64 0, .int .i64 0, .int .i64 0]) (t := 46) ?_; intro gb384 hg w13 hbox hb; replace HO_3 := hob_ HO_3 hb; replace HO_4 := aa_ (Kd.N_below (Kd.N_elderB (rn_ HO_4) gb384 (Nat.le_of_eq hg.symm)) hb); have BK384 := aa_ (hbox); have GW384 := gs_ hg; have GE384 := gs_ hg; replace HB := hbs_ hb; clear hb hbox hg; obtain ⟨hcz14, hfz14⟩ := bcf_ BK384) | ((with_reducible refine gC_ 24 rfl ?_); refine goesC_ (some 26) Try.func24 #[.agg #[.int .i64 ((rd_T46 l0 x20_2).f0), .int .i64 ((rd_T46 l0 x20_2).f1.f0), .int .i64 ((rd_T46 l0 x20_2).f1.f1), .int .i64 ((rd_T46 l0 x20_2).f2), .int .i64 ((rd_T46 l0 x20_2).f3.f0), .int .i64 ((rd_T46 l0 x20_2).f3.f1), .int .i64 ((rd_T46 l0 x20_2).f4.f0), .int .i64 ((rd_T46 l0 x20_2).f4.f1), .int .i64 ((rd_T46 l0 x20_2).f5), .int .i64 ((rd_T46 l0 x20_2).f6)]] ?_; (with_reducible refine (impl_CredOk.calls k2 ((rd_T46 l0 x20_2).f0) ((rd_T46 l0 x20_2).f1.f0) ((rd_T46 l0 x20_2).f1.f1) ((rd_T46 l0 x20_2).f2) ((rd_T46 l0 x20_2).f3.f0) ((rd_T46 l0 x20_2).f3.f1) ((rd_T46 l0 x20_2).f4.f0) ((rd_T46 l0 x20_2).f4.f1) ((rd_T46 l0 x20_2).f5) ((rd_T46 l0 x20_2).f6) t385 _ A11.out).mono ?_); rintro e w15 ⟨rfl, hb⟩; refine ⟨_, rfl, ?_⟩; replace HO_3 := aa_ (Kd.R_below (by (with_reducible repeat (first | apply Kd.R_alloc | apply Kd.R_drewN | apply Kd.R_drew)); exact (Kd.R_mono (fr10_ (Kd.R_types HO_3.out BK384.out (by decide)) (fun _ hk => hk.2)) (fun _ h_ => h_.1))) hb); replace HO_4 := aa_ (Kd.N_below (by (with_reducible repeat (first | apply Kd.N_alloc | apply Kd.N_drewN | apply Kd.N_drew)); exact (Kd.N_mono (fn10_ (Kd.N_mono HO_4.out (fun k_ hk => (⟨hk, hk.2⟩ : _ ∧ k_ ≠ gb384))) (fun _ hk => hk.2)) (fun _ h_ => h_.1))) hb); replace BK384 := aa_ (blk_below (g := gb384) (o := .cells #[.int .i64 ((rd_T46 l0 x20_2).f0), .int .i64 ((rd_T46 l0 x20_2).f1.f0), .int .i64 ((rd_T46 l0 x20_2).f1.f1), .int .i64 ((rd_T46 l0 x20_2).f2), .int .i64 ((rd_T46 l0 x20_2).f3.f0), .int .i64 ((rd_T46 l0 x20_2).f3.f1), .int .i64 ((rd_T46 l0 x20_2).f4.f0), .int .i64 ((rd_T46 l0 x20_2).f4.f1), .int .i64 ((rd_T46 l0 x20_2).f5), .int .i64 ((rd_T46 l0 x20_2).f6)] 46 (0, 0)) (bk_ BK384) hb); replace HB := hbs_ hb; clear hb))
       (try simp only [Act.put, List.setIfInBounds_toArray, List.set_cons_zero, List.set_cons_succ])
       have H := HC12.out
       clear HC12
       by_cases c16 : t385 = true
       ·subst c16
        replace H := ite_t_ H
        obtain ⟨t386, A17, H⟩ := bindE_ H
        obtain ⟨t389, A18, H⟩ := bindE_ H
        have H' := aa_ H
        clear H
        try go_wp2
        replace HO_3 := aa_ (Kd.R_drew HO_3.out)
        replace HO_4 := aa_ (Kd.N_drew HO_4.out)
        replace BK384 := aa_ (blk_drew BK384.out)
        replace HB := aa_ (below_drew1 HB.out)
        obtain ⟨Ao20, co20, eo20⟩ := Kd.R_slice HO_3.out
        (first | subst eo20 | (injection eo20 with f1_ f2_ f3_; have f4_ := f1_.symm; have f5_ := f3_.symm; clear f1_ f2_ f3_; subst f4_; subst f5_))
        refine start_ (n := 6) (S := fun w' => w'.cell? ⟨gb384, 0, none⟩ = some (.int .i64 ((rd_T46 l0 x20_2).f0)) ∧ w'.cell? ⟨gb384, 1, none⟩ = some (.int .i64 ((rd_T46 l0 x20_2).f1.f0)) ∧ w'.cell? ⟨gb384, 2, none⟩ = some (.int .i64 ((rd_T46 l0 x20_2).f1.f1)) ∧ w'.cell? ⟨gb384, 3, none⟩ = some (.int .i64 ((rd_T46 l0 x20_2).f2)) ∧ w'.cell? ⟨gb384, 4, none⟩ = some (.int .i64 ((rd_T46 l0 x20_2).f3.f0)) ∧ w'.cell? ⟨gb384, 5, none⟩ = some (.int .i64 ((rd_T46 l0 x20_2).f3.f1)) ∧ w'.cell? ⟨gb384, 6, none⟩ = some (.int .i64 ((rd_T46 l0 x20_2).f4.f0)) ∧ w'.cell? ⟨gb384, 7, none⟩ = some (.int .i64 ((rd_T46 l0 x20_2).f4.f1)) ∧ w'.cell? ⟨gb384, 8, none⟩ = some (.int .i64 ((rd_T46 l0 x20_2).f5)) ∧ w'.cell? ⟨gb384, 9, none⟩ = some (.int .i64 ((rd_T46 l0 x20_2).f6))) (ds := []) #[false, false, false, false, false, false] (by kernel_rfl) rfl rfl ⟨(blk_cell BK384.out 0).trans rfl, (blk_cell BK384.out 1).trans rfl, (blk_cell BK384.out 2).trans rfl, (blk_cell BK384.out 3).trans rfl, (blk_cell BK384.out 4).trans rfl, (blk_cell BK384.out 5).trans rfl, (blk_cell BK384.out 6).trans rfl, (blk_cell BK384.out 7).trans rfl, (blk_cell BK384.out 8).trans rfl, (blk_cell BK384.out 9).trans rfl⟩ (fun hHeld => ?_)
        generalize w15.drew = w19 at HO_3 HO_4 BK384 HB hHeld ⊢
        refine pure_ (i := 0) (N := some 28) (v := ?_) (a' := ?_) #[true, false, false, false, false, false] rfl rfl (by kernel_rfl) (fun _ _ _ h => h) (Or.inl ⟨by rfl, ?_⟩) ?_ ?_
        rotate_left
        ·intro w'
         go_simp
         with_reducible rfl
        rotate_left
        ·simp only [Act.put, List.setIfInBounds_toArray, List.set_cons_zero, List.set_cons_succ, i64_w, i32_w]
         rfl
        refine pure_ (i := 5) (N := some 33) (v := ?_) (a' := ?_) #[true, false, false, false, false, true] rfl rfl (by kernel_rfl) (fun _ _ _ h => h) (Or.inl ⟨by rfl, ?_⟩) ?_ ?_
        rotate_left
        ·intro w'
         go_simp
         with_reducible rfl
        rotate_left
        ·simp only [Act.put, List.setIfInBounds_toArray, List.set_cons_zero, List.set_cons_succ, i64_w, i32_w]
         rfl
        refine take_ (i := 2) (N := some 30) (v := ?_) (a' := ?_) #[true, false, true, false, false, true] rfl rfl (by kernel_rfl) (fun _ _ _ h => h) (Or.inl ⟨by rfl, ?_⟩) hHeld ?_ ?_
        rotate_left
        ·rintro w' ⟨s0, s1, s2, s3, s4, s5, s6, s7, s8, s9⟩
         go_simp
         with_reducible rfl
        rotate_left
        ·simp only [Act.put, List.setIfInBounds_toArray, List.set_cons_zero, List.set_cons_succ, i64_w, i32_w]
         rfl
        refine one_ (i := 1) (N := some 29) #[true, true, true, false, false, true] rfl rfl (by kernel_rfl) (by decide) (fun K hK => ?_)
        refine goes_ Try.func55 (by kernel_rfl) rfl #[.slice Ao20 x3_2.length co20] (by rfl) rfl rfl (by (try simp only [List.map_toArray, List.map_cons, List.map_nil]); first | done | rfl | (simp only [List.length_drop, List.length_take]; rfl)) ?_
        with_reducible refine (impl_Fact_55.calls _ _ x3_2 t386 _ ?side1 ?side2 A17.out).mono ?_
        (case side1 => repeat (first | exact (Kd.R_reads' HO_3.out).2.2 | (with_reducible refine Kd.C_alloc ?_ _) | (with_reducible refine Kd.C_drewN ?_ _) | (with_reducible refine Kd.C_drew ?_)))
        (case side2 => exact (Kd.R_reads' HO_3.out).2.1)
        rintro e w21 ⟨v387, rfl, ho0, hb⟩
        refine ⟨_, rfl, ?_⟩
        replace HO_4 := aa_ (Kd.N_elder' (rn_ HO_4) (Kd.R_base ho0) hb)
        have HO388 := aa_ (Kd.R_lower (Kd.R_new' (Kd.R_newM (M := fun k_ => (w.heap.size ≤ k_)) ho0 bls_ (fun k_ h_ => h_)) (Kd.R_lt (rr_ HO_3))) bls_)
        replace HO_3 := aa_ (Kd.R_elder' (rr_ HO_3) (Kd.R_base ho0) hb)
        replace BK384 := bkb_ BK384 hb
        replace HB := hbs_ hb
        (try clear hb)
        (try clear hb2)
        (try clear hk)
        (try clear hi)
        (try clear ho0)
        obtain ⟨Ao22, co22, eo22⟩ := Kd.R_slice HO388.out
        (first | subst eo22 | (injection eo22 with f1_ f2_ f3_; have f4_ := f1_.symm; have f5_ := f3_.symm; clear f1_ f2_ f3_; subst f4_; subst f5_))
        refine hK.out _ _ ⟨(blk_cell BK384.out 0).trans rfl, (blk_cell BK384.out 1).trans rfl, (blk_cell BK384.out 2).trans rfl, (blk_cell BK384.out 3).trans rfl, (blk_cell BK384.out 4).trans rfl, (blk_cell BK384.out 5).trans rfl, (blk_cell BK384.out 6).trans rfl, (blk_cell BK384.out 7).trans rfl, (blk_cell BK384.out 8).trans rfl, (blk_cell BK384.out 9).trans rfl⟩ (fun hHeld => ?_)
        clear hK K
        refine norm_ (a' := ?_) ?_ ?_
        rotate_left
        ·show Act.put _ (some 29) _ = _
         simp only [Act.put, List.setIfInBounds_toArray, List.set_cons_zero, List.set_cons_succ, i64_w, i32_w]
         rfl
        refine one_ (i := 3) (N := some 31) #[true, true, true, true, false, true] rfl rfl (by kernel_rfl) (by decide) (fun K hK => ?_)
        refine goes_ Try.func54 (by kernel_rfl) rfl #[.slice Ao22 t386.length co22, .agg #[.int .i64 ((rd_T46 l0 x20_2).f0), .int .i64 ((rd_T46 l0 x20_2).f1.f0), .int .i64 ((rd_T46 l0 x20_2).f1.f1), .int .i64 ((rd_T46 l0 x20_2).f2), .int .i64 ((rd_T46 l0 x20_2).f3.f0), .int .i64 ((rd_T46 l0 x20_2).f3.f1), .int .i64 ((rd_T46 l0 x20_2).f4.f0), .int .i64 ((rd_T46 l0 x20_2).f4.f1), .int .i64 ((rd_T46 l0 x20_2).f5), .int .i64 ((rd_T46 l0 x20_2).f6)]] (by rfl) rfl rfl (by (try simp only [List.map_toArray, List.map_cons, List.map_nil]); first | done | rfl | (simp only [List.length_drop, List.length_take]; rfl)) ?_
        with_reducible refine (impl_derive.calls k2 _ _ t386 ((rd_T46 l0 x20_2).f0) ((rd_T46 l0 x20_2).f1.f0) ((rd_T46 l0 x20_2).f1.f1) ((rd_T46 l0 x20_2).f2) ((rd_T46 l0 x20_2).f3.f0) ((rd_T46 l0 x20_2).f3.f1) ((rd_T46 l0 x20_2).f4.f0) ((rd_T46 l0 x20_2).f4.f1) ((rd_T46 l0 x20_2).f5) ((rd_T46 l0 x20_2).f6) t389 _ ?side1 ?side2 A18.out).mono ?_
        (case side1 => repeat (first | exact (Kd.R_reads' HO388.out).2.2 | (with_reducible refine Kd.C_alloc ?_ _) | (with_reducible refine Kd.C_drewN ?_ _) | (with_reducible refine Kd.C_drew ?_)))
        (case side2 => exact (Kd.R_reads' HO388.out).2.1)
        rintro e w23 ⟨v390, rfl, ho0, hb⟩
        refine ⟨_, rfl, ?_⟩
        have HO391 := aa_ (Kd.N_lower (Kd.N_mono (ok' := fun k_ => (w.heap.size ≤ k_) ∧ some k_ ≠ (.slice Ao20 x3_2.length co20 : Value).ownBlock ∧ some k_ ≠ (u4 : Value).ownBlock ∧ some k_ ≠ (.slice Ao22 t386.length co22 : Value).ownBlock ∧ k_ ≠ gb384) (Kd.S_N (Kd.S_bound ho0)) (fun k_ hk_ => ⟨(Nat.le_trans bls_ hk_.2.1), (Kd.fresh' (Kd.R_lt (rr_ HO_3)) k_ hk_.2.1), (Kd.fresh' (Kd.N_lt (rn_ HO_4)) k_ hk_.2.1), (Kd.fresh' (Kd.R_lt (rr_ HO388)) k_ hk_.2.1), (Kd.freshB (g := gb384) (o := .cells #[.int .i64 ((rd_T46 l0 x20_2).f0), .int .i64 ((rd_T46 l0 x20_2).f1.f0), .int .i64 ((rd_T46 l0 x20_2).f1.f1), .int .i64 ((rd_T46 l0 x20_2).f2), .int .i64 ((rd_T46 l0 x20_2).f3.f0), .int .i64 ((rd_T46 l0 x20_2).f3.f1), .int .i64 ((rd_T46 l0 x20_2).f4.f0), .int .i64 ((rd_T46 l0 x20_2).f4.f1), .int .i64 ((rd_T46 l0 x20_2).f5), .int .i64 ((rd_T46 l0 x20_2).f6)] 46 (0, 0)) (bk_ BK384) k_ hk_.2.1)⟩)) bls_)
        replace HO_3 := hob_ HO_3 hb
        replace HO_4 := aa_ (Kd.N_elder' (rn_ HO_4) (Kd.S_base ho0) hb)
        replace HO388 := hob_ HO388 hb
        replace BK384 := bkb_ BK384 hb
        replace HB := hbs_ hb
        (try clear hb)
        (try clear hb2)
        (try clear hk)
        (try clear hi)
        (try clear ho0)
        obtain ⟨Ao24, co24, eo24⟩ := Kd.N_slice HO391.out
        (first | subst eo24 | (injection eo24 with f1_ f2_ f3_; have f4_ := f1_.symm; have f5_ := f3_.symm; clear f1_ f2_ f3_; subst f4_; subst f5_))
        refine hK.out _ _ ⟨(blk_cell BK384.out 0).trans rfl, (blk_cell BK384.out 1).trans rfl, (blk_cell BK384.out 2).trans rfl, (blk_cell BK384.out 3).trans rfl, (blk_cell BK384.out 4).trans rfl, (blk_cell BK384.out 5).trans rfl, (blk_cell BK384.out 6).trans rfl, (blk_cell BK384.out 7).trans rfl, (blk_cell BK384.out 8).trans rfl, (blk_cell BK384.out 9).trans rfl⟩ (fun hHeld => ?_)
        clear hK K
        refine norm_ (a' := ?_) ?_ ?_
        rotate_left
        ·show Act.put _ (some 31) _ = _
         simp only [Act.put, List.setIfInBounds_toArray, List.set_cons_zero, List.set_cons_succ, i64_w, i32_w]
         rfl
        refine pure_ (i := 4) (N := some 32) (v := ?_) (a' := ?_) #[true, true, true, true, true, true] rfl rfl (by kernel_rfl) (fun _ _ _ h => h) (Or.inl ⟨by rfl, ?_⟩) ?_ ?_
        rotate_left
        ·intro w'
         go_simp
         with_reducible rfl
        rotate_left
        ·simp only [Act.put, List.setIfInBounds_toArray, List.set_cons_zero, List.set_cons_succ, i64_w, i32_w]
         rfl
        refine done_ (by kernel_rfl) ?_
        try go_wp2
        go_loopg [3, 4, 33] k2 (fun kq v3 v4 v33 w' => ∃ (x3_3 : List (S29)) (x4_3 : List (S84)) (x33_3 : Int), v33 = .int .i64 x33_3 ∧ Aside0 (impl_findFacts.l2 kq l0 x3_3 x4_3 (x3_1.length : Int) x20_2 l0 (l0.length : Int) x20_2 t389 (t389.length : Int) x33_3 = some r) ∧ Aside0 (kq ≤ k2) ∧ Aside0 (Kd.R k29 29 w' w.heap.size (fun k_ => (w.heap.size ≤ k_)) v3 x3_3) ∧ Aside0 (Kd.N k84 84 w' w.heap.size (fun k_ => (w.heap.size ≤ k_) ∧ some k_ ≠ (v3 : Value).ownBlock ∧ some k_ ≠ ((.slice Ao24 t389.length co24) : Value).ownBlock ∧ k_ ≠ gb384) v4 x4_3) ∧ Aside0 (Kd.N k91 91 w' w.heap.size (fun k_ => (w.heap.size ≤ k_) ∧ some k_ ≠ (v3 : Value).ownBlock ∧ some k_ ≠ (v4 : Value).ownBlock ∧ k_ ≠ gb384) (.slice Ao24 t389.length co24) t389) ∧ Aside0 (w'.heap[gb384]? = some (.cells #[.int .i64 ((rd_T46 l0 x20_2).f0), .int .i64 ((rd_T46 l0 x20_2).f1.f0), .int .i64 ((rd_T46 l0 x20_2).f1.f1), .int .i64 ((rd_T46 l0 x20_2).f2), .int .i64 ((rd_T46 l0 x20_2).f3.f0), .int .i64 ((rd_T46 l0 x20_2).f3.f1), .int .i64 ((rd_T46 l0 x20_2).f4.f0), .int .i64 ((rd_T46 l0 x20_2).f4.f1), .int .i64 ((rd_T46 l0 x20_2).f5), .int .i64 ((rd_T46 l0 x20_2).f6)] 46 (0, 0))) ∧ Aside0 (Below w.heap.size w w'))
        case atStart => exact ⟨(x3_2), (x4_2), (0), rf_, H', ⟨Nat.le_refl _⟩, ⟨by (with_reducible repeat (first | apply Kd.R_alloc | apply Kd.R_drewN | apply Kd.R_drew)); exact Kd.R_mono HO_3.out (fun _ hk => hk.1)⟩, ⟨by (with_reducible repeat (first | apply Kd.N_alloc | apply Kd.N_drewN | apply Kd.N_drew)); exact Kd.N_mono HO_4.out (fun _ hk => ⟨hk.1.1.1.1, ⟨hk.1.1.1.2, ⟨hk.2, hk.1.1.2⟩⟩⟩)⟩, ⟨by (with_reducible repeat (first | apply Kd.N_alloc | apply Kd.N_drewN | apply Kd.N_drew)); exact Kd.N_mono HO391.out (fun _ hk => ⟨hk.1, ⟨hk.2.1, ⟨hk.2.2.1, hk.2.2.2.2⟩⟩⟩)⟩, ⟨bk_ BK384⟩, ⟨bl_⟩⟩
        case round =>
         clear H'
         try clear c1
         try clear c2
         try clear p2
         try clear p3
         try clear q3
         try clear hx3
         try clear c4
         try clear c5
         try clear c6
         try clear c6b0
         try clear c8
         try clear c8b0
         try clear c9
         try clear c9b0
         try clear c10
         try clear c10b0
         try clear c16
         try clear c24
         try clear hcz14
         try clear hfz14
         try clear hx383_0
         try clear hx383_1
         try clear hx383_2
         try clear hx383_3
         try clear hx383_4
         try clear hx383_5
         try clear hx383_6
         try clear hx383_7
         try clear hx383_8
         try clear hx383_9
         try clear p2
         try clear p383
         try clear q383
         obtain ⟨x3_3, x4_3, x33_3, rfl, HA, HK3, HO_3, HO_4, HO_31, BK384, HB⟩ := hrel
         cases gk with
         | zero => exact absurd HA.out (by simp [impl_findFacts.l2])
         | succ k3 =>
          have H := HA.out
          clear HA
          simp only [impl_findFacts.l2] at H
          by_cases c25 : x33_3 < (t389.length : Int)
          ·rw [if_pos c25] at H
           have c25b0 : decide (x33_3 < (t389.length : Int)) = true := decide_eq_true c25
           clear c25
           (first | rw [c25b0] | (simp only [i64_w, i32_w]; rw [c25b0]) | (have cz_ := c25b0; simp only [Int.ofNat_lt, Int.ofNat_le, gt_iff_lt, ge_iff_le] at cz_; rw [cz_]; clear cz_) | skip)
           obtain ⟨c26b0, H⟩ := ifd_ H
           obtain ⟨c27b0, H⟩ := ifd_ H
           obtain ⟨t394, A28, H⟩ := bindE_ H
           have HC29 := aa_ H
           clear H
           have p392 : 0 ≤ (x33_3 : Int) := od_
           have q392 : x33_3 < (t389.length : Int) := od_
           obtain ⟨ad392, A392_3, c392_3, e392, hx392_0, hx392_1, hx392_2, hx392_3, hl392_3, hi392_3⟩ := at_T91 (Kd.N_reads' HO_31.out).2.2 x33_3 p392 q392
           cases e392
           obtain ⟨ce392, hce392, hMe392, hcc392⟩ := Kd.N_get HO_31.out z91 x33_3 p392 (by first | exact q392 | exact od_ | (have e_ := (Kd.N_reads' HO_31.out).1; omega))
           obtain ⟨ua392_3, uc392_3, rfl, ul392_3, ge392_3⟩ := k91_openF hMe392
           have hv392_3 := hcc392 3 _ rfl
           rw [add_field _ _ 3 (by omega)] at hv392_3
           replace hv392_3 := Option.some.inj (hv392_3.symm.trans hx392_3)
           injection hv392_3 with hva_ hvn_ hvc_
           rw [hva_] at ge392_3
           rw [hvc_] at ul392_3
           have HL392_3 := aa_ (show Kd.V (Kd.int .i64) 3 _ w.heap.size _ _ ((rd_T91 t389 x33_3).f1) from Kd.V_mk ul392_3 ge392_3)
           clear hva_ hvn_ hvc_ ge392_3 ul392_3
           clear hcc392 hce392
           have HR392_3 := aa_ hi392_3
           have HC392_3 := aa_ hl392_3
           clear hi392_3 hl392_3
           replace p392 := eq_true p392
           replace q392 := eq_true q392
           go_upto_if 41 with (first | ((with_reducible refine gD_ 9 rfl ?_); refine bx_ (N := 9) (cs := #[.int .i64 0, .int .i64 0, .int .i64 0, .slice none 0 0]) (t := 91) ?_; intro gb393 hg w30 hbox hb; replace HO_3 := hob_ HO_3 hb; replace HO_4 := aa_ (Kd.N_below (Kd.N_elderB (rn_ HO_4) gb393 (Nat.le_of_eq hg.symm)) hb); replace HO_31 := aa_ (Kd.N_below (Kd.N_elderB (rn_ HO_31) gb393 (Nat.le_of_eq hg.symm)) hb); replace HL392_3 := aa_ (Kd.V_below (Kd.V_elderB (rv_ HL392_3) gb393 (Nat.le_of_eq hg.symm)) hb); replace HR392_3 := aa_ (Kd.C_below (by repeat (first | (with_reducible exact HR392_3.out) | (with_reducible refine Kd.C_alloc ?_ _) | (with_reducible refine Kd.C_drewN ?_ _) | (with_reducible refine Kd.C_drew ?_) | exact HR392_3.out)) hb); have BK393 := aa_ (hbox); have GW393 := gs_ hg; have GE393 := gs_ hg; replace HB := hbs_ hb; have NB384_393 := nl_ hg BK384; have NB393_384 := nr_ hg BK384; replace BK384 := bkb_ BK384 hb; clear hb hbox hg; have hnb31 := NB393_384.out; have hnc31 := NB384_393.out; obtain ⟨hcz32, hfz32⟩ := bcf_ BK393; obtain ⟨Ao33, co33, eo33⟩ := Kd.R_slice HO_3.out; subst eo33) | ((with_reducible refine gC_ 40 rfl ?_); refine goesC_ (some 40) Try.func40 #[.slice Ao33 x3_3.length co33, .agg #[.int .i64 ((rd_T91 t389 x33_3).f0.f0.f0), .int .i64 ((rd_T91 t389 x33_3).f0.f0.f1), .int .i64 ((rd_T91 t389 x33_3).f0.f1)]] ?_; (with_reducible refine (impl_Fact_40.calls k3 _ _ x3_3 ((rd_T91 t389 x33_3).f0.f0.f0) ((rd_T91 t389 x33_3).f0.f0.f1) ((rd_T91 t389 x33_3).f0.f1) t394 _ ?side1 ?side2 A28.out).mono ?_); (case side1 => refine (Kd.R_reads' (e := 29) (base := w.heap.size) (ok := fun k_ => (w.heap.size ≤ k_)) (n := x3_3.length) (c := co33) ?_).2.2; exact (by (with_reducible repeat (first | apply Kd.R_alloc | apply Kd.R_drewN | apply Kd.R_drew)); exact (Kd.R_mono (fr4_ (Kd.R_types HO_3.out BK393.out (by decide)) (fun _ hk => hk.2)) (fun _ h_ => h_.1)))); (case side2 => exact (Kd.R_reads' HO_3.out).2.1); rintro e w34 ⟨rfl, hb⟩; refine ⟨_, rfl, ?_⟩; replace HO_3 := aa_ (Kd.R_below (by (with_reducible repeat (first | apply Kd.R_alloc | apply Kd.R_drewN | apply Kd.R_drew)); exact (Kd.R_mono (fr4_ (Kd.R_types HO_3.out BK393.out (by decide)) (fun _ hk => hk.2)) (fun _ h_ => h_.1))) hb); replace HO_4 := aa_ (Kd.N_below (by (with_reducible repeat (first | apply Kd.N_alloc | apply Kd.N_drewN | apply Kd.N_drew)); exact (Kd.N_mono (fn4_ (Kd.N_mono HO_4.out (fun k_ hk => (⟨hk, hk.2⟩ : _ ∧ k_ ≠ gb393))) (fun _ hk => hk.2)) (fun _ h_ => h_.1))) hb); replace HO_31 := aa_ (Kd.N_below (by (with_reducible repeat (first | apply Kd.N_alloc | apply Kd.N_drewN | apply Kd.N_drew)); exact (Kd.N_mono (fn4_ (Kd.N_mono HO_31.out (fun k_ hk => (⟨hk, hk.2⟩ : _ ∧ k_ ≠ gb393))) (fun _ hk => hk.2)) (fun _ h_ => h_.1))) hb); replace BK384 := aa_ (blk_below (g := gb384) (o := .cells #[.int .i64 ((rd_T46 l0 x20_2).f0), .int .i64 ((rd_T46 l0 x20_2).f1.f0), .int .i64 ((rd_T46 l0 x20_2).f1.f1), .int .i64 ((rd_T46 l0 x20_2).f2), .int .i64 ((rd_T46 l0 x20_2).f3.f0), .int .i64 ((rd_T46 l0 x20_2).f3.f1), .int .i64 ((rd_T46 l0 x20_2).f4.f0), .int .i64 ((rd_T46 l0 x20_2).f4.f1), .int .i64 ((rd_T46 l0 x20_2).f5), .int .i64 ((rd_T46 l0 x20_2).f6)] 46 (0, 0)) (bk_ BK384) hb); replace HR392_3 := aa_ (Kd.C_below ((Kd.V_reads' (by (with_reducible repeat (first | apply Kd.V_alloc | apply Kd.V_drewN | apply Kd.V_drew)); exact (Kd.V_mono (Kd.V_far (p := ⟨gb393, 3, none⟩) (Kd.V_far (p := ⟨gb393, 2, none⟩) (Kd.V_far (p := ⟨gb393, 1, none⟩) (Kd.V_far (p := ⟨gb393, 0, none⟩) (Kd.V_mono HL392_3.out (fun k_ hk => (⟨hk, hk.2⟩ : _ ∧ k_ ≠ gb393))) (fun _ hk => hk.2) (.int .i64 ((rd_T91 t389 x33_3).f0.f0.f0))) (fun _ hk => hk.2) (.int .i64 ((rd_T91 t389 x33_3).f0.f0.f1))) (fun _ hk => hk.2) (.int .i64 ((rd_T91 t389 x33_3).f0.f1))) (fun _ hk => hk.2) (.slice A392_3 ((rd_T91 t389 x33_3).f1).length c392_3)) (fun _ h_ => h_.1)))).2.2) hb); replace HL392_3 := aa_ (Kd.V_below (by (with_reducible repeat (first | apply Kd.V_alloc | apply Kd.V_drewN | apply Kd.V_drew)); exact (Kd.V_mono (Kd.V_far (p := ⟨gb393, 3, none⟩) (Kd.V_far (p := ⟨gb393, 2, none⟩) (Kd.V_far (p := ⟨gb393, 1, none⟩) (Kd.V_far (p := ⟨gb393, 0, none⟩) (Kd.V_mono HL392_3.out (fun k_ hk => (⟨hk, hk.2⟩ : _ ∧ k_ ≠ gb393))) (fun _ hk => hk.2) (.int .i64 ((rd_T91 t389 x33_3).f0.f0.f0))) (fun _ hk => hk.2) (.int .i64 ((rd_T91 t389 x33_3).f0.f0.f1))) (fun _ hk => hk.2) (.int .i64 ((rd_T91 t389 x33_3).f0.f1))) (fun _ hk => hk.2) (.slice A392_3 ((rd_T91 t389 x33_3).f1).length c392_3)) (fun _ h_ => h_.1))) hb); replace BK393 := aa_ (blk_below (g := gb393) (o := .cells #[.int .i64 ((rd_T91 t389 x33_3).f0.f0.f0), .int .i64 ((rd_T91 t389 x33_3).f0.f0.f1), .int .i64 ((rd_T91 t389 x33_3).f0.f1), .slice A392_3 ((rd_T91 t389 x33_3).f1).length c392_3] 91 (0, 0)) (bk_ BK393) hb); replace HB := hbs_ hb; clear hb))
           (try simp only [Act.put, List.setIfInBounds_toArray, List.set_cons_zero, List.set_cons_succ])
           have H := HC29.out
           clear HC29
           by_cases c35 : t394 = true
           ·subst c35
            replace H := ite_t_ H
            have H' := aa_ H
            clear H
            go_wp2
            go_roundg k3
            case measure => have := HK1.out; have := HK2.out; have := HK3.out; omega
            case rel => exact ⟨(x3_3), (x4_3), (wrap64 (x33_3 + 1)), rf_, H', ⟨by have := HK1.out; have := HK2.out; have := HK3.out; omega⟩, ⟨rr_ HO_3⟩, ⟨by (with_reducible repeat (first | apply Kd.N_alloc | apply Kd.N_drewN | apply Kd.N_drew)); exact Kd.N_mono HO_4.out (fun _ hk => ⟨hk.1.1, ⟨hk.1.2.1, ⟨hk.1.2.2.1, hk.1.2.2.2⟩⟩⟩)⟩, ⟨by (with_reducible repeat (first | apply Kd.N_alloc | apply Kd.N_drewN | apply Kd.N_drew)); exact Kd.N_mono HO_31.out (fun _ hk => ⟨hk.1.1, ⟨hk.1.2.1, ⟨hk.1.2.2.1, hk.1.2.2.2⟩⟩⟩)⟩, ⟨bk_ BK384⟩, ⟨bl_⟩⟩
           ·replace c35 := Bool.eq_false_iff.mpr c35
            subst c35
            replace H := ite_f_ H
            obtain ⟨c36, H⟩ := ifn_ H
            have LMc36 := aa_ c36
            clear c36
            obtain ⟨y395, hy395⟩ : ∃ y_ : List (S29), y_ = (x3_3 ++ [(⟨(⟨(rd_T91 t389 x33_3).f0.f0.f0, (rd_T91 t389 x33_3).f0.f0.f1⟩ : S27), (rd_T91 t389 x33_3).f0.f1⟩ : S29)]) := ⟨_, rfl⟩
            replace H : (if x4_3.length < 2513169434916 then (impl_findFacts.l2 k3 l0 y395 (x4_3 ++ [(⟨(⟨(⟨(rd_T91 t389 x33_3).f0.f0.f0, (rd_T91 t389 x33_3).f0.f0.f1⟩ : S27), (rd_T91 t389 x33_3).f0.f1⟩ : S29), x20_2, (rd_T91 t389 x33_3).f1⟩ : S84)]) (x3_1.length : Int) x20_2 l0 (l0.length : Int) x20_2 t389 (t389.length : Int) (wrap64 (x33_3 + 1))) else (none)) = some r := rh_ hy395 H
            have Ny395 := aa_ hy395
            clear hy395
            obtain ⟨c37, H⟩ := ifn_ H
            have LMc37 := aa_ c37
            clear c37
            obtain ⟨y398, hy398⟩ : ∃ y_ : List (S84), y_ = (x4_3 ++ [(⟨(⟨(⟨(rd_T91 t389 x33_3).f0.f0.f0, (rd_T91 t389 x33_3).f0.f0.f1⟩ : S27), (rd_T91 t389 x33_3).f0.f1⟩ : S29), x20_2, (rd_T91 t389 x33_3).f1⟩ : S84)]) := ⟨_, rfl⟩
            replace H : (impl_findFacts.l2 k3 l0 y395 y398 (x3_1.length : Int) x20_2 l0 (l0.length : Int) x20_2 t389 (t389.length : Int) (wrap64 (x33_3 + 1))) = some r := rh_ hy398 H
            have Ny398 := aa_ hy398
            clear hy398
            have H' := aa_ H
            clear H
            have hnb38 := NB393_384.out
            have hnc38 := NB384_393.out
            have hcz39 := blk_cell BK393.out
            have hfz39 := blk_frozen BK393.out
            go_wp2_with (first | ((with_reducible refine gate_builtin (b := .append) (xs := #[.tmp 42, .tmp 45]) rfl ?_); at_builtin; refine Kd.R_append k29 (w0 := w) w.heap.size rfl (.tmp 42) (.tmp 45) 53 29 (.agg #[(.int .i64 0), (.int .i64 0), (.int .i64 0)]) 24 rfl Try.underlying53 info29 rfl (by decide) (by omega) (.slice Ao33 x3_3.length co33) x3_3 (⟨(⟨(rd_T91 t389 x33_3).f0.f0.f0, (rd_T91 t389 x33_3).f0.f0.f1⟩ : S27), (rd_T91 t389 x33_3).f0.f1⟩ : S29) [.int .i64 ((rd_T91 t389 x33_3).f0.f0.f0), .int .i64 ((rd_T91 t389 x33_3).f0.f0.f1), .int .i64 ((rd_T91 t389 x33_3).f0.f1)] (fun k_ => (w.heap.size ≤ k_)) (fun _ => False) rfl rfl ?aP (fun _ hk => hk.elim) ?aF ?aO ?aB ?aS ?aL ?_; (case aP => exact k29_mkM _ _ _ (⟨(⟨(rd_T91 t389 x33_3).f0.f0.f0, (rd_T91 t389 x33_3).f0.f0.f1⟩ : S27), (rd_T91 t389 x33_3).f0.f1⟩ : S29)); (case aB => exact bl_); (case aF => exact (fun k_ hk => (Nat.le_trans bls_ hk))); (case aO => exact (rr_ HO_3)); (case aS => exact bls_); (case aL => have := LMc36.out; omega); intro v396 w40 ho hb hg hat; rw [← Ny395.out] at ho; replace HO_4 := aa_ (Kd.N_afterv (ok := (fun k_ => (w.heap.size ≤ k_) ∧ some k_ ≠ (.slice (some ad392) t389.length co24 : Value).ownBlock ∧ k_ ≠ gb384 ∧ k_ ≠ gb393)) (by (with_reducible repeat (first | apply Kd.N_alloc | apply Kd.N_drewN | apply Kd.N_drew)); exact Kd.N_mono HO_4.out (fun _ hk => ⟨⟨hk.1.1, ⟨hk.1.2.2.1, ⟨hk.1.2.2.2, hk.2⟩⟩⟩, hk.1.2.1⟩)) hg hat); replace HO_31 := aa_ (Kd.N_afterv (ok := (fun k_ => (w.heap.size ≤ k_) ∧ some k_ ≠ (u4 : Value).ownBlock ∧ k_ ≠ gb384 ∧ k_ ≠ gb393)) (by (with_reducible repeat (first | apply Kd.N_alloc | apply Kd.N_drewN | apply Kd.N_drew)); exact Kd.N_mono HO_31.out (fun _ hk => ⟨⟨hk.1.1, ⟨hk.1.2.2.1, ⟨hk.1.2.2.2, hk.2⟩⟩⟩, hk.1.2.1⟩)) hg hat); replace BK384 := aa_ (blk_grown (g := gb384) (o := .cells #[.int .i64 ((rd_T46 l0 x20_2).f0), .int .i64 ((rd_T46 l0 x20_2).f1.f0), .int .i64 ((rd_T46 l0 x20_2).f1.f1), .int .i64 ((rd_T46 l0 x20_2).f2), .int .i64 ((rd_T46 l0 x20_2).f3.f0), .int .i64 ((rd_T46 l0 x20_2).f3.f1), .int .i64 ((rd_T46 l0 x20_2).f4.f0), .int .i64 ((rd_T46 l0 x20_2).f4.f1), .int .i64 ((rd_T46 l0 x20_2).f5), .int .i64 ((rd_T46 l0 x20_2).f6)] 46 (0, 0)) (bk_ BK384) hg (Kd.R_ne HO_3.out BK384.out (by decide))); replace HL392_3 := aa_ (Kd.V_afterv (ok := (fun k_ => (w.heap.size ≤ k_) ∧ some k_ ≠ (u4 : Value).ownBlock ∧ some k_ ≠ (.slice (some ad392) t389.length co24 : Value).ownBlock ∧ k_ ≠ gb384 ∧ k_ ≠ gb393)) (by (with_reducible repeat (first | apply Kd.V_alloc | apply Kd.V_drewN | apply Kd.V_drew)); exact Kd.V_mono HL392_3.out (fun _ hk => ⟨⟨hk.1.1.1, ⟨hk.1.1.2.2.1, ⟨hk.1.2, ⟨hk.1.1.2.2.2, hk.2⟩⟩⟩⟩, hk.1.1.2.1⟩)) hg hat); replace BK393 := aa_ (blk_grown (g := gb393) (o := .cells #[.int .i64 ((rd_T91 t389 x33_3).f0.f0.f0), .int .i64 ((rd_T91 t389 x33_3).f0.f0.f1), .int .i64 ((rd_T91 t389 x33_3).f0.f1), .slice A392_3 ((rd_T91 t389 x33_3).f1).length c392_3] 91 (0, 0)) (bk_ BK393) hg (Kd.R_ne HO_3.out BK393.out (by decide))); replace HB := aa_ (hb); have HO397 := aa_ (ho); clear HO_3; clear ho hb hg hat; obtain ⟨hcz41, hfz41⟩ := bcf_ BK393) | ((with_reducible refine gate_builtin (b := .append) (xs := #[.tmp 47, .tmp 54]) rfl ?_); at_builtin; refine Kd.N_append k84 (w0 := w) w.heap.size rfl (.tmp 47) (.tmp 54) 81 84 (.agg #[(.int .i64 0), (.int .i64 0), (.int .i64 0), (.int .i64 0), (.slice none 0 0)]) 56 rfl Try.underlying81 info84 rfl (by decide) (by omega) u4 x4_3 (⟨(⟨(⟨(rd_T91 t389 x33_3).f0.f0.f0, (rd_T91 t389 x33_3).f0.f0.f1⟩ : S27), (rd_T91 t389 x33_3).f0.f1⟩ : S29), x20_2, (rd_T91 t389 x33_3).f1⟩ : S84) [.int .i64 ((rd_T91 t389 x33_3).f0.f0.f0), .int .i64 ((rd_T91 t389 x33_3).f0.f0.f1), .int .i64 ((rd_T91 t389 x33_3).f0.f1), .int .i64 x20_2, .slice A392_3 ((rd_T91 t389 x33_3).f1).length c392_3] (fun k_ => (w.heap.size ≤ k_) ∧ some k_ ≠ (.slice (some ad392) t389.length co24 : Value).ownBlock ∧ some k_ ≠ (v396 : Value).ownBlock ∧ k_ ≠ gb384 ∧ k_ ≠ gb393) (fun k_ => ((fun k_ => (w.heap.size ≤ k_) ∧ some k_ ≠ (.slice (some ad392) t389.length co24 : Value).ownBlock ∧ some k_ ≠ (v396 : Value).ownBlock ∧ k_ ≠ gb384 ∧ k_ ≠ gb393)) k_ ∧ some k_ ≠ (u4 : Value).ownBlock) rfl rfl ?aP (fun _ hk => hk) ?aF ?aO ?aB ?aS ?aL ?_; (case aP => exact (k84_mkF _ _ (⟨(⟨(⟨(rd_T91 t389 x33_3).f0.f0.f0, (rd_T91 t389 x33_3).f0.f0.f1⟩ : S27), (rd_T91 t389 x33_3).f0.f1⟩ : S29), x20_2, (rd_T91 t389 x33_3).f1⟩ : S84) (Kd.V_reads' (Kd.V_mono (ok' := (fun k_ => ((fun k_ => (w.heap.size ≤ k_) ∧ some k_ ≠ (.slice (some ad392) t389.length co24 : Value).ownBlock ∧ some k_ ≠ (v396 : Value).ownBlock ∧ k_ ≠ gb384 ∧ k_ ≠ gb393)) k_ ∧ some k_ ≠ (u4 : Value).ownBlock)) (HL392_3.out) (fun k_ hk => ⟨⟨hk.1.1, ⟨hk.1.2.2.1, ⟨hk.2, ⟨hk.1.2.2.2.1, hk.1.2.2.2.2⟩⟩⟩⟩, hk.1.2.1⟩))).2.1 (Kd.V_F (Kd.V_mono (ok' := (fun k_ => ((fun k_ => (w.heap.size ≤ k_) ∧ some k_ ≠ (.slice (some ad392) t389.length co24 : Value).ownBlock ∧ some k_ ≠ (v396 : Value).ownBlock ∧ k_ ≠ gb384 ∧ k_ ≠ gb393)) k_ ∧ some k_ ≠ (u4 : Value).ownBlock)) (HL392_3.out) (fun k_ hk => ⟨⟨hk.1.1, ⟨hk.1.2.2.1, ⟨hk.2, ⟨hk.1.2.2.2.1, hk.1.2.2.2.2⟩⟩⟩⟩, hk.1.2.1⟩))))); (case aB => exact bl_); (case aF => exact (fun k_ hk => ⟨(Nat.le_trans bls_ hk), Kd.fresh' (Kd.N_lt (rn_ HO_31)) k_ hk, Kd.fresh' (Kd.R_lt (rr_ HO397)) k_ hk, Kd.freshB (g := gb384) (o := .cells #[.int .i64 ((rd_T46 l0 x20_2).f0), .int .i64 ((rd_T46 l0 x20_2).f1.f0), .int .i64 ((rd_T46 l0 x20_2).f1.f1), .int .i64 ((rd_T46 l0 x20_2).f2), .int .i64 ((rd_T46 l0 x20_2).f3.f0), .int .i64 ((rd_T46 l0 x20_2).f3.f1), .int .i64 ((rd_T46 l0 x20_2).f4.f0), .int .i64 ((rd_T46 l0 x20_2).f4.f1), .int .i64 ((rd_T46 l0 x20_2).f5), .int .i64 ((rd_T46 l0 x20_2).f6)] 46 (0, 0)) (bk_ BK384) k_ hk, Kd.freshB (g := gb393) (o := .cells #[.int .i64 ((rd_T91 t389 x33_3).f0.f0.f0), .int .i64 ((rd_T91 t389 x33_3).f0.f0.f1), .int .i64 ((rd_T91 t389 x33_3).f0.f1), .slice A392_3 ((rd_T91 t389 x33_3).f1).length c392_3] 91 (0, 0)) (bk_ BK393) k_ hk⟩)); (case aO => exact (by (with_reducible repeat (first | apply Kd.N_alloc | apply Kd.N_drewN | apply Kd.N_drew)); exact Kd.N_mono HO_4.out (fun _ hk => ⟨hk.1.1, ⟨hk.1.2.1, ⟨hk.2, ⟨hk.1.2.2.1, hk.1.2.2.2⟩⟩⟩⟩))); (case aS => exact bls_); (case aL => have := LMc37.out; omega); intro v399 w42 ho hb hg hat; rw [← Ny398.out] at ho; replace HO_31 := aa_ (Kd.N_afterv (ok := (fun k_ => (w.heap.size ≤ k_) ∧ some k_ ≠ (v396 : Value).ownBlock ∧ k_ ≠ gb384 ∧ k_ ≠ gb393)) (by (with_reducible repeat (first | apply Kd.N_alloc | apply Kd.N_drewN | apply Kd.N_drew)); exact Kd.N_mono HO_31.out (fun _ hk => ⟨⟨hk.1.1, ⟨hk.2, ⟨hk.1.2.2.1, hk.1.2.2.2⟩⟩⟩, hk.1.2.1⟩)) hg hat); replace BK384 := aa_ (blk_grown (g := gb384) (o := .cells #[.int .i64 ((rd_T46 l0 x20_2).f0), .int .i64 ((rd_T46 l0 x20_2).f1.f0), .int .i64 ((rd_T46 l0 x20_2).f1.f1), .int .i64 ((rd_T46 l0 x20_2).f2), .int .i64 ((rd_T46 l0 x20_2).f3.f0), .int .i64 ((rd_T46 l0 x20_2).f3.f1), .int .i64 ((rd_T46 l0 x20_2).f4.f0), .int .i64 ((rd_T46 l0 x20_2).f4.f1), .int .i64 ((rd_T46 l0 x20_2).f5), .int .i64 ((rd_T46 l0 x20_2).f6)] 46 (0, 0)) (bk_ BK384) hg (Kd.N_ne HO_4.out BK384.out (by decide))); replace HL392_3 := aa_ (Kd.V_afterv (ok := (fun k_ => (w.heap.size ≤ k_) ∧ some k_ ≠ (.slice (some ad392) t389.length co24 : Value).ownBlock ∧ some k_ ≠ (v396 : Value).ownBlock ∧ k_ ≠ gb384 ∧ k_ ≠ gb393)) (by (with_reducible repeat (first | apply Kd.V_alloc | apply Kd.V_drewN | apply Kd.V_drew)); exact Kd.V_mono HL392_3.out (fun _ hk => ⟨⟨hk.1.1, ⟨hk.1.2.2.1, ⟨hk.2, ⟨hk.1.2.2.2.1, hk.1.2.2.2.2⟩⟩⟩⟩, hk.1.2.1⟩)) hg hat); replace BK393 := aa_ (blk_grown (g := gb393) (o := .cells #[.int .i64 ((rd_T91 t389 x33_3).f0.f0.f0), .int .i64 ((rd_T91 t389 x33_3).f0.f0.f1), .int .i64 ((rd_T91 t389 x33_3).f0.f1), .slice A392_3 ((rd_T91 t389 x33_3).f1).length c392_3] 91 (0, 0)) (bk_ BK393) hg (Kd.N_ne HO_4.out BK393.out (by decide))); replace HO397 := aa_ (Kd.R_over' (rr_ HO397) (Kd.N_typed (rn_ HO_4)) (by decide) hg); replace HB := aa_ (hb); have HO400 := aa_ (ho); clear HO_4; clear ho hb hg hat))
            go_roundg k3
            case measure => have := HK1.out; have := HK2.out; have := HK3.out; omega
            case rel => exact ⟨(y395), (y398), (wrap64 (x33_3 + 1)), rf_, H', ⟨by have := HK1.out; have := HK2.out; have := HK3.out; omega⟩, ⟨rr_ HO397⟩, ⟨by (with_reducible repeat (first | apply Kd.N_alloc | apply Kd.N_drewN | apply Kd.N_drew)); exact Kd.N_mono HO400.out (fun _ hk => ⟨hk.1, ⟨hk.2.2.1, ⟨hk.2.1, hk.2.2.2.1⟩⟩⟩)⟩, ⟨by (with_reducible repeat (first | apply Kd.N_alloc | apply Kd.N_drewN | apply Kd.N_drew)); exact Kd.N_mono HO_31.out (fun _ hk => ⟨hk.1.1, ⟨hk.1.2.1, ⟨hk.2, hk.1.2.2.1⟩⟩⟩)⟩, ⟨bk_ BK384⟩, ⟨bl_⟩⟩
          ·rw [if_neg c25] at H
           have c25b0 : decide (x33_3 < (t389.length : Int)) = false := decide_eq_false c25
           clear c25
           (first | rw [c25b0] | (simp only [i64_w, i32_w]; rw [c25b0]) | (have cz_ := c25b0; simp only [Int.ofNat_lt, Int.ofNat_le, gt_iff_lt, ge_iff_le] at cz_; rw [cz_]; clear cz_) | skip)
           have H' := aa_ H
           clear H
           go_wp2
           go_roundg k3
           case measure => have := HK1.out; have := HK2.out; have := HK3.out; omega
           case rel => exact ⟨(x3_3), (x4_3), (wrap64 (x20_2 + 1)), rf_, H', ⟨by have := HK1.out; have := HK2.out; have := HK3.out; omega⟩, ⟨rr_ HO_3⟩, ⟨by (with_reducible repeat (first | apply Kd.N_alloc | apply Kd.N_drewN | apply Kd.N_drew)); exact Kd.N_mono HO_4.out (fun _ hk => ⟨hk.1, hk.2.1⟩)⟩, ⟨bl_⟩⟩
       ·replace c16 := Bool.eq_false_iff.mpr c16
        subst c16
        replace H := ite_f_ H
        have H' := aa_ H
        clear H
        go_wp2
        go_roundg k2
        case measure => have := HK1.out; have := HK2.out; omega
        case rel => exact ⟨(x3_2), (x4_2), (wrap64 (x20_2 + 1)), rf_, H', ⟨by have := HK1.out; have := HK2.out; omega⟩, ⟨rr_ HO_3⟩, ⟨by (with_reducible repeat (first | apply Kd.N_alloc | apply Kd.N_drewN | apply Kd.N_drew)); exact Kd.N_mono HO_4.out (fun _ hk => ⟨hk.1.1, hk.1.2⟩)⟩, ⟨bl_⟩⟩
      ·rw [if_neg c8] at H
       have c8b0 : decide (x20_2 < (l0.length : Int)) = false := decide_eq_false c8
       clear c8
       have H' := aa_ H
       clear H
       go_wp2
       go_roundg k2
       case measure => have := HK1.out; have := HK2.out; omega
       case rel => exact ⟨(x3_2), (x4_2), ((x3_1.length : Int)), rf_, H', ⟨by have := HK1.out; have := HK2.out; omega⟩, ⟨rr_ HO_3⟩, ⟨rn_ HO_4⟩, ⟨bl_⟩⟩
   ·rw [if_neg c6] at H
    have c6b0 : decide (x5_1 < (x3_1.length : Int)) = false := decide_eq_false c6
    clear c6
    obtain rfl := Option.some.inj H
    obtain ⟨Ao43, co43, eo43⟩ := Kd.R_slice HO_3.out
    subst eo43
    go_wp2
    go_ret
    exact ⟨_, eq_, by (with_reducible repeat (first | apply Kd.N_alloc | apply Kd.N_drewN | apply Kd.N_drew)); exact Kd.N_mono HO_4.out (fun _ hk => hk.1), bl_⟩
def impl_FactsOf.l0 : Nat → List (S29) → List (S84) → Int → Int → Option ((List (S29)))
 | 0, _, _, _, _ => none
 | k + 1, x3, x8, x9, x10 => if x10 < x9 then (if 0 ≤ x10 then (if x10 < (x8.length : Int) then (if x3.length < 5864062014805 then (impl_FactsOf.l0 k (x3 ++ [(⟨(⟨(rd_T84 x8 x10).f0.f0.f0, (rd_T84 x8 x10).f0.f0.f1⟩ : S27), (rd_T84 x8 x10).f0.f1⟩ : S29)]) x8 x9 (wrap64 (x10 + 1))) else (none)) else (none)) else (none)) else (some x3)
def impl_FactsOf.f (k : Nat) (l0 : List (S46)) : Option ((List (S29))) := (impl_findFacts.f k l0).bind fun t404 => (impl_FactsOf.l0 k (([] : List (S29))) t404 (t404.length : Int) 0)
set_option maxHeartbeats 8000000 in
set_option maxRecDepth 100000 in
theorem impl_FactsOf.calls (k : Nat) (A0 : Option Addr) (c0 : Nat) (l0 : List (S46)) (r : List (S29)) (w : World) (hr0 : Kd.C k46 w A0 l0.length l0) (hc0 : l0.length ≤ c0) (h : impl_FactsOf.f k l0 = some r) :
  Calls Try.prog 41 #[.slice A0 l0.length c0] w fun e w' => ∃ v0_ : Value, e = .returned (v0_) ∧ Kd.R k29 29 w' w.heap.size (fun _ => True) v0_ r ∧ Below w.heap.size w w' := by
 have hu84 := Try.underlying84
 have hu29 := Try.underlying29
 have HR0 := aa_ hr0
 have HC0 := aa_ hc0
 clear hr0 hc0
 have HB := aa_ (Below.refl w.heap.size w)
 have H : ((impl_findFacts.f k l0).bind fun t404 => (impl_FactsOf.l0 k (([] : List (S29))) t404 (t404.length : Int) 0)) = some r := h
 clear h
 obtain ⟨y401, hy401⟩ : ∃ y_ : List (S29), y_ = (([] : List (S29))) := ⟨_, rfl⟩
 replace H : ((impl_findFacts.f k l0).bind fun t404 => (impl_FactsOf.l0 k y401 t404 (t404.length : Int) 0)) = some r := rh_ hy401 H
 have Ny401 := aa_ hy401
 clear hy401
 obtain ⟨t404, A2, H⟩ := bindE_ H
 have H' := aa_ H
 clear H
 go_enter Try.func41, Try.ntmps41
 go_wp2_with (first | ((with_reducible refine gD_ 6 rfl ?_); refine Kd.R_lit k29 _ 29 ?hg (N := 6) ?hd (xs := ([] : List (S29))) (inner := []) (ok := fun _ => True) (okp := fun _ => True) ?hr ?hp (fun _ hk => hk) trivial (Below.refl _ _) (Nat.le_refl _) (by simp) ?_; (case hd => rfl); (case hg => rfl); (case hr => first | (go_simp; done) | (go_simp; rfl)); (case hp => exact (Reps.none _ _)); intro v402 w3 ho4 hb hg_ hnew_; clear hg_ hnew_; (first | rw [← Ny401.out] at ho4 | (simp only [Int.reduceToNat] at ho4; rw [← Ny401.out] at ho4)); have HO403 := aa_ (Kd.R_lower ho4 bls_); replace HB := hbs_ hb; clear hb ho4) | ((with_reducible refine gC_ 49 rfl ?_); refine goesC_ (some 8) Try.func49 #[.slice A0 l0.length c0] ?_; (with_reducible refine (impl_findFacts.calls k _ _ l0 t404 _ ?side1 ?side2 A2.out).mono ?_); (case side1 => repeat (first | exact (Kd.C_below HR0.out HB.out) | (with_reducible refine Kd.C_alloc ?_ _) | (with_reducible refine Kd.C_drewN ?_ _) | (with_reducible refine Kd.C_drew ?_))); (case side2 => exact HC0.out); rintro e w5 ⟨v405, rfl, ho0, hb⟩; refine ⟨_, rfl, ?_⟩; have HO406 := aa_ (Kd.N_lower (Kd.N_mono (ok' := fun k_ => some k_ ≠ (v402 : Value).ownBlock) ho0 (fun k_ hk_ => (Kd.fresh' (Kd.R_lt (rr_ HO403)) k_ hk_))) bls_); replace HO403 := hob_ HO403 hb; replace HB := hbs_ hb; (try clear hb ho0); obtain ⟨Ao6, co6, eo6⟩ := Kd.N_slice HO406.out; subst eo6))
 go_loopg [3, 10] k (fun kq v3 v10 w' => ∃ (x3_1 : List (S29)) (x10_1 : Int), v10 = .int .i64 x10_1 ∧ Aside0 (impl_FactsOf.l0 kq x3_1 t404 (t404.length : Int) x10_1 = some r) ∧ Aside0 (kq ≤ k) ∧ Aside0 (Kd.R k29 29 w' w.heap.size (fun _ => True) v3 x3_1) ∧ Aside0 (Kd.N k84 84 w' w.heap.size (fun k_ => some k_ ≠ (v3 : Value).ownBlock) (.slice Ao6 t404.length co6) t404) ∧ Aside0 (Below w.heap.size w w'))
 case atStart => exact ⟨(y401), (0), rf_, H', ⟨Nat.le_refl _⟩, ⟨rr_ HO403⟩, ⟨rn_ HO406⟩, ⟨bl_⟩⟩
 case round =>
  clear H'
  try clear p2
  try clear c4
  obtain ⟨x3_1, x10_1, rfl, HA, HK1, HO_3, HO_8, HB⟩ := hrel
  cases gk with
  | zero => exact absurd HA.out (by simp [impl_FactsOf.l0])
  | succ k1 =>
   have H := HA.out
   clear HA
   simp only [impl_FactsOf.l0] at H
   by_cases c7 : x10_1 < (t404.length : Int)
   ·rw [if_pos c7] at H
    have c7b0 : decide (x10_1 < (t404.length : Int)) = true := decide_eq_true c7
    clear c7
    obtain ⟨c8b0, H⟩ := ifd_ H
    obtain ⟨c9b0, H⟩ := ifd_ H
    obtain ⟨c10, H⟩ := ifn_ H
    have LMc10 := aa_ c10
    clear c10
    obtain ⟨y409, hy409⟩ : ∃ y_ : List (S29), y_ = (x3_1 ++ [(⟨(⟨(rd_T84 t404 x10_1).f0.f0.f0, (rd_T84 t404 x10_1).f0.f0.f1⟩ : S27), (rd_T84 t404 x10_1).f0.f1⟩ : S29)]) := ⟨_, rfl⟩
    replace H : (impl_FactsOf.l0 k1 y409 t404 (t404.length : Int) (wrap64 (x10_1 + 1))) = some r := rh_ hy409 H
    have Ny409 := aa_ hy409
    clear hy409
    have H' := aa_ H
    clear H
    have p407 : 0 ≤ (x10_1 : Int) := od_
    have q407 : x10_1 < (t404.length : Int) := od_
    obtain ⟨ad407, A407_4, c407_4, e407, hx407_0, hx407_1, hx407_2, hx407_3, hx407_4, hl407_4, hi407_4⟩ := at_T84 (Kd.N_reads' HO_8.out).2.2 x10_1 p407 q407
    cases e407
    obtain ⟨ce407, hce407, hMe407, hcc407⟩ := Kd.N_get HO_8.out z84 x10_1 p407 (by first | exact q407 | exact od_ | (have e_ := (Kd.N_reads' HO_8.out).1; omega))
    obtain ⟨ua407_4, uc407_4, rfl, ul407_4, ge407_4⟩ := k84_openF hMe407
    have hv407_4 := hcc407 4 _ rfl
    rw [add_field _ _ 4 (by omega)] at hv407_4
    replace hv407_4 := Option.some.inj (hv407_4.symm.trans hx407_4)
    injection hv407_4 with hva_ hvn_ hvc_
    rw [hva_] at ge407_4
    rw [hvc_] at ul407_4
    have HL407_4 := aa_ (show Kd.V (Kd.int .i64) 3 _ w.heap.size _ _ ((rd_T84 t404 x10_1).f2) from Kd.V_mk ul407_4 ge407_4)
    clear hva_ hvn_ hvc_ ge407_4 ul407_4
    clear hcc407 hce407
    have HR407_4 := aa_ hi407_4
    have HC407_4 := aa_ hl407_4
    clear hi407_4 hl407_4
    replace p407 := eq_true p407
    replace q407 := eq_true q407
    go_wp2_with (first | ((with_reducible refine gD_ 5 rfl ?_); refine bx_ (N := 5) (cs := #[.int .i64 0, .int .i64 0, .int .i64 0, .int .i64 0, .slice none 0 0]) (t := 84) ?_; intro gb408 hg w11 hbox hb; replace HO_3 := hob_ HO_3 hb; replace HO_8 := aa_ (Kd.N_below (Kd.N_elderB (rn_ HO_8) gb408 (Nat.le_of_eq hg.symm)) hb); replace HL407_4 := aa_ (Kd.V_below (Kd.V_elderB (rv_ HL407_4) gb408 (Nat.le_of_eq hg.symm)) hb); replace HR407_4 := aa_ (Kd.C_below (by repeat (first | (with_reducible exact HR407_4.out) | (with_reducible refine Kd.C_alloc ?_ _) | (with_reducible refine Kd.C_drewN ?_ _) | (with_reducible refine Kd.C_drew ?_) | exact HR407_4.out)) hb); have BK408 := aa_ (hbox); have GW408 := gs_ hg; have GE408 := gs_ hg; replace HB := hbs_ hb; clear hb hbox hg; obtain ⟨hcz12, hfz12⟩ := bcf_ BK408) | ((with_reducible refine gate_builtin (b := .append) (xs := #[.tmp 14, .tmp 17]) rfl ?_); at_builtin; refine Kd.R_append k29 (w0 := w) w.heap.size rfl (.tmp 14) (.tmp 17) 53 29 (.agg #[(.int .i64 0), (.int .i64 0), (.int .i64 0)]) 24 rfl Try.underlying53 info29 rfl (by decide) (by omega) u3 x3_1 (⟨(⟨(rd_T84 t404 x10_1).f0.f0.f0, (rd_T84 t404 x10_1).f0.f0.f1⟩ : S27), (rd_T84 t404 x10_1).f0.f1⟩ : S29) [.int .i64 ((rd_T84 t404 x10_1).f0.f0.f0), .int .i64 ((rd_T84 t404 x10_1).f0.f0.f1), .int .i64 ((rd_T84 t404 x10_1).f0.f1)] (fun _ => True) (fun _ => False) rfl (by first | (go_simp; done) | (go_simp; rfl)) ?aP (fun _ hk => hk.elim) ?aF ?aO ?aB ?aS ?aL ?_; (case aP => exact k29_mkM _ _ _ (⟨(⟨(rd_T84 t404 x10_1).f0.f0.f0, (rd_T84 t404 x10_1).f0.f0.f1⟩ : S27), (rd_T84 t404 x10_1).f0.f1⟩ : S29)); (case aB => exact bl_); (case aF => exact (fun _ _ => trivial)); (case aO => exact (by (with_reducible repeat (first | apply Kd.R_alloc | apply Kd.R_drewN | apply Kd.R_drew)); exact Kd.R_mono (fr5_ (Kd.R_types HO_3.out BK408.out (by decide)) (fun _ hk => hk.2)) (fun _ hk => trivial))); (case aS => exact bls_); (case aL => have := LMc10.out; omega); intro v410 w13 ho hb hg hat; rw [← Ny409.out] at ho; replace HO_8 := aa_ (Kd.N_afterv (ok := (fun k_ => k_ ≠ gb408)) (by (with_reducible repeat (first | apply Kd.N_alloc | apply Kd.N_drewN | apply Kd.N_drew)); exact Kd.N_mono (fn5_ (Kd.N_mono HO_8.out (fun k_ hk => (⟨hk, hk.2⟩ : _ ∧ k_ ≠ gb408))) (fun _ hk => hk.2)) (fun _ hk => ⟨hk.1.2, hk.1.1⟩)) hg hat); replace HL407_4 := aa_ (Kd.V_afterv (ok := (fun k_ => some k_ ≠ (.slice (some ad407) t404.length co6 : Value).ownBlock ∧ k_ ≠ gb408)) (by (with_reducible repeat (first | apply Kd.V_alloc | apply Kd.V_drewN | apply Kd.V_drew)); exact Kd.V_mono (Kd.V_far (p := ⟨gb408, 4, none⟩) (Kd.V_far (p := ⟨gb408, 3, none⟩) (Kd.V_far (p := ⟨gb408, 2, none⟩) (Kd.V_far (p := ⟨gb408, 1, none⟩) (Kd.V_far (p := ⟨gb408, 0, none⟩) (Kd.V_mono HL407_4.out (fun k_ hk => (⟨hk, hk.2⟩ : _ ∧ k_ ≠ gb408))) (fun _ hk => hk.2) (.int .i64 ((rd_T84 t404 x10_1).f0.f0.f0))) (fun _ hk => hk.2) (.int .i64 ((rd_T84 t404 x10_1).f0.f0.f1))) (fun _ hk => hk.2) (.int .i64 ((rd_T84 t404 x10_1).f0.f1))) (fun _ hk => hk.2) (.int .i64 ((rd_T84 t404 x10_1).f1))) (fun _ hk => hk.2) (.slice A407_4 ((rd_T84 t404 x10_1).f2).length c407_4)) (fun _ hk => ⟨⟨hk.1.1.2, hk.1.2⟩, hk.1.1.1⟩)) hg hat); replace BK408 := aa_ (blk_grown (g := gb408) (o := .cells #[.int .i64 ((rd_T84 t404 x10_1).f0.f0.f0), .int .i64 ((rd_T84 t404 x10_1).f0.f0.f1), .int .i64 ((rd_T84 t404 x10_1).f0.f1), .int .i64 ((rd_T84 t404 x10_1).f1), .slice A407_4 ((rd_T84 t404 x10_1).f2).length c407_4] 84 (0, 0)) (bk_ BK408) hg (Kd.R_ne HO_3.out BK408.out (by decide))); replace HB := aa_ (hb); have HO411 := aa_ (ho); clear HO_3; clear ho hb hg hat))
    go_roundg k1
    case measure => have := HK1.out; omega
    case rel => exact ⟨(y409), (wrap64 (x10_1 + 1)), rf_, H', ⟨by have := HK1.out; omega⟩, ⟨rr_ HO411⟩, ⟨by (with_reducible repeat (first | apply Kd.N_alloc | apply Kd.N_drewN | apply Kd.N_drew)); exact Kd.N_mono HO_8.out (fun _ hk => hk.2)⟩, ⟨bl_⟩⟩
   ·rw [if_neg c7] at H
    have c7b0 : decide (x10_1 < (t404.length : Int)) = false := decide_eq_false c7
    clear c7
    obtain rfl := Option.some.inj H
    go_wp2
    go_ret
    exact ⟨_, eq_, by (with_reducible repeat (first | apply Kd.R_alloc | apply Kd.R_drewN | apply Kd.R_drew)); exact HO_3.out, bl_⟩
def slices_Sort_int_int.f (l0 : List (Int)) : Option (List (Int)) := if l0.length < 4611686018427387904 then some (l0.mergeSort fun x y => decide (x ≤ y)) else none
open Go.Sort in
theorem slices_Sort_int_int.calls (P0_ : Nat → Prop) (u9000_ : Value) (l0 : List (Int)) (r0 : List (Int)) (w0 w : World) (hB : Below w0.heap.size w0 w) (ho0 : Kd.R (Kd.int .i64) 3 w w0.heap.size P0_ u9000_ l0) (h : slices_Sort_int_int.f l0 = some r0) :
  Calls Try.prog 47 #[u9000_] w fun e w' => e = .returned (.tuple #[]) ∧ Kd.R (Kd.int .i64) 3 w' w0.heap.size (fun k_ => (P0_ k_ ∨ w.heap.size ≤ k_)) u9000_ r0 ∧ Below w0.heap.size w0 w' ∧ Kept w w' (fun k_ => P0_ k_) := by
 unfold slices_Sort_int_int.f at h
 by_cases hl : l0.length < 4611686018427387904
 ·rw [if_pos hl] at h
  obtain rfl := Option.some.inj h
  have hml : (l0.mergeSort fun x y => decide (x ≤ y)).length = l0.length := List.length_mergeSort _
  have hown := Kd.own_of_R (enc := Value.int .i64) ho0
  obtain ⟨e1, hf⟩ := hown
  rcases hf with ⟨rfl, hn⟩ | ⟨g, cap, cur, rfl, hg, hb, hn, hc, hs, ht⟩
  ·have e0 : l0 = [] := List.length_eq_zero_iff.1 hn
   subst e0
   have hcon := Any.slices_Sort_int_none Try.lays189 none 0 w
   change Calls Try.prog 47 _ _ _ at hcon
   refine hcon.mono ?_
   rintro e w' ⟨rfl, rfl⟩
   have e1 : (([] : List Int).mergeSort fun x y => decide (x ≤ y)) = [] := by simp
   rw [e1]
   exact ⟨rfl, Kd.R_nil _ _ _ _ _, hB, Kept.refl _ _⟩
  ·have hcon := Any.slices_Sort_int Try.lays189 g 0 cap l0 w (holds_of_blockI hb (by rw [Nat.mul_one] at ht; exact ht)) (blk_lt hb) hl
   change Calls Try.prog 47 _ _ _ at hcon
   refine hcon.mono ?_
   rintro e w' ⟨rfl, n, os, rfl⟩
   refine ⟨rfl, ?_, hB.grown (grownBy_sortedI _) hB.size (fun k hk => by injection hk with hk; omega), Kept.of_grown (grownBy_sortedI _) (Kept.refl _ _) (fun k hk => .inl (ho0.1 k hk))⟩
   have ho := ownsRow_sortedI (n := n) (os := os) hml hg hb hn hc hs
   rw [← hml] at ho ⊢
   exact Kd.R_of_own ho (fun k hk => .inl (ho0.1 k hk))
 ·rw [if_neg hl] at h
  exact absurd h (by simp)
end Go.Proofs.Ytcbhmcpdnokbiaa.PA
