import Derived.Test.YtljhfomkakhflaaKEPAx8
-- printed by wip/tools
namespace Go.Proofs.Ytljhfomkakhflaa.PA
open Go.RowKit Go.Proofs.YtljhfomkakhflaaW.PrintWords Go.Proofs.YtljhfomkakhflaaW.PrintLast Go.Proofs.YtljhfomkakhflaaW.PrintMore
attribute [local go_sem] max2_int min2_int max_two min_two max_three min_three max_four min_four
set_option linter.unusedVariables false
set_option linter.unusedSimpArgs false
def impl_Fact_52.f (l0 : List (S28)) : Option (List (S28)) := if l0.length < 5864062014805 then some l0 else none
set_option maxHeartbeats 8000000 in
set_option maxRecDepth 100000 in
theorem impl_Fact_52.calls (A0 : Option Addr) (c0 : Nat) (l0 : List (S28)) (r : List (S28)) (w : World) (hr0 : Kd.C k28 w A0 l0.length l0) (hc0 : l0.length ≤ c0) (h : impl_Fact_52.f l0 = some r) :
  Calls Try.prog 52 #[.slice A0 l0.length c0] w fun e w' => ∃ v0_ : Value, e = .returned (v0_) ∧ Kd.R k28 28 w' w.heap.size (fun _ => True) v0_ r ∧ Below w.heap.size w w' := by
 have HR0 := aa_ hr0
 have HC0 := aa_ hc0
 clear hr0 hc0
 have hq : ∀ (w : World) (a : Option Addr) (n c n' c' : Nat), (binOp .eql 44 (.slice a n c) (.slice none n' c')).run Try.prog w = .ok (.bool a.isNone) w := fun w a n c n' c' => Lib.run_eql_slice_nil w _ _ a n c n' c' Try.underlying44
 have HB := aa_ (Below.refl w.heap.size w)
 unfold impl_Fact_52.f at h
 by_cases hl : l0.length < 5864062014805
 ·rw [if_pos hl] at h
  have LM := aa_ hl
  clear hl
  obtain rfl := Option.some.inj h
  clear h
  cases A0 with
  | none =>
   have e0 : l0 = [] := by
    rcases l0 with _ | ⟨x, xs⟩
    ·rfl
    ·obtain ⟨ad, c, e, _⟩ := Kd.C_get HR0.out x 0 (by omega) (by rw [List.length_cons]; omega)
     cases e
   subst e0
   clear HR0 HC0 LM
   go_enter Try.func52, Try.ntmps52
   go_wp2
   go_ret
   exact ⟨_, eq_, Kd.R_nil _ _ _ _ _, bl_⟩
  | some ad =>
   obtain ⟨y1, hy1⟩ : ∃ y_ : List (S28), y_ = (([] : List (S28))) := ⟨_, rfl⟩
   have Ny1 := aa_ hy1
   clear hy1
   go_enter Try.func52, Try.ntmps52
   go_wp2_with (first | ((with_reducible refine gD_ 5 rfl ?_); refine Kd.R_lit k28 _ 28 ?hg (N := 5) ?hd (xs := ([] : List (S28))) (inner := []) (ok := fun _ => True) (okp := fun _ => True) ?hr ?hp (fun _ hk => hk) trivial (Below.refl _ _) (Nat.le_refl _) (by simp) ?_; (case hd => rfl); (case hg => rfl); (case hr => first | (go_simp; done) | (go_simp; rfl)); (case hp => exact (Reps.none _ _)); intro v161 w9 ho10 hb hg_ hnew_; clear hg_ hnew_; (first | rw [← Ny1.out] at ho10 | (simp only [Int.reduceToNat] at ho10; rw [← Ny1.out] at ho10)); have HO162 := aa_ (Kd.R_lower ho10 bls_); replace HB := hbs_ hb; clear hb ho10) | ((with_reducible refine gate_builtin (b := .append) (xs := #[.tmp 5, .tmp 6]) rfl ?_); at_builtin; refine Kd.R_append_rows k28 (w0 := w) w.heap.size rfl (.tmp 5) (.tmp 6) 44 28 (.agg #[(.int .i64 0), (.int .i64 0), (.int .i64 0)]) 24 rfl Try.underlying44 info28 rfl (by decide) (by omega) v161 y1 l0 _ _ _ (fun _ => True) (fun _ => False) rfl rfl ?aO ?aR (fun _ _ h => h) (fun _ h => h.elim) ?aF ?aB ?aS ?aL ?_; (case aR => repeat (first | exact (Kd.C_below HR0.out HB.out) | (with_reducible refine Kd.C_alloc ?_ _) | (with_reducible refine Kd.C_drewN ?_ _) | (with_reducible refine Kd.C_drew ?_))); (case aB => exact bl_); (case aF => exact (fun _ _ => trivial)); (case aO => exact (rr_ HO162)); (case aS => exact bls_); (case aL => have := LM.out; rw [Ny1.out]; simp only [List.length_nil]; omega); intro v164 w11 ho hb hg hat; rw [Ny1.out, List.nil_append] at ho; replace HB := aa_ (hb); have HO165 := aa_ (ho); clear HO162; clear ho hb hg hat))
   go_ret
   exact ⟨_, eq_, by (with_reducible repeat (first | apply Kd.R_alloc | apply Kd.R_drewN | apply Kd.R_drew)); exact HO165.out, bl_⟩
 ·rw [if_neg hl] at h
  exact absurd h (by simp)
def impl_Fact_53.f (k : Nat) (l0 : List (S28)) (a1_0 : Int) (a1_1 : Int) (a1_2 : Int) : Option (Bool) := (impl_Fact_22.f k l0 a1_0 a1_1 a1_2).bind fun t347 => (some (decide (t347 ≥ 0)))
set_option maxHeartbeats 8000000 in
set_option maxRecDepth 100000 in
theorem impl_Fact_53.calls (k : Nat) (A0 : Option Addr) (c0 : Nat) (l0 : List (S28)) (a1_0 : Int) (a1_1 : Int) (a1_2 : Int) (r : Bool) (w : World) (hr0 : Kd.C k28 w A0 l0.length l0) (hc0 : l0.length ≤ c0) (h : impl_Fact_53.f k l0 a1_0 a1_1 a1_2 = some r) :
  Calls Try.prog 53 #[.slice A0 l0.length c0, .agg #[.int .i64 a1_0, .int .i64 a1_1, .int .i64 a1_2]] w fun e w' => e = .returned (.bool r) ∧ Below w.heap.size w w' := by
 have hu28 := Try.underlying28
 have HR0 := aa_ hr0
 have HC0 := aa_ hc0
 clear hr0 hc0
 have HB := aa_ (Below.refl w.heap.size w)
 have H : ((impl_Fact_22.f k l0 a1_0 a1_1 a1_2).bind fun t347 => (some (decide (t347 ≥ 0)))) = some r := h
 clear h
 obtain ⟨t347, A3, H⟩ := bindE_ H
 obtain rfl := Option.some.inj H
 go_enter Try.func53, Try.ntmps53
 go_wp2_with (first | ((with_reducible refine gD_ 3 rfl ?_); refine bx_ (N := 3) (cs := #[.int .i64 a1_0, .int .i64 a1_1, .int .i64 a1_2]) (t := 28) ?_; intro gb346 hg w4 hbox hb; have BK346 := aa_ (hbox); have GW346 := gs_ hg; have GE346 := gs_ hg; replace HB := hbs_ hb; clear hb hbox hg; obtain ⟨hcz5, hfz5⟩ := bcf_ BK346) | ((with_reducible refine gC_ 22 rfl ?_); refine goesC_ (some 7) Try.func22 #[.slice A0 l0.length c0, .agg #[.int .i64 a1_0, .int .i64 a1_1, .int .i64 a1_2]] ?_; (with_reducible refine (impl_Fact_22.calls k _ _ l0 a1_0 a1_1 a1_2 t347 _ ?side1 ?side2 A3.out).mono ?_); (case side1 => repeat (first | exact (Kd.C_below HR0.out HB.out) | (with_reducible refine Kd.C_alloc ?_ _) | (with_reducible refine Kd.C_drewN ?_ _) | (with_reducible refine Kd.C_drew ?_))); (case side2 => exact HC0.out); rintro e w6 ⟨rfl, hb⟩; refine ⟨_, rfl, ?_⟩; replace BK346 := bkb_ BK346 hb; replace HB := hbs_ hb; clear hb))
 go_ret
 exact ⟨eq_, bl_⟩
mutual
def impl_findFacts.l0 : Nat → List (S35) → List (S28) → List (S75) → Int → Option ((List (S75)))
 | 0, _, _, _, _ => none
 | k + 1, x0, x3, x4, x5 => if x5 < (x3.length : Int) then (impl_findFacts.l1 k x0 x3 x4 (x3.length : Int) x0 (x0.length : Int) 0) else (some x4)
def impl_findFacts.l1 : Nat → List (S35) → List (S28) → List (S75) → Int → List (S35) → Int → Int → Option ((List (S75)))
 | 0, _, _, _, _, _, _, _ => none
 | k + 1, x0, x3, x4, x5, x18, x19, x20 => if x20 < x19 then (if 0 ≤ x20 then (if x20 < (x18.length : Int) then ((impl_CredOk.f k ((rd_T35 x18 x20).f0) ((rd_T35 x18 x20).f1.f0) ((rd_T35 x18 x20).f1.f1) ((rd_T35 x18 x20).f2) ((rd_T35 x18 x20).f3.f0) ((rd_T35 x18 x20).f3.f1) ((rd_T35 x18 x20).f4.f0) ((rd_T35 x18 x20).f4.f1) ((rd_T35 x18 x20).f5) ((rd_T35 x18 x20).f6)).bind fun t356 => (if t356 = true then ((impl_Fact_52.f x3).bind fun t357 => ((impl_derive.f k t357 ((rd_T35 x18 x20).f0) ((rd_T35 x18 x20).f1.f0) ((rd_T35 x18 x20).f1.f1) ((rd_T35 x18 x20).f2) ((rd_T35 x18 x20).f3.f0) ((rd_T35 x18 x20).f3.f1) ((rd_T35 x18 x20).f4.f0) ((rd_T35 x18 x20).f4.f1) ((rd_T35 x18 x20).f5) ((rd_T35 x18 x20).f6)).bind fun t360 => (impl_findFacts.l2 k x0 x3 x4 x5 x20 x18 x19 x20 t360 (t360.length : Int) 0))) else (impl_findFacts.l1 k x0 x3 x4 x5 x18 x19 (wrap64 (x20 + 1))))) else (none)) else (none)) else (impl_findFacts.l0 k x0 x3 x4 x5)
def impl_findFacts.l2 : Nat → List (S35) → List (S28) → List (S75) → Int → Int → List (S35) → Int → Int → List (S81) → Int → Int → Option ((List (S75)))
 | 0, _, _, _, _, _, _, _, _, _, _, _ => none
 | k + 1, x0, x3, x4, x5, x6, x18, x19, x20, x31, x32, x33 => if x33 < x32 then (if 0 ≤ x33 then (if x33 < (x31.length : Int) then ((impl_Fact_53.f k x3 ((rd_T81 x31 x33).f0.f0.f0) ((rd_T81 x31 x33).f0.f0.f1) ((rd_T81 x31 x33).f0.f1)).bind fun t365 => (if t365 = true then (impl_findFacts.l2 k x0 x3 x4 x5 x6 x18 x19 x20 x31 x32 (wrap64 (x33 + 1))) else (if x3.length < 5864062014805 then (if x4.length < 2513169434916 then (impl_findFacts.l2 k x0 (x3 ++ [(⟨(⟨(rd_T81 x31 x33).f0.f0.f0, (rd_T81 x31 x33).f0.f0.f1⟩ : S26), (rd_T81 x31 x33).f0.f1⟩ : S28)]) (x4 ++ [(⟨(⟨(⟨(rd_T81 x31 x33).f0.f0.f0, (rd_T81 x31 x33).f0.f0.f1⟩ : S26), (rd_T81 x31 x33).f0.f1⟩ : S28), x6, (rd_T81 x31 x33).f1⟩ : S75)]) x5 x6 x18 x19 x20 x31 x32 (wrap64 (x33 + 1))) else (none)) else (none)))) else (none)) else (none)) else (impl_findFacts.l1 k x0 x3 x4 x5 x18 x19 (wrap64 (x20 + 1)))
end
def impl_findFacts.f (k : Nat) (l0 : List (S35)) : Option ((List (S75))) := impl_findFacts.l0 k l0 (([] : List (S28))) (([] : List (S75))) (-1)
set_option maxHeartbeats 8000000 in
set_option maxRecDepth 100000 in
theorem impl_findFacts.calls (k : Nat) (A0 : Option Addr) (c0 : Nat) (l0 : List (S35)) (r : List (S75)) (w : World) (hr0 : Kd.C k35 w A0 l0.length l0) (hc0 : l0.length ≤ c0) (h : impl_findFacts.f k l0 = some r) :
  Calls Try.prog 38 #[.slice A0 l0.length c0] w fun e w' => ∃ v0_ : Value, e = .returned (v0_) ∧ Kd.N k75 75 w' w.heap.size (fun k_ => (w.heap.size ≤ k_)) v0_ r ∧ Below w.heap.size w w' := by
 have hu35 := Try.underlying35
 have hu81 := Try.underlying81
 have hu28 := Try.underlying28
 have hu75 := Try.underlying75
 have HR0 := aa_ hr0
 have HC0 := aa_ hc0
 clear hr0 hc0
 have HB := aa_ (Below.refl w.heap.size w)
 have H : (impl_findFacts.l0 k l0 (([] : List (S28))) (([] : List (S75))) (-1)) = some r := h
 clear h
 obtain ⟨y348, hy348⟩ : ∃ y_ : List (S28), y_ = (([] : List (S28))) := ⟨_, rfl⟩
 replace H : (impl_findFacts.l0 k l0 y348 (([] : List (S75))) (-1)) = some r := rh_ hy348 H
 have Ny348 := aa_ hy348
 clear hy348
 obtain ⟨y351, hy351⟩ : ∃ y_ : List (S75), y_ = (([] : List (S75))) := ⟨_, rfl⟩
 replace H : (impl_findFacts.l0 k l0 y348 y351 (-1)) = some r := rh_ hy351 H
 have Ny351 := aa_ hy351
 clear hy351
 have H' := aa_ H
 clear H
 go_enter Try.func38, Try.ntmps38
 go_wp2_with (first | ((with_reducible refine gD_ 10 rfl ?_); refine Kd.R_lit k28 _ 28 ?hg (N := 10) ?hd (xs := ([] : List (S28))) (inner := []) (ok := fun _ => True) (okp := fun _ => True) ?hr ?hp (fun _ hk => hk) trivial (Below.refl _ _) (Nat.le_refl _) (by simp) ?_; (case hd => rfl); (case hg => rfl); (case hr => first | (go_simp; done) | (go_simp; rfl)); (case hp => exact (Reps.none _ _)); intro v349 w2 ho3 hb hg_ hnew_; clear hg_ hnew_; (first | rw [← Ny348.out] at ho3 | (simp only [Int.reduceToNat] at ho3; rw [← Ny348.out] at ho3)); have HO350 := aa_ (Kd.R_lower (Kd.R_newM (M := fun k_ => (w.heap.size ≤ k_)) ho3 bls_ (fun k_ h_ => h_)) bls_); replace HB := hbs_ hb; clear hb ho3) | ((with_reducible refine gD_ 11 rfl ?_); refine Kd.N_lit k75 _ 75 ?hg (N' := 11) ?hd (xs := ([] : List (S75))) (inner := []) (ok := (fun k_ => (w.heap.size ≤ k_) ∧ some k_ ≠ (v349 : Value).ownBlock)) (okp := (fun k_ => (w.heap.size ≤ k_) ∧ some k_ ≠ (v349 : Value).ownBlock)) ?hr ?hp (fun _ hk => hk) ((show ∀ k_, w2.heap.size ≤ k_ → (fun k_ => (w.heap.size ≤ k_) ∧ some k_ ≠ (v349 : Value).ownBlock) k_ from fun k_ hk => ⟨(Nat.le_trans bls_ hk), Kd.fresh' (Kd.R_lt (rr_ HO350)) k_ hk⟩) _ (Nat.le_refl _)) (Below.refl _ _) (Nat.le_refl _) (by simp) ?_; (case hd => rfl); (case hg => rfl); (case hr => first | (go_simp; done) | (go_simp; rfl)); (case hp => exact (Reps.none _ _)); intro v352 w4 ho5 hb hg_ hnew_; clear hg_ hnew_; (first | rw [← Ny351.out] at ho5 | (simp only [Int.reduceToNat] at ho5; rw [← Ny351.out] at ho5)); replace HO350 := hob_ HO350 hb; have HO353 := aa_ (Kd.N_lower ho5 bls_); replace HB := hbs_ hb; clear hb ho5))
 go_loopg [3, 4, 5] k (fun kq v3 v4 v5 w' => ∃ (x3_1 : List (S28)) (x4_1 : List (S75)) (x5_1 : Int), v5 = .int .i64 x5_1 ∧ Aside0 (impl_findFacts.l0 kq l0 x3_1 x4_1 x5_1 = some r) ∧ Aside0 (kq ≤ k) ∧ Aside0 (Kd.R k28 28 w' w.heap.size (fun k_ => (w.heap.size ≤ k_)) v3 x3_1) ∧ Aside0 (Kd.N k75 75 w' w.heap.size (fun k_ => (w.heap.size ≤ k_) ∧ some k_ ≠ (v3 : Value).ownBlock) v4 x4_1) ∧ Aside0 (Below w.heap.size w w'))
 case atStart => exact ⟨(y348), (y351), ((-1)), rf_, H', ⟨Nat.le_refl _⟩, ⟨by (with_reducible repeat (first | apply Kd.R_alloc | apply Kd.R_drewN | apply Kd.R_drew)); exact Kd.R_mono HO350.out (fun _ hk => hk.1)⟩, ⟨rn_ HO353⟩, ⟨bl_⟩⟩
 case round =>
  clear H'
  try clear p2
  obtain ⟨x3_1, x4_1, x5_1, rfl, HA, HK1, HO_3, HO_4, HB⟩ := hrel
  cases gk with
  | zero => exact absurd HA.out (by simp [impl_findFacts.l0])
  | succ k1 =>
   have H := HA.out
   clear HA
   simp only [impl_findFacts.l0] at H
   by_cases c6 : x5_1 < (x3_1.length : Int)
   ·rw [if_pos c6] at H
    have c6b0 : decide (x5_1 < (x3_1.length : Int)) = true := decide_eq_true c6
    clear c6
    have H' := aa_ H
    clear H
    obtain ⟨Ao7, co7, eo7⟩ := Kd.R_slice HO_3.out
    subst eo7
    go_wp2
    go_loopg [3, 4, 20] k1 (fun kq v3 v4 v20 w' => ∃ (x3_2 : List (S28)) (x4_2 : List (S75)) (x20_2 : Int), v20 = .int .i64 x20_2 ∧ Aside0 (impl_findFacts.l1 kq l0 x3_2 x4_2 (x3_1.length : Int) l0 (l0.length : Int) x20_2 = some r) ∧ Aside0 (kq ≤ k1) ∧ Aside0 (Kd.R k28 28 w' w.heap.size (fun k_ => (w.heap.size ≤ k_)) v3 x3_2) ∧ Aside0 (Kd.N k75 75 w' w.heap.size (fun k_ => (w.heap.size ≤ k_) ∧ some k_ ≠ (v3 : Value).ownBlock) v4 x4_2) ∧ Aside0 (Below w.heap.size w w'))
    case atStart => exact ⟨(x3_1), (x4_1), (0), rf_, H', ⟨Nat.le_refl _⟩, ⟨rr_ HO_3⟩, ⟨rn_ HO_4⟩, ⟨bl_⟩⟩
    case round =>
     clear H'
     try clear p2
     try clear c6b0
     try clear p2
     obtain ⟨x3_2, x4_2, x20_2, rfl, HA, HK2, HO_3, HO_4, HB⟩ := hrel
     cases gk with
     | zero => exact absurd HA.out (by simp [impl_findFacts.l1])
     | succ k2 =>
      have H := HA.out
      clear HA
      simp only [impl_findFacts.l1] at H
      by_cases c8 : x20_2 < (l0.length : Int)
      ·rw [if_pos c8] at H
       have c8b0 : decide (x20_2 < (l0.length : Int)) = true := decide_eq_true c8
       clear c8
       obtain ⟨c9b0, H⟩ := ifd_ H
       obtain ⟨c10b0, H⟩ := ifd_ H
       obtain ⟨t356, A11, H⟩ := bindE_ H
       have HC12 := aa_ H
       clear H
       have p354 : 0 ≤ (x20_2 : Int) := od_
       have q354 : x20_2 < (l0.length : Int) := od_
       obtain ⟨ad354, e354, hx354_0, hx354_1, hx354_2, hx354_3, hx354_4, hx354_5, hx354_6, hx354_7, hx354_8, hx354_9⟩ := at_T35 (Kd.C_below HR0.out HB.out) x20_2 p354 q354
       cases e354
       replace p354 := eq_true p354
       replace q354 := eq_true q354
       go_upto_if 27 with (first | ((with_reducible refine gD_ 7 rfl ?_); refine bx_ (N := 7) (cs := #[.int .i64 0, .int .i64 0, .int .i64 0, .int .i64 0, .int .i64 0, .int .i64 0, .int .i64 0, .int .i64 0, .int .i64 0, .int .i64 0]) (t := 35) ?_; intro gb355 hg w13 hbox hb; replace HO_3 := hob_ HO_3 hb; replace HO_4 := aa_ (Kd.N_below (Kd.N_elderB (rn_ HO_4) gb355 (Nat.le_of_eq hg.symm)) hb); have BK355 := aa_ (hbox); have GW355 := gs_ hg; have GE355 := gs_ hg; replace HB := hbs_ hb; clear hb hbox hg; obtain ⟨hcz14, hfz14⟩ := bcf_ BK355) | ((with_reducible refine gC_ 40 rfl ?_); refine goesC_ (some 26) Try.func40 #[.agg #[.int .i64 ((rd_T35 l0 x20_2).f0), .int .i64 ((rd_T35 l0 x20_2).f1.f0), .int .i64 ((rd_T35 l0 x20_2).f1.f1), .int .i64 ((rd_T35 l0 x20_2).f2), .int .i64 ((rd_T35 l0 x20_2).f3.f0), .int .i64 ((rd_T35 l0 x20_2).f3.f1), .int .i64 ((rd_T35 l0 x20_2).f4.f0), .int .i64 ((rd_T35 l0 x20_2).f4.f1), .int .i64 ((rd_T35 l0 x20_2).f5), .int .i64 ((rd_T35 l0 x20_2).f6)]] ?_; (with_reducible refine (impl_CredOk.calls k2 ((rd_T35 l0 x20_2).f0) ((rd_T35 l0 x20_2).f1.f0) ((rd_T35 l0 x20_2).f1.f1) ((rd_T35 l0 x20_2).f2) ((rd_T35 l0 x20_2).f3.f0) ((rd_T35 l0 x20_2).f3.f1) ((rd_T35 l0 x20_2).f4.f0) ((rd_T35 l0 x20_2).f4.f1) ((rd_T35 l0 x20_2).f5) ((rd_T35 l0 x20_2).f6) t356 _ A11.out).mono ?_); rintro e w15 ⟨rfl, hb⟩; refine ⟨_, rfl, ?_⟩; replace HO_3 := aa_ (Kd.R_below (by (with_reducible repeat (first | apply Kd.R_alloc | apply Kd.R_drewN | apply Kd.R_drew)); exact (Kd.R_mono (fr10_ (Kd.R_types HO_3.out BK355.out (by decide)) (fun _ hk => hk.2)) (fun _ h_ => h_.1))) hb); replace HO_4 := aa_ (Kd.N_below (by (with_reducible repeat (first | apply Kd.N_alloc | apply Kd.N_drewN | apply Kd.N_drew)); exact (Kd.N_mono (fn10_ (Kd.N_mono HO_4.out (fun k_ hk => (⟨hk, hk.2⟩ : _ ∧ k_ ≠ gb355))) (fun _ hk => hk.2)) (fun _ h_ => h_.1))) hb); replace BK355 := aa_ (blk_below (g := gb355) (o := .cells #[.int .i64 ((rd_T35 l0 x20_2).f0), .int .i64 ((rd_T35 l0 x20_2).f1.f0), .int .i64 ((rd_T35 l0 x20_2).f1.f1), .int .i64 ((rd_T35 l0 x20_2).f2), .int .i64 ((rd_T35 l0 x20_2).f3.f0), .int .i64 ((rd_T35 l0 x20_2).f3.f1), .int .i64 ((rd_T35 l0 x20_2).f4.f0), .int .i64 ((rd_T35 l0 x20_2).f4.f1), .int .i64 ((rd_T35 l0 x20_2).f5), .int .i64 ((rd_T35 l0 x20_2).f6)] 35 (0, 0)) (bk_ BK355) hb); replace HB := hbs_ hb; clear hb))
       (try simp only [Act.put, sb_, sz_, ss_])
       have H := HC12.out
       clear HC12
       by_cases c16 : t356 = true
       ·subst c16
        replace H := ite_t_ H
        obtain ⟨t357, A17, H⟩ := bindE_ H
        obtain ⟨t360, A18, H⟩ := bindE_ H
        have H' := aa_ H
        clear H
        try go_wp2
        replace HO_3 := aa_ (Kd.R_drew HO_3.out)
        replace HO_4 := aa_ (Kd.N_drew HO_4.out)
        replace BK355 := aa_ (blk_drew BK355.out)
        replace HB := aa_ (below_drew1 HB.out)
        obtain ⟨Ao20, co20, eo20⟩ := Kd.R_slice HO_3.out
        (first | subst eo20 | (injection eo20 with f1_ f2_ f3_; have f4_ := f1_.symm; have f5_ := f3_.symm; clear f1_ f2_ f3_; subst f4_; subst f5_))
        refine start_ (n := 6) (S := fun w' => w'.cell? ⟨gb355, 0, none⟩ = some (.int .i64 ((rd_T35 l0 x20_2).f0)) ∧ w'.cell? ⟨gb355, 1, none⟩ = some (.int .i64 ((rd_T35 l0 x20_2).f1.f0)) ∧ w'.cell? ⟨gb355, 2, none⟩ = some (.int .i64 ((rd_T35 l0 x20_2).f1.f1)) ∧ w'.cell? ⟨gb355, 3, none⟩ = some (.int .i64 ((rd_T35 l0 x20_2).f2)) ∧ w'.cell? ⟨gb355, 4, none⟩ = some (.int .i64 ((rd_T35 l0 x20_2).f3.f0)) ∧ w'.cell? ⟨gb355, 5, none⟩ = some (.int .i64 ((rd_T35 l0 x20_2).f3.f1)) ∧ w'.cell? ⟨gb355, 6, none⟩ = some (.int .i64 ((rd_T35 l0 x20_2).f4.f0)) ∧ w'.cell? ⟨gb355, 7, none⟩ = some (.int .i64 ((rd_T35 l0 x20_2).f4.f1)) ∧ w'.cell? ⟨gb355, 8, none⟩ = some (.int .i64 ((rd_T35 l0 x20_2).f5)) ∧ w'.cell? ⟨gb355, 9, none⟩ = some (.int .i64 ((rd_T35 l0 x20_2).f6))) (ds := []) (ba_ 6 0) (by kernel_rfl) rfl rfl ⟨(blk_cell BK355.out 0).trans rfl, (blk_cell BK355.out 1).trans rfl, (blk_cell BK355.out 2).trans rfl, (blk_cell BK355.out 3).trans rfl, (blk_cell BK355.out 4).trans rfl, (blk_cell BK355.out 5).trans rfl, (blk_cell BK355.out 6).trans rfl, (blk_cell BK355.out 7).trans rfl, (blk_cell BK355.out 8).trans rfl, (blk_cell BK355.out 9).trans rfl⟩ (fun hHeld => ?_)
        generalize w15.drew = w19 at HO_3 HO_4 BK355 HB hHeld ⊢
        refine pure_ (i := 0) (N := some 28) (v := ?_) (a' := ?_) (ba_ 6 1) rfl rfl (by kernel_rfl) (fun _ _ _ h => h) (Or.inl ⟨by rfl, ?_⟩) ?_ ?_
        rotate_left
        ·intro w'
         go_simp
         with_reducible rfl
        rotate_left
        ·simp only [Act.put, sb_, sz_, ss_, i64_w, i32_w]
         rfl
        refine pure_ (i := 5) (N := some 33) (v := ?_) (a' := ?_) (ba_ 6 33) rfl rfl (by kernel_rfl) (fun _ _ _ h => h) (Or.inl ⟨by rfl, ?_⟩) ?_ ?_
        rotate_left
        ·intro w'
         go_simp
         with_reducible rfl
        rotate_left
        ·simp only [Act.put, sb_, sz_, ss_, i64_w, i32_w]
         rfl
        refine take_ (i := 2) (N := some 30) (v := ?_) (a' := ?_) (ba_ 6 37) rfl rfl (by kernel_rfl) (fun _ _ _ h => h) (Or.inl ⟨by rfl, ?_⟩) hHeld ?_ ?_
        rotate_left
        ·rintro w' ⟨s0, s1, s2, s3, s4, s5, s6, s7, s8, s9⟩
         go_simp
         with_reducible rfl
        rotate_left
        ·simp only [Act.put, sb_, sz_, ss_, i64_w, i32_w]
         rfl
        refine one_ (i := 1) (N := some 29) (ba_ 6 39) rfl rfl (by kernel_rfl) (by decide) (fun K hK => ?_)
        refine goes_ Try.func52 (by kernel_rfl) rfl #[.slice Ao20 x3_2.length co20] (by rfl) rfl rfl (by (try simp only [List.map_toArray, List.map_cons, List.map_nil]); first | done | rfl | (simp only [List.length_drop, List.length_take]; rfl)) ?_
        with_reducible refine (impl_Fact_52.calls _ _ x3_2 t357 _ ?side1 ?side2 A17.out).mono ?_
        (case side1 => repeat (first | exact (Kd.R_reads' HO_3.out).2.2 | (with_reducible refine Kd.C_alloc ?_ _) | (with_reducible refine Kd.C_drewN ?_ _) | (with_reducible refine Kd.C_drew ?_)))
        (case side2 => exact (Kd.R_reads' HO_3.out).2.1)
        rintro e w21 ⟨v358, rfl, ho0, hb⟩
        refine ⟨_, rfl, ?_⟩
        replace HO_4 := aa_ (Kd.N_elder' (rn_ HO_4) (Kd.R_base ho0) hb)
        have HO359 := aa_ (Kd.R_lower (Kd.R_new' (Kd.R_newM (M := fun k_ => (w.heap.size ≤ k_)) ho0 bls_ (fun k_ h_ => h_)) (Kd.R_lt (rr_ HO_3))) bls_)
        replace HO_3 := aa_ (Kd.R_elder' (rr_ HO_3) (Kd.R_base ho0) hb)
        replace BK355 := bkb_ BK355 hb
        replace HB := hbs_ hb
        (try clear hb)
        (try clear hb2)
        (try clear hk)
        (try clear hi)
        (try clear ho0)
        obtain ⟨Ao22, co22, eo22⟩ := Kd.R_slice HO359.out
        (first | subst eo22 | (injection eo22 with f1_ f2_ f3_; have f4_ := f1_.symm; have f5_ := f3_.symm; clear f1_ f2_ f3_; subst f4_; subst f5_))
        refine hK.out _ _ ⟨(blk_cell BK355.out 0).trans rfl, (blk_cell BK355.out 1).trans rfl, (blk_cell BK355.out 2).trans rfl, (blk_cell BK355.out 3).trans rfl, (blk_cell BK355.out 4).trans rfl, (blk_cell BK355.out 5).trans rfl, (blk_cell BK355.out 6).trans rfl, (blk_cell BK355.out 7).trans rfl, (blk_cell BK355.out 8).trans rfl, (blk_cell BK355.out 9).trans rfl⟩ (fun hHeld => ?_)
        clear hK K
        refine norm_ (a' := ?_) ?_ ?_
        rotate_left
        ·show Act.put _ (some 29) _ = _
         simp only [Act.put, sb_, sz_, ss_, i64_w, i32_w]
         rfl
        refine one_ (i := 3) (N := some 31) (ba_ 6 47) rfl rfl (by kernel_rfl) (by decide) (fun K hK => ?_)
        refine goes_ Try.func41 (by kernel_rfl) rfl #[.slice Ao22 t357.length co22, .agg #[.int .i64 ((rd_T35 l0 x20_2).f0), .int .i64 ((rd_T35 l0 x20_2).f1.f0), .int .i64 ((rd_T35 l0 x20_2).f1.f1), .int .i64 ((rd_T35 l0 x20_2).f2), .int .i64 ((rd_T35 l0 x20_2).f3.f0), .int .i64 ((rd_T35 l0 x20_2).f3.f1), .int .i64 ((rd_T35 l0 x20_2).f4.f0), .int .i64 ((rd_T35 l0 x20_2).f4.f1), .int .i64 ((rd_T35 l0 x20_2).f5), .int .i64 ((rd_T35 l0 x20_2).f6)]] (by rfl) rfl rfl (by (try simp only [List.map_toArray, List.map_cons, List.map_nil]); first | done | rfl | (simp only [List.length_drop, List.length_take]; rfl)) ?_
        with_reducible refine (impl_derive.calls k2 _ _ t357 ((rd_T35 l0 x20_2).f0) ((rd_T35 l0 x20_2).f1.f0) ((rd_T35 l0 x20_2).f1.f1) ((rd_T35 l0 x20_2).f2) ((rd_T35 l0 x20_2).f3.f0) ((rd_T35 l0 x20_2).f3.f1) ((rd_T35 l0 x20_2).f4.f0) ((rd_T35 l0 x20_2).f4.f1) ((rd_T35 l0 x20_2).f5) ((rd_T35 l0 x20_2).f6) t360 _ ?side1 ?side2 A18.out).mono ?_
        (case side1 => repeat (first | exact (Kd.R_reads' HO359.out).2.2 | (with_reducible refine Kd.C_alloc ?_ _) | (with_reducible refine Kd.C_drewN ?_ _) | (with_reducible refine Kd.C_drew ?_)))
        (case side2 => exact (Kd.R_reads' HO359.out).2.1)
        rintro e w23 ⟨v361, rfl, ho0, hb⟩
        refine ⟨_, rfl, ?_⟩
        have HO362 := aa_ (Kd.N_lower (Kd.N_mono (ok' := fun k_ => (w.heap.size ≤ k_) ∧ some k_ ≠ (.slice Ao20 x3_2.length co20 : Value).ownBlock ∧ some k_ ≠ (u4 : Value).ownBlock ∧ some k_ ≠ (.slice Ao22 t357.length co22 : Value).ownBlock ∧ k_ ≠ gb355) (Kd.S_N (Kd.S_bound ho0)) (fun k_ hk_ => ⟨(Nat.le_trans bls_ hk_.2.1), (Kd.fresh' (Kd.R_lt (rr_ HO_3)) k_ hk_.2.1), (Kd.fresh' (Kd.N_lt (rn_ HO_4)) k_ hk_.2.1), (Kd.fresh' (Kd.R_lt (rr_ HO359)) k_ hk_.2.1), (Kd.freshB (g := gb355) (o := .cells #[.int .i64 ((rd_T35 l0 x20_2).f0), .int .i64 ((rd_T35 l0 x20_2).f1.f0), .int .i64 ((rd_T35 l0 x20_2).f1.f1), .int .i64 ((rd_T35 l0 x20_2).f2), .int .i64 ((rd_T35 l0 x20_2).f3.f0), .int .i64 ((rd_T35 l0 x20_2).f3.f1), .int .i64 ((rd_T35 l0 x20_2).f4.f0), .int .i64 ((rd_T35 l0 x20_2).f4.f1), .int .i64 ((rd_T35 l0 x20_2).f5), .int .i64 ((rd_T35 l0 x20_2).f6)] 35 (0, 0)) (bk_ BK355) k_ hk_.2.1)⟩)) bls_)
        replace HO_3 := hob_ HO_3 hb
        replace HO_4 := aa_ (Kd.N_elder' (rn_ HO_4) (Kd.S_base ho0) hb)
        replace HO359 := hob_ HO359 hb
        replace BK355 := bkb_ BK355 hb
        replace HB := hbs_ hb
        (try clear hb)
        (try clear hb2)
        (try clear hk)
        (try clear hi)
        (try clear ho0)
        obtain ⟨Ao24, co24, eo24⟩ := Kd.N_slice HO362.out
        (first | subst eo24 | (injection eo24 with f1_ f2_ f3_; have f4_ := f1_.symm; have f5_ := f3_.symm; clear f1_ f2_ f3_; subst f4_; subst f5_))
        refine hK.out _ _ ⟨(blk_cell BK355.out 0).trans rfl, (blk_cell BK355.out 1).trans rfl, (blk_cell BK355.out 2).trans rfl, (blk_cell BK355.out 3).trans rfl, (blk_cell BK355.out 4).trans rfl, (blk_cell BK355.out 5).trans rfl, (blk_cell BK355.out 6).trans rfl, (blk_cell BK355.out 7).trans rfl, (blk_cell BK355.out 8).trans rfl, (blk_cell BK355.out 9).trans rfl⟩ (fun hHeld => ?_)
        clear hK K
        refine norm_ (a' := ?_) ?_ ?_
        rotate_left
        ·show Act.put _ (some 31) _ = _
         simp only [Act.put, sb_, sz_, ss_, i64_w, i32_w]
         rfl
        refine pure_ (i := 4) (N := some 32) (v := ?_) (a' := ?_) (ba_ 6 63) rfl rfl (by kernel_rfl) (fun _ _ _ h => h) (Or.inl ⟨by rfl, ?_⟩) ?_ ?_
        rotate_left
        ·intro w'
         go_simp
         with_reducible rfl
        rotate_left
        ·simp only [Act.put, sb_, sz_, ss_, i64_w, i32_w]
         rfl
        refine done_ (by kernel_rfl) ?_
        try go_wp2
        go_loopg [3, 4, 33] k2 (fun kq v3 v4 v33 w' => ∃ (x3_3 : List (S28)) (x4_3 : List (S75)) (x33_3 : Int), v33 = .int .i64 x33_3 ∧ Aside0 (impl_findFacts.l2 kq l0 x3_3 x4_3 (x3_1.length : Int) x20_2 l0 (l0.length : Int) x20_2 t360 (t360.length : Int) x33_3 = some r) ∧ Aside0 (kq ≤ k2) ∧ Aside0 (Kd.R k28 28 w' w.heap.size (fun k_ => (w.heap.size ≤ k_)) v3 x3_3) ∧ Aside0 (Kd.N k75 75 w' w.heap.size (fun k_ => (w.heap.size ≤ k_) ∧ some k_ ≠ (v3 : Value).ownBlock ∧ some k_ ≠ ((.slice Ao24 t360.length co24) : Value).ownBlock ∧ k_ ≠ gb355) v4 x4_3) ∧ Aside0 (Kd.N k81 81 w' w.heap.size (fun k_ => (w.heap.size ≤ k_) ∧ some k_ ≠ (v3 : Value).ownBlock ∧ some k_ ≠ (v4 : Value).ownBlock ∧ k_ ≠ gb355) (.slice Ao24 t360.length co24) t360) ∧ Aside0 (w'.heap[gb355]? = some (.cells #[.int .i64 ((rd_T35 l0 x20_2).f0), .int .i64 ((rd_T35 l0 x20_2).f1.f0), .int .i64 ((rd_T35 l0 x20_2).f1.f1), .int .i64 ((rd_T35 l0 x20_2).f2), .int .i64 ((rd_T35 l0 x20_2).f3.f0), .int .i64 ((rd_T35 l0 x20_2).f3.f1), .int .i64 ((rd_T35 l0 x20_2).f4.f0), .int .i64 ((rd_T35 l0 x20_2).f4.f1), .int .i64 ((rd_T35 l0 x20_2).f5), .int .i64 ((rd_T35 l0 x20_2).f6)] 35 (0, 0))) ∧ Aside0 (Below w.heap.size w w'))
        case atStart => exact ⟨(x3_2), (x4_2), (0), rf_, H', ⟨Nat.le_refl _⟩, ⟨by (with_reducible repeat (first | apply Kd.R_alloc | apply Kd.R_drewN | apply Kd.R_drew)); exact Kd.R_mono HO_3.out (fun _ hk => hk.1)⟩, ⟨by (with_reducible repeat (first | apply Kd.N_alloc | apply Kd.N_drewN | apply Kd.N_drew)); exact Kd.N_mono HO_4.out (fun _ hk => ⟨hk.1.1.1.1, ⟨hk.1.1.1.2, ⟨hk.2, hk.1.1.2⟩⟩⟩)⟩, ⟨by (with_reducible repeat (first | apply Kd.N_alloc | apply Kd.N_drewN | apply Kd.N_drew)); exact Kd.N_mono HO362.out (fun _ hk => ⟨hk.1, ⟨hk.2.1, ⟨hk.2.2.1, hk.2.2.2.2⟩⟩⟩)⟩, ⟨bk_ BK355⟩, ⟨bl_⟩⟩
        case round =>
         clear H'
         try clear p2
         try clear p3
         try clear q3
         try clear hx3
         try clear c6b0
         try clear c8b0
         try clear c9b0
         try clear c10b0
         try clear hcz14
         try clear hfz14
         try clear hx354_0
         try clear hx354_1
         try clear hx354_2
         try clear hx354_3
         try clear hx354_4
         try clear hx354_5
         try clear hx354_6
         try clear hx354_7
         try clear hx354_8
         try clear hx354_9
         try clear p2
         try clear p354
         try clear q354
         obtain ⟨x3_3, x4_3, x33_3, rfl, HA, HK3, HO_3, HO_4, HO_31, BK355, HB⟩ := hrel
         cases gk with
         | zero => exact absurd HA.out (by simp [impl_findFacts.l2])
         | succ k3 =>
          have H := HA.out
          clear HA
          simp only [impl_findFacts.l2] at H
          by_cases c25 : x33_3 < (t360.length : Int)
          ·rw [if_pos c25] at H
           have c25b0 : decide (x33_3 < (t360.length : Int)) = true := decide_eq_true c25
           clear c25
           (first | rw [c25b0] | (simp only [i64_w, i32_w]; rw [c25b0]) | (have cz_ := c25b0; simp only [Int.ofNat_lt, Int.ofNat_le, gt_iff_lt, ge_iff_le] at cz_; rw [cz_]; clear cz_) | skip)
           obtain ⟨c26b0, H⟩ := ifd_ H
           obtain ⟨c27b0, H⟩ := ifd_ H
           obtain ⟨t365, A28, H⟩ := bindE_ H
           have HC29 := aa_ H
           clear H
           have p363 : 0 ≤ (x33_3 : Int) := od_
           have q363 : x33_3 < (t360.length : Int) := od_
           obtain ⟨ad363, A363_3, c363_3, e363, hx363_0, hx363_1, hx363_2, hx363_3, hl363_3, hi363_3⟩ := at_T81 (Kd.N_reads' HO_31.out).2.2 x33_3 p363 q363
           cases e363
           obtain ⟨ce363, hce363, hMe363, hcc363⟩ := Kd.N_get HO_31.out z81 x33_3 p363 (by first | exact q363 | exact od_ | (have e_ := (Kd.N_reads' HO_31.out).1; omega))
           obtain ⟨ua363_3, uc363_3, rfl, ul363_3, ge363_3⟩ := k81_openF hMe363
           have hv363_3 := hcc363 3 _ rfl
           rw [add_field _ _ 3 (by omega)] at hv363_3
           replace hv363_3 := Option.some.inj (hv363_3.symm.trans hx363_3)
           injection hv363_3 with hva_ hvn_ hvc_
           rw [hva_] at ge363_3
           rw [hvc_] at ul363_3
           have HL363_3 := aa_ (show Kd.V (Kd.int .i64) 3 _ w.heap.size _ _ ((rd_T81 t360 x33_3).f1) from Kd.V_mk ul363_3 ge363_3)
           clear hva_ hvn_ hvc_ ge363_3 ul363_3
           clear hcc363 hce363
           have HR363_3 := aa_ hi363_3
           have HC363_3 := aa_ hl363_3
           clear hi363_3 hl363_3
           replace p363 := eq_true p363
           replace q363 := eq_true q363
           go_upto_if 41 with (first | ((with_reducible refine gD_ 9 rfl ?_); refine bx_ (N := 9) (cs := #[.int .i64 0, .int .i64 0, .int .i64 0, .slice none 0 0]) (t := 81) ?_; intro gb364 hg w30 hbox hb; replace HO_3 := hob_ HO_3 hb; replace HO_4 := aa_ (Kd.N_below (Kd.N_elderB (rn_ HO_4) gb364 (Nat.le_of_eq hg.symm)) hb); replace HO_31 := aa_ (Kd.N_below (Kd.N_elderB (rn_ HO_31) gb364 (Nat.le_of_eq hg.symm)) hb); replace HL363_3 := aa_ (Kd.V_below (Kd.V_elderB (rv_ HL363_3) gb364 (Nat.le_of_eq hg.symm)) hb); replace HR363_3 := aa_ (Kd.C_below (by repeat (first | (with_reducible exact HR363_3.out) | (with_reducible refine Kd.C_alloc ?_ _) | (with_reducible refine Kd.C_drewN ?_ _) | (with_reducible refine Kd.C_drew ?_) | exact HR363_3.out)) hb); have BK364 := aa_ (hbox); have GW364 := gs_ hg; have GE364 := gs_ hg; replace HB := hbs_ hb; have NB355_364 := nl_ hg BK355; have NB364_355 := nr_ hg BK355; replace BK355 := bkb_ BK355 hb; clear hb hbox hg; have hnb31 := NB364_355.out; have hnc31 := NB355_364.out; obtain ⟨hcz32, hfz32⟩ := bcf_ BK364; obtain ⟨Ao33, co33, eo33⟩ := Kd.R_slice HO_3.out; subst eo33) | ((with_reducible refine gC_ 53 rfl ?_); refine goesC_ (some 40) Try.func53 #[.slice Ao33 x3_3.length co33, .agg #[.int .i64 ((rd_T81 t360 x33_3).f0.f0.f0), .int .i64 ((rd_T81 t360 x33_3).f0.f0.f1), .int .i64 ((rd_T81 t360 x33_3).f0.f1)]] ?_; (with_reducible refine (impl_Fact_53.calls k3 _ _ x3_3 ((rd_T81 t360 x33_3).f0.f0.f0) ((rd_T81 t360 x33_3).f0.f0.f1) ((rd_T81 t360 x33_3).f0.f1) t365 _ ?side1 ?side2 A28.out).mono ?_); (case side1 => refine (Kd.R_reads' (e := 28) (base := w.heap.size) (ok := fun k_ => (w.heap.size ≤ k_)) (n := x3_3.length) (c := co33) ?_).2.2; exact (by (with_reducible repeat (first | apply Kd.R_alloc | apply Kd.R_drewN | apply Kd.R_drew)); exact (Kd.R_mono (fr4_ (Kd.R_types HO_3.out BK364.out (by decide)) (fun _ hk => hk.2)) (fun _ h_ => h_.1)))); (case side2 => exact (Kd.R_reads' HO_3.out).2.1); rintro e w34 ⟨rfl, hb⟩; refine ⟨_, rfl, ?_⟩; replace HO_3 := aa_ (Kd.R_below (by (with_reducible repeat (first | apply Kd.R_alloc | apply Kd.R_drewN | apply Kd.R_drew)); exact (Kd.R_mono (fr4_ (Kd.R_types HO_3.out BK364.out (by decide)) (fun _ hk => hk.2)) (fun _ h_ => h_.1))) hb); replace HO_4 := aa_ (Kd.N_below (by (with_reducible repeat (first | apply Kd.N_alloc | apply Kd.N_drewN | apply Kd.N_drew)); exact (Kd.N_mono (fn4_ (Kd.N_mono HO_4.out (fun k_ hk => (⟨hk, hk.2⟩ : _ ∧ k_ ≠ gb364))) (fun _ hk => hk.2)) (fun _ h_ => h_.1))) hb); replace HO_31 := aa_ (Kd.N_below (by (with_reducible repeat (first | apply Kd.N_alloc | apply Kd.N_drewN | apply Kd.N_drew)); exact (Kd.N_mono (fn4_ (Kd.N_mono HO_31.out (fun k_ hk => (⟨hk, hk.2⟩ : _ ∧ k_ ≠ gb364))) (fun _ hk => hk.2)) (fun _ h_ => h_.1))) hb); replace BK355 := aa_ (blk_below (g := gb355) (o := .cells #[.int .i64 ((rd_T35 l0 x20_2).f0), .int .i64 ((rd_T35 l0 x20_2).f1.f0), .int .i64 ((rd_T35 l0 x20_2).f1.f1), .int .i64 ((rd_T35 l0 x20_2).f2), .int .i64 ((rd_T35 l0 x20_2).f3.f0), .int .i64 ((rd_T35 l0 x20_2).f3.f1), .int .i64 ((rd_T35 l0 x20_2).f4.f0), .int .i64 ((rd_T35 l0 x20_2).f4.f1), .int .i64 ((rd_T35 l0 x20_2).f5), .int .i64 ((rd_T35 l0 x20_2).f6)] 35 (0, 0)) (bk_ BK355) hb); replace HR363_3 := aa_ (Kd.C_below ((Kd.V_reads' (by (with_reducible repeat (first | apply Kd.V_alloc | apply Kd.V_drewN | apply Kd.V_drew)); exact (Kd.V_mono (Kd.V_far (p := ⟨gb364, 3, none⟩) (Kd.V_far (p := ⟨gb364, 2, none⟩) (Kd.V_far (p := ⟨gb364, 1, none⟩) (Kd.V_far (p := ⟨gb364, 0, none⟩) (Kd.V_mono HL363_3.out (fun k_ hk => (⟨hk, hk.2⟩ : _ ∧ k_ ≠ gb364))) (fun _ hk => hk.2) (.int .i64 ((rd_T81 t360 x33_3).f0.f0.f0))) (fun _ hk => hk.2) (.int .i64 ((rd_T81 t360 x33_3).f0.f0.f1))) (fun _ hk => hk.2) (.int .i64 ((rd_T81 t360 x33_3).f0.f1))) (fun _ hk => hk.2) (.slice A363_3 ((rd_T81 t360 x33_3).f1).length c363_3)) (fun _ h_ => h_.1)))).2.2) hb); replace HL363_3 := aa_ (Kd.V_below (by (with_reducible repeat (first | apply Kd.V_alloc | apply Kd.V_drewN | apply Kd.V_drew)); exact (Kd.V_mono (Kd.V_far (p := ⟨gb364, 3, none⟩) (Kd.V_far (p := ⟨gb364, 2, none⟩) (Kd.V_far (p := ⟨gb364, 1, none⟩) (Kd.V_far (p := ⟨gb364, 0, none⟩) (Kd.V_mono HL363_3.out (fun k_ hk => (⟨hk, hk.2⟩ : _ ∧ k_ ≠ gb364))) (fun _ hk => hk.2) (.int .i64 ((rd_T81 t360 x33_3).f0.f0.f0))) (fun _ hk => hk.2) (.int .i64 ((rd_T81 t360 x33_3).f0.f0.f1))) (fun _ hk => hk.2) (.int .i64 ((rd_T81 t360 x33_3).f0.f1))) (fun _ hk => hk.2) (.slice A363_3 ((rd_T81 t360 x33_3).f1).length c363_3)) (fun _ h_ => h_.1))) hb); replace BK364 := aa_ (blk_below (g := gb364) (o := .cells #[.int .i64 ((rd_T81 t360 x33_3).f0.f0.f0), .int .i64 ((rd_T81 t360 x33_3).f0.f0.f1), .int .i64 ((rd_T81 t360 x33_3).f0.f1), .slice A363_3 ((rd_T81 t360 x33_3).f1).length c363_3] 81 (0, 0)) (bk_ BK364) hb); replace HB := hbs_ hb; clear hb))
           (try simp only [Act.put, sb_, sz_, ss_])
           have H := HC29.out
           clear HC29
           by_cases c35 : t365 = true
           ·subst c35
            replace H := ite_t_ H
            have H' := aa_ H
            clear H
            go_wp2
            go_roundg k3
            case measure => have := HK1.out; have := HK2.out; have := HK3.out; omega
            case rel => exact ⟨(x3_3), (x4_3), (wrap64 (x33_3 + 1)), rf_, H', ⟨by have := HK1.out; have := HK2.out; have := HK3.out; omega⟩, ⟨rr_ HO_3⟩, ⟨by (with_reducible repeat (first | apply Kd.N_alloc | apply Kd.N_drewN | apply Kd.N_drew)); exact Kd.N_mono HO_4.out (fun _ hk => ⟨hk.1.1, ⟨hk.1.2.1, ⟨hk.1.2.2.1, hk.1.2.2.2⟩⟩⟩)⟩, ⟨by (with_reducible repeat (first | apply Kd.N_alloc | apply Kd.N_drewN | apply Kd.N_drew)); exact Kd.N_mono HO_31.out (fun _ hk => ⟨hk.1.1, ⟨hk.1.2.1, ⟨hk.1.2.2.1, hk.1.2.2.2⟩⟩⟩)⟩, ⟨bk_ BK355⟩, ⟨bl_⟩⟩
           ·replace c35 := Bool.eq_false_iff.mpr c35
            subst c35
            replace H := ite_f_ H
            obtain ⟨c36, H⟩ := ifn_ H
            have LMc36 := aa_ c36
            clear c36
            obtain ⟨y366, hy366⟩ : ∃ y_ : List (S28), y_ = (x3_3 ++ [(⟨(⟨(rd_T81 t360 x33_3).f0.f0.f0, (rd_T81 t360 x33_3).f0.f0.f1⟩ : S26), (rd_T81 t360 x33_3).f0.f1⟩ : S28)]) := ⟨_, rfl⟩
            replace H : (if x4_3.length < 2513169434916 then (impl_findFacts.l2 k3 l0 y366 (x4_3 ++ [(⟨(⟨(⟨(rd_T81 t360 x33_3).f0.f0.f0, (rd_T81 t360 x33_3).f0.f0.f1⟩ : S26), (rd_T81 t360 x33_3).f0.f1⟩ : S28), x20_2, (rd_T81 t360 x33_3).f1⟩ : S75)]) (x3_1.length : Int) x20_2 l0 (l0.length : Int) x20_2 t360 (t360.length : Int) (wrap64 (x33_3 + 1))) else (none)) = some r := rh_ hy366 H
            have Ny366 := aa_ hy366
            clear hy366
            obtain ⟨c37, H⟩ := ifn_ H
            have LMc37 := aa_ c37
            clear c37
            obtain ⟨y369, hy369⟩ : ∃ y_ : List (S75), y_ = (x4_3 ++ [(⟨(⟨(⟨(rd_T81 t360 x33_3).f0.f0.f0, (rd_T81 t360 x33_3).f0.f0.f1⟩ : S26), (rd_T81 t360 x33_3).f0.f1⟩ : S28), x20_2, (rd_T81 t360 x33_3).f1⟩ : S75)]) := ⟨_, rfl⟩
            replace H : (impl_findFacts.l2 k3 l0 y366 y369 (x3_1.length : Int) x20_2 l0 (l0.length : Int) x20_2 t360 (t360.length : Int) (wrap64 (x33_3 + 1))) = some r := rh_ hy369 H
            have Ny369 := aa_ hy369
            clear hy369
            have H' := aa_ H
            clear H
            have hnb38 := NB364_355.out
            have hnc38 := NB355_364.out
            have hcz39 := blk_cell BK364.out
            have hfz39 := blk_frozen BK364.out
            go_wp2_with (first | ((with_reducible refine gate_builtin (b := .append) (xs := #[.tmp 42, .tmp 45]) rfl ?_); at_builtin; refine Kd.R_append k28 (w0 := w) w.heap.size rfl (.tmp 42) (.tmp 45) 44 28 (.agg #[(.int .i64 0), (.int .i64 0), (.int .i64 0)]) 24 rfl Try.underlying44 info28 rfl (by decide) (by omega) (.slice Ao33 x3_3.length co33) x3_3 (⟨(⟨(rd_T81 t360 x33_3).f0.f0.f0, (rd_T81 t360 x33_3).f0.f0.f1⟩ : S26), (rd_T81 t360 x33_3).f0.f1⟩ : S28) [.int .i64 ((rd_T81 t360 x33_3).f0.f0.f0), .int .i64 ((rd_T81 t360 x33_3).f0.f0.f1), .int .i64 ((rd_T81 t360 x33_3).f0.f1)] (fun k_ => (w.heap.size ≤ k_)) (fun _ => False) rfl rfl ?aP (fun _ hk => hk.elim) ?aF ?aO ?aB ?aS ?aL ?_; (case aP => exact k28_mkM _ _ _ (⟨(⟨(rd_T81 t360 x33_3).f0.f0.f0, (rd_T81 t360 x33_3).f0.f0.f1⟩ : S26), (rd_T81 t360 x33_3).f0.f1⟩ : S28)); (case aB => exact bl_); (case aF => exact (fun k_ hk => (Nat.le_trans bls_ hk))); (case aO => exact (rr_ HO_3)); (case aS => exact bls_); (case aL => have := LMc36.out; omega); intro v367 w40 ho hb hg hat; rw [← Ny366.out] at ho; replace HO_4 := aa_ (Kd.N_afterv (ok := (fun k_ => (w.heap.size ≤ k_) ∧ some k_ ≠ (.slice (some ad363) t360.length co24 : Value).ownBlock ∧ k_ ≠ gb355 ∧ k_ ≠ gb364)) (by (with_reducible repeat (first | apply Kd.N_alloc | apply Kd.N_drewN | apply Kd.N_drew)); exact Kd.N_mono HO_4.out (fun _ hk => ⟨⟨hk.1.1, ⟨hk.1.2.2.1, ⟨hk.1.2.2.2, hk.2⟩⟩⟩, hk.1.2.1⟩)) hg hat); replace HO_31 := aa_ (Kd.N_afterv (ok := (fun k_ => (w.heap.size ≤ k_) ∧ some k_ ≠ (u4 : Value).ownBlock ∧ k_ ≠ gb355 ∧ k_ ≠ gb364)) (by (with_reducible repeat (first | apply Kd.N_alloc | apply Kd.N_drewN | apply Kd.N_drew)); exact Kd.N_mono HO_31.out (fun _ hk => ⟨⟨hk.1.1, ⟨hk.1.2.2.1, ⟨hk.1.2.2.2, hk.2⟩⟩⟩, hk.1.2.1⟩)) hg hat); replace BK355 := aa_ (blk_grown (g := gb355) (o := .cells #[.int .i64 ((rd_T35 l0 x20_2).f0), .int .i64 ((rd_T35 l0 x20_2).f1.f0), .int .i64 ((rd_T35 l0 x20_2).f1.f1), .int .i64 ((rd_T35 l0 x20_2).f2), .int .i64 ((rd_T35 l0 x20_2).f3.f0), .int .i64 ((rd_T35 l0 x20_2).f3.f1), .int .i64 ((rd_T35 l0 x20_2).f4.f0), .int .i64 ((rd_T35 l0 x20_2).f4.f1), .int .i64 ((rd_T35 l0 x20_2).f5), .int .i64 ((rd_T35 l0 x20_2).f6)] 35 (0, 0)) (bk_ BK355) hg (Kd.R_ne HO_3.out BK355.out (by decide))); replace HL363_3 := aa_ (Kd.V_afterv (ok := (fun k_ => (w.heap.size ≤ k_) ∧ some k_ ≠ (u4 : Value).ownBlock ∧ some k_ ≠ (.slice (some ad363) t360.length co24 : Value).ownBlock ∧ k_ ≠ gb355 ∧ k_ ≠ gb364)) (by (with_reducible repeat (first | apply Kd.V_alloc | apply Kd.V_drewN | apply Kd.V_drew)); exact Kd.V_mono HL363_3.out (fun _ hk => ⟨⟨hk.1.1.1, ⟨hk.1.1.2.2.1, ⟨hk.1.2, ⟨hk.1.1.2.2.2, hk.2⟩⟩⟩⟩, hk.1.1.2.1⟩)) hg hat); replace BK364 := aa_ (blk_grown (g := gb364) (o := .cells #[.int .i64 ((rd_T81 t360 x33_3).f0.f0.f0), .int .i64 ((rd_T81 t360 x33_3).f0.f0.f1), .int .i64 ((rd_T81 t360 x33_3).f0.f1), .slice A363_3 ((rd_T81 t360 x33_3).f1).length c363_3] 81 (0, 0)) (bk_ BK364) hg (Kd.R_ne HO_3.out BK364.out (by decide))); replace HB := aa_ (hb); have HO368 := aa_ (ho); clear HO_3; clear ho hb hg hat; obtain ⟨hcz41, hfz41⟩ := bcf_ BK364) | ((with_reducible refine gate_builtin (b := .append) (xs := #[.tmp 47, .tmp 54]) rfl ?_); at_builtin; refine Kd.N_append k75 (w0 := w) w.heap.size rfl (.tmp 47) (.tmp 54) 72 75 (.agg #[(.int .i64 0), (.int .i64 0), (.int .i64 0), (.int .i64 0), (.slice none 0 0)]) 56 rfl Try.underlying72 info75 rfl (by decide) (by omega) u4 x4_3 (⟨(⟨(⟨(rd_T81 t360 x33_3).f0.f0.f0, (rd_T81 t360 x33_3).f0.f0.f1⟩ : S26), (rd_T81 t360 x33_3).f0.f1⟩ : S28), x20_2, (rd_T81 t360 x33_3).f1⟩ : S75) [.int .i64 ((rd_T81 t360 x33_3).f0.f0.f0), .int .i64 ((rd_T81 t360 x33_3).f0.f0.f1), .int .i64 ((rd_T81 t360 x33_3).f0.f1), .int .i64 x20_2, .slice A363_3 ((rd_T81 t360 x33_3).f1).length c363_3] (fun k_ => (w.heap.size ≤ k_) ∧ some k_ ≠ (.slice (some ad363) t360.length co24 : Value).ownBlock ∧ some k_ ≠ (v367 : Value).ownBlock ∧ k_ ≠ gb355 ∧ k_ ≠ gb364) (fun k_ => ((fun k_ => (w.heap.size ≤ k_) ∧ some k_ ≠ (.slice (some ad363) t360.length co24 : Value).ownBlock ∧ some k_ ≠ (v367 : Value).ownBlock ∧ k_ ≠ gb355 ∧ k_ ≠ gb364)) k_ ∧ some k_ ≠ (u4 : Value).ownBlock) rfl rfl ?aP (fun _ hk => hk) ?aF ?aO ?aB ?aS ?aL ?_; (case aP => exact (k75_mkF _ _ (⟨(⟨(⟨(rd_T81 t360 x33_3).f0.f0.f0, (rd_T81 t360 x33_3).f0.f0.f1⟩ : S26), (rd_T81 t360 x33_3).f0.f1⟩ : S28), x20_2, (rd_T81 t360 x33_3).f1⟩ : S75) (Kd.V_reads' (Kd.V_mono (ok' := (fun k_ => ((fun k_ => (w.heap.size ≤ k_) ∧ some k_ ≠ (.slice (some ad363) t360.length co24 : Value).ownBlock ∧ some k_ ≠ (v367 : Value).ownBlock ∧ k_ ≠ gb355 ∧ k_ ≠ gb364)) k_ ∧ some k_ ≠ (u4 : Value).ownBlock)) (HL363_3.out) (fun k_ hk => ⟨⟨hk.1.1, ⟨hk.1.2.2.1, ⟨hk.2, ⟨hk.1.2.2.2.1, hk.1.2.2.2.2⟩⟩⟩⟩, hk.1.2.1⟩))).2.1 (Kd.V_F (Kd.V_mono (ok' := (fun k_ => ((fun k_ => (w.heap.size ≤ k_) ∧ some k_ ≠ (.slice (some ad363) t360.length co24 : Value).ownBlock ∧ some k_ ≠ (v367 : Value).ownBlock ∧ k_ ≠ gb355 ∧ k_ ≠ gb364)) k_ ∧ some k_ ≠ (u4 : Value).ownBlock)) (HL363_3.out) (fun k_ hk => ⟨⟨hk.1.1, ⟨hk.1.2.2.1, ⟨hk.2, ⟨hk.1.2.2.2.1, hk.1.2.2.2.2⟩⟩⟩⟩, hk.1.2.1⟩))))); (case aB => exact bl_); (case aF => exact (fun k_ hk => ⟨(Nat.le_trans bls_ hk), Kd.fresh' (Kd.N_lt (rn_ HO_31)) k_ hk, Kd.fresh' (Kd.R_lt (rr_ HO368)) k_ hk, Kd.freshB (g := gb355) (o := .cells #[.int .i64 ((rd_T35 l0 x20_2).f0), .int .i64 ((rd_T35 l0 x20_2).f1.f0), .int .i64 ((rd_T35 l0 x20_2).f1.f1), .int .i64 ((rd_T35 l0 x20_2).f2), .int .i64 ((rd_T35 l0 x20_2).f3.f0), .int .i64 ((rd_T35 l0 x20_2).f3.f1), .int .i64 ((rd_T35 l0 x20_2).f4.f0), .int .i64 ((rd_T35 l0 x20_2).f4.f1), .int .i64 ((rd_T35 l0 x20_2).f5), .int .i64 ((rd_T35 l0 x20_2).f6)] 35 (0, 0)) (bk_ BK355) k_ hk, Kd.freshB (g := gb364) (o := .cells #[.int .i64 ((rd_T81 t360 x33_3).f0.f0.f0), .int .i64 ((rd_T81 t360 x33_3).f0.f0.f1), .int .i64 ((rd_T81 t360 x33_3).f0.f1), .slice A363_3 ((rd_T81 t360 x33_3).f1).length c363_3] 81 (0, 0)) (bk_ BK364) k_ hk⟩)); (case aO => exact (by (with_reducible repeat (first | apply Kd.N_alloc | apply Kd.N_drewN | apply Kd.N_drew)); exact Kd.N_mono HO_4.out (fun _ hk => ⟨hk.1.1, ⟨hk.1.2.1, ⟨hk.2, ⟨hk.1.2.2.1, hk.1.2.2.2⟩⟩⟩⟩))); (case aS => exact bls_); (case aL => have := LMc37.out; omega); intro v370 w42 ho hb hg hat; rw [← Ny369.out] at ho; replace HO_31 := aa_ (Kd.N_afterv (ok := (fun k_ => (w.heap.size ≤ k_) ∧ some k_ ≠ (v367 : Value).ownBlock ∧ k_ ≠ gb355 ∧ k_ ≠ gb364)) (by (with_reducible repeat (first | apply Kd.N_alloc | apply Kd.N_drewN | apply Kd.N_drew)); exact Kd.N_mono HO_31.out (fun _ hk => ⟨⟨hk.1.1, ⟨hk.2, ⟨hk.1.2.2.1, hk.1.2.2.2⟩⟩⟩, hk.1.2.1⟩)) hg hat); replace BK355 := aa_ (blk_grown (g := gb355) (o := .cells #[.int .i64 ((rd_T35 l0 x20_2).f0), .int .i64 ((rd_T35 l0 x20_2).f1.f0), .int .i64 ((rd_T35 l0 x20_2).f1.f1), .int .i64 ((rd_T35 l0 x20_2).f2), .int .i64 ((rd_T35 l0 x20_2).f3.f0), .int .i64 ((rd_T35 l0 x20_2).f3.f1), .int .i64 ((rd_T35 l0 x20_2).f4.f0), .int .i64 ((rd_T35 l0 x20_2).f4.f1), .int .i64 ((rd_T35 l0 x20_2).f5), .int .i64 ((rd_T35 l0 x20_2).f6)] 35 (0, 0)) (bk_ BK355) hg (Kd.N_ne HO_4.out BK355.out (by decide))); replace HL363_3 := aa_ (Kd.V_afterv (ok := (fun k_ => (w.heap.size ≤ k_) ∧ some k_ ≠ (.slice (some ad363) t360.length co24 : Value).ownBlock ∧ some k_ ≠ (v367 : Value).ownBlock ∧ k_ ≠ gb355 ∧ k_ ≠ gb364)) (by (with_reducible repeat (first | apply Kd.V_alloc | apply Kd.V_drewN | apply Kd.V_drew)); exact Kd.V_mono HL363_3.out (fun _ hk => ⟨⟨hk.1.1, ⟨hk.1.2.2.1, ⟨hk.2, ⟨hk.1.2.2.2.1, hk.1.2.2.2.2⟩⟩⟩⟩, hk.1.2.1⟩)) hg hat); replace BK364 := aa_ (blk_grown (g := gb364) (o := .cells #[.int .i64 ((rd_T81 t360 x33_3).f0.f0.f0), .int .i64 ((rd_T81 t360 x33_3).f0.f0.f1), .int .i64 ((rd_T81 t360 x33_3).f0.f1), .slice A363_3 ((rd_T81 t360 x33_3).f1).length c363_3] 81 (0, 0)) (bk_ BK364) hg (Kd.N_ne HO_4.out BK364.out (by decide))); replace HO368 := aa_ (Kd.R_over' (rr_ HO368) (Kd.N_typed (rn_ HO_4)) (by decide) hg); replace HB := aa_ (hb); have HO371 := aa_ (ho); clear HO_4; clear ho hb hg hat))
            go_roundg k3
            case measure => have := HK1.out; have := HK2.out; have := HK3.out; omega
            case rel => exact ⟨(y366), (y369), (wrap64 (x33_3 + 1)), rf_, H', ⟨by have := HK1.out; have := HK2.out; have := HK3.out; omega⟩, ⟨rr_ HO368⟩, ⟨by (with_reducible repeat (first | apply Kd.N_alloc | apply Kd.N_drewN | apply Kd.N_drew)); exact Kd.N_mono HO371.out (fun _ hk => ⟨hk.1, ⟨hk.2.2.1, ⟨hk.2.1, hk.2.2.2.1⟩⟩⟩)⟩, ⟨by (with_reducible repeat (first | apply Kd.N_alloc | apply Kd.N_drewN | apply Kd.N_drew)); exact Kd.N_mono HO_31.out (fun _ hk => ⟨hk.1.1, ⟨hk.1.2.1, ⟨hk.2, hk.1.2.2.1⟩⟩⟩)⟩, ⟨bk_ BK355⟩, ⟨bl_⟩⟩
          ·rw [if_neg c25] at H
           have c25b0 : decide (x33_3 < (t360.length : Int)) = false := decide_eq_false c25
           clear c25
           (first | rw [c25b0] | (simp only [i64_w, i32_w]; rw [c25b0]) | (have cz_ := c25b0; simp only [Int.ofNat_lt, Int.ofNat_le, gt_iff_lt, ge_iff_le] at cz_; rw [cz_]; clear cz_) | skip)
           have H' := aa_ H
           clear H
           go_wp2
           go_roundg k3
           case measure => have := HK1.out; have := HK2.out; have := HK3.out; omega
           case rel => exact ⟨(x3_3), (x4_3), (wrap64 (x20_2 + 1)), rf_, H', ⟨by have := HK1.out; have := HK2.out; have := HK3.out; omega⟩, ⟨rr_ HO_3⟩, ⟨by (with_reducible repeat (first | apply Kd.N_alloc | apply Kd.N_drewN | apply Kd.N_drew)); exact Kd.N_mono HO_4.out (fun _ hk => ⟨hk.1, hk.2.1⟩)⟩, ⟨bl_⟩⟩
       ·replace c16 := Bool.eq_false_iff.mpr c16
        subst c16
        replace H := ite_f_ H
        have H' := aa_ H
        clear H
        go_wp2
        go_roundg k2
        case measure => have := HK1.out; have := HK2.out; omega
        case rel => exact ⟨(x3_2), (x4_2), (wrap64 (x20_2 + 1)), rf_, H', ⟨by have := HK1.out; have := HK2.out; omega⟩, ⟨rr_ HO_3⟩, ⟨by (with_reducible repeat (first | apply Kd.N_alloc | apply Kd.N_drewN | apply Kd.N_drew)); exact Kd.N_mono HO_4.out (fun _ hk => ⟨hk.1.1, hk.1.2⟩)⟩, ⟨bl_⟩⟩
      ·rw [if_neg c8] at H
       have c8b0 : decide (x20_2 < (l0.length : Int)) = false := decide_eq_false c8
       clear c8
       have H' := aa_ H
       clear H
       go_wp2
       go_roundg k2
       case measure => have := HK1.out; have := HK2.out; omega
       case rel => exact ⟨(x3_2), (x4_2), ((x3_1.length : Int)), rf_, H', ⟨by have := HK1.out; have := HK2.out; omega⟩, ⟨rr_ HO_3⟩, ⟨rn_ HO_4⟩, ⟨bl_⟩⟩
   ·rw [if_neg c6] at H
    have c6b0 : decide (x5_1 < (x3_1.length : Int)) = false := decide_eq_false c6
    clear c6
    obtain rfl := Option.some.inj H
    obtain ⟨Ao43, co43, eo43⟩ := Kd.R_slice HO_3.out
    subst eo43
    go_wp2
    go_ret
    exact ⟨_, eq_, by (with_reducible repeat (first | apply Kd.N_alloc | apply Kd.N_drewN | apply Kd.N_drew)); exact Kd.N_mono HO_4.out (fun _ hk => hk.1), bl_⟩
def impl_FactsOf.l0 : Nat → List (S28) → List (S75) → Int → Int → Option ((List (S28)))
 | 0, _, _, _, _ => none
 | k + 1, x3, x8, x9, x10 => if x10 < x9 then (if 0 ≤ x10 then (if x10 < (x8.length : Int) then (if x3.length < 5864062014805 then (impl_FactsOf.l0 k (x3 ++ [(⟨(⟨(rd_T75 x8 x10).f0.f0.f0, (rd_T75 x8 x10).f0.f0.f1⟩ : S26), (rd_T75 x8 x10).f0.f1⟩ : S28)]) x8 x9 (wrap64 (x10 + 1))) else (none)) else (none)) else (none)) else (some x3)
def impl_FactsOf.f (k : Nat) (l0 : List (S35)) : Option ((List (S28))) := (impl_findFacts.f k l0).bind fun t375 => (impl_FactsOf.l0 k (([] : List (S28))) t375 (t375.length : Int) 0)
set_option maxHeartbeats 8000000 in
set_option maxRecDepth 100000 in
theorem impl_FactsOf.calls (k : Nat) (A0 : Option Addr) (c0 : Nat) (l0 : List (S35)) (r : List (S28)) (w : World) (hr0 : Kd.C k35 w A0 l0.length l0) (hc0 : l0.length ≤ c0) (h : impl_FactsOf.f k l0 = some r) :
  Calls Try.prog 21 #[.slice A0 l0.length c0] w fun e w' => ∃ v0_ : Value, e = .returned (v0_) ∧ Kd.R k28 28 w' w.heap.size (fun _ => True) v0_ r ∧ Below w.heap.size w w' := by
 have hu75 := Try.underlying75
 have hu28 := Try.underlying28
 have HR0 := aa_ hr0
 have HC0 := aa_ hc0
 clear hr0 hc0
 have HB := aa_ (Below.refl w.heap.size w)
 have H : ((impl_findFacts.f k l0).bind fun t375 => (impl_FactsOf.l0 k (([] : List (S28))) t375 (t375.length : Int) 0)) = some r := h
 clear h
 obtain ⟨y372, hy372⟩ : ∃ y_ : List (S28), y_ = (([] : List (S28))) := ⟨_, rfl⟩
 replace H : ((impl_findFacts.f k l0).bind fun t375 => (impl_FactsOf.l0 k y372 t375 (t375.length : Int) 0)) = some r := rh_ hy372 H
 have Ny372 := aa_ hy372
 clear hy372
 obtain ⟨t375, A2, H⟩ := bindE_ H
 have H' := aa_ H
 clear H
 go_enter Try.func21, Try.ntmps21
 go_wp2_with (first | ((with_reducible refine gD_ 6 rfl ?_); refine Kd.R_lit k28 _ 28 ?hg (N := 6) ?hd (xs := ([] : List (S28))) (inner := []) (ok := fun _ => True) (okp := fun _ => True) ?hr ?hp (fun _ hk => hk) trivial (Below.refl _ _) (Nat.le_refl _) (by simp) ?_; (case hd => rfl); (case hg => rfl); (case hr => first | (go_simp; done) | (go_simp; rfl)); (case hp => exact (Reps.none _ _)); intro v373 w3 ho4 hb hg_ hnew_; clear hg_ hnew_; (first | rw [← Ny372.out] at ho4 | (simp only [Int.reduceToNat] at ho4; rw [← Ny372.out] at ho4)); have HO374 := aa_ (Kd.R_lower ho4 bls_); replace HB := hbs_ hb; clear hb ho4) | ((with_reducible refine gC_ 38 rfl ?_); refine goesC_ (some 8) Try.func38 #[.slice A0 l0.length c0] ?_; (with_reducible refine (impl_findFacts.calls k _ _ l0 t375 _ ?side1 ?side2 A2.out).mono ?_); (case side1 => repeat (first | exact (Kd.C_below HR0.out HB.out) | (with_reducible refine Kd.C_alloc ?_ _) | (with_reducible refine Kd.C_drewN ?_ _) | (with_reducible refine Kd.C_drew ?_))); (case side2 => exact HC0.out); rintro e w5 ⟨v376, rfl, ho0, hb⟩; refine ⟨_, rfl, ?_⟩; have HO377 := aa_ (Kd.N_lower (Kd.N_mono (ok' := fun k_ => some k_ ≠ (v373 : Value).ownBlock) ho0 (fun k_ hk_ => (Kd.fresh' (Kd.R_lt (rr_ HO374)) k_ hk_))) bls_); replace HO374 := hob_ HO374 hb; replace HB := hbs_ hb; (try clear hb ho0); obtain ⟨Ao6, co6, eo6⟩ := Kd.N_slice HO377.out; subst eo6))
 go_loopg [3, 10] k (fun kq v3 v10 w' => ∃ (x3_1 : List (S28)) (x10_1 : Int), v10 = .int .i64 x10_1 ∧ Aside0 (impl_FactsOf.l0 kq x3_1 t375 (t375.length : Int) x10_1 = some r) ∧ Aside0 (kq ≤ k) ∧ Aside0 (Kd.R k28 28 w' w.heap.size (fun _ => True) v3 x3_1) ∧ Aside0 (Kd.N k75 75 w' w.heap.size (fun k_ => some k_ ≠ (v3 : Value).ownBlock) (.slice Ao6 t375.length co6) t375) ∧ Aside0 (Below w.heap.size w w'))
 case atStart => exact ⟨(y372), (0), rf_, H', ⟨Nat.le_refl _⟩, ⟨rr_ HO374⟩, ⟨rn_ HO377⟩, ⟨bl_⟩⟩
 case round =>
  clear H'
  try clear p2
  obtain ⟨x3_1, x10_1, rfl, HA, HK1, HO_3, HO_8, HB⟩ := hrel
  cases gk with
  | zero => exact absurd HA.out (by simp [impl_FactsOf.l0])
  | succ k1 =>
   have H := HA.out
   clear HA
   simp only [impl_FactsOf.l0] at H
   by_cases c7 : x10_1 < (t375.length : Int)
   ·rw [if_pos c7] at H
    have c7b0 : decide (x10_1 < (t375.length : Int)) = true := decide_eq_true c7
    clear c7
    obtain ⟨c8b0, H⟩ := ifd_ H
    obtain ⟨c9b0, H⟩ := ifd_ H
    obtain ⟨c10, H⟩ := ifn_ H
    have LMc10 := aa_ c10
    clear c10
    obtain ⟨y380, hy380⟩ : ∃ y_ : List (S28), y_ = (x3_1 ++ [(⟨(⟨(rd_T75 t375 x10_1).f0.f0.f0, (rd_T75 t375 x10_1).f0.f0.f1⟩ : S26), (rd_T75 t375 x10_1).f0.f1⟩ : S28)]) := ⟨_, rfl⟩
    replace H : (impl_FactsOf.l0 k1 y380 t375 (t375.length : Int) (wrap64 (x10_1 + 1))) = some r := rh_ hy380 H
    have Ny380 := aa_ hy380
    clear hy380
    have H' := aa_ H
    clear H
    have p378 : 0 ≤ (x10_1 : Int) := od_
    have q378 : x10_1 < (t375.length : Int) := od_
    obtain ⟨ad378, A378_4, c378_4, e378, hx378_0, hx378_1, hx378_2, hx378_3, hx378_4, hl378_4, hi378_4⟩ := at_T75 (Kd.N_reads' HO_8.out).2.2 x10_1 p378 q378
    cases e378
    obtain ⟨ce378, hce378, hMe378, hcc378⟩ := Kd.N_get HO_8.out z75 x10_1 p378 (by first | exact q378 | exact od_ | (have e_ := (Kd.N_reads' HO_8.out).1; omega))
    obtain ⟨ua378_4, uc378_4, rfl, ul378_4, ge378_4⟩ := k75_openF hMe378
    have hv378_4 := hcc378 4 _ rfl
    rw [add_field _ _ 4 (by omega)] at hv378_4
    replace hv378_4 := Option.some.inj (hv378_4.symm.trans hx378_4)
    injection hv378_4 with hva_ hvn_ hvc_
    rw [hva_] at ge378_4
    rw [hvc_] at ul378_4
    have HL378_4 := aa_ (show Kd.V (Kd.int .i64) 3 _ w.heap.size _ _ ((rd_T75 t375 x10_1).f2) from Kd.V_mk ul378_4 ge378_4)
    clear hva_ hvn_ hvc_ ge378_4 ul378_4
    clear hcc378 hce378
    have HR378_4 := aa_ hi378_4
    have HC378_4 := aa_ hl378_4
    clear hi378_4 hl378_4
    replace p378 := eq_true p378
    replace q378 := eq_true q378
    go_wp2_with (first | ((with_reducible refine gD_ 5 rfl ?_); refine bx_ (N := 5) (cs := #[.int .i64 0, .int .i64 0, .int .i64 0, .int .i64 0, .slice none 0 0]) (t := 75) ?_; intro gb379 hg w11 hbox hb; replace HO_3 := hob_ HO_3 hb; replace HO_8 := aa_ (Kd.N_below (Kd.N_elderB (rn_ HO_8) gb379 (Nat.le_of_eq hg.symm)) hb); replace HL378_4 := aa_ (Kd.V_below (Kd.V_elderB (rv_ HL378_4) gb379 (Nat.le_of_eq hg.symm)) hb); replace HR378_4 := aa_ (Kd.C_below (by repeat (first | (with_reducible exact HR378_4.out) | (with_reducible refine Kd.C_alloc ?_ _) | (with_reducible refine Kd.C_drewN ?_ _) | (with_reducible refine Kd.C_drew ?_) | exact HR378_4.out)) hb); have BK379 := aa_ (hbox); have GW379 := gs_ hg; have GE379 := gs_ hg; replace HB := hbs_ hb; clear hb hbox hg; obtain ⟨hcz12, hfz12⟩ := bcf_ BK379) | ((with_reducible refine gate_builtin (b := .append) (xs := #[.tmp 14, .tmp 17]) rfl ?_); at_builtin; refine Kd.R_append k28 (w0 := w) w.heap.size rfl (.tmp 14) (.tmp 17) 44 28 (.agg #[(.int .i64 0), (.int .i64 0), (.int .i64 0)]) 24 rfl Try.underlying44 info28 rfl (by decide) (by omega) u3 x3_1 (⟨(⟨(rd_T75 t375 x10_1).f0.f0.f0, (rd_T75 t375 x10_1).f0.f0.f1⟩ : S26), (rd_T75 t375 x10_1).f0.f1⟩ : S28) [.int .i64 ((rd_T75 t375 x10_1).f0.f0.f0), .int .i64 ((rd_T75 t375 x10_1).f0.f0.f1), .int .i64 ((rd_T75 t375 x10_1).f0.f1)] (fun _ => True) (fun _ => False) rfl (by first | (go_simp; done) | (go_simp; rfl)) ?aP (fun _ hk => hk.elim) ?aF ?aO ?aB ?aS ?aL ?_; (case aP => exact k28_mkM _ _ _ (⟨(⟨(rd_T75 t375 x10_1).f0.f0.f0, (rd_T75 t375 x10_1).f0.f0.f1⟩ : S26), (rd_T75 t375 x10_1).f0.f1⟩ : S28)); (case aB => exact bl_); (case aF => exact (fun _ _ => trivial)); (case aO => exact (by (with_reducible repeat (first | apply Kd.R_alloc | apply Kd.R_drewN | apply Kd.R_drew)); exact Kd.R_mono (fr5_ (Kd.R_types HO_3.out BK379.out (by decide)) (fun _ hk => hk.2)) (fun _ hk => trivial))); (case aS => exact bls_); (case aL => have := LMc10.out; omega); intro v381 w13 ho hb hg hat; rw [← Ny380.out] at ho; replace HO_8 := aa_ (Kd.N_afterv (ok := (fun k_ => k_ ≠ gb379)) (by (with_reducible repeat (first | apply Kd.N_alloc | apply Kd.N_drewN | apply Kd.N_drew)); exact Kd.N_mono (fn5_ (Kd.N_mono HO_8.out (fun k_ hk => (⟨hk, hk.2⟩ : _ ∧ k_ ≠ gb379))) (fun _ hk => hk.2)) (fun _ hk => ⟨hk.1.2, hk.1.1⟩)) hg hat); replace HL378_4 := aa_ (Kd.V_afterv (ok := (fun k_ => some k_ ≠ (.slice (some ad378) t375.length co6 : Value).ownBlock ∧ k_ ≠ gb379)) (by (with_reducible repeat (first | apply Kd.V_alloc | apply Kd.V_drewN | apply Kd.V_drew)); exact Kd.V_mono (Kd.V_far (p := ⟨gb379, 4, none⟩) (Kd.V_far (p := ⟨gb379, 3, none⟩) (Kd.V_far (p := ⟨gb379, 2, none⟩) (Kd.V_far (p := ⟨gb379, 1, none⟩) (Kd.V_far (p := ⟨gb379, 0, none⟩) (Kd.V_mono HL378_4.out (fun k_ hk => (⟨hk, hk.2⟩ : _ ∧ k_ ≠ gb379))) (fun _ hk => hk.2) (.int .i64 ((rd_T75 t375 x10_1).f0.f0.f0))) (fun _ hk => hk.2) (.int .i64 ((rd_T75 t375 x10_1).f0.f0.f1))) (fun _ hk => hk.2) (.int .i64 ((rd_T75 t375 x10_1).f0.f1))) (fun _ hk => hk.2) (.int .i64 ((rd_T75 t375 x10_1).f1))) (fun _ hk => hk.2) (.slice A378_4 ((rd_T75 t375 x10_1).f2).length c378_4)) (fun _ hk => ⟨⟨hk.1.1.2, hk.1.2⟩, hk.1.1.1⟩)) hg hat); replace BK379 := aa_ (blk_grown (g := gb379) (o := .cells #[.int .i64 ((rd_T75 t375 x10_1).f0.f0.f0), .int .i64 ((rd_T75 t375 x10_1).f0.f0.f1), .int .i64 ((rd_T75 t375 x10_1).f0.f1), .int .i64 ((rd_T75 t375 x10_1).f1), .slice A378_4 ((rd_T75 t375 x10_1).f2).length c378_4] 75 (0, 0)) (bk_ BK379) hg (Kd.R_ne HO_3.out BK379.out (by decide))); replace HB := aa_ (hb); have HO382 := aa_ (ho); clear HO_3; clear ho hb hg hat))
    go_roundg k1
    case measure => have := HK1.out; omega
    case rel => exact ⟨(y380), (wrap64 (x10_1 + 1)), rf_, H', ⟨by have := HK1.out; omega⟩, ⟨rr_ HO382⟩, ⟨by (with_reducible repeat (first | apply Kd.N_alloc | apply Kd.N_drewN | apply Kd.N_drew)); exact Kd.N_mono HO_8.out (fun _ hk => hk.2)⟩, ⟨bl_⟩⟩
   ·rw [if_neg c7] at H
    have c7b0 : decide (x10_1 < (t375.length : Int)) = false := decide_eq_false c7
    clear c7
    obtain rfl := Option.some.inj H
    go_wp2
    go_ret
    exact ⟨_, eq_, by (with_reducible repeat (first | apply Kd.R_alloc | apply Kd.R_drewN | apply Kd.R_drew)); exact HO_3.out, bl_⟩
def bits_Mul64.f (a0 : Int) (a1 : Int) : Option (Int × Int) := some (IntKind.u64.wrap ((IntKind.u64.wrap ((IntKind.u64.wrap ((a0 / 4294967296) * (a1 / 4294967296))) + ((IntKind.u64.wrap ((IntKind.u64.wrap ((a0 / 4294967296) * (Go.bits .and .u64 a1 4294967295))) + ((IntKind.u64.wrap ((Go.bits .and .u64 a0 4294967295) * (Go.bits .and .u64 a1 4294967295))) / 4294967296))) / 4294967296))) + ((IntKind.u64.wrap ((Go.bits .and .u64 (IntKind.u64.wrap ((IntKind.u64.wrap ((a0 / 4294967296) * (Go.bits .and .u64 a1 4294967295))) + ((IntKind.u64.wrap ((Go.bits .and .u64 a0 4294967295) * (Go.bits .and .u64 a1 4294967295))) / 4294967296))) 4294967295) + (IntKind.u64.wrap ((Go.bits .and .u64 a0 4294967295) * (a1 / 4294967296))))) / 4294967296)), IntKind.u64.wrap (a0 * a1))
set_option maxHeartbeats 8000000 in
set_option maxRecDepth 100000 in
theorem bits_Mul64.calls (a0 : Int) (a1 : Int) (r1 : Int) (r2 : Int) (w : World) (h : bits_Mul64.f a0 a1 = some (r1, r2)) :
  Calls Try.prog 64 #[.int .u64 a0, .int .u64 a1] w fun e w' => e = .returned (.tuple #[.int .u64 r1, .int .u64 r2]) ∧ Drawn0 w w' := by
 have H : (some (IntKind.u64.wrap ((IntKind.u64.wrap ((IntKind.u64.wrap ((a0 / 4294967296) * (a1 / 4294967296))) + ((IntKind.u64.wrap ((IntKind.u64.wrap ((a0 / 4294967296) * (Go.bits .and .u64 a1 4294967295))) + ((IntKind.u64.wrap ((Go.bits .and .u64 a0 4294967295) * (Go.bits .and .u64 a1 4294967295))) / 4294967296))) / 4294967296))) + ((IntKind.u64.wrap ((Go.bits .and .u64 (IntKind.u64.wrap ((IntKind.u64.wrap ((a0 / 4294967296) * (Go.bits .and .u64 a1 4294967295))) + ((IntKind.u64.wrap ((Go.bits .and .u64 a0 4294967295) * (Go.bits .and .u64 a1 4294967295))) / 4294967296))) 4294967295) + (IntKind.u64.wrap ((Go.bits .and .u64 a0 4294967295) * (a1 / 4294967296))))) / 4294967296)), IntKind.u64.wrap (a0 * a1))) = some (r1, r2) := h
 clear h
 simp only [Option.some.injEq, Prod.mk.injEq] at H
 obtain ⟨rfl, rfl⟩ := H
 go_enter Try.func64, Try.ntmps64
 go_wp2
 go_ret2
 exact ⟨by first | rfl | (simp; done) | (simp [*]; done), by repeat (first | exact Drawn0.refl _ | apply Drawn0.step)⟩
def bits_Mul.f (a0 : Int) (a1 : Int) : Option (Int × Int) := (bits_Mul64.f a0 a1).bind fun bt383 => (some (bt383.1, bt383.2))
set_option maxHeartbeats 8000000 in
set_option maxRecDepth 100000 in
theorem bits_Mul.calls (a0 : Int) (a1 : Int) (r1 : Int) (r2 : Int) (w : World) (h : bits_Mul.f a0 a1 = some (r1, r2)) :
  Calls Try.prog 54 #[.int .u64 a0, .int .u64 a1] w fun e w' => e = .returned (.tuple #[.int .u64 r1, .int .u64 r2]) ∧ Drawn0 w w' := by
 have H : ((bits_Mul64.f a0 a1).bind fun bt383 => (some (bt383.1, bt383.2))) = some (r1, r2) := h
 clear h
 obtain ⟨⟨t383, t384⟩, A3, H⟩ := bindE_ H
 (try dsimp only at H)
 simp only [Option.some.injEq, Prod.mk.injEq] at H
 obtain ⟨rfl, rfl⟩ := H
 go_enter Try.func54, Try.ntmps54
 go_wp2_with (first | ((with_reducible refine gC_ 64 rfl ?_); refine goesC_ (some 25) Try.func64 #[.int .u64 a0, .int .u64 a1] ?_; (with_reducible refine (bits_Mul64.calls a0 a1 t383 t384 _ A3.out).mono ?_); rintro e w' ⟨rfl, ⟨nd, rfl⟩⟩; refine ⟨_, rfl, ?_⟩))
 go_ret2
 exact ⟨by first | rfl | (simp; done) | (simp [*]; done), by repeat (first | exact Drawn0.refl _ | apply Drawn0.step)⟩
end Go.Proofs.Ytljhfomkakhflaa.PA
