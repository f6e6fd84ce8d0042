import Derived.Test.YtnoklfpnmopkpaaKPPEx14
-- printed by wip/tools
namespace Go.Proofs.Ytnoklfpnmopkpaa.PE
open Go.RowKit Go.Proofs.YtnoklfpnmopkpaaW.PrintWords Go.Proofs.YtnoklfpnmopkpaaW.PrintLast Go.Proofs.YtnoklfpnmopkpaaW.PrintMore
attribute [local go_sem] max2_int min2_int max_two min_two max_three min_three max_four min_four
set_option linter.unusedVariables false
set_option linter.unusedSimpArgs false
def impl_Fact_61.f (l0 : List (S63)) : Option (List (S63)) := if l0.length < 5864062014805 then some l0 else none
set_option maxHeartbeats 8000000 in
set_option maxRecDepth 100000 in
theorem impl_Fact_61.calls (A0 : Option Addr) (c0 : Nat) (l0 : List (S63)) (r : List (S63)) (w : World) (hr0 : Kd.C k63 w A0 l0.length l0) (hc0 : l0.length ≤ c0) (h : impl_Fact_61.f l0 = some r) :
  Calls Try.prog 61 #[.slice A0 l0.length c0] w fun e w' => ∃ v0_ : Value, e = .returned (v0_) ∧ Kd.R k63 63 w' w.heap.size (fun _ => True) v0_ r ∧ Below w.heap.size w w' := by
 have HR0 := aa_ hr0
 have HC0 := aa_ hc0
 clear hr0 hc0
 have hq : ∀ (w : World) (a : Option Addr) (n c n' c' : Nat), (binOp .eql 58 (.slice a n c) (.slice none n' c')).run Try.prog w = .ok (.bool a.isNone) w := fun w a n c n' c' => Lib.run_eql_slice_nil w _ _ a n c n' c' Try.underlying58
 have HB := aa_ (Below.refl w.heap.size w)
 unfold impl_Fact_61.f at h
 by_cases hl : l0.length < 5864062014805
 ·rw [if_pos hl] at h
  have LM := aa_ hl
  clear hl
  obtain rfl := Option.some.inj h
  clear h
  cases A0 with
  | none =>
   have e0 : l0 = [] := by
    rcases l0 with _ | ⟨x, xs⟩
    ·rfl
    ·obtain ⟨ad, c, e, _⟩ := Kd.C_get HR0.out x 0 (by omega) (by rw [List.length_cons]; omega)
     cases e
   subst e0
   clear HR0 HC0 LM
   go_enter Try.func61, Try.ntmps61
   go_wp2
   go_ret
   exact ⟨_, eq_, Kd.R_nil _ _ _ _ _, bl_⟩
  | some ad =>
   obtain ⟨y1, hy1⟩ : ∃ y_ : List (S63), y_ = (([] : List (S63))) := ⟨_, rfl⟩
   have Ny1 := aa_ hy1
   clear hy1
   go_enter Try.func61, Try.ntmps61
   go_wp2_with (first | ((with_reducible refine gD_ 5 rfl ?_); refine Kd.R_lit k63 _ 63 ?hg (N := 5) ?hd (xs := ([] : List (S63))) (inner := []) (ok := fun _ => True) (okp := fun _ => True) ?hr ?hp (fun _ hk => hk) trivial (Below.refl _ _) (Nat.le_refl _) (by simp) ?_; (case hd => rfl); (case hg => rfl); (case hr => first | (go_simp; done) | (go_simp; rfl)); (case hp => exact (Reps.none _ _)); intro v161 w9 ho10 hb hg_ hnew_; clear hg_ hnew_; (first | rw [← Ny1.out] at ho10 | (simp only [Int.reduceToNat] at ho10; rw [← Ny1.out] at ho10)); have HO162 := aa_ (Kd.R_lower ho10 bls_); replace HB := hbs_ hb; clear hb ho10) | ((with_reducible refine gate_builtin (b := .append) (xs := #[.tmp 5, .tmp 6]) rfl ?_); at_builtin; refine Kd.R_append_rows k63 (w0 := w) w.heap.size rfl (.tmp 5) (.tmp 6) 58 63 (.agg #[(.int .i64 0), (.int .i64 0), (.int .i64 0)]) 24 rfl Try.underlying58 info63 rfl (by decide) (by omega) v161 y1 l0 _ _ _ (fun _ => True) (fun _ => False) rfl rfl ?aO ?aR (fun _ _ h => h) (fun _ h => h.elim) ?aF ?aB ?aS ?aL ?_; (case aR => repeat (first | exact (Kd.C_below HR0.out HB.out) | (with_reducible refine Kd.C_alloc ?_ _) | (with_reducible refine Kd.C_drewN ?_ _) | (with_reducible refine Kd.C_drew ?_))); (case aB => exact bl_); (case aF => exact (fun _ _ => trivial)); (case aO => exact (rr_ HO162)); (case aS => exact bls_); (case aL => have := LM.out; rw [Ny1.out]; simp only [List.length_nil]; omega); intro v164 w11 ho hb hg hat; rw [Ny1.out, List.nil_append] at ho; replace HB := aa_ (hb); have HO165 := aa_ (ho); clear HO162; clear ho hb hg hat))
   go_ret
   exact ⟨_, eq_, by (with_reducible repeat (first | apply Kd.R_alloc | apply Kd.R_drewN | apply Kd.R_drew)); exact HO165.out, bl_⟩
 ·rw [if_neg hl] at h
  exact absurd h (by simp)
mutual
def impl_findFacts.l0 : Nat → List (S74) → List (S63) → List (S81) → Int → Option ((List (S81)))
 | 0, _, _, _, _ => none
 | k + 1, x0, x3, x4, x5 => if x5 < (x3.length : Int) then (impl_findFacts.l1 k x0 x3 x4 (x3.length : Int) x0 (x0.length : Int) 0) else (some x4)
def impl_findFacts.l1 : Nat → List (S74) → List (S63) → List (S81) → Int → List (S74) → Int → Int → Option ((List (S81)))
 | 0, _, _, _, _, _, _, _ => none
 | k + 1, x0, x3, x4, x5, x18, x19, x20 => if x20 < x19 then (if 0 ≤ x20 then (if x20 < (x18.length : Int) then ((impl_CredOk.f k ((rd_T74 x18 x20).f0) ((rd_T74 x18 x20).f1.f0) ((rd_T74 x18 x20).f1.f1) ((rd_T74 x18 x20).f2) ((rd_T74 x18 x20).f3.f0) ((rd_T74 x18 x20).f3.f1) ((rd_T74 x18 x20).f4.f0) ((rd_T74 x18 x20).f4.f1) ((rd_T74 x18 x20).f5) ((rd_T74 x18 x20).f6)).bind fun t576 => (if t576 = true then ((impl_Fact_61.f x3).bind fun t577 => ((impl_derive.f k t577 ((rd_T74 x18 x20).f0) ((rd_T74 x18 x20).f1.f0) ((rd_T74 x18 x20).f1.f1) ((rd_T74 x18 x20).f2) ((rd_T74 x18 x20).f3.f0) ((rd_T74 x18 x20).f3.f1) ((rd_T74 x18 x20).f4.f0) ((rd_T74 x18 x20).f4.f1) ((rd_T74 x18 x20).f5) ((rd_T74 x18 x20).f6)).bind fun t580 => (impl_findFacts.l2 k x0 x3 x4 x5 x20 x18 x19 x20 t580 (t580.length : Int) 0))) else (impl_findFacts.l1 k x0 x3 x4 x5 x18 x19 (wrap64 (x20 + 1))))) else (none)) else (none)) else (impl_findFacts.l0 k x0 x3 x4 x5)
def impl_findFacts.l2 : Nat → List (S74) → List (S63) → List (S81) → Int → Int → List (S74) → Int → Int → List (S91) → Int → Int → Option ((List (S81)))
 | 0, _, _, _, _, _, _, _, _, _, _, _ => none
 | k + 1, x0, x3, x4, x5, x6, x18, x19, x20, x31, x32, x33 => if x33 < x32 then (if 0 ≤ x33 then (if x33 < (x31.length : Int) then ((impl_Fact_35.f k x3 ((rd_T91 x31 x33).f0.f0.f0) ((rd_T91 x31 x33).f0.f0.f1) ((rd_T91 x31 x33).f0.f1)).bind fun t585 => (if t585 = true then (impl_findFacts.l2 k x0 x3 x4 x5 x6 x18 x19 x20 x31 x32 (wrap64 (x33 + 1))) else (if x3.length < 5864062014805 then (if x4.length < 2513169434916 then (impl_findFacts.l2 k x0 (x3 ++ [(⟨(⟨(rd_T91 x31 x33).f0.f0.f0, (rd_T91 x31 x33).f0.f0.f1⟩ : S55), (rd_T91 x31 x33).f0.f1⟩ : S63)]) (x4 ++ [(⟨(⟨(⟨(rd_T91 x31 x33).f0.f0.f0, (rd_T91 x31 x33).f0.f0.f1⟩ : S55), (rd_T91 x31 x33).f0.f1⟩ : S63), x6, (rd_T91 x31 x33).f1⟩ : S81)]) x5 x6 x18 x19 x20 x31 x32 (wrap64 (x33 + 1))) else (none)) else (none)))) else (none)) else (none)) else (impl_findFacts.l1 k x0 x3 x4 x5 x18 x19 (wrap64 (x20 + 1)))
end
def impl_findFacts.f (k : Nat) (l0 : List (S74)) : Option ((List (S81))) := impl_findFacts.l0 k l0 (([] : List (S63))) (([] : List (S81))) (-1)
set_option maxHeartbeats 8000000 in
set_option maxRecDepth 100000 in
theorem impl_findFacts.calls (k : Nat) (A0 : Option Addr) (c0 : Nat) (l0 : List (S74)) (r : List (S81)) (w : World) (hr0 : Kd.C k74 w A0 l0.length l0) (hc0 : l0.length ≤ c0) (h : impl_findFacts.f k l0 = some r) :
  Calls Try.prog 53 #[.slice A0 l0.length c0] w fun e w' => ∃ v0_ : Value, e = .returned (v0_) ∧ Kd.N k81 81 w' w.heap.size (fun k_ => (w.heap.size ≤ k_)) v0_ r ∧ Below w.heap.size w w' := by
 have hu74 := Try.underlying74
 have hu91 := Try.underlying91
 have hu63 := Try.underlying63
 have hu81 := Try.underlying81
 have HR0 := aa_ hr0
 have HC0 := aa_ hc0
 clear hr0 hc0
 have HB := aa_ (Below.refl w.heap.size w)
 have H : (impl_findFacts.l0 k l0 (([] : List (S63))) (([] : List (S81))) (-1)) = some r := h
 clear h
 obtain ⟨y568, hy568⟩ : ∃ y_ : List (S63), y_ = (([] : List (S63))) := ⟨_, rfl⟩
 replace H : (impl_findFacts.l0 k l0 y568 (([] : List (S81))) (-1)) = some r := rh_ hy568 H
 have Ny568 := aa_ hy568
 clear hy568
 obtain ⟨y571, hy571⟩ : ∃ y_ : List (S81), y_ = (([] : List (S81))) := ⟨_, rfl⟩
 replace H : (impl_findFacts.l0 k l0 y568 y571 (-1)) = some r := rh_ hy571 H
 have Ny571 := aa_ hy571
 clear hy571
 have H' := aa_ H
 clear H
 go_enter Try.func53, Try.ntmps53
 go_wp2_with (first | ((with_reducible refine gD_ 10 rfl ?_); refine Kd.R_lit k63 _ 63 ?hg (N := 10) ?hd (xs := ([] : List (S63))) (inner := []) (ok := fun _ => True) (okp := fun _ => True) ?hr ?hp (fun _ hk => hk) trivial (Below.refl _ _) (Nat.le_refl _) (by simp) ?_; (case hd => rfl); (case hg => rfl); (case hr => first | (go_simp; done) | (go_simp; rfl)); (case hp => exact (Reps.none _ _)); intro v569 w2 ho3 hb hg_ hnew_; clear hg_ hnew_; (first | rw [← Ny568.out] at ho3 | (simp only [Int.reduceToNat] at ho3; rw [← Ny568.out] at ho3)); have HO570 := aa_ (Kd.R_lower (Kd.R_newM (M := fun k_ => (w.heap.size ≤ k_)) ho3 bls_ (fun k_ h_ => h_)) bls_); replace HB := hbs_ hb; clear hb ho3) | ((with_reducible refine gD_ 11 rfl ?_); refine Kd.N_lit k81 _ 81 ?hg (N' := 11) ?hd (xs := ([] : List (S81))) (inner := []) (ok := (fun k_ => (w.heap.size ≤ k_) ∧ some k_ ≠ (v569 : Value).ownBlock)) (okp := (fun k_ => (w.heap.size ≤ k_) ∧ some k_ ≠ (v569 : Value).ownBlock)) ?hr ?hp (fun _ hk => hk) ((show ∀ k_, w2.heap.size ≤ k_ → (fun k_ => (w.heap.size ≤ k_) ∧ some k_ ≠ (v569 : Value).ownBlock) k_ from fun k_ hk => ⟨(Nat.le_trans bls_ hk), Kd.fresh' (Kd.R_lt (rr_ HO570)) k_ hk⟩) _ (Nat.le_refl _)) (Below.refl _ _) (Nat.le_refl _) (by simp) ?_; (case hd => rfl); (case hg => rfl); (case hr => first | (go_simp; done) | (go_simp; rfl)); (case hp => exact (Reps.none _ _)); intro v572 w4 ho5 hb hg_ hnew_; clear hg_ hnew_; (first | rw [← Ny571.out] at ho5 | (simp only [Int.reduceToNat] at ho5; rw [← Ny571.out] at ho5)); replace HO570 := hob_ HO570 hb; have HO573 := aa_ (Kd.N_lower ho5 bls_); replace HB := hbs_ hb; clear hb ho5))
 go_loopg [3, 4, 5] k (fun kq v3 v4 v5 w' => ∃ (x3_1 : List (S63)) (x4_1 : List (S81)) (x5_1 : Int), v5 = .int .i64 x5_1 ∧ Aside0 (impl_findFacts.l0 kq l0 x3_1 x4_1 x5_1 = some r) ∧ Aside0 (kq ≤ k) ∧ Aside0 (Kd.R k63 63 w' w.heap.size (fun k_ => (w.heap.size ≤ k_)) v3 x3_1) ∧ Aside0 (Kd.N k81 81 w' w.heap.size (fun k_ => (w.heap.size ≤ k_) ∧ some k_ ≠ (v3 : Value).ownBlock) v4 x4_1) ∧ Aside0 (Below w.heap.size w w'))
 case atStart => exact ⟨(y568), (y571), ((-1)), rf_, H', ⟨Nat.le_refl _⟩, ⟨by (with_reducible repeat (first | apply Kd.R_alloc | apply Kd.R_drewN | apply Kd.R_drew)); exact Kd.R_mono HO570.out (fun _ hk => hk.1)⟩, ⟨rn_ HO573⟩, ⟨bl_⟩⟩
 case round =>
  clear H'
  try clear p2
  try clear c5
  obtain ⟨x3_1, x4_1, x5_1, rfl, HA, HK1, HO_3, HO_4, HB⟩ := hrel
  cases gk with
  | zero => exact absurd HA.out (by simp [impl_findFacts.l0])
  | succ k1 =>
   have H := HA.out
   clear HA
   simp only [impl_findFacts.l0] at H
   by_cases c6 : x5_1 < (x3_1.length : Int)
   ·rw [if_pos c6] at H
    have c6b0 : decide (x5_1 < (x3_1.length : Int)) = true := decide_eq_true c6
    clear c6
    have H' := aa_ H
    clear H
    obtain ⟨Ao7, co7, eo7⟩ := Kd.R_slice HO_3.out
    subst eo7
    go_wp2
    go_loopg [3, 4, 20] k1 (fun kq v3 v4 v20 w' => ∃ (x3_2 : List (S63)) (x4_2 : List (S81)) (x20_2 : Int), v20 = .int .i64 x20_2 ∧ Aside0 (impl_findFacts.l1 kq l0 x3_2 x4_2 (x3_1.length : Int) l0 (l0.length : Int) x20_2 = some r) ∧ Aside0 (kq ≤ k1) ∧ Aside0 (Kd.R k63 63 w' w.heap.size (fun k_ => (w.heap.size ≤ k_)) v3 x3_2) ∧ Aside0 (Kd.N k81 81 w' w.heap.size (fun k_ => (w.heap.size ≤ k_) ∧ some k_ ≠ (v3 : Value).ownBlock) v4 x4_2) ∧ Aside0 (Below w.heap.size w w'))
    case atStart => exact ⟨(x3_1), (x4_1), (0), rf_, H', ⟨Nat.le_refl _⟩, ⟨rr_ HO_3⟩, ⟨rn_ HO_4⟩, ⟨bl_⟩⟩
    case round =>
     clear H'
     try clear p2
     try clear c5
     try clear c6
     try clear c6b0
     try clear p2
     obtain ⟨x3_2, x4_2, x20_2, rfl, HA, HK2, HO_3, HO_4, HB⟩ := hrel
     cases gk with
     | zero => exact absurd HA.out (by simp [impl_findFacts.l1])
     | succ k2 =>
      have H := HA.out
      clear HA
      simp only [impl_findFacts.l1] at H
      by_cases c8 : x20_2 < (l0.length : Int)
      ·rw [if_pos c8] at H
       have c8b0 : decide (x20_2 < (l0.length : Int)) = true := decide_eq_true c8
       clear c8
       obtain ⟨c9b0, H⟩ := ifd_ H
       obtain ⟨c10b0, H⟩ := ifd_ H
       obtain ⟨t576, A11, H⟩ := bindE_ H
       have HC12 := aa_ H
       clear H
       have p574 : 0 ≤ (x20_2 : Int) := od_
       have q574 : x20_2 < (l0.length : Int) := od_
       obtain ⟨ad574, e574, hx574_0, hx574_1, hx574_2, hx574_3, hx574_4, hx574_5, hx574_6, hx574_7, hx574_8, hx574_9⟩ := at_T74 (Kd.C_below HR0.out HB.out) x20_2 p574 q574
       cases e574
       replace p574 := eq_true p574
       replace q574 := eq_true q574
       go_upto_if 27 with (first | ((with_reducible refine gD_ 7 rfl ?_); refine bx_ (N := 7) (cs := #[.int .i64 0, .int .i64 0, .int .i64 0, .int .i64 0, .int .i64 0, .int .i64 0, .int .i64 0, .int .i64 0, .int .i64 0, .int .i64 0]) (t := 74) ?_; intro gb575 hg w13 hbox hb; replace HO_3 := hob_ HO_3 hb; replace HO_4 := aa_ (Kd.N_below (Kd.N_elderB (rn_ HO_4) gb575 (Nat.le_of_eq hg.symm)) hb); have BK575 := aa_ (hbox); have GW575 := gs_ hg; have GE575 := gs_ hg; replace HB := hbs_ hb; clear hb hbox hg; obtain ⟨hcz14, hfz14⟩ := bcf_ BK575) | ((with_reducible refine gC_ 59 rfl ?_); refine goesC_ (some 26) Try.func59 #[.agg #[.int .i64 ((rd_T74 l0 x20_2).f0), .int .i64 ((rd_T74 l0 x20_2).f1.f0), .int .i64 ((rd_T74 l0 x20_2).f1.f1), .int .i64 ((rd_T74 l0 x20_2).f2), .int .i64 ((rd_T74 l0 x20_2).f3.f0), .int .i64 ((rd_T74 l0 x20_2).f3.f1), .int .i64 ((rd_T74 l0 x20_2).f4.f0), .int .i64 ((rd_T74 l0 x20_2).f4.f1), .int .i64 ((rd_T74 l0 x20_2).f5), .int .i64 ((rd_T74 l0 x20_2).f6)]] ?_; (with_reducible refine (impl_CredOk.calls k2 ((rd_T74 l0 x20_2).f0) ((rd_T74 l0 x20_2).f1.f0) ((rd_T74 l0 x20_2).f1.f1) ((rd_T74 l0 x20_2).f2) ((rd_T74 l0 x20_2).f3.f0) ((rd_T74 l0 x20_2).f3.f1) ((rd_T74 l0 x20_2).f4.f0) ((rd_T74 l0 x20_2).f4.f1) ((rd_T74 l0 x20_2).f5) ((rd_T74 l0 x20_2).f6) t576 _ A11.out).mono ?_); rintro e w15 ⟨rfl, hb⟩; refine ⟨_, rfl, ?_⟩; replace HO_3 := aa_ (Kd.R_below (by (with_reducible repeat (first | apply Kd.R_alloc | apply Kd.R_drewN | apply Kd.R_drew)); exact (Kd.R_mono (fr10_ (Kd.R_types HO_3.out BK575.out (by decide)) (fun _ hk => hk.2)) (fun _ h_ => h_.1))) hb); replace HO_4 := aa_ (Kd.N_below (by (with_reducible repeat (first | apply Kd.N_alloc | apply Kd.N_drewN | apply Kd.N_drew)); exact (Kd.N_mono (fn10_ (Kd.N_mono HO_4.out (fun k_ hk => (⟨hk, hk.2⟩ : _ ∧ k_ ≠ gb575))) (fun _ hk => hk.2)) (fun _ h_ => h_.1))) hb); replace BK575 := aa_ (blk_below (g := gb575) (o := .cells #[.int .i64 ((rd_T74 l0 x20_2).f0), .int .i64 ((rd_T74 l0 x20_2).f1.f0), .int .i64 ((rd_T74 l0 x20_2).f1.f1), .int .i64 ((rd_T74 l0 x20_2).f2), .int .i64 ((rd_T74 l0 x20_2).f3.f0), .int .i64 ((rd_T74 l0 x20_2).f3.f1), .int .i64 ((rd_T74 l0 x20_2).f4.f0), .int .i64 ((rd_T74 l0 x20_2).f4.f1), .int .i64 ((rd_T74 l0 x20_2).f5), .int .i64 ((rd_T74 l0 x20_2).f6)] 74 (0, 0)) (bk_ BK575) hb); replace HB := hbs_ hb; clear hb))
       (try simp only [Act.put, List.setIfInBounds_toArray, List.set_cons_zero, List.set_cons_succ])
       have H := HC12.out
       clear HC12
       by_cases c16 : t576 = true
       ·subst c16
        replace H := ite_t_ H
        obtain ⟨t577, A17, H⟩ := bindE_ H
        obtain ⟨t580, A18, H⟩ := bindE_ H
        have H' := aa_ H
        clear H
        try go_wp2
        replace HO_3 := aa_ (Kd.R_drew HO_3.out)
        replace HO_4 := aa_ (Kd.N_drew HO_4.out)
        replace BK575 := aa_ (blk_drew BK575.out)
        replace HB := aa_ (below_drew1 HB.out)
        obtain ⟨Ao20, co20, eo20⟩ := Kd.R_slice HO_3.out
        (first | subst eo20 | (injection eo20 with f1_ f2_ f3_; have f4_ := f1_.symm; have f5_ := f3_.symm; clear f1_ f2_ f3_; subst f4_; subst f5_))
        refine start_ (n := 6) (S := fun w' => w'.cell? ⟨gb575, 0, none⟩ = some (.int .i64 ((rd_T74 l0 x20_2).f0)) ∧ w'.cell? ⟨gb575, 1, none⟩ = some (.int .i64 ((rd_T74 l0 x20_2).f1.f0)) ∧ w'.cell? ⟨gb575, 2, none⟩ = some (.int .i64 ((rd_T74 l0 x20_2).f1.f1)) ∧ w'.cell? ⟨gb575, 3, none⟩ = some (.int .i64 ((rd_T74 l0 x20_2).f2)) ∧ w'.cell? ⟨gb575, 4, none⟩ = some (.int .i64 ((rd_T74 l0 x20_2).f3.f0)) ∧ w'.cell? ⟨gb575, 5, none⟩ = some (.int .i64 ((rd_T74 l0 x20_2).f3.f1)) ∧ w'.cell? ⟨gb575, 6, none⟩ = some (.int .i64 ((rd_T74 l0 x20_2).f4.f0)) ∧ w'.cell? ⟨gb575, 7, none⟩ = some (.int .i64 ((rd_T74 l0 x20_2).f4.f1)) ∧ w'.cell? ⟨gb575, 8, none⟩ = some (.int .i64 ((rd_T74 l0 x20_2).f5)) ∧ w'.cell? ⟨gb575, 9, none⟩ = some (.int .i64 ((rd_T74 l0 x20_2).f6))) (ds := []) (ba_ 6 0) (by kernel_rfl) rfl rfl ⟨(blk_cell BK575.out 0).trans rfl, (blk_cell BK575.out 1).trans rfl, (blk_cell BK575.out 2).trans rfl, (blk_cell BK575.out 3).trans rfl, (blk_cell BK575.out 4).trans rfl, (blk_cell BK575.out 5).trans rfl, (blk_cell BK575.out 6).trans rfl, (blk_cell BK575.out 7).trans rfl, (blk_cell BK575.out 8).trans rfl, (blk_cell BK575.out 9).trans rfl⟩ (fun hHeld => ?_)
        generalize w15.drew = w19 at HO_3 HO_4 BK575 HB hHeld ⊢
        refine pure_ (i := 0) (N := some 28) (v := ?_) (a' := ?_) (ba_ 6 1) rfl rfl (by kernel_rfl) (fun _ _ _ h => h) (Or.inl ⟨by rfl, ?_⟩) ?_ ?_
        rotate_left
        ·intro w'
         go_simp
         with_reducible rfl
        rotate_left
        ·simp only [Act.put, List.setIfInBounds_toArray, List.set_cons_zero, List.set_cons_succ, i64_w, i32_w]
         rfl
        refine pure_ (i := 5) (N := some 33) (v := ?_) (a' := ?_) (ba_ 6 33) rfl rfl (by kernel_rfl) (fun _ _ _ h => h) (Or.inl ⟨by rfl, ?_⟩) ?_ ?_
        rotate_left
        ·intro w'
         go_simp
         with_reducible rfl
        rotate_left
        ·simp only [Act.put, List.setIfInBounds_toArray, List.set_cons_zero, List.set_cons_succ, i64_w, i32_w]
         rfl
        refine take_ (i := 2) (N := some 30) (v := ?_) (a' := ?_) (ba_ 6 37) rfl rfl (by kernel_rfl) (fun _ _ _ h => h) (Or.inl ⟨by rfl, ?_⟩) hHeld ?_ ?_
        rotate_left
        ·rintro w' ⟨s0, s1, s2, s3, s4, s5, s6, s7, s8, s9⟩
         go_simp
         with_reducible rfl
        rotate_left
        ·simp only [Act.put, List.setIfInBounds_toArray, List.set_cons_zero, List.set_cons_succ, i64_w, i32_w]
         rfl
        refine one_ (i := 1) (N := some 29) (ba_ 6 39) rfl rfl (by kernel_rfl) (by decide) (fun K hK => ?_)
        refine goes_ Try.func61 (by kernel_rfl) rfl #[.slice Ao20 x3_2.length co20] (by rfl) rfl rfl (by (try simp only [List.map_toArray, List.map_cons, List.map_nil]); first | done | rfl | (simp only [List.length_drop, List.length_take]; rfl)) ?_
        with_reducible refine (impl_Fact_61.calls _ _ x3_2 t577 _ ?side1 ?side2 A17.out).mono ?_
        (case side1 => repeat (first | exact (Kd.R_reads' HO_3.out).2.2 | (with_reducible refine Kd.C_alloc ?_ _) | (with_reducible refine Kd.C_drewN ?_ _) | (with_reducible refine Kd.C_drew ?_)))
        (case side2 => exact (Kd.R_reads' HO_3.out).2.1)
        rintro e w21 ⟨v578, rfl, ho0, hb⟩
        refine ⟨_, rfl, ?_⟩
        replace HO_4 := aa_ (Kd.N_elder' (rn_ HO_4) (Kd.R_base ho0) hb)
        have HO579 := aa_ (Kd.R_lower (Kd.R_new' (Kd.R_newM (M := fun k_ => (w.heap.size ≤ k_)) ho0 bls_ (fun k_ h_ => h_)) (Kd.R_lt (rr_ HO_3))) bls_)
        replace HO_3 := aa_ (Kd.R_elder' (rr_ HO_3) (Kd.R_base ho0) hb)
        replace BK575 := bkb_ BK575 hb
        replace HB := hbs_ hb
        (try clear hb)
        (try clear hb2)
        (try clear hk)
        (try clear hi)
        (try clear ho0)
        obtain ⟨Ao22, co22, eo22⟩ := Kd.R_slice HO579.out
        (first | subst eo22 | (injection eo22 with f1_ f2_ f3_; have f4_ := f1_.symm; have f5_ := f3_.symm; clear f1_ f2_ f3_; subst f4_; subst f5_))
        refine hK.out _ _ ⟨(blk_cell BK575.out 0).trans rfl, (blk_cell BK575.out 1).trans rfl, (blk_cell BK575.out 2).trans rfl, (blk_cell BK575.out 3).trans rfl, (blk_cell BK575.out 4).trans rfl, (blk_cell BK575.out 5).trans rfl, (blk_cell BK575.out 6).trans rfl, (blk_cell BK575.out 7).trans rfl, (blk_cell BK575.out 8).trans rfl, (blk_cell BK575.out 9).trans rfl⟩ (fun hHeld => ?_)
        clear hK K
        refine norm_ (a' := ?_) ?_ ?_
        rotate_left
        ·show Act.put _ (some 29) _ = _
         simp only [Act.put, List.setIfInBounds_toArray, List.set_cons_zero, List.set_cons_succ, i64_w, i32_w]
         rfl
        refine one_ (i := 3) (N := some 31) (ba_ 6 47) rfl rfl (by kernel_rfl) (by decide) (fun K hK => ?_)
        refine goes_ Try.func60 (by kernel_rfl) rfl #[.slice Ao22 t577.length co22, .agg #[.int .i64 ((rd_T74 l0 x20_2).f0), .int .i64 ((rd_T74 l0 x20_2).f1.f0), .int .i64 ((rd_T74 l0 x20_2).f1.f1), .int .i64 ((rd_T74 l0 x20_2).f2), .int .i64 ((rd_T74 l0 x20_2).f3.f0), .int .i64 ((rd_T74 l0 x20_2).f3.f1), .int .i64 ((rd_T74 l0 x20_2).f4.f0), .int .i64 ((rd_T74 l0 x20_2).f4.f1), .int .i64 ((rd_T74 l0 x20_2).f5), .int .i64 ((rd_T74 l0 x20_2).f6)]] (by rfl) rfl rfl (by (try simp only [List.map_toArray, List.map_cons, List.map_nil]); first | done | rfl | (simp only [List.length_drop, List.length_take]; rfl)) ?_
        with_reducible refine (impl_derive.calls k2 _ _ t577 ((rd_T74 l0 x20_2).f0) ((rd_T74 l0 x20_2).f1.f0) ((rd_T74 l0 x20_2).f1.f1) ((rd_T74 l0 x20_2).f2) ((rd_T74 l0 x20_2).f3.f0) ((rd_T74 l0 x20_2).f3.f1) ((rd_T74 l0 x20_2).f4.f0) ((rd_T74 l0 x20_2).f4.f1) ((rd_T74 l0 x20_2).f5) ((rd_T74 l0 x20_2).f6) t580 _ ?side1 ?side2 A18.out).mono ?_
        (case side1 => repeat (first | exact (Kd.R_reads' HO579.out).2.2 | (with_reducible refine Kd.C_alloc ?_ _) | (with_reducible refine Kd.C_drewN ?_ _) | (with_reducible refine Kd.C_drew ?_)))
        (case side2 => exact (Kd.R_reads' HO579.out).2.1)
        rintro e w23 ⟨v581, rfl, ho0, hb⟩
        refine ⟨_, rfl, ?_⟩
        have HO582 := aa_ (Kd.N_lower (Kd.N_mono (ok' := fun k_ => (w.heap.size ≤ k_) ∧ some k_ ≠ (.slice Ao20 x3_2.length co20 : Value).ownBlock ∧ some k_ ≠ (u4 : Value).ownBlock ∧ some k_ ≠ (.slice Ao22 t577.length co22 : Value).ownBlock ∧ k_ ≠ gb575) (Kd.S_N (Kd.S_bound ho0)) (fun k_ hk_ => ⟨(Nat.le_trans bls_ hk_.2.1), (Kd.fresh' (Kd.R_lt (rr_ HO_3)) k_ hk_.2.1), (Kd.fresh' (Kd.N_lt (rn_ HO_4)) k_ hk_.2.1), (Kd.fresh' (Kd.R_lt (rr_ HO579)) k_ hk_.2.1), (Kd.freshB (g := gb575) (o := .cells #[.int .i64 ((rd_T74 l0 x20_2).f0), .int .i64 ((rd_T74 l0 x20_2).f1.f0), .int .i64 ((rd_T74 l0 x20_2).f1.f1), .int .i64 ((rd_T74 l0 x20_2).f2), .int .i64 ((rd_T74 l0 x20_2).f3.f0), .int .i64 ((rd_T74 l0 x20_2).f3.f1), .int .i64 ((rd_T74 l0 x20_2).f4.f0), .int .i64 ((rd_T74 l0 x20_2).f4.f1), .int .i64 ((rd_T74 l0 x20_2).f5), .int .i64 ((rd_T74 l0 x20_2).f6)] 74 (0, 0)) (bk_ BK575) k_ hk_.2.1)⟩)) bls_)
        replace HO_3 := hob_ HO_3 hb
        replace HO_4 := aa_ (Kd.N_elder' (rn_ HO_4) (Kd.S_base ho0) hb)
        replace HO579 := hob_ HO579 hb
        replace BK575 := bkb_ BK575 hb
        replace HB := hbs_ hb
        (try clear hb)
        (try clear hb2)
        (try clear hk)
        (try clear hi)
        (try clear ho0)
        obtain ⟨Ao24, co24, eo24⟩ := Kd.N_slice HO582.out
        (first | subst eo24 | (injection eo24 with f1_ f2_ f3_; have f4_ := f1_.symm; have f5_ := f3_.symm; clear f1_ f2_ f3_; subst f4_; subst f5_))
        refine hK.out _ _ ⟨(blk_cell BK575.out 0).trans rfl, (blk_cell BK575.out 1).trans rfl, (blk_cell BK575.out 2).trans rfl, (blk_cell BK575.out 3).trans rfl, (blk_cell BK575.out 4).trans rfl, (blk_cell BK575.out 5).trans rfl, (blk_cell BK575.out 6).trans rfl, (blk_cell BK575.out 7).trans rfl, (blk_cell BK575.out 8).trans rfl, (blk_cell BK575.out 9).trans rfl⟩ (fun hHeld => ?_)
        clear hK K
        refine norm_ (a' := ?_) ?_ ?_
        rotate_left
        ·show Act.put _ (some 31) _ = _
         simp only [Act.put, List.setIfInBounds_toArray, List.set_cons_zero, List.set_cons_succ, i64_w, i32_w]
         rfl
        refine pure_ (i := 4) (N := some 32) (v := ?_) (a' := ?_) (ba_ 6 63) rfl rfl (by kernel_rfl) (fun _ _ _ h => h) (Or.inl ⟨by rfl, ?_⟩) ?_ ?_
        rotate_left
        ·intro w'
         go_simp
         with_reducible rfl
        rotate_left
        ·simp only [Act.put, List.setIfInBounds_toArray, List.set_cons_zero, List.set_cons_succ, i64_w, i32_w]
         rfl
        refine done_ (by kernel_rfl) ?_
        try go_wp2
        go_loopg [3, 4, 33] k2 (fun kq v3 v4 v33 w' => ∃ (x3_3 : List (S63)) (x4_3 : List (S81)) (x33_3 : Int), v33 = .int .i64 x33_3 ∧ Aside0 (impl_findFacts.l2 kq l0 x3_3 x4_3 (x3_1.length : Int) x20_2 l0 (l0.length : Int) x20_2 t580 (t580.length : Int) x33_3 = some r) ∧ Aside0 (kq ≤ k2) ∧ Aside0 (Kd.R k63 63 w' w.heap.size (fun k_ => (w.heap.size ≤ k_)) v3 x3_3) ∧ Aside0 (Kd.N k81 81 w' w.heap.size (fun k_ => (w.heap.size ≤ k_) ∧ some k_ ≠ (v3 : Value).ownBlock ∧ some k_ ≠ ((.slice Ao24 t580.length co24) : Value).ownBlock ∧ k_ ≠ gb575) v4 x4_3) ∧ Aside0 (Kd.N k91 91 w' w.heap.size (fun k_ => (w.heap.size ≤ k_) ∧ some k_ ≠ (v3 : Value).ownBlock ∧ some k_ ≠ (v4 : Value).ownBlock ∧ k_ ≠ gb575) (.slice Ao24 t580.length co24) t580) ∧ Aside0 (w'.heap[gb575]? = some (.cells #[.int .i64 ((rd_T74 l0 x20_2).f0), .int .i64 ((rd_T74 l0 x20_2).f1.f0), .int .i64 ((rd_T74 l0 x20_2).f1.f1), .int .i64 ((rd_T74 l0 x20_2).f2), .int .i64 ((rd_T74 l0 x20_2).f3.f0), .int .i64 ((rd_T74 l0 x20_2).f3.f1), .int .i64 ((rd_T74 l0 x20_2).f4.f0), .int .i64 ((rd_T74 l0 x20_2).f4.f1), .int .i64 ((rd_T74 l0 x20_2).f5), .int .i64 ((rd_T74 l0 x20_2).f6)] 74 (0, 0))) ∧ Aside0 (Below w.heap.size w w'))
        case atStart => exact ⟨(x3_2), (x4_2), (0), rf_, H', ⟨Nat.le_refl _⟩, ⟨by (with_reducible repeat (first | apply Kd.R_alloc | apply Kd.R_drewN | apply Kd.R_drew)); exact Kd.R_mono HO_3.out (fun _ hk => hk.1)⟩, ⟨by (with_reducible repeat (first | apply Kd.N_alloc | apply Kd.N_drewN | apply Kd.N_drew)); exact Kd.N_mono HO_4.out (fun _ hk => ⟨hk.1.1.1.1, ⟨hk.1.1.1.2, ⟨hk.2, hk.1.1.2⟩⟩⟩)⟩, ⟨by (with_reducible repeat (first | apply Kd.N_alloc | apply Kd.N_drewN | apply Kd.N_drew)); exact Kd.N_mono HO582.out (fun _ hk => ⟨hk.1, ⟨hk.2.1, ⟨hk.2.2.1, hk.2.2.2.2⟩⟩⟩)⟩, ⟨bk_ BK575⟩, ⟨bl_⟩⟩
        case round =>
         clear H'
         try clear c1
         try clear p2
         try clear c5
         try clear p5
         try clear q5
         try clear hx5
         try clear c6
         try clear c6b0
         try clear c8
         try clear c8b0
         try clear c9
         try clear c9b0
         try clear c10
         try clear c10b0
         try clear c16
         try clear hcz14
         try clear hfz14
         try clear hx574_0
         try clear hx574_1
         try clear hx574_2
         try clear hx574_3
         try clear hx574_4
         try clear hx574_5
         try clear hx574_6
         try clear hx574_7
         try clear hx574_8
         try clear hx574_9
         try clear p2
         try clear p574
         try clear q574
         obtain ⟨x3_3, x4_3, x33_3, rfl, HA, HK3, HO_3, HO_4, HO_31, BK575, HB⟩ := hrel
         cases gk with
         | zero => exact absurd HA.out (by simp [impl_findFacts.l2])
         | succ k3 =>
          have H := HA.out
          clear HA
          simp only [impl_findFacts.l2] at H
          by_cases c25 : x33_3 < (t580.length : Int)
          ·rw [if_pos c25] at H
           have c25b0 : decide (x33_3 < (t580.length : Int)) = true := decide_eq_true c25
           clear c25
           (first | rw [c25b0] | (simp only [i64_w, i32_w]; rw [c25b0]) | (have cz_ := c25b0; simp only [Int.ofNat_lt, Int.ofNat_le, gt_iff_lt, ge_iff_le] at cz_; rw [cz_]; clear cz_) | skip)
           obtain ⟨c26b0, H⟩ := ifd_ H
           obtain ⟨c27b0, H⟩ := ifd_ H
           obtain ⟨t585, A28, H⟩ := bindE_ H
           have HC29 := aa_ H
           clear H
           have p583 : 0 ≤ (x33_3 : Int) := od_
           have q583 : x33_3 < (t580.length : Int) := od_
           obtain ⟨ad583, A583_3, c583_3, e583, hx583_0, hx583_1, hx583_2, hx583_3, hl583_3, hi583_3⟩ := at_T91 (Kd.N_reads' HO_31.out).2.2 x33_3 p583 q583
           cases e583
           obtain ⟨ce583, hce583, hMe583, hcc583⟩ := Kd.N_get HO_31.out z91 x33_3 p583 (by first | exact q583 | exact od_ | (have e_ := (Kd.N_reads' HO_31.out).1; omega))
           obtain ⟨ua583_3, uc583_3, rfl, ul583_3, ge583_3⟩ := k91_openF hMe583
           have hv583_3 := hcc583 3 _ rfl
           rw [add_field _ _ 3 (by omega)] at hv583_3
           replace hv583_3 := Option.some.inj (hv583_3.symm.trans hx583_3)
           injection hv583_3 with hva_ hvn_ hvc_
           rw [hva_] at ge583_3
           rw [hvc_] at ul583_3
           have HL583_3 := aa_ (show Kd.V (Kd.int .i64) 3 _ w.heap.size _ _ ((rd_T91 t580 x33_3).f1) from Kd.V_mk ul583_3 ge583_3)
           clear hva_ hvn_ hvc_ ge583_3 ul583_3
           clear hcc583 hce583
           have HR583_3 := aa_ hi583_3
           have HC583_3 := aa_ hl583_3
           clear hi583_3 hl583_3
           replace p583 := eq_true p583
           replace q583 := eq_true q583
           go_upto_if 41 with (first | ((with_reducible refine gD_ 9 rfl ?_); refine bx_ (N := 9) (cs := #[.int .i64 0, .int .i64 0, .int .i64 0, .slice none 0 0]) (t := 91) ?_; intro gb584 hg w30 hbox hb; replace HO_3 := hob_ HO_3 hb; replace HO_4 := aa_ (Kd.N_below (Kd.N_elderB (rn_ HO_4) gb584 (Nat.le_of_eq hg.symm)) hb); replace HO_31 := aa_ (Kd.N_below (Kd.N_elderB (rn_ HO_31) gb584 (Nat.le_of_eq hg.symm)) hb); replace HL583_3 := aa_ (Kd.V_below (Kd.V_elderB (rv_ HL583_3) gb584 (Nat.le_of_eq hg.symm)) hb); replace HR583_3 := aa_ (Kd.C_below (by repeat (first | (with_reducible exact HR583_3.out) | (with_reducible refine Kd.C_alloc ?_ _) | (with_reducible refine Kd.C_drewN ?_ _) | (with_reducible refine Kd.C_drew ?_) | exact HR583_3.out)) hb); have BK584 := aa_ (hbox); have GW584 := gs_ hg; have GE584 := gs_ hg; replace HB := hbs_ hb; have NB575_584 := nl_ hg BK575; have NB584_575 := nr_ hg BK575; replace BK575 := bkb_ BK575 hb; clear hb hbox hg; have hnb31 := NB584_575.out; have hnc31 := NB575_584.out; obtain ⟨hcz32, hfz32⟩ := bcf_ BK584; obtain ⟨Ao33, co33, eo33⟩ := Kd.R_slice HO_3.out; subst eo33) | ((with_reducible refine gC_ 35 rfl ?_); refine goesC_ (some 40) Try.func35 #[.slice Ao33 x3_3.length co33, .agg #[.int .i64 ((rd_T91 t580 x33_3).f0.f0.f0), .int .i64 ((rd_T91 t580 x33_3).f0.f0.f1), .int .i64 ((rd_T91 t580 x33_3).f0.f1)]] ?_; (with_reducible refine (impl_Fact_35.calls k3 _ _ x3_3 ((rd_T91 t580 x33_3).f0.f0.f0) ((rd_T91 t580 x33_3).f0.f0.f1) ((rd_T91 t580 x33_3).f0.f1) t585 _ ?side1 ?side2 A28.out).mono ?_); (case side1 => refine (Kd.R_reads' (e := 63) (base := w.heap.size) (ok := fun k_ => (w.heap.size ≤ k_)) (n := x3_3.length) (c := co33) ?_).2.2; exact (by (with_reducible repeat (first | apply Kd.R_alloc | apply Kd.R_drewN | apply Kd.R_drew)); exact (Kd.R_mono (fr4_ (Kd.R_types HO_3.out BK584.out (by decide)) (fun _ hk => hk.2)) (fun _ h_ => h_.1)))); (case side2 => exact (Kd.R_reads' HO_3.out).2.1); rintro e w34 ⟨rfl, hb⟩; refine ⟨_, rfl, ?_⟩; replace HO_3 := aa_ (Kd.R_below (by (with_reducible repeat (first | apply Kd.R_alloc | apply Kd.R_drewN | apply Kd.R_drew)); exact (Kd.R_mono (fr4_ (Kd.R_types HO_3.out BK584.out (by decide)) (fun _ hk => hk.2)) (fun _ h_ => h_.1))) hb); replace HO_4 := aa_ (Kd.N_below (by (with_reducible repeat (first | apply Kd.N_alloc | apply Kd.N_drewN | apply Kd.N_drew)); exact (Kd.N_mono (fn4_ (Kd.N_mono HO_4.out (fun k_ hk => (⟨hk, hk.2⟩ : _ ∧ k_ ≠ gb584))) (fun _ hk => hk.2)) (fun _ h_ => h_.1))) hb); replace HO_31 := aa_ (Kd.N_below (by (with_reducible repeat (first | apply Kd.N_alloc | apply Kd.N_drewN | apply Kd.N_drew)); exact (Kd.N_mono (fn4_ (Kd.N_mono HO_31.out (fun k_ hk => (⟨hk, hk.2⟩ : _ ∧ k_ ≠ gb584))) (fun _ hk => hk.2)) (fun _ h_ => h_.1))) hb); replace BK575 := aa_ (blk_below (g := gb575) (o := .cells #[.int .i64 ((rd_T74 l0 x20_2).f0), .int .i64 ((rd_T74 l0 x20_2).f1.f0), .int .i64 ((rd_T74 l0 x20_2).f1.f1), .int .i64 ((rd_T74 l0 x20_2).f2), .int .i64 ((rd_T74 l0 x20_2).f3.f0), .int .i64 ((rd_T74 l0 x20_2).f3.f1), .int .i64 ((rd_T74 l0 x20_2).f4.f0), .int .i64 ((rd_T74 l0 x20_2).f4.f1), .int .i64 ((rd_T74 l0 x20_2).f5), .int .i64 ((rd_T74 l0 x20_2).f6)] 74 (0, 0)) (bk_ BK575) hb); replace HR583_3 := aa_ (Kd.C_below ((Kd.V_reads' (by (with_reducible repeat (first | apply Kd.V_alloc | apply Kd.V_drewN | apply Kd.V_drew)); exact (Kd.V_mono (Kd.V_far (p := ⟨gb584, 3, none⟩) (Kd.V_far (p := ⟨gb584, 2, none⟩) (Kd.V_far (p := ⟨gb584, 1, none⟩) (Kd.V_far (p := ⟨gb584, 0, none⟩) (Kd.V_mono HL583_3.out (fun k_ hk => (⟨hk, hk.2⟩ : _ ∧ k_ ≠ gb584))) (fun _ hk => hk.2) (.int .i64 ((rd_T91 t580 x33_3).f0.f0.f0))) (fun _ hk => hk.2) (.int .i64 ((rd_T91 t580 x33_3).f0.f0.f1))) (fun _ hk => hk.2) (.int .i64 ((rd_T91 t580 x33_3).f0.f1))) (fun _ hk => hk.2) (.slice A583_3 ((rd_T91 t580 x33_3).f1).length c583_3)) (fun _ h_ => h_.1)))).2.2) hb); replace HL583_3 := aa_ (Kd.V_below (by (with_reducible repeat (first | apply Kd.V_alloc | apply Kd.V_drewN | apply Kd.V_drew)); exact (Kd.V_mono (Kd.V_far (p := ⟨gb584, 3, none⟩) (Kd.V_far (p := ⟨gb584, 2, none⟩) (Kd.V_far (p := ⟨gb584, 1, none⟩) (Kd.V_far (p := ⟨gb584, 0, none⟩) (Kd.V_mono HL583_3.out (fun k_ hk => (⟨hk, hk.2⟩ : _ ∧ k_ ≠ gb584))) (fun _ hk => hk.2) (.int .i64 ((rd_T91 t580 x33_3).f0.f0.f0))) (fun _ hk => hk.2) (.int .i64 ((rd_T91 t580 x33_3).f0.f0.f1))) (fun _ hk => hk.2) (.int .i64 ((rd_T91 t580 x33_3).f0.f1))) (fun _ hk => hk.2) (.slice A583_3 ((rd_T91 t580 x33_3).f1).length c583_3)) (fun _ h_ => h_.1))) hb); replace BK584 := aa_ (blk_below (g := gb584) (o := .cells #[.int .i64 ((rd_T91 t580 x33_3).f0.f0.f0), .int .i64 ((rd_T91 t580 x33_3).f0.f0.f1), .int .i64 ((rd_T91 t580 x33_3).f0.f1), .slice A583_3 ((rd_T91 t580 x33_3).f1).length c583_3] 91 (0, 0)) (bk_ BK584) hb); replace HB := hbs_ hb; clear hb))
           (try simp only [Act.put, List.setIfInBounds_toArray, List.set_cons_zero, List.set_cons_succ])
           have H := HC29.out
           clear HC29
           by_cases c35 : t585 = true
           ·subst c35
            replace H := ite_t_ H
            have H' := aa_ H
            clear H
            go_wp2
            go_roundg k3
            case measure => have := HK1.out; have := HK2.out; have := HK3.out; omega
            case rel => exact ⟨(x3_3), (x4_3), (wrap64 (x33_3 + 1)), rf_, H', ⟨by have := HK1.out; have := HK2.out; have := HK3.out; omega⟩, ⟨rr_ HO_3⟩, ⟨by (with_reducible repeat (first | apply Kd.N_alloc | apply Kd.N_drewN | apply Kd.N_drew)); exact Kd.N_mono HO_4.out (fun _ hk => ⟨hk.1.1, ⟨hk.1.2.1, ⟨hk.1.2.2.1, hk.1.2.2.2⟩⟩⟩)⟩, ⟨by (with_reducible repeat (first | apply Kd.N_alloc | apply Kd.N_drewN | apply Kd.N_drew)); exact Kd.N_mono HO_31.out (fun _ hk => ⟨hk.1.1, ⟨hk.1.2.1, ⟨hk.1.2.2.1, hk.1.2.2.2⟩⟩⟩)⟩, ⟨bk_ BK575⟩, ⟨bl_⟩⟩
           ·replace c35 := Bool.eq_false_iff.mpr c35
            subst c35
            replace H := ite_f_ H
            obtain ⟨c36, H⟩ := ifn_ H
            have LMc36 := aa_ c36
            clear c36
            obtain ⟨y586, hy586⟩ : ∃ y_ : List (S63), y_ = (x3_3 ++ [(⟨(⟨(rd_T91 t580 x33_3).f0.f0.f0, (rd_T91 t580 x33_3).f0.f0.f1⟩ : S55), (rd_T91 t580 x33_3).f0.f1⟩ : S63)]) := ⟨_, rfl⟩
            replace H : (if x4_3.length < 2513169434916 then (impl_findFacts.l2 k3 l0 y586 (x4_3 ++ [(⟨(⟨(⟨(rd_T91 t580 x33_3).f0.f0.f0, (rd_T91 t580 x33_3).f0.f0.f1⟩ : S55), (rd_T91 t580 x33_3).f0.f1⟩ : S63), x20_2, (rd_T91 t580 x33_3).f1⟩ : S81)]) (x3_1.length : Int) x20_2 l0 (l0.length : Int) x20_2 t580 (t580.length : Int) (wrap64 (x33_3 + 1))) else (none)) = some r := rh_ hy586 H
            have Ny586 := aa_ hy586
            clear hy586
            obtain ⟨c37, H⟩ := ifn_ H
            have LMc37 := aa_ c37
            clear c37
            obtain ⟨y589, hy589⟩ : ∃ y_ : List (S81), y_ = (x4_3 ++ [(⟨(⟨(⟨(rd_T91 t580 x33_3).f0.f0.f0, (rd_T91 t580 x33_3).f0.f0.f1⟩ : S55), (rd_T91 t580 x33_3).f0.f1⟩ : S63), x20_2, (rd_T91 t580 x33_3).f1⟩ : S81)]) := ⟨_, rfl⟩
            replace H : (impl_findFacts.l2 k3 l0 y586 y589 (x3_1.length : Int) x20_2 l0 (l0.length : Int) x20_2 t580 (t580.length : Int) (wrap64 (x33_3 + 1))) = some r := rh_ hy589 H
            have Ny589 := aa_ hy589
            clear hy589
            have H' := aa_ H
            clear H
            have hnb38 := NB584_575.out
            have hnc38 := NB575_584.out
            have hcz39 := blk_cell BK584.out
            have hfz39 := blk_frozen BK584.out
            go_wp2_with (first | ((with_reducible refine gate_builtin (b := .append) (xs := #[.tmp 42, .tmp 45]) rfl ?_); at_builtin; refine Kd.R_append k63 (w0 := w) w.heap.size rfl (.tmp 42) (.tmp 45) 58 63 (.agg #[(.int .i64 0), (.int .i64 0), (.int .i64 0)]) 24 rfl Try.underlying58 info63 rfl (by decide) (by omega) (.slice Ao33 x3_3.length co33) x3_3 (⟨(⟨(rd_T91 t580 x33_3).f0.f0.f0, (rd_T91 t580 x33_3).f0.f0.f1⟩ : S55), (rd_T91 t580 x33_3).f0.f1⟩ : S63) [.int .i64 ((rd_T91 t580 x33_3).f0.f0.f0), .int .i64 ((rd_T91 t580 x33_3).f0.f0.f1), .int .i64 ((rd_T91 t580 x33_3).f0.f1)] (fun k_ => (w.heap.size ≤ k_)) (fun _ => False) rfl rfl ?aP (fun _ hk => hk.elim) ?aF ?aO ?aB ?aS ?aL ?_; (case aP => exact k63_mkM _ _ _ (⟨(⟨(rd_T91 t580 x33_3).f0.f0.f0, (rd_T91 t580 x33_3).f0.f0.f1⟩ : S55), (rd_T91 t580 x33_3).f0.f1⟩ : S63)); (case aB => exact bl_); (case aF => exact (fun k_ hk => (Nat.le_trans bls_ hk))); (case aO => exact (rr_ HO_3)); (case aS => exact bls_); (case aL => have := LMc36.out; omega); intro v587 w40 ho hb hg hat; rw [← Ny586.out] at ho; replace HO_4 := aa_ (Kd.N_afterv (ok := (fun k_ => (w.heap.size ≤ k_) ∧ some k_ ≠ (.slice (some ad583) t580.length co24 : Value).ownBlock ∧ k_ ≠ gb575 ∧ k_ ≠ gb584)) (by (with_reducible repeat (first | apply Kd.N_alloc | apply Kd.N_drewN | apply Kd.N_drew)); exact Kd.N_mono HO_4.out (fun _ hk => ⟨⟨hk.1.1, ⟨hk.1.2.2.1, ⟨hk.1.2.2.2, hk.2⟩⟩⟩, hk.1.2.1⟩)) hg hat); replace HO_31 := aa_ (Kd.N_afterv (ok := (fun k_ => (w.heap.size ≤ k_) ∧ some k_ ≠ (u4 : Value).ownBlock ∧ k_ ≠ gb575 ∧ k_ ≠ gb584)) (by (with_reducible repeat (first | apply Kd.N_alloc | apply Kd.N_drewN | apply Kd.N_drew)); exact Kd.N_mono HO_31.out (fun _ hk => ⟨⟨hk.1.1, ⟨hk.1.2.2.1, ⟨hk.1.2.2.2, hk.2⟩⟩⟩, hk.1.2.1⟩)) hg hat); replace BK575 := aa_ (blk_grown (g := gb575) (o := .cells #[.int .i64 ((rd_T74 l0 x20_2).f0), .int .i64 ((rd_T74 l0 x20_2).f1.f0), .int .i64 ((rd_T74 l0 x20_2).f1.f1), .int .i64 ((rd_T74 l0 x20_2).f2), .int .i64 ((rd_T74 l0 x20_2).f3.f0), .int .i64 ((rd_T74 l0 x20_2).f3.f1), .int .i64 ((rd_T74 l0 x20_2).f4.f0), .int .i64 ((rd_T74 l0 x20_2).f4.f1), .int .i64 ((rd_T74 l0 x20_2).f5), .int .i64 ((rd_T74 l0 x20_2).f6)] 74 (0, 0)) (bk_ BK575) hg (Kd.R_ne HO_3.out BK575.out (by decide))); replace HL583_3 := aa_ (Kd.V_afterv (ok := (fun k_ => (w.heap.size ≤ k_) ∧ some k_ ≠ (u4 : Value).ownBlock ∧ some k_ ≠ (.slice (some ad583) t580.length co24 : Value).ownBlock ∧ k_ ≠ gb575 ∧ k_ ≠ gb584)) (by (with_reducible repeat (first | apply Kd.V_alloc | apply Kd.V_drewN | apply Kd.V_drew)); exact Kd.V_mono HL583_3.out (fun _ hk => ⟨⟨hk.1.1.1, ⟨hk.1.1.2.2.1, ⟨hk.1.2, ⟨hk.1.1.2.2.2, hk.2⟩⟩⟩⟩, hk.1.1.2.1⟩)) hg hat); replace BK584 := aa_ (blk_grown (g := gb584) (o := .cells #[.int .i64 ((rd_T91 t580 x33_3).f0.f0.f0), .int .i64 ((rd_T91 t580 x33_3).f0.f0.f1), .int .i64 ((rd_T91 t580 x33_3).f0.f1), .slice A583_3 ((rd_T91 t580 x33_3).f1).length c583_3] 91 (0, 0)) (bk_ BK584) hg (Kd.R_ne HO_3.out BK584.out (by decide))); replace HB := aa_ (hb); have HO588 := aa_ (ho); clear HO_3; clear ho hb hg hat; obtain ⟨hcz41, hfz41⟩ := bcf_ BK584) | ((with_reducible refine gate_builtin (b := .append) (xs := #[.tmp 47, .tmp 54]) rfl ?_); at_builtin; refine Kd.N_append k81 (w0 := w) w.heap.size rfl (.tmp 47) (.tmp 54) 78 81 (.agg #[(.int .i64 0), (.int .i64 0), (.int .i64 0), (.int .i64 0), (.slice none 0 0)]) 56 rfl Try.underlying78 info81 rfl (by decide) (by omega) u4 x4_3 (⟨(⟨(⟨(rd_T91 t580 x33_3).f0.f0.f0, (rd_T91 t580 x33_3).f0.f0.f1⟩ : S55), (rd_T91 t580 x33_3).f0.f1⟩ : S63), x20_2, (rd_T91 t580 x33_3).f1⟩ : S81) [.int .i64 ((rd_T91 t580 x33_3).f0.f0.f0), .int .i64 ((rd_T91 t580 x33_3).f0.f0.f1), .int .i64 ((rd_T91 t580 x33_3).f0.f1), .int .i64 x20_2, .slice A583_3 ((rd_T91 t580 x33_3).f1).length c583_3] (fun k_ => (w.heap.size ≤ k_) ∧ some k_ ≠ (.slice (some ad583) t580.length co24 : Value).ownBlock ∧ some k_ ≠ (v587 : Value).ownBlock ∧ k_ ≠ gb575 ∧ k_ ≠ gb584) (fun k_ => ((fun k_ => (w.heap.size ≤ k_) ∧ some k_ ≠ (.slice (some ad583) t580.length co24 : Value).ownBlock ∧ some k_ ≠ (v587 : Value).ownBlock ∧ k_ ≠ gb575 ∧ k_ ≠ gb584)) k_ ∧ some k_ ≠ (u4 : Value).ownBlock) rfl rfl ?aP (fun _ hk => hk) ?aF ?aO ?aB ?aS ?aL ?_; (case aP => exact (k81_mkF _ _ (⟨(⟨(⟨(rd_T91 t580 x33_3).f0.f0.f0, (rd_T91 t580 x33_3).f0.f0.f1⟩ : S55), (rd_T91 t580 x33_3).f0.f1⟩ : S63), x20_2, (rd_T91 t580 x33_3).f1⟩ : S81) (Kd.V_reads' (Kd.V_mono (ok' := (fun k_ => ((fun k_ => (w.heap.size ≤ k_) ∧ some k_ ≠ (.slice (some ad583) t580.length co24 : Value).ownBlock ∧ some k_ ≠ (v587 : Value).ownBlock ∧ k_ ≠ gb575 ∧ k_ ≠ gb584)) k_ ∧ some k_ ≠ (u4 : Value).ownBlock)) (HL583_3.out) (fun k_ hk => ⟨⟨hk.1.1, ⟨hk.1.2.2.1, ⟨hk.2, ⟨hk.1.2.2.2.1, hk.1.2.2.2.2⟩⟩⟩⟩, hk.1.2.1⟩))).2.1 (Kd.V_F (Kd.V_mono (ok' := (fun k_ => ((fun k_ => (w.heap.size ≤ k_) ∧ some k_ ≠ (.slice (some ad583) t580.length co24 : Value).ownBlock ∧ some k_ ≠ (v587 : Value).ownBlock ∧ k_ ≠ gb575 ∧ k_ ≠ gb584)) k_ ∧ some k_ ≠ (u4 : Value).ownBlock)) (HL583_3.out) (fun k_ hk => ⟨⟨hk.1.1, ⟨hk.1.2.2.1, ⟨hk.2, ⟨hk.1.2.2.2.1, hk.1.2.2.2.2⟩⟩⟩⟩, hk.1.2.1⟩))))); (case aB => exact bl_); (case aF => exact (fun k_ hk => ⟨(Nat.le_trans bls_ hk), Kd.fresh' (Kd.N_lt (rn_ HO_31)) k_ hk, Kd.fresh' (Kd.R_lt (rr_ HO588)) k_ hk, Kd.freshB (g := gb575) (o := .cells #[.int .i64 ((rd_T74 l0 x20_2).f0), .int .i64 ((rd_T74 l0 x20_2).f1.f0), .int .i64 ((rd_T74 l0 x20_2).f1.f1), .int .i64 ((rd_T74 l0 x20_2).f2), .int .i64 ((rd_T74 l0 x20_2).f3.f0), .int .i64 ((rd_T74 l0 x20_2).f3.f1), .int .i64 ((rd_T74 l0 x20_2).f4.f0), .int .i64 ((rd_T74 l0 x20_2).f4.f1), .int .i64 ((rd_T74 l0 x20_2).f5), .int .i64 ((rd_T74 l0 x20_2).f6)] 74 (0, 0)) (bk_ BK575) k_ hk, Kd.freshB (g := gb584) (o := .cells #[.int .i64 ((rd_T91 t580 x33_3).f0.f0.f0), .int .i64 ((rd_T91 t580 x33_3).f0.f0.f1), .int .i64 ((rd_T91 t580 x33_3).f0.f1), .slice A583_3 ((rd_T91 t580 x33_3).f1).length c583_3] 91 (0, 0)) (bk_ BK584) k_ hk⟩)); (case aO => exact (by (with_reducible repeat (first | apply Kd.N_alloc | apply Kd.N_drewN | apply Kd.N_drew)); exact Kd.N_mono HO_4.out (fun _ hk => ⟨hk.1.1, ⟨hk.1.2.1, ⟨hk.2, ⟨hk.1.2.2.1, hk.1.2.2.2⟩⟩⟩⟩))); (case aS => exact bls_); (case aL => have := LMc37.out; omega); intro v590 w42 ho hb hg hat; rw [← Ny589.out] at ho; replace HO_31 := aa_ (Kd.N_afterv (ok := (fun k_ => (w.heap.size ≤ k_) ∧ some k_ ≠ (v587 : Value).ownBlock ∧ k_ ≠ gb575 ∧ k_ ≠ gb584)) (by (with_reducible repeat (first | apply Kd.N_alloc | apply Kd.N_drewN | apply Kd.N_drew)); exact Kd.N_mono HO_31.out (fun _ hk => ⟨⟨hk.1.1, ⟨hk.2, ⟨hk.1.2.2.1, hk.1.2.2.2⟩⟩⟩, hk.1.2.1⟩)) hg hat); replace BK575 := aa_ (blk_grown (g := gb575) (o := .cells #[.int .i64 ((rd_T74 l0 x20_2).f0), .int .i64 ((rd_T74 l0 x20_2).f1.f0), .int .i64 ((rd_T74 l0 x20_2).f1.f1), .int .i64 ((rd_T74 l0 x20_2).f2), .int .i64 ((rd_T74 l0 x20_2).f3.f0), .int .i64 ((rd_T74 l0 x20_2).f3.f1), .int .i64 ((rd_T74 l0 x20_2).f4.f0), .int .i64 ((rd_T74 l0 x20_2).f4.f1), .int .i64 ((rd_T74 l0 x20_2).f5), .int .i64 ((rd_T74 l0 x20_2).f6)] 74 (0, 0)) (bk_ BK575) hg (Kd.N_ne HO_4.out BK575.out (by decide))); replace HL583_3 := aa_ (Kd.V_afterv (ok := (fun k_ => (w.heap.size ≤ k_) ∧ some k_ ≠ (.slice (some ad583) t580.length co24 : Value).ownBlock ∧ some k_ ≠ (v587 : Value).ownBlock ∧ k_ ≠ gb575 ∧ k_ ≠ gb584)) (by (with_reducible repeat (first | apply Kd.V_alloc | apply Kd.V_drewN | apply Kd.V_drew)); exact Kd.V_mono HL583_3.out (fun _ hk => ⟨⟨hk.1.1, ⟨hk.1.2.2.1, ⟨hk.2, ⟨hk.1.2.2.2.1, hk.1.2.2.2.2⟩⟩⟩⟩, hk.1.2.1⟩)) hg hat); replace BK584 := aa_ (blk_grown (g := gb584) (o := .cells #[.int .i64 ((rd_T91 t580 x33_3).f0.f0.f0), .int .i64 ((rd_T91 t580 x33_3).f0.f0.f1), .int .i64 ((rd_T91 t580 x33_3).f0.f1), .slice A583_3 ((rd_T91 t580 x33_3).f1).length c583_3] 91 (0, 0)) (bk_ BK584) hg (Kd.N_ne HO_4.out BK584.out (by decide))); replace HO588 := aa_ (Kd.R_over' (rr_ HO588) (Kd.N_typed (rn_ HO_4)) (by decide) hg); replace HB := aa_ (hb); have HO591 := aa_ (ho); clear HO_4; clear ho hb hg hat))
            go_roundg k3
            case measure => have := HK1.out; have := HK2.out; have := HK3.out; omega
            case rel => exact ⟨(y586), (y589), (wrap64 (x33_3 + 1)), rf_, H', ⟨by have := HK1.out; have := HK2.out; have := HK3.out; omega⟩, ⟨rr_ HO588⟩, ⟨by (with_reducible repeat (first | apply Kd.N_alloc | apply Kd.N_drewN | apply Kd.N_drew)); exact Kd.N_mono HO591.out (fun _ hk => ⟨hk.1, ⟨hk.2.2.1, ⟨hk.2.1, hk.2.2.2.1⟩⟩⟩)⟩, ⟨by (with_reducible repeat (first | apply Kd.N_alloc | apply Kd.N_drewN | apply Kd.N_drew)); exact Kd.N_mono HO_31.out (fun _ hk => ⟨hk.1.1, ⟨hk.1.2.1, ⟨hk.2, hk.1.2.2.1⟩⟩⟩)⟩, ⟨bk_ BK575⟩, ⟨bl_⟩⟩
          ·rw [if_neg c25] at H
           have c25b0 : decide (x33_3 < (t580.length : Int)) = false := decide_eq_false c25
           clear c25
           (first | rw [c25b0] | (simp only [i64_w, i32_w]; rw [c25b0]) | (have cz_ := c25b0; simp only [Int.ofNat_lt, Int.ofNat_le, gt_iff_lt, ge_iff_le] at cz_; rw [cz_]; clear cz_) | skip)
           have H' := aa_ H
           clear H
           go_wp2
           go_roundg k3
           case measure => have := HK1.out; have := HK2.out; have := HK3.out; omega
           case rel => exact ⟨(x3_3), (x4_3), (wrap64 (x20_2 + 1)), rf_, H', ⟨by have := HK1.out; have := HK2.out; have := HK3.out; omega⟩, ⟨rr_ HO_3⟩, ⟨by (with_reducible repeat (first | apply Kd.N_alloc | apply Kd.N_drewN | apply Kd.N_drew)); exact Kd.N_mono HO_4.out (fun _ hk => ⟨hk.1, hk.2.1⟩)⟩, ⟨bl_⟩⟩
       ·replace c16 := Bool.eq_false_iff.mpr c16
        subst c16
        replace H := ite_f_ H
        have H' := aa_ H
        clear H
        go_wp2
        go_roundg k2
        case measure => have := HK1.out; have := HK2.out; omega
        case rel => exact ⟨(x3_2), (x4_2), (wrap64 (x20_2 + 1)), rf_, H', ⟨by have := HK1.out; have := HK2.out; omega⟩, ⟨rr_ HO_3⟩, ⟨by (with_reducible repeat (first | apply Kd.N_alloc | apply Kd.N_drewN | apply Kd.N_drew)); exact Kd.N_mono HO_4.out (fun _ hk => ⟨hk.1.1, hk.1.2⟩)⟩, ⟨bl_⟩⟩
      ·rw [if_neg c8] at H
       have c8b0 : decide (x20_2 < (l0.length : Int)) = false := decide_eq_false c8
       clear c8
       have H' := aa_ H
       clear H
       go_wp2
       go_roundg k2
       case measure => have := HK1.out; have := HK2.out; omega
       case rel => exact ⟨(x3_2), (x4_2), ((x3_1.length : Int)), rf_, H', ⟨by have := HK1.out; have := HK2.out; omega⟩, ⟨rr_ HO_3⟩, ⟨rn_ HO_4⟩, ⟨bl_⟩⟩
   ·rw [if_neg c6] at H
    have c6b0 : decide (x5_1 < (x3_1.length : Int)) = false := decide_eq_false c6
    clear c6
    obtain rfl := Option.some.inj H
    obtain ⟨Ao43, co43, eo43⟩ := Kd.R_slice HO_3.out
    subst eo43
    go_wp2
    go_ret
    exact ⟨_, eq_, by (with_reducible repeat (first | apply Kd.N_alloc | apply Kd.N_drewN | apply Kd.N_drew)); exact Kd.N_mono HO_4.out (fun _ hk => hk.1), bl_⟩
def impl_FactsOf.l0 : Nat → List (S63) → List (S81) → Int → Int → Option ((List (S63)))
 | 0, _, _, _, _ => none
 | k + 1, x3, x8, x9, x10 => if x10 < x9 then (if 0 ≤ x10 then (if x10 < (x8.length : Int) then (if x3.length < 5864062014805 then (impl_FactsOf.l0 k (x3 ++ [(⟨(⟨(rd_T81 x8 x10).f0.f0.f0, (rd_T81 x8 x10).f0.f0.f1⟩ : S55), (rd_T81 x8 x10).f0.f1⟩ : S63)]) x8 x9 (wrap64 (x10 + 1))) else (none)) else (none)) else (none)) else (some x3)
def impl_FactsOf.f (k : Nat) (l0 : List (S74)) : Option ((List (S63))) := (impl_findFacts.f k l0).bind fun t595 => (impl_FactsOf.l0 k (([] : List (S63))) t595 (t595.length : Int) 0)
set_option maxHeartbeats 8000000 in
set_option maxRecDepth 100000 in
theorem impl_FactsOf.calls (k : Nat) (A0 : Option Addr) (c0 : Nat) (l0 : List (S74)) (r : List (S63)) (w : World) (hr0 : Kd.C k74 w A0 l0.length l0) (hc0 : l0.length ≤ c0) (h : impl_FactsOf.f k l0 = some r) :
  Calls Try.prog 34 #[.slice A0 l0.length c0] w fun e w' => ∃ v0_ : Value, e = .returned (v0_) ∧ Kd.R k63 63 w' w.heap.size (fun _ => True) v0_ r ∧ Below w.heap.size w w' := by
 have hu81 := Try.underlying81
 have hu63 := Try.underlying63
 have HR0 := aa_ hr0
 have HC0 := aa_ hc0
 clear hr0 hc0
 have HB := aa_ (Below.refl w.heap.size w)
 have H : ((impl_findFacts.f k l0).bind fun t595 => (impl_FactsOf.l0 k (([] : List (S63))) t595 (t595.length : Int) 0)) = some r := h
 clear h
 obtain ⟨y592, hy592⟩ : ∃ y_ : List (S63), y_ = (([] : List (S63))) := ⟨_, rfl⟩
 replace H : ((impl_findFacts.f k l0).bind fun t595 => (impl_FactsOf.l0 k y592 t595 (t595.length : Int) 0)) = some r := rh_ hy592 H
 have Ny592 := aa_ hy592
 clear hy592
 obtain ⟨t595, A2, H⟩ := bindE_ H
 have H' := aa_ H
 clear H
 go_enter Try.func34, Try.ntmps34
 go_wp2_with (first | ((with_reducible refine gD_ 6 rfl ?_); refine Kd.R_lit k63 _ 63 ?hg (N := 6) ?hd (xs := ([] : List (S63))) (inner := []) (ok := fun _ => True) (okp := fun _ => True) ?hr ?hp (fun _ hk => hk) trivial (Below.refl _ _) (Nat.le_refl _) (by simp) ?_; (case hd => rfl); (case hg => rfl); (case hr => first | (go_simp; done) | (go_simp; rfl)); (case hp => exact (Reps.none _ _)); intro v593 w3 ho4 hb hg_ hnew_; clear hg_ hnew_; (first | rw [← Ny592.out] at ho4 | (simp only [Int.reduceToNat] at ho4; rw [← Ny592.out] at ho4)); have HO594 := aa_ (Kd.R_lower ho4 bls_); replace HB := hbs_ hb; clear hb ho4) | ((with_reducible refine gC_ 53 rfl ?_); refine goesC_ (some 8) Try.func53 #[.slice A0 l0.length c0] ?_; (with_reducible refine (impl_findFacts.calls k _ _ l0 t595 _ ?side1 ?side2 A2.out).mono ?_); (case side1 => repeat (first | exact (Kd.C_below HR0.out HB.out) | (with_reducible refine Kd.C_alloc ?_ _) | (with_reducible refine Kd.C_drewN ?_ _) | (with_reducible refine Kd.C_drew ?_))); (case side2 => exact HC0.out); rintro e w5 ⟨v596, rfl, ho0, hb⟩; refine ⟨_, rfl, ?_⟩; have HO597 := aa_ (Kd.N_lower (Kd.N_mono (ok' := fun k_ => some k_ ≠ (v593 : Value).ownBlock) ho0 (fun k_ hk_ => (Kd.fresh' (Kd.R_lt (rr_ HO594)) k_ hk_))) bls_); replace HO594 := hob_ HO594 hb; replace HB := hbs_ hb; (try clear hb ho0); obtain ⟨Ao6, co6, eo6⟩ := Kd.N_slice HO597.out; subst eo6))
 go_loopg [3, 10] k (fun kq v3 v10 w' => ∃ (x3_1 : List (S63)) (x10_1 : Int), v10 = .int .i64 x10_1 ∧ Aside0 (impl_FactsOf.l0 kq x3_1 t595 (t595.length : Int) x10_1 = some r) ∧ Aside0 (kq ≤ k) ∧ Aside0 (Kd.R k63 63 w' w.heap.size (fun _ => True) v3 x3_1) ∧ Aside0 (Kd.N k81 81 w' w.heap.size (fun k_ => some k_ ≠ (v3 : Value).ownBlock) (.slice Ao6 t595.length co6) t595) ∧ Aside0 (Below w.heap.size w w'))
 case atStart => exact ⟨(y592), (0), rf_, H', ⟨Nat.le_refl _⟩, ⟨rr_ HO594⟩, ⟨rn_ HO597⟩, ⟨bl_⟩⟩
 case round =>
  clear H'
  try clear p2
  try clear c3
  try clear c5
  obtain ⟨x3_1, x10_1, rfl, HA, HK1, HO_3, HO_8, HB⟩ := hrel
  cases gk with
  | zero => exact absurd HA.out (by simp [impl_FactsOf.l0])
  | succ k1 =>
   have H := HA.out
   clear HA
   simp only [impl_FactsOf.l0] at H
   by_cases c7 : x10_1 < (t595.length : Int)
   ·rw [if_pos c7] at H
    have c7b0 : decide (x10_1 < (t595.length : Int)) = true := decide_eq_true c7
    clear c7
    obtain ⟨c8b0, H⟩ := ifd_ H
    obtain ⟨c9b0, H⟩ := ifd_ H
    obtain ⟨c10, H⟩ := ifn_ H
    have LMc10 := aa_ c10
    clear c10
    obtain ⟨y600, hy600⟩ : ∃ y_ : List (S63), y_ = (x3_1 ++ [(⟨(⟨(rd_T81 t595 x10_1).f0.f0.f0, (rd_T81 t595 x10_1).f0.f0.f1⟩ : S55), (rd_T81 t595 x10_1).f0.f1⟩ : S63)]) := ⟨_, rfl⟩
    replace H : (impl_FactsOf.l0 k1 y600 t595 (t595.length : Int) (wrap64 (x10_1 + 1))) = some r := rh_ hy600 H
    have Ny600 := aa_ hy600
    clear hy600
    have H' := aa_ H
    clear H
    have p598 : 0 ≤ (x10_1 : Int) := od_
    have q598 : x10_1 < (t595.length : Int) := od_
    obtain ⟨ad598, A598_4, c598_4, e598, hx598_0, hx598_1, hx598_2, hx598_3, hx598_4, hl598_4, hi598_4⟩ := at_T81 (Kd.N_reads' HO_8.out).2.2 x10_1 p598 q598
    cases e598
    obtain ⟨ce598, hce598, hMe598, hcc598⟩ := Kd.N_get HO_8.out z81 x10_1 p598 (by first | exact q598 | exact od_ | (have e_ := (Kd.N_reads' HO_8.out).1; omega))
    obtain ⟨ua598_4, uc598_4, rfl, ul598_4, ge598_4⟩ := k81_openF hMe598
    have hv598_4 := hcc598 4 _ rfl
    rw [add_field _ _ 4 (by omega)] at hv598_4
    replace hv598_4 := Option.some.inj (hv598_4.symm.trans hx598_4)
    injection hv598_4 with hva_ hvn_ hvc_
    rw [hva_] at ge598_4
    rw [hvc_] at ul598_4
    have HL598_4 := aa_ (show Kd.V (Kd.int .i64) 3 _ w.heap.size _ _ ((rd_T81 t595 x10_1).f2) from Kd.V_mk ul598_4 ge598_4)
    clear hva_ hvn_ hvc_ ge598_4 ul598_4
    clear hcc598 hce598
    have HR598_4 := aa_ hi598_4
    have HC598_4 := aa_ hl598_4
    clear hi598_4 hl598_4
    replace p598 := eq_true p598
    replace q598 := eq_true q598
    go_wp2_with (first | ((with_reducible refine gD_ 5 rfl ?_); refine bx_ (N := 5) (cs := #[.int .i64 0, .int .i64 0, .int .i64 0, .int .i64 0, .slice none 0 0]) (t := 81) ?_; intro gb599 hg w11 hbox hb; replace HO_3 := hob_ HO_3 hb; replace HO_8 := aa_ (Kd.N_below (Kd.N_elderB (rn_ HO_8) gb599 (Nat.le_of_eq hg.symm)) hb); replace HL598_4 := aa_ (Kd.V_below (Kd.V_elderB (rv_ HL598_4) gb599 (Nat.le_of_eq hg.symm)) hb); replace HR598_4 := aa_ (Kd.C_below (by repeat (first | (with_reducible exact HR598_4.out) | (with_reducible refine Kd.C_alloc ?_ _) | (with_reducible refine Kd.C_drewN ?_ _) | (with_reducible refine Kd.C_drew ?_) | exact HR598_4.out)) hb); have BK599 := aa_ (hbox); have GW599 := gs_ hg; have GE599 := gs_ hg; replace HB := hbs_ hb; clear hb hbox hg; obtain ⟨hcz12, hfz12⟩ := bcf_ BK599) | ((with_reducible refine gate_builtin (b := .append) (xs := #[.tmp 14, .tmp 17]) rfl ?_); at_builtin; refine Kd.R_append k63 (w0 := w) w.heap.size rfl (.tmp 14) (.tmp 17) 58 63 (.agg #[(.int .i64 0), (.int .i64 0), (.int .i64 0)]) 24 rfl Try.underlying58 info63 rfl (by decide) (by omega) u3 x3_1 (⟨(⟨(rd_T81 t595 x10_1).f0.f0.f0, (rd_T81 t595 x10_1).f0.f0.f1⟩ : S55), (rd_T81 t595 x10_1).f0.f1⟩ : S63) [.int .i64 ((rd_T81 t595 x10_1).f0.f0.f0), .int .i64 ((rd_T81 t595 x10_1).f0.f0.f1), .int .i64 ((rd_T81 t595 x10_1).f0.f1)] (fun _ => True) (fun _ => False) rfl (by first | (go_simp; done) | (go_simp; rfl)) ?aP (fun _ hk => hk.elim) ?aF ?aO ?aB ?aS ?aL ?_; (case aP => exact k63_mkM _ _ _ (⟨(⟨(rd_T81 t595 x10_1).f0.f0.f0, (rd_T81 t595 x10_1).f0.f0.f1⟩ : S55), (rd_T81 t595 x10_1).f0.f1⟩ : S63)); (case aB => exact bl_); (case aF => exact (fun _ _ => trivial)); (case aO => exact (by (with_reducible repeat (first | apply Kd.R_alloc | apply Kd.R_drewN | apply Kd.R_drew)); exact Kd.R_mono (fr5_ (Kd.R_types HO_3.out BK599.out (by decide)) (fun _ hk => hk.2)) (fun _ hk => trivial))); (case aS => exact bls_); (case aL => have := LMc10.out; omega); intro v601 w13 ho hb hg hat; rw [← Ny600.out] at ho; replace HO_8 := aa_ (Kd.N_afterv (ok := (fun k_ => k_ ≠ gb599)) (by (with_reducible repeat (first | apply Kd.N_alloc | apply Kd.N_drewN | apply Kd.N_drew)); exact Kd.N_mono (fn5_ (Kd.N_mono HO_8.out (fun k_ hk => (⟨hk, hk.2⟩ : _ ∧ k_ ≠ gb599))) (fun _ hk => hk.2)) (fun _ hk => ⟨hk.1.2, hk.1.1⟩)) hg hat); replace HL598_4 := aa_ (Kd.V_afterv (ok := (fun k_ => some k_ ≠ (.slice (some ad598) t595.length co6 : Value).ownBlock ∧ k_ ≠ gb599)) (by (with_reducible repeat (first | apply Kd.V_alloc | apply Kd.V_drewN | apply Kd.V_drew)); exact Kd.V_mono (Kd.V_far (p := ⟨gb599, 4, none⟩) (Kd.V_far (p := ⟨gb599, 3, none⟩) (Kd.V_far (p := ⟨gb599, 2, none⟩) (Kd.V_far (p := ⟨gb599, 1, none⟩) (Kd.V_far (p := ⟨gb599, 0, none⟩) (Kd.V_mono HL598_4.out (fun k_ hk => (⟨hk, hk.2⟩ : _ ∧ k_ ≠ gb599))) (fun _ hk => hk.2) (.int .i64 ((rd_T81 t595 x10_1).f0.f0.f0))) (fun _ hk => hk.2) (.int .i64 ((rd_T81 t595 x10_1).f0.f0.f1))) (fun _ hk => hk.2) (.int .i64 ((rd_T81 t595 x10_1).f0.f1))) (fun _ hk => hk.2) (.int .i64 ((rd_T81 t595 x10_1).f1))) (fun _ hk => hk.2) (.slice A598_4 ((rd_T81 t595 x10_1).f2).length c598_4)) (fun _ hk => ⟨⟨hk.1.1.2, hk.1.2⟩, hk.1.1.1⟩)) hg hat); replace BK599 := aa_ (blk_grown (g := gb599) (o := .cells #[.int .i64 ((rd_T81 t595 x10_1).f0.f0.f0), .int .i64 ((rd_T81 t595 x10_1).f0.f0.f1), .int .i64 ((rd_T81 t595 x10_1).f0.f1), .int .i64 ((rd_T81 t595 x10_1).f1), .slice A598_4 ((rd_T81 t595 x10_1).f2).length c598_4] 81 (0, 0)) (bk_ BK599) hg (Kd.R_ne HO_3.out BK599.out (by decide))); replace HB := aa_ (hb); have HO602 := aa_ (ho); clear HO_3; clear ho hb hg hat))
    go_roundg k1
    case measure => have := HK1.out; omega
    case rel => exact ⟨(y600), (wrap64 (x10_1 + 1)), rf_, H', ⟨by have := HK1.out; omega⟩, ⟨rr_ HO602⟩, ⟨by (with_reducible repeat (first | apply Kd.N_alloc | apply Kd.N_drewN | apply Kd.N_drew)); exact Kd.N_mono HO_8.out (fun _ hk => hk.2)⟩, ⟨bl_⟩⟩
   ·rw [if_neg c7] at H
    have c7b0 : decide (x10_1 < (t595.length : Int)) = false := decide_eq_false c7
    clear c7
    obtain rfl := Option.some.inj H
    go_wp2
    go_ret
    exact ⟨_, eq_, by (with_reducible repeat (first | apply Kd.R_alloc | apply Kd.R_drewN | apply Kd.R_drew)); exact HO_3.out, bl_⟩
end Go.Proofs.Ytnoklfpnmopkpaa.PE
