import Derived.Test.YtcbhmcpdnokbiaaKLPAx16
-- printed by wip/tools
namespace Go.Proofs.Ytcbhmcpdnokbiaa.PA
open Go.RowKit Go.Proofs.YtcbhmcpdnokbiaaW.PrintWords Go.Proofs.YtcbhmcpdnokbiaaW.PrintLast Go.Proofs.YtcbhmcpdnokbiaaW.PrintMore
attribute [local go_sem] max2_int min2_int max_two min_two max_three min_three max_four min_four
set_option linter.unusedVariables false
set_option linter.unusedSimpArgs false
theorem fr14_ {α : Type} {d : Kd α} {e : Nat} {w : World} {base : Nat} {ok : Nat → Prop} {v : Value} {xs : List α} {b : Nat} {v0 v1 v2 v3 v4 v5 v6 v7 v8 v9 v10 v11 v12 v13 : Value} (h : Kd.R d e w base ok v xs) (hn : ∀ k, ok k → k ≠ b) : Kd.R d e ((((((((((((((w.setCell ⟨b, 0, none⟩ v0).setCell ⟨b, 1, none⟩ v1).setCell ⟨b, 2, none⟩ v2).setCell ⟨b, 3, none⟩ v3).setCell ⟨b, 4, none⟩ v4).setCell ⟨b, 5, none⟩ v5).setCell ⟨b, 6, none⟩ v6).setCell ⟨b, 7, none⟩ v7).setCell ⟨b, 8, none⟩ v8).setCell ⟨b, 9, none⟩ v9).setCell ⟨b, 10, none⟩ v10).setCell ⟨b, 11, none⟩ v11).setCell ⟨b, 12, none⟩ v12).setCell ⟨b, 13, none⟩ v13) base ok v xs := (Kd.R_far (p := ⟨b, 13, none⟩) (Kd.R_far (p := ⟨b, 12, none⟩) (Kd.R_far (p := ⟨b, 11, none⟩) (Kd.R_far (p := ⟨b, 10, none⟩) (Kd.R_far (p := ⟨b, 9, none⟩) (Kd.R_far (p := ⟨b, 8, none⟩) (Kd.R_far (p := ⟨b, 7, none⟩) (Kd.R_far (p := ⟨b, 6, none⟩) (Kd.R_far (p := ⟨b, 5, none⟩) (Kd.R_far (p := ⟨b, 4, none⟩) (Kd.R_far (p := ⟨b, 3, none⟩) (Kd.R_far (p := ⟨b, 2, none⟩) (Kd.R_far (p := ⟨b, 1, none⟩) (Kd.R_far (p := ⟨b, 0, none⟩) h hn v0) hn v1) hn v2) hn v3) hn v4) hn v5) hn v6) hn v7) hn v8) hn v9) hn v10) hn v11) hn v12) hn v13)
theorem fs14_ {α : Type} {d : Kd α} {e : Nat} {w : World} {base : Nat} {ok : Nat → Prop} {v : Value} {xs : List α} {b : Nat} {v0 v1 v2 v3 v4 v5 v6 v7 v8 v9 v10 v11 v12 v13 : Value} (h : Kd.S d e w base ok v xs) (hn : ∀ k, ok k → k ≠ b) : Kd.S d e ((((((((((((((w.setCell ⟨b, 0, none⟩ v0).setCell ⟨b, 1, none⟩ v1).setCell ⟨b, 2, none⟩ v2).setCell ⟨b, 3, none⟩ v3).setCell ⟨b, 4, none⟩ v4).setCell ⟨b, 5, none⟩ v5).setCell ⟨b, 6, none⟩ v6).setCell ⟨b, 7, none⟩ v7).setCell ⟨b, 8, none⟩ v8).setCell ⟨b, 9, none⟩ v9).setCell ⟨b, 10, none⟩ v10).setCell ⟨b, 11, none⟩ v11).setCell ⟨b, 12, none⟩ v12).setCell ⟨b, 13, none⟩ v13) base ok v xs := (Kd.S_far (p := ⟨b, 13, none⟩) (Kd.S_far (p := ⟨b, 12, none⟩) (Kd.S_far (p := ⟨b, 11, none⟩) (Kd.S_far (p := ⟨b, 10, none⟩) (Kd.S_far (p := ⟨b, 9, none⟩) (Kd.S_far (p := ⟨b, 8, none⟩) (Kd.S_far (p := ⟨b, 7, none⟩) (Kd.S_far (p := ⟨b, 6, none⟩) (Kd.S_far (p := ⟨b, 5, none⟩) (Kd.S_far (p := ⟨b, 4, none⟩) (Kd.S_far (p := ⟨b, 3, none⟩) (Kd.S_far (p := ⟨b, 2, none⟩) (Kd.S_far (p := ⟨b, 1, none⟩) (Kd.S_far (p := ⟨b, 0, none⟩) h hn v0) hn v1) hn v2) hn v3) hn v4) hn v5) hn v6) hn v7) hn v8) hn v9) hn v10) hn v11) hn v12) hn v13)
mutual
def spec_ProofOf.l0 : Nat → List (S63) → Int → List Bool → Int → Option ((List (S63)) × Bool)
 | 0, _, _, _, _ => none
 | k + 1, x8, x9, x10, x11 => if x11 ≥ 0 then (spec_ProofOf.l1 k x8 x9 x10 x11 0) else (if 0 ≤ (wrap64 (x9 + 1)) then (if (wrap64 (x9 + 1) : Int).toNat ≤ 35184372088832 then (spec_ProofOf.l2 k x8 x9 x10 (List.replicate (wrap64 (x9 + 1) : Int).toNat 0) (([] : List (S63))) 0) else (none)) else (none))
def spec_ProofOf.l1 : Nat → List (S63) → Int → List Bool → Int → Int → Option ((List (S63)) × Bool)
 | 0, _, _, _, _, _ => none
 | k + 1, x8, x9, x10, x11, x12 => if 0 ≤ x11 then (if x11 < (x8.length : Int) then (if x12 < (((rd_T63 x8 x11).f2).length : Int) then (if x11 < (x10.length : Int) then (if rdOf false x10 x11 = true then (if 0 ≤ x12 then (if 0 ≤ (rd ((rd_T63 x8 x11).f2) x12) then (if (rd ((rd_T63 x8 x11).f2) x12) < (x10.length : Int) then (spec_ProofOf.l1 k x8 x9 (x10.set ((rd ((rd_T63 x8 x11).f2) x12) : Int).toNat true) x11 (wrap64 (x12 + 1))) else (none)) else (none)) else (none)) else (spec_ProofOf.l0 k x8 x9 x10 (wrap64 (x11 - 1)))) else (none)) else (spec_ProofOf.l0 k x8 x9 x10 (wrap64 (x11 - 1)))) else (none)) else (none)
def spec_ProofOf.l2 : Nat → List (S63) → Int → List Bool → List Int → List (S63) → Int → Option ((List (S63)) × Bool)
 | 0, _, _, _, _, _, _ => none
 | k + 1, x8, x9, x10, x13, x14, x15 => if x15 ≤ x9 then (if 0 ≤ x15 then (if x15 < (x10.length : Int) then (if rdOf false x10 x15 = true then (if x15 < (x8.length : Int) then (spec_ProofOf.l3 k x8 x9 x10 x13 x14 x15 0 ((rd_T63 x8 x15).f0.f0) ((rd_T63 x8 x15).f0.f1.f0) ((rd_T63 x8 x15).f0.f1.f1) ((rd_T63 x8 x15).f0.f2) ((rd_T63 x8 x15).f0.f3.f0) ((rd_T63 x8 x15).f0.f3.f1) ((rd_T63 x8 x15).f0.f4.f0) ((rd_T63 x8 x15).f0.f4.f1) ((rd_T63 x8 x15).f0.f5) ((rd_T63 x8 x15).f0.f6) ((rd_T63 x8 x15).f1.f0.f0) ((rd_T63 x8 x15).f1.f0.f1) ((rd_T63 x8 x15).f1.f1) (([] : List Int))) else (none)) else (spec_ProofOf.l2 k x8 x9 x10 x13 x14 (wrap64 (x15 + 1)))) else (none)) else (none)) else (some (x14, true))
def spec_ProofOf.l3 : Nat → List (S63) → Int → List Bool → List Int → List (S63) → Int → Int → Int → Int → Int → Int → Int → Int → Int → Int → Int → Int → Int → Int → Int → List Int → Option ((List (S63)) × Bool)
 | 0, _, _, _, _, _, _, _, _, _, _, _, _, _, _, _, _, _, _, _, _, _ => none
 | k + 1, x8, x9, x10, x13, x14, x15, x17, x601000, x601001, x601002, x601003, x601004, x601005, x601006, x601007, x601008, x601009, x601010, x601011, x601012, x601013 => if 0 ≤ x15 then (if x15 < (x8.length : Int) then (if x17 < (((rd_T63 x8 x15).f2).length : Int) then (if 0 ≤ x17 then (if 0 ≤ (rd ((rd_T63 x8 x15).f2) x17) then (if (rd ((rd_T63 x8 x15).f2) x17) < (x13.length : Int) then (if x601013.length < 17592186044416 then (spec_ProofOf.l3 k x8 x9 x10 x13 x14 x15 (wrap64 (x17 + 1)) x601000 x601001 x601002 x601003 x601004 x601005 x601006 x601007 x601008 x601009 x601010 x601011 x601012 (x601013 ++ [rd x13 (rd ((rd_T63 x8 x15).f2) x17)])) else (none)) else (none)) else (none)) else (none)) else (if x15 < (x13.length : Int) then (if x14.length < 1099511627776 then (spec_ProofOf.l2 k x8 x9 x10 (x13.set (x15 : Int).toNat (x14.length : Int)) (x14 ++ [(⟨(⟨x601000, (⟨x601001, x601002⟩ : S27), x601003, (⟨x601004, x601005⟩ : S27), (⟨x601006, x601007⟩ : S27), x601008, x601009⟩ : S46), (⟨(⟨x601010, x601011⟩ : S27), x601012⟩ : S29), x601013⟩ : S63)]) (wrap64 (x15 + 1))) else (none)) else (none))) else (none)) else (none)
end
def spec_ProofOf.f (k : Nat) (l0 : List (S46)) (a1_0 : Int) (a1_1 : Int) (a2 : Int) : Option ((List (S63)) × Bool) := (spec_l07All.f k l0).bind fun t572 => ((spec_l07At.f k t572 a1_0 a1_1 a2).bind fun t575 => (if t575 < 0 then (some ((([] : List (S63))), false)) else (if 0 ≤ (wrap64 (t575 + 1)) then (if (wrap64 (t575 + 1) : Int).toNat ≤ 281474976710656 then ((some (List.replicate (wrap64 (t575 + 1) : Int).toNat false : List Bool)).bind fun y579 => (if 0 ≤ t575 then (if t575 < (y579.length : Int) then (spec_ProofOf.l0 k t572 t575 (y579.set (t575 : Int).toNat true) t575) else (none)) else (none))) else (none)) else (none))))
def spec_ProofOf.T20 : Bool × List (List Nat × List Nat) := (true, [([], []), ([], []), ([0, 1], [0, 1]), ([2], [2]), ([3], [3]), ([], []), ([], []), ([5, 6], [5, 6]), ([7], [7]), ([8], [8]), ([], []), ([4, 9, 10], [4, 9, 10]), ([], []), ([12, 11, 0, 1, 2, 3, 4, 5, 6, 7, 8, 9, 10, 11, 12], [11, 12])])
def spec_ProofOf.B20 : List Nat := [0, 0, 3, 7, 15, 0, 0, 96, 224, 480, 0, 2047, 0, 8191]
theorem spec_ProofOf.tab20 : rtab .any (opsOf Try.f15 20) = spec_ProofOf.T20 := by kernel_rfl
theorem spec_ProofOf.bits20 : waitsOk spec_ProofOf.T20.2 spec_ProofOf.B20 = true := by kernel_rfl
def spec_ProofOf.T24 : Bool × List (List Nat × List Nat) := (true, [([], []), ([0], [0]), ([], []), ([], []), ([], []), ([3, 4], [3, 4]), ([5], [5]), ([6], [6]), ([], []), ([7, 8], [7, 8]), ([9], [9]), ([2, 10], [2, 10]), ([11], [11]), ([12], [12]), ([1, 13], [1, 13]), ([0, 1, 2, 3, 4, 5, 6, 7, 8, 9, 10, 11, 12, 13, 14], []), ([15, 14, 14, 0, 1, 2, 3, 4, 5, 6, 7, 8, 9, 10, 11, 12, 13, 14], [14, 15])])
def spec_ProofOf.B24 : List Nat := [0, 1, 0, 0, 0, 24, 56, 120, 0, 504, 1016, 2044, 4092, 8188, 16383, 32767, 65535]
theorem spec_ProofOf.tab24 : rtab .any (opsOf Try.f15 24) = spec_ProofOf.T24 := by kernel_rfl
theorem spec_ProofOf.bits24 : waitsOk spec_ProofOf.T24.2 spec_ProofOf.B24 = true := by kernel_rfl
set_option maxHeartbeats 8000000 in
set_option maxRecDepth 100000 in
theorem spec_ProofOf.calls (k : Nat) (A0 : Option Addr) (c0 : Nat) (l0 : List (S46)) (a1_0 : Int) (a1_1 : Int) (a2 : Int) (r1 : List (S63)) (r2 : Bool) (w : World) (hr0 : Kd.C k46 w A0 l0.length l0) (hc0 : l0.length ≤ c0) (h : spec_ProofOf.f k l0 a1_0 a1_1 a2 = some (r1, r2)) :
  Calls Try.prog 15 #[.slice A0 l0.length c0, .agg #[.int .i64 a1_0, .int .i64 a1_1], .int .i64 a2] w fun e w' => ∃ v0_ : Value, e = .returned (.tuple #[v0_, .bool r2]) ∧ Kd.S k63 63 w' w.heap.size (fun _ => True) v0_ r1 ∧ Below w.heap.size w w' := by
 have hu27 := Try.underlying27
 have hu29 := Try.underlying29
 have hu46 := Try.underlying46
 have hu63 := Try.underlying63
 have HR0 := aa_ hr0
 have HC0 := aa_ hc0
 clear hr0 hc0
 have HB := aa_ (Below.refl w.heap.size w)
 have H : ((spec_l07All.f k l0).bind fun t572 => ((spec_l07At.f k t572 a1_0 a1_1 a2).bind fun t575 => (if t575 < 0 then (some ((([] : List (S63))), false)) else (if 0 ≤ (wrap64 (t575 + 1)) then (if (wrap64 (t575 + 1) : Int).toNat ≤ 281474976710656 then ((some (List.replicate (wrap64 (t575 + 1) : Int).toNat false : List Bool)).bind fun y579 => (if 0 ≤ t575 then (if t575 < (y579.length : Int) then (spec_ProofOf.l0 k t572 t575 (y579.set (t575 : Int).toNat true) t575) else (none)) else (none))) else (none)) else (none))))) = some (r1, r2) := h
 clear h
 obtain ⟨t572, A4, H⟩ := bindE_ H
 obtain ⟨t575, A5, H⟩ := bindE_ H
 by_cases c6 : t575 < 0
 ·rw [if_pos c6] at H
  have c6b0 : decide (t575 < 0) = true := decide_eq_true c6
  clear c6
  obtain ⟨y576, hy576⟩ : ∃ y_ : List (S63), y_ = (([] : List (S63))) := ⟨_, rfl⟩
  replace H : (some (y576, false)) = some (r1, r2) := rh_ hy576 H
  have Ny576 := aa_ hy576
  clear hy576
  simp only [Option.some.injEq, Prod.mk.injEq] at H
  obtain ⟨rfl, rfl⟩ := H
  go_enter Try.func15, Try.ntmps15
  go_wp2_with (first | ((with_reducible refine gD_ 4 rfl ?_); refine bx_ (N := 4) (cs := #[.int .i64 a1_0, .int .i64 a1_1]) (t := 27) ?_; intro gb571 hg w7 hbox hb; have BK571 := aa_ (hbox); have GW571 := gs_ hg; have GE571 := gs_ hg; replace HB := hbs_ hb; clear hb hbox hg) | ((with_reducible refine gC_ 29 rfl ?_); refine goesC_ (some 19) Try.func29 #[.slice A0 l0.length c0] ?_; (with_reducible refine (spec_l07All.calls k _ _ l0 t572 _ ?side1 ?side2 A4.out).mono ?_); (case side1 => repeat (first | exact (Kd.C_below HR0.out HB.out) | (with_reducible refine Kd.C_alloc ?_ _) | (with_reducible refine Kd.C_drewN ?_ _) | (with_reducible refine Kd.C_drew ?_))); (case side2 => exact HC0.out); rintro e w8 ⟨v573, rfl, ho0, hb⟩; refine ⟨_, rfl, ?_⟩; have HO574 := aa_ (Kd.S_lower ho0 bls_); replace BK571 := bkb_ BK571 hb; replace HB := hbs_ hb; (try clear hb ho0); obtain ⟨hcz9, hfz9⟩ := bcf_ BK571; obtain ⟨Ao10, co10, eo10⟩ := Kd.S_slice HO574.out; subst eo10) | ((with_reducible refine gC_ 30 rfl ?_); refine goesC_ (some 24) Try.func30 #[.slice Ao10 t572.length co10, .agg #[.int .i64 a1_0, .int .i64 a1_1, .int .i64 a2]] ?_; (with_reducible refine (spec_l07At.calls k _ _ t572 a1_0 a1_1 a2 t575 _ ?side1 ?side2 A5.out).mono ?_); (case side1 => repeat (first | exact (Kd.S_reads' HO574.out).2.2 | (with_reducible refine Kd.C_alloc ?_ _) | (with_reducible refine Kd.C_drewN ?_ _) | (with_reducible refine Kd.C_drew ?_))); (case side2 => exact (Kd.S_reads' HO574.out).2.1); rintro e w11 ⟨rfl, hb⟩; refine ⟨_, rfl, ?_⟩; replace HO574 := aa_ (Kd.S_below (rs_ HO574) hb); replace BK571 := bkb_ BK571 hb; replace HB := hbs_ hb; clear hb) | ((with_reducible refine gD_ 27 rfl ?_); refine Kd.S_lit k63 _ 63 ?hg (N := 27) ?hd (xs := ([] : List (S63))) (inner := []) (ok := fun _ => True) (okp := fun _ => True) ?hr ?hp (fun _ hk => hk) trivial (Below.refl _ _) (Nat.le_refl _) (by simp) ?_; (case hd => rfl); (case hg => rfl); (case hr => first | (go_simp; done) | (go_simp; rfl)); (case hp => exact (Reps.none _ _)); intro v577 w12 ho13 hb hg_ hnew_; clear hg_ hnew_; (first | rw [← Ny576.out] at ho13 | (simp only [Int.reduceToNat] at ho13; rw [← Ny576.out] at ho13)); have HO578 := aa_ (Kd.S_lower (Kd.S_new' ho13 (Kd.S_lt (rs_ HO574))) bls_); replace HO574 := aa_ (Kd.S_elder' (rs_ HO574) (Kd.S_base ho13) hb); replace BK571 := bkb_ BK571 hb; replace HB := hbs_ hb; clear hb ho13))
  go_ret2
  exact ⟨_, eq_, by (with_reducible repeat (first | apply Kd.S_alloc | apply Kd.S_drewN | apply Kd.S_drew)); exact Kd.S_mono HO578.out (fun _ hk => trivial), bl_⟩
 ·rw [if_neg c6] at H
  have c6b0 : decide (t575 < 0) = false := decide_eq_false c6
  clear c6
  obtain ⟨ji14, hji14⟩ : ∃ j_ : Int, (wrap64 (t575 + 1)) = j_ := ⟨_, rfl⟩
  replace H : (if 0 ≤ (ji14) then (if (ji14 : Int).toNat ≤ 281474976710656 then ((some (List.replicate (ji14 : Int).toNat false : List Bool)).bind fun y579 => (if 0 ≤ t575 then (if t575 < (y579.length : Int) then (spec_ProofOf.l0 k t572 t575 (y579.set (t575 : Int).toNat true) t575) else (none)) else (none))) else (none)) else (none)) = some (r1, r2) := by first | (rw [hji14] at H; exact H) | (simp only [hji14] at H ⊢; exact H)
  (try rw [hji14] at A4)
  (try rw [hji14] at A5)
  have hji14w : (IntKind.i64.wrap (t575 + 1)) = ji14 := (i64_w _).trans hji14
  obtain ⟨c15, H⟩ := ifn_ H
  have c15b0 := eq_true c15
  have c15b1 : decide (0 ≤ (ji14)) = true := decide_eq_true c15
  clear c15
  obtain ⟨c16, H⟩ := ifn_ H
  have c16b0 := eq_true c16
  have c16b1 : decide ((ji14 : Int).toNat ≤ 281474976710656) = true := decide_eq_true c16
  clear c16
  obtain ⟨y579, hy579⟩ : ∃ y_ : List Bool, y_ = (List.replicate (ji14 : Int).toNat false) := ⟨_, rfl⟩
  replace H : (if 0 ≤ t575 then (if t575 < (y579.length : Int) then (spec_ProofOf.l0 k t572 t575 (y579.set (t575 : Int).toNat true) t575) else (none)) else (none)) = some (r1, r2) := rh_ hy579 H
  have Ny579 := aa_ hy579
  clear hy579
  obtain ⟨c17b0, H⟩ := ifd_ H
  obtain ⟨c18b0, H⟩ := ifd_ H
  obtain ⟨y582, hy582⟩ : ∃ y_ : List Bool, y_ = (y579.set (t575 : Int).toNat true) := ⟨_, rfl⟩
  replace H : (spec_ProofOf.l0 k t572 t575 y582 t575) = some (r1, r2) := rh_ hy582 H
  have Ny582 := aa_ hy582
  clear hy582
  have H' := aa_ H
  clear H
  go_enter Try.func15, Try.ntmps15
  go_wp2_with (first | ((with_reducible refine gD_ 4 rfl ?_); refine bx_ (N := 4) (cs := #[.int .i64 a1_0, .int .i64 a1_1]) (t := 27) ?_; intro gb571 hg w20 hbox hb; have BK571 := aa_ (hbox); have GW571 := gs_ hg; have GE571 := gs_ hg; replace HB := hbs_ hb; clear hb hbox hg) | ((with_reducible refine gC_ 29 rfl ?_); refine goesC_ (some 19) Try.func29 #[.slice A0 l0.length c0] ?_; (with_reducible refine (spec_l07All.calls k _ _ l0 t572 _ ?side1 ?side2 A4.out).mono ?_); (case side1 => repeat (first | exact (Kd.C_below HR0.out HB.out) | (with_reducible refine Kd.C_alloc ?_ _) | (with_reducible refine Kd.C_drewN ?_ _) | (with_reducible refine Kd.C_drew ?_))); (case side2 => exact HC0.out); rintro e w21 ⟨v573, rfl, ho0, hb⟩; refine ⟨_, rfl, ?_⟩; have HO574 := aa_ (Kd.S_lower ho0 bls_); replace BK571 := bkb_ BK571 hb; replace HB := hbs_ hb; (try clear hb ho0); obtain ⟨hcz22, hfz22⟩ := bcf_ BK571; obtain ⟨Ao23, co23, eo23⟩ := Kd.S_slice HO574.out; subst eo23) | ((with_reducible refine gC_ 30 rfl ?_); refine goesC_ (some 24) Try.func30 #[.slice Ao23 t572.length co23, .agg #[.int .i64 a1_0, .int .i64 a1_1, .int .i64 a2]] ?_; (with_reducible refine (spec_l07At.calls k _ _ t572 a1_0 a1_1 a2 t575 _ ?side1 ?side2 A5.out).mono ?_); (case side1 => repeat (first | exact (Kd.S_reads' HO574.out).2.2 | (with_reducible refine Kd.C_alloc ?_ _) | (with_reducible refine Kd.C_drewN ?_ _) | (with_reducible refine Kd.C_drew ?_))); (case side2 => exact (Kd.S_reads' HO574.out).2.1); rintro e w24 ⟨rfl, hb⟩; refine ⟨_, rfl, ?_⟩; replace HO574 := aa_ (Kd.S_below (rs_ HO574) hb); replace BK571 := bkb_ BK571 hb; replace HB := hbs_ hb; clear hb) | ((with_reducible refine gD_ 30 rfl ?_); refine Kd.R_make Kd.bool _ 4 rfl (N := 30) rfl 61 _ _ rfl ji14 rfl rfl Try.underlying61 (.bool false) 1 info4 rfl (by decide) (by omega) false (ok := fun _ => True) (okp := fun _ => True) rfl (fun _ hk => hk) trivial (od_) (Nat.le_trans (Nat.mul_le_mul_right _ (od_ : ji14.toNat ≤ 281474976710656)) (by omega)) (Below.refl _ _) (Nat.le_refl _) ?_; intro v580 w25 ho26 hb hg_ hnew_; clear hg_ hnew_; (first | rw [← Ny579.out] at ho26 | (simp only [Int.reduceToNat] at ho26; rw [← Ny579.out] at ho26)); replace HO574 := aa_ (Kd.S_below (rs_ HO574) hb); have HO581 := aa_ (Kd.R_lower ho26 bls_); replace BK571 := bkb_ BK571 hb; replace HB := hbs_ hb; clear hb ho26; have p19 : 0 ≤ (t575 : Int) := od_; have q19 : (t575 : Int) < ((y579.length : Int) : Int) := od_; obtain ⟨go19, co19, eo19, gb19, gl19, cl19, HG19⟩ := Kd.R_form HO581.out (by omega); (first | cases eo19 | (injection eo19 with ea_ en_ ec_; (first | subst ea_ | (injection ea_ with ea_; subst ea_)); subst ec_; clear en_)); have GB19 := aa_ gb19; have GG19 := aa_ HG19; clear gb19 gl19 HG19; obtain ⟨hx19_0, hf19_0⟩ := Kd.R_celln false HO581.out (t575 : Int) p19 q19; replace p19 := eq_true p19; replace q19 := eq_true q19; obtain ⟨hy27_, hz27_⟩ := Kd.R_celln false HO581.out (t575 : Int) (od_) (od_); have HP27 := Kd.R_putg HO581.out (t575 : Int) true) | ((with_reducible refine gate_store (t := 4) (p := 33) rfl ?_); refine store_event (t := 4) (p := 33) (v := ?vo_w28) (w1 := (w25.setCell ⟨go19, (t575 : Int).toNat, none⟩ (.bool true))) ?hg ?ho ?hn ?hr ?_; (case ho => rfl); (case hg => rfl); (case hn => rfl); (case hr => first | (go_simp; done) | (go_simp; rfl)); intro w28 hw; have hg : w25.grownBy w28 (some go19) := (by rw [hw]; exact HP27.2); have hp_ : Kd.R Kd.bool 4 w28 w.heap.size (fun _ => True) (.slice (some ⟨go19, 0, none⟩) y579.length co19) y582 := (by rw [hw, Ny582.out]; exact HP27.1); clear HP27; replace BK571 := aa_ (blk_grown (g := gb571) (o := .cells #[.int .i64 a1_0, .int .i64 a1_1] 27 (0, 0)) (bk_ BK571) hg (Kd.R_ne HO581.out BK571.out (by decide))); replace HO574 := aa_ (Kd.S_over' (v := (.slice (some ⟨go19, 0, none⟩) y579.length co19)) (rs_ HO574) (Kd.R_typed HO581.out) (by decide) hg); replace HO581 := aa_ (hp_); replace HB := aa_ ((by rw [hw]; exact below_set (HB.out) GB19.out : Below w.heap.size w w28)); clear hg hw hp_))
  go_loopg [11] k (fun kq v11 w' => ∃ (x10_1 : List Bool) (x11_1 : Int), v11 = .int .i64 x11_1 ∧ Aside0 (spec_ProofOf.l0 kq t572 t575 x10_1 x11_1 = some (r1, r2)) ∧ Aside0 (kq ≤ k) ∧ Aside0 (Kd.S k63 63 w' w.heap.size (fun _ => True) (.slice Ao23 t572.length co23) t572) ∧ Aside0 (Kd.R Kd.bool 4 w' w.heap.size (fun _ => True) (.slice (some ⟨go19, 0, none⟩) y579.length co19) x10_1) ∧ Aside0 (w'.heap[gb571]? = some (.cells #[.int .i64 a1_0, .int .i64 a1_1] 27 (0, 0))) ∧ Aside0 (Below w.heap.size w w'))
  case atStart => exact ⟨(y582), (t575), rf_, H', ⟨Nat.le_refl _⟩, ⟨rs_ HO574⟩, ⟨rr_ HO581⟩, ⟨bk_ BK571⟩, ⟨bl_⟩⟩
  case round =>
   clear H'
   try clear c1
   try clear p1
   try clear q1
   try clear hx1
   try clear c2
   try clear p2
   try clear c3
   try clear c6
   try clear c6b0
   try clear p6
   try clear c15
   try clear c15b0
   try clear c15b1
   try clear c16
   try clear c16b0
   try clear c16b1
   try clear c17
   try clear c17b0
   try clear c18
   try clear c18b0
   try clear p19
   try clear q19
   try clear hx19
   try clear hf19
   try clear hcz22
   try clear hcz9
   try clear hfz22
   try clear hfz9
   try clear hx19_0
   try clear p19
   try clear q19
   obtain ⟨x10_1, x11_1, rfl, HA, HK1, HO_8, HO_10, BK571, HB⟩ := hrel
   have hl10_1 := (Kd.R_reads' HO_10.out).1
   rw [hl10_1] at HO_10
   (try simp only [hl10_1])
   (try simp only [hl10_1] at BK571)
   (try simp only [hl10_1] at HO_8)
   cases gk with
   | zero => exact absurd HA.out (by simp [spec_ProofOf.l0])
   | succ k1 =>
    have H := HA.out
    clear HA
    simp only [spec_ProofOf.l0] at H
    by_cases c29 : x11_1 ≥ 0
    ·rw [if_pos c29] at H
     have c29b0 : decide (0 ≤ x11_1) = true := decide_eq_true c29
     clear c29
     have H' := aa_ H
     clear H
     go_wp2
     go_loopg [12] k1 (fun kq v12 w' => ∃ (x10_2 : List Bool) (x12_2 : Int), v12 = .int .i64 x12_2 ∧ Aside0 (spec_ProofOf.l1 kq t572 t575 x10_2 x11_1 x12_2 = some (r1, r2)) ∧ Aside0 (kq ≤ k1) ∧ Aside0 (Kd.S k63 63 w' w.heap.size (fun _ => True) (.slice Ao23 t572.length co23) t572) ∧ Aside0 (Kd.R Kd.bool 4 w' w.heap.size (fun _ => True) (.slice (some ⟨go19, 0, none⟩) x10_1.length co19) x10_2) ∧ Aside0 (w'.heap[gb571]? = some (.cells #[.int .i64 a1_0, .int .i64 a1_1] 27 (0, 0))) ∧ Aside0 (Below w.heap.size w w'))
     case atStart => exact ⟨(x10_1), (0), rf_, H', ⟨Nat.le_refl _⟩, ⟨by (try simp only [hl10_1]); (with_reducible repeat (first | apply Kd.S_alloc | apply Kd.S_drewN | apply Kd.S_drew)); exact HO_8.out⟩, ⟨by (try simp only [hl10_1]); (with_reducible repeat (first | apply Kd.R_alloc | apply Kd.R_drewN | apply Kd.R_drew)); exact HO_10.out⟩, ⟨by (try simp only [hl10_1]); (with_reducible repeat (first | refine blk_drewN ?_ _ | refine blk_drew ?_ | refine blk_alloc ?_ _)); exact BK571.out⟩, ⟨bl_⟩⟩
     case round =>
      clear H'
      try clear c1
      try clear p1
      try clear q1
      try clear hx1
      try clear c2
      try clear p2
      try clear c3
      try clear c6
      try clear c6b0
      try clear p6
      try clear c15
      try clear c15b0
      try clear c15b1
      try clear c16
      try clear c16b0
      try clear c16b1
      try clear c17
      try clear c17b0
      try clear c18
      try clear c18b0
      try clear p19
      try clear q19
      try clear hx19
      try clear hf19
      try clear c29
      try clear c29b0
      try clear hcz22
      try clear hcz9
      try clear hfz22
      try clear hfz9
      try clear hx19_0
      try clear p1
      try clear p19
      try clear p2
      try clear p6
      try clear q1
      try clear q19
      obtain ⟨x10_2, x12_2, rfl, HA, HK2, HO_8, HO_10, BK571, HB⟩ := hrel
      have hl10_2 := (Kd.R_reads' HO_10.out).1
      rw [hl10_2] at HO_10
      (try simp only [hl10_2])
      (try simp only [hl10_2] at BK571)
      (try simp only [hl10_2] at HO_8)
      cases gk with
      | zero => exact absurd HA.out (by simp [spec_ProofOf.l1])
      | succ k2 =>
       have H := HA.out
       clear HA
       simp only [spec_ProofOf.l1] at H
       obtain ⟨c30b0, H⟩ := ifd_ H
       obtain ⟨c31b0, H⟩ := ifd_ H
       by_cases c32 : x12_2 < (((rd_T63 t572 x11_1).f2).length : Int)
       ·rw [if_pos c32] at H
        have c32b0 : decide (x12_2 < (((rd_T63 t572 x11_1).f2).length : Int)) = true := decide_eq_true c32
        clear c32
        obtain ⟨c33b0, H⟩ := ifd_ H
        obtain ⟨bq34, hbq34⟩ : ∃ b_ : Bool, b_ = (rdOf false x10_2 x11_1) := ⟨_, rfl⟩
        replace H : (if bq34 = true then (if 0 ≤ x12_2 then (if 0 ≤ (rd ((rd_T63 t572 x11_1).f2) x12_2) then (if (rd ((rd_T63 t572 x11_1).f2) x12_2) < (x10_2.length : Int) then (spec_ProofOf.l1 k2 t572 t575 (x10_2.set ((rd ((rd_T63 t572 x11_1).f2) x12_2) : Int).toNat true) x11_1 (wrap64 (x12_2 + 1))) else (none)) else (none)) else (none)) else (spec_ProofOf.l0 k2 t572 t575 x10_2 (wrap64 (x11_1 - 1)))) = some (r1, r2) := by rw [← hbq34] at H; exact H
        have Nbq34 := aa_ hbq34
        clear hbq34
        by_cases c35 : bq34 = true
        ·subst c35
         replace H := ite_t_ H
         obtain ⟨c36b0, H⟩ := ifd_ H
         obtain ⟨c37b0, H⟩ := ifd_ H
         obtain ⟨c38b0, H⟩ := ifd_ H
         obtain ⟨y587, hy587⟩ : ∃ y_ : List Bool, y_ = (x10_2.set ((rd ((rd_T63 t572 x11_1).f2) x12_2) : Int).toNat true) := ⟨_, rfl⟩
         replace H : (spec_ProofOf.l1 k2 t572 t575 y587 x11_1 (wrap64 (x12_2 + 1))) = some (r1, r2) := rh_ hy587 H
         have Ny587 := aa_ hy587
         clear hy587
         have H' := aa_ H
         clear H
         have p583 : 0 ≤ (x11_1 : Int) := od_
         have q583 : x11_1 < (t572.length : Int) := od_
         obtain ⟨ad583, A583_13, c583_13, e583, hx583_0, hx583_1, hx583_2, hx583_3, hx583_4, hx583_5, hx583_6, hx583_7, hx583_8, hx583_9, hx583_10, hx583_11, hx583_12, hx583_13, hl583_13, hi583_13⟩ := at_T63 (Kd.S_reads' HO_8.out).2.2 x11_1 p583 q583
         cases e583
         obtain ⟨ce583, hce583, hMe583, hcc583⟩ := Kd.S_get HO_8.out z63 x11_1 p583 (by first | exact q583 | exact od_ | (have e_ := (Kd.S_reads' HO_8.out).1; omega))
         obtain ⟨ve583_13, rfl, ge583_13⟩ := k63_openM hMe583
         have hv583_13 := hcc583 13 _ rfl
         rw [add_field _ _ 13 (by omega)] at hv583_13
         replace hv583_13 := Option.some.inj (hv583_13.symm.trans hx583_13)
         rw [hv583_13] at ge583_13
         have HL583_13 := aa_ (show Kd.R (Kd.int .i64) 3 _ _ _ _ ((rd_T63 t572 x11_1).f2) from ge583_13)
         clear hv583_13 ge583_13
         clear hcc583 hce583
         have HR583_13 := aa_ hi583_13
         have HC583_13 := aa_ hl583_13
         clear hi583_13 hl583_13
         replace p583 := eq_true p583
         replace q583 := eq_true q583
         have p584 : 0 ≤ (x11_1 : Int) := od_
         have q584 : x11_1 < (x10_2.length : Int) := od_
         obtain ⟨ad584, e584, hx584_0⟩ := Kd.at_bool (Kd.R_reads' HO_10.out).2.2 x11_1 p584 q584
         (try rw [← Nbq34.out] at hx584_0)
         obtain rfl : (⟨go19, 0, none⟩ : Addr) = ad584 := (by injection e584)
         (first | simp only [add_plain] at hx584_0 | simp only [add_at] at hx584_0 | simp only [Addr.add, Nat.zero_add] at hx584_0 | skip)
         replace p584 := eq_true p584
         replace q584 := eq_true q584
         have p585 : 0 ≤ (x11_1 : Int) := od_
         have q585 : x11_1 < (t572.length : Int) := od_
         obtain ⟨ad585, A585_13, c585_13, e585, hx585_0, hx585_1, hx585_2, hx585_3, hx585_4, hx585_5, hx585_6, hx585_7, hx585_8, hx585_9, hx585_10, hx585_11, hx585_12, hx585_13, hl585_13, hi585_13⟩ := at_T63 (Kd.S_reads' HO_8.out).2.2 x11_1 p585 q585
         obtain rfl : ad583 = ad585 := (by injection e585)
         obtain ⟨ce585, hce585, hMe585, hcc585⟩ := Kd.S_get HO_8.out z63 x11_1 p585 (by first | exact q585 | exact od_ | (have e_ := (Kd.S_reads' HO_8.out).1; omega))
         obtain ⟨ve585_13, rfl, ge585_13⟩ := k63_openM hMe585
         have hv585_13 := hcc585 13 _ rfl
         rw [add_field _ _ 13 (by omega)] at hv585_13
         replace hv585_13 := Option.some.inj (hv585_13.symm.trans hx585_13)
         rw [hv585_13] at ge585_13
         have HL585_13 := aa_ (show Kd.R (Kd.int .i64) 3 _ _ _ _ ((rd_T63 t572 x11_1).f2) from ge585_13)
         clear hv585_13 ge585_13
         clear hcc585 hce585
         have HR585_13 := aa_ hi585_13
         have HC585_13 := aa_ hl585_13
         clear hi585_13 hl585_13
         replace p585 := eq_true p585
         replace q585 := eq_true q585
         have ea_ := Option.some.inj (hx583_13.symm.trans hx585_13)
         injection ea_ with ea_ en_ ec_
         subst ea_
         subst ec_
         clear en_
         have p586 : 0 ≤ (x12_2 : Int) := od_
         have q586 : x12_2 < (((rd_T63 t572 x11_1).f2).length : Int) := od_
         obtain ⟨ad586, e586, hx586_0⟩ := Kd.at_int (by repeat (first | (with_reducible exact HR585_13.out) | (with_reducible refine Kd.C_alloc ?_ _) | (with_reducible refine Kd.C_drewN ?_ _) | (with_reducible refine Kd.C_drew ?_) | exact HR585_13.out)) x12_2 p586 q586
         cases e586
         replace p586 := eq_true p586
         replace q586 := eq_true q586
         have p39 : 0 ≤ ((rd ((rd_T63 t572 x11_1).f2) x12_2) : Int) := od_
         have q39 : ((rd ((rd_T63 t572 x11_1).f2) x12_2) : Int) < ((x10_2.length : Int) : Int) := od_
         obtain ⟨hx39_0, hf39_0⟩ := Kd.R_celln false HO_10.out ((rd ((rd_T63 t572 x11_1).f2) x12_2) : Int) p39 q39
         replace p39 := eq_true p39
         replace q39 := eq_true q39
         have HP40 := Kd.R_putg HO_10.out ((rd ((rd_T63 t572 x11_1).f2) x12_2) : Int) true
         go_wp2_with (first | ((with_reducible refine gate_store (t := 4) (p := 64) rfl ?_); refine store_event (t := 4) (p := 64) (v := ?vo_w41) (w1 := (wr.setCell ⟨go19, ((rd ((rd_T63 t572 x11_1).f2) x12_2) : Int).toNat, none⟩ (.bool true))) ?hg ?ho ?hn ?hr ?_; (case ho => rfl); (case hg => rfl); (case hn => rfl); (case hr => first | (go_simp; done) | (go_simp; rfl)); intro w41 hw; have hg : wr.grownBy w41 (some go19) := (by rw [hw]; exact HP40.2); have hp_ : Kd.R Kd.bool 4 w41 w.heap.size (fun _ => True) (.slice (some ⟨go19, 0, none⟩) x10_2.length co19) y587 := (by rw [hw, Ny587.out]; exact HP40.1); clear HP40; replace HO_8 := aa_ (Kd.S_over' (v := (.slice (some ⟨go19, 0, none⟩) x10_2.length co19)) (rs_ HO_8) (Kd.R_typed HO_10.out) (by decide) hg); replace BK571 := aa_ (blk_grown (g := gb571) (o := .cells #[.int .i64 a1_0, .int .i64 a1_1] 27 (0, 0)) (bk_ BK571) hg (Kd.R_ne HO_10.out BK571.out (by decide))); replace HL583_13 := aa_ (Kd.R_over' (v := (.slice (some ⟨go19, 0, none⟩) x10_2.length co19)) (rr_ HL583_13) (Kd.R_typed HO_10.out) (by decide) hg); replace HL585_13 := aa_ (Kd.R_over' (v := (.slice (some ⟨go19, 0, none⟩) x10_2.length co19)) (rr_ HL585_13) (Kd.R_typed HO_10.out) (by decide) hg); replace HO_10 := aa_ (hp_); replace HB := aa_ ((by rw [hw]; exact below_set (HB.out) GB19.out : Below w.heap.size w w41)); clear hg hw hp_))
         (try simp only [← hl10_2])
         go_roundg k2
         case measure => have := HK1.out; have := HK2.out; omega
         case rel => exact ⟨(y587), (wrap64 (x12_2 + 1)), rf_, H', ⟨by have := HK1.out; have := HK2.out; omega⟩, ⟨by (try simp only [hl10_1]); (try simp only [hl10_2]); (with_reducible repeat (first | apply Kd.S_alloc | apply Kd.S_drewN | apply Kd.S_drew)); exact HO_8.out⟩, ⟨by (try simp only [hl10_1]); (try simp only [hl10_2]); (with_reducible repeat (first | apply Kd.R_alloc | apply Kd.R_drewN | apply Kd.R_drew)); exact HO_10.out⟩, ⟨by (try simp only [hl10_1]); (try simp only [hl10_2]); (with_reducible repeat (first | refine blk_drewN ?_ _ | refine blk_drew ?_ | refine blk_alloc ?_ _)); exact BK571.out⟩, ⟨bl_⟩⟩
        ·replace c35 := Bool.eq_false_iff.mpr c35
         subst c35
         replace H := ite_f_ H
         have H' := aa_ H
         clear H
         have p583 : 0 ≤ (x11_1 : Int) := od_
         have q583 : x11_1 < (t572.length : Int) := od_
         obtain ⟨ad583, A583_13, c583_13, e583, hx583_0, hx583_1, hx583_2, hx583_3, hx583_4, hx583_5, hx583_6, hx583_7, hx583_8, hx583_9, hx583_10, hx583_11, hx583_12, hx583_13, hl583_13, hi583_13⟩ := at_T63 (Kd.S_reads' HO_8.out).2.2 x11_1 p583 q583
         cases e583
         obtain ⟨ce583, hce583, hMe583, hcc583⟩ := Kd.S_get HO_8.out z63 x11_1 p583 (by first | exact q583 | exact od_ | (have e_ := (Kd.S_reads' HO_8.out).1; omega))
         obtain ⟨ve583_13, rfl, ge583_13⟩ := k63_openM hMe583
         have hv583_13 := hcc583 13 _ rfl
         rw [add_field _ _ 13 (by omega)] at hv583_13
         replace hv583_13 := Option.some.inj (hv583_13.symm.trans hx583_13)
         rw [hv583_13] at ge583_13
         have HL583_13 := aa_ (show Kd.R (Kd.int .i64) 3 _ _ _ _ ((rd_T63 t572 x11_1).f2) from ge583_13)
         clear hv583_13 ge583_13
         clear hcc583 hce583
         have HR583_13 := aa_ hi583_13
         have HC583_13 := aa_ hl583_13
         clear hi583_13 hl583_13
         replace p583 := eq_true p583
         replace q583 := eq_true q583
         have p584 : 0 ≤ (x11_1 : Int) := od_
         have q584 : x11_1 < (x10_2.length : Int) := od_
         obtain ⟨ad584, e584, hx584_0⟩ := Kd.at_bool (Kd.R_reads' HO_10.out).2.2 x11_1 p584 q584
         (try rw [← Nbq34.out] at hx584_0)
         obtain rfl : (⟨go19, 0, none⟩ : Addr) = ad584 := (by injection e584)
         (first | simp only [add_plain] at hx584_0 | simp only [add_at] at hx584_0 | simp only [Addr.add, Nat.zero_add] at hx584_0 | skip)
         replace p584 := eq_true p584
         replace q584 := eq_true q584
         go_wp2
         (try simp only [← hl10_1, ← hl10_2])
         go_roundg k2
         case measure => have := HK1.out; have := HK2.out; omega
         case rel => exact ⟨(x10_2), (wrap64 (x11_1 - 1)), rf_, H', ⟨by have := HK1.out; have := HK2.out; omega⟩, ⟨by (try simp only [hl10_1]); (try simp only [hl10_2]); (with_reducible repeat (first | apply Kd.S_alloc | apply Kd.S_drewN | apply Kd.S_drew)); exact HO_8.out⟩, ⟨by (try simp only [hl10_1]); (try simp only [hl10_2]); (with_reducible repeat (first | apply Kd.R_alloc | apply Kd.R_drewN | apply Kd.R_drew)); exact HO_10.out⟩, ⟨by (try simp only [hl10_1]); (try simp only [hl10_2]); (with_reducible repeat (first | refine blk_drewN ?_ _ | refine blk_drew ?_ | refine blk_alloc ?_ _)); exact BK571.out⟩, ⟨bl_⟩⟩
       ·rw [if_neg c32] at H
        have c32b0 : decide (x12_2 < (((rd_T63 t572 x11_1).f2).length : Int)) = false := decide_eq_false c32
        clear c32
        have H' := aa_ H
        clear H
        have p583 : 0 ≤ (x11_1 : Int) := od_
        have q583 : x11_1 < (t572.length : Int) := od_
        obtain ⟨ad583, A583_13, c583_13, e583, hx583_0, hx583_1, hx583_2, hx583_3, hx583_4, hx583_5, hx583_6, hx583_7, hx583_8, hx583_9, hx583_10, hx583_11, hx583_12, hx583_13, hl583_13, hi583_13⟩ := at_T63 (Kd.S_reads' HO_8.out).2.2 x11_1 p583 q583
        cases e583
        obtain ⟨ce583, hce583, hMe583, hcc583⟩ := Kd.S_get HO_8.out z63 x11_1 p583 (by first | exact q583 | exact od_ | (have e_ := (Kd.S_reads' HO_8.out).1; omega))
        obtain ⟨ve583_13, rfl, ge583_13⟩ := k63_openM hMe583
        have hv583_13 := hcc583 13 _ rfl
        rw [add_field _ _ 13 (by omega)] at hv583_13
        replace hv583_13 := Option.some.inj (hv583_13.symm.trans hx583_13)
        rw [hv583_13] at ge583_13
        have HL583_13 := aa_ (show Kd.R (Kd.int .i64) 3 _ _ _ _ ((rd_T63 t572 x11_1).f2) from ge583_13)
        clear hv583_13 ge583_13
        clear hcc583 hce583
        have HR583_13 := aa_ hi583_13
        have HC583_13 := aa_ hl583_13
        clear hi583_13 hl583_13
        replace p583 := eq_true p583
        replace q583 := eq_true q583
        go_wp2
        (try simp only [← hl10_1, ← hl10_2])
        go_roundg k2
        case measure => have := HK1.out; have := HK2.out; omega
        case rel => exact ⟨(x10_2), (wrap64 (x11_1 - 1)), rf_, H', ⟨by have := HK1.out; have := HK2.out; omega⟩, ⟨by (try simp only [hl10_1]); (try simp only [hl10_2]); (with_reducible repeat (first | apply Kd.S_alloc | apply Kd.S_drewN | apply Kd.S_drew)); exact HO_8.out⟩, ⟨by (try simp only [hl10_1]); (try simp only [hl10_2]); (with_reducible repeat (first | apply Kd.R_alloc | apply Kd.R_drewN | apply Kd.R_drew)); exact HO_10.out⟩, ⟨by (try simp only [hl10_1]); (try simp only [hl10_2]); (with_reducible repeat (first | refine blk_drewN ?_ _ | refine blk_drew ?_ | refine blk_alloc ?_ _)); exact BK571.out⟩, ⟨bl_⟩⟩
    ·rw [if_neg c29] at H
     have c29b0 : decide (0 ≤ x11_1) = false := decide_eq_false c29
     clear c29
     replace H : (if 0 ≤ (ji14) then (if (ji14 : Int).toNat ≤ 35184372088832 then (spec_ProofOf.l2 k1 t572 t575 x10_1 (List.replicate (ji14 : Int).toNat 0) (([] : List (S63))) 0) else (none)) else (none)) = some (r1, r2) := by first | (rw [hji14] at H; exact H) | (simp only [hji14] at H ⊢; exact H)
     have hji14w : (IntKind.i64.wrap (t575 + 1)) = ji14 := (i64_w _).trans hji14
     obtain ⟨c42, H⟩ := ifn_ H
     have c42b0 := eq_true c42
     have c42b1 : decide (0 ≤ (ji14)) = true := decide_eq_true c42
     clear c42
     obtain ⟨c43, H⟩ := ifn_ H
     have c43b0 := eq_true c43
     have c43b1 : decide ((ji14 : Int).toNat ≤ 35184372088832) = true := decide_eq_true c43
     clear c43
     obtain ⟨y588, hy588⟩ : ∃ y_ : List Int, y_ = (List.replicate (ji14 : Int).toNat 0) := ⟨_, rfl⟩
     replace H : (spec_ProofOf.l2 k1 t572 t575 x10_1 y588 (([] : List (S63))) 0) = some (r1, r2) := rh_ hy588 H
     have Ny588 := aa_ hy588
     clear hy588
     obtain ⟨y591, hy591⟩ : ∃ y_ : List (S63), y_ = (([] : List (S63))) := ⟨_, rfl⟩
     replace H : (spec_ProofOf.l2 k1 t572 t575 x10_1 y588 y591 0) = some (r1, r2) := rh_ hy591 H
     have Ny591 := aa_ hy591
     clear hy591
     have H' := aa_ H
     clear H
     go_wp2_with (first | ((with_reducible refine gD_ 67 rfl ?_); refine Kd.R_make (Kd.int .i64) _ 3 rfl (N := 67) rfl 32 _ _ rfl ji14 rfl rfl Try.underlying32 (.int .i64 0) 8 info3 rfl (by decide) (by omega) 0 (ok := fun _ => True) (okp := fun _ => True) rfl (fun _ hk => hk) trivial (od_) (Nat.le_trans (Nat.mul_le_mul_right _ (od_ : ji14.toNat ≤ 35184372088832)) (by omega)) (Below.refl _ _) (Nat.le_refl _) ?_; intro v589 w44 ho45 hb hg_ hnew_; clear hg_ hnew_; (first | rw [← Ny588.out] at ho45 | (simp only [Int.reduceToNat] at ho45; rw [← Ny588.out] at ho45)); replace HO_8 := aa_ (Kd.S_elder' (rs_ HO_8) (Kd.R_base ho45) hb); replace HO_10 := hob_ HO_10 hb; have HO590 := aa_ (Kd.R_lower ho45 bls_); replace BK571 := bkb_ BK571 hb; replace HB := hbs_ hb; clear hb ho45) | ((with_reducible refine gD_ 68 rfl ?_); refine Kd.S_lit k63 _ 63 ?hg (N := 68) ?hd (xs := ([] : List (S63))) (inner := []) (ok := fun _ => True) (okp := fun _ => True) ?hr ?hp (fun _ hk => hk) trivial (Below.refl _ _) (Nat.le_refl _) (by simp) ?_; (case hd => rfl); (case hg => rfl); (case hr => first | (go_simp; done) | (go_simp; rfl)); (case hp => exact (Reps.none _ _)); intro v592 w46 ho47 hb hg_ hnew_; clear hg_ hnew_; (first | rw [← Ny591.out] at ho47 | (simp only [Int.reduceToNat] at ho47; rw [← Ny591.out] at ho47)); replace HO_10 := hob_ HO_10 hb; have HO593 := aa_ (Kd.S_lower (Kd.S_new' (Kd.S_new' ho47 (Kd.S_lt (rs_ HO_8))) (Kd.R_lt (rr_ HO590))) bls_); replace HO_8 := aa_ (Kd.S_elder' (rs_ HO_8) (Kd.S_base ho47) hb); replace HO590 := hob_ HO590 hb; replace BK571 := bkb_ BK571 hb; replace HB := hbs_ hb; clear hb ho47))
     go_loopg [14, 15] k1 (fun kq v14 v15 w' => ∃ (x13_2 : List Int) (x14_2 : List (S63)) (x15_2 : Int), v15 = .int .i64 x15_2 ∧ Aside0 (spec_ProofOf.l2 kq t572 t575 x10_1 x13_2 x14_2 x15_2 = some (r1, r2)) ∧ Aside0 (kq ≤ k1) ∧ Aside0 (Kd.S k63 63 w' w.heap.size (fun k_ => some k_ ≠ (v589 : Value).ownBlock ∧ some k_ ≠ (v14 : Value).ownBlock) (.slice Ao23 t572.length co23) t572) ∧ Aside0 (Kd.R Kd.bool 4 w' w.heap.size (fun _ => True) (.slice (some ⟨go19, 0, none⟩) x10_1.length co19) x10_1) ∧ Aside0 (Kd.R (Kd.int .i64) 3 w' w.heap.size (fun _ => True) v589 x13_2) ∧ Aside0 (Kd.S k63 63 w' w.heap.size (fun k_ => some k_ ≠ ((.slice Ao23 t572.length co23) : Value).ownBlock ∧ some k_ ≠ (v589 : Value).ownBlock) v14 x14_2) ∧ Aside0 (w'.heap[gb571]? = some (.cells #[.int .i64 a1_0, .int .i64 a1_1] 27 (0, 0))) ∧ Aside0 (Below w.heap.size w w'))
     case atStart => exact ⟨(y588), (y591), (0), rf_, H', ⟨Nat.le_refl _⟩, ⟨by (try simp only [hl10_1]); (with_reducible repeat (first | apply Kd.S_alloc | apply Kd.S_drewN | apply Kd.S_drew)); exact Kd.S_mono HO_8.out (fun _ hk => ⟨hk.1.2, hk.2⟩)⟩, ⟨by (try simp only [hl10_1]); (with_reducible repeat (first | apply Kd.R_alloc | apply Kd.R_drewN | apply Kd.R_drew)); exact HO_10.out⟩, ⟨by (try simp only [hl10_1]); (with_reducible repeat (first | apply Kd.R_alloc | apply Kd.R_drewN | apply Kd.R_drew)); exact HO590.out⟩, ⟨by (try simp only [hl10_1]); (with_reducible repeat (first | apply Kd.S_alloc | apply Kd.S_drewN | apply Kd.S_drew)); exact Kd.S_mono HO593.out (fun _ hk => ⟨hk.1.2, hk.2⟩)⟩, ⟨by (try simp only [hl10_1]); (with_reducible repeat (first | refine blk_drewN ?_ _ | refine blk_drew ?_ | refine blk_alloc ?_ _)); exact BK571.out⟩, ⟨bl_⟩⟩
     case round =>
      clear H'
      try clear c1
      try clear p1
      try clear q1
      try clear hx1
      try clear c2
      try clear p2
      try clear c3
      try clear p3
      try clear q3
      try clear hx3
      try clear hf3
      try clear c4
      try clear c5
      try clear p5
      try clear q5
      try clear hx5
      try clear c6
      try clear c6b0
      try clear p6
      try clear c15
      try clear c15b0
      try clear c15b1
      try clear c16
      try clear c16b0
      try clear c16b1
      try clear c17
      try clear c17b0
      try clear c18
      try clear c18b0
      try clear p19
      try clear q19
      try clear hx19
      try clear hf19
      try clear c29
      try clear c29b0
      try clear c30
      try clear c30b0
      try clear c31
      try clear c31b0
      try clear c32
      try clear c32b0
      try clear c33
      try clear c33b0
      try clear q34
      try clear c35
      try clear c36
      try clear c36b0
      try clear c37
      try clear c37b0
      try clear c38
      try clear c38b0
      try clear p39
      try clear q39
      try clear hx39
      try clear hf39
      try clear c42
      try clear c42b0
      try clear c42b1
      try clear c43
      try clear c43b0
      try clear c43b1
      try clear hcz22
      try clear hcz9
      try clear hfz22
      try clear hfz9
      try clear hx19_0
      try clear hx39_0
      try clear hx583_0
      try clear hx583_1
      try clear hx583_10
      try clear hx583_11
      try clear hx583_12
      try clear hx583_13
      try clear hx583_2
      try clear hx583_3
      try clear hx583_4
      try clear hx583_5
      try clear hx583_6
      try clear hx583_7
      try clear hx583_8
      try clear hx583_9
      try clear hx584_0
      try clear hx585_0
      try clear hx585_1
      try clear hx585_10
      try clear hx585_11
      try clear hx585_12
      try clear hx585_13
      try clear hx585_2
      try clear hx585_3
      try clear hx585_4
      try clear hx585_5
      try clear hx585_6
      try clear hx585_7
      try clear hx585_8
      try clear hx585_9
      try clear hx586_0
      try clear p1
      try clear p19
      try clear p2
      try clear p39
      try clear p583
      try clear p584
      try clear p585
      try clear p586
      try clear p6
      try clear q1
      try clear q19
      try clear q39
      try clear q583
      try clear q584
      try clear q585
      try clear q586
      obtain ⟨x13_2, x14_2, x15_2, rfl, HA, HK2, HO_8, HO_10, HO_13, HO_14, BK571, HB⟩ := hrel
      cases gk with
      | zero => exact absurd HA.out (by simp [spec_ProofOf.l2])
      | succ k2 =>
       have H := HA.out
       clear HA
       simp only [spec_ProofOf.l2] at H
       by_cases c48 : x15_2 ≤ t575
       ·rw [if_pos c48] at H
        have c48b0 : decide (x15_2 ≤ t575) = true := decide_eq_true c48
        clear c48
        obtain ⟨c49b0, H⟩ := ifd_ H
        obtain ⟨c50b0, H⟩ := ifd_ H
        obtain ⟨bq51, hbq51⟩ : ∃ b_ : Bool, b_ = (rdOf false x10_1 x15_2) := ⟨_, rfl⟩
        replace H : (if bq51 = true then (if x15_2 < (t572.length : Int) then (spec_ProofOf.l3 k2 t572 t575 x10_1 x13_2 x14_2 x15_2 0 ((rd_T63 t572 x15_2).f0.f0) ((rd_T63 t572 x15_2).f0.f1.f0) ((rd_T63 t572 x15_2).f0.f1.f1) ((rd_T63 t572 x15_2).f0.f2) ((rd_T63 t572 x15_2).f0.f3.f0) ((rd_T63 t572 x15_2).f0.f3.f1) ((rd_T63 t572 x15_2).f0.f4.f0) ((rd_T63 t572 x15_2).f0.f4.f1) ((rd_T63 t572 x15_2).f0.f5) ((rd_T63 t572 x15_2).f0.f6) ((rd_T63 t572 x15_2).f1.f0.f0) ((rd_T63 t572 x15_2).f1.f0.f1) ((rd_T63 t572 x15_2).f1.f1) (([] : List Int))) else (none)) else (spec_ProofOf.l2 k2 t572 t575 x10_1 x13_2 x14_2 (wrap64 (x15_2 + 1)))) = some (r1, r2) := by rw [← hbq51] at H; exact H
        have Nbq51 := aa_ hbq51
        clear hbq51
        by_cases c52 : bq51 = true
        ·subst c52
         replace H := ite_t_ H
         obtain ⟨c53b0, H⟩ := ifd_ H
         obtain ⟨y597, hy597⟩ : ∃ y_ : List Int, y_ = (([] : List Int)) := ⟨_, rfl⟩
         replace H : (spec_ProofOf.l3 k2 t572 t575 x10_1 x13_2 x14_2 x15_2 0 ((rd_T63 t572 x15_2).f0.f0) ((rd_T63 t572 x15_2).f0.f1.f0) ((rd_T63 t572 x15_2).f0.f1.f1) ((rd_T63 t572 x15_2).f0.f2) ((rd_T63 t572 x15_2).f0.f3.f0) ((rd_T63 t572 x15_2).f0.f3.f1) ((rd_T63 t572 x15_2).f0.f4.f0) ((rd_T63 t572 x15_2).f0.f4.f1) ((rd_T63 t572 x15_2).f0.f5) ((rd_T63 t572 x15_2).f0.f6) ((rd_T63 t572 x15_2).f1.f0.f0) ((rd_T63 t572 x15_2).f1.f0.f1) ((rd_T63 t572 x15_2).f1.f1) y597) = some (r1, r2) := rh_ hy597 H
         have Ny597 := aa_ hy597
         clear hy597
         have H' := aa_ H
         clear H
         have p594 : 0 ≤ (x15_2 : Int) := od_
         have q594 : x15_2 < (x10_1.length : Int) := od_
         obtain ⟨ad594, e594, hx594_0⟩ := Kd.at_bool (Kd.R_reads' HO_10.out).2.2 x15_2 p594 q594
         (try rw [← Nbq51.out] at hx594_0)
         obtain rfl : (⟨go19, 0, none⟩ : Addr) = ad594 := (by injection e594)
         (first | simp only [add_plain] at hx594_0 | simp only [add_at] at hx594_0 | simp only [Addr.add, Nat.zero_add] at hx594_0 | skip)
         replace p594 := eq_true p594
         replace q594 := eq_true q594
         try go_wp2
         replace HO_8 := aa_ (Kd.S_drew HO_8.out)
         replace HO_10 := aa_ (Kd.R_drew HO_10.out)
         replace HO_13 := aa_ (Kd.R_drew HO_13.out)
         replace HO_14 := aa_ (Kd.S_drew HO_14.out)
         replace BK571 := aa_ (blk_drew BK571.out)
         replace HB := aa_ (below_drew1 HB.out)
         have p595 : 0 ≤ (x15_2 : Int) := od_
         have q595 : x15_2 < (t572.length : Int) := od_
         obtain ⟨ad595, A595_13, c595_13, e595, hx595_0, hx595_1, hx595_2, hx595_3, hx595_4, hx595_5, hx595_6, hx595_7, hx595_8, hx595_9, hx595_10, hx595_11, hx595_12, hx595_13, hl595_13, hi595_13⟩ := at_T63 (Kd.S_reads' HO_8.out).2.2 x15_2 p595 q595
         cases e595
         obtain ⟨ce595, hce595, hMe595, hcc595⟩ := Kd.S_get HO_8.out z63 x15_2 p595 (by first | exact q595 | exact od_ | (have e_ := (Kd.S_reads' HO_8.out).1; omega))
         obtain ⟨ve595_13, rfl, ge595_13⟩ := k63_openM hMe595
         have hv595_13 := hcc595 13 _ rfl
         rw [add_field _ _ 13 (by omega)] at hv595_13
         replace hv595_13 := Option.some.inj (hv595_13.symm.trans hx595_13)
         rw [hv595_13] at ge595_13
         have HL595_13 := aa_ (show Kd.R (Kd.int .i64) 3 _ _ _ _ ((rd_T63 t572 x15_2).f2) from ge595_13)
         clear hv595_13 ge595_13
         clear hcc595 hce595
         have HR595_13 := aa_ hi595_13
         have HC595_13 := aa_ hl595_13
         clear hi595_13 hl595_13
         replace p595 := eq_true p595
         replace q595 := eq_true q595
         have p596 : 0 ≤ (x15_2 : Int) := od_
         have q596 : x15_2 < (t572.length : Int) := od_
         obtain ⟨ad596, A596_13, c596_13, e596, hx596_0, hx596_1, hx596_2, hx596_3, hx596_4, hx596_5, hx596_6, hx596_7, hx596_8, hx596_9, hx596_10, hx596_11, hx596_12, hx596_13, hl596_13, hi596_13⟩ := at_T63 (Kd.S_reads' HO_8.out).2.2 x15_2 p596 q596
         obtain rfl : ad595 = ad596 := (by injection e596)
         obtain ⟨ce596, hce596, hMe596, hcc596⟩ := Kd.S_get HO_8.out z63 x15_2 p596 (by first | exact q596 | exact od_ | (have e_ := (Kd.S_reads' HO_8.out).1; omega))
         obtain ⟨ve596_13, rfl, ge596_13⟩ := k63_openM hMe596
         have hv596_13 := hcc596 13 _ rfl
         rw [add_field _ _ 13 (by omega)] at hv596_13
         replace hv596_13 := Option.some.inj (hv596_13.symm.trans hx596_13)
         rw [hv596_13] at ge596_13
         have HL596_13 := aa_ (show Kd.R (Kd.int .i64) 3 _ _ _ _ ((rd_T63 t572 x15_2).f2) from ge596_13)
         clear hv596_13 ge596_13
         clear hcc596 hce596
         have HR596_13 := aa_ hi596_13
         have HC596_13 := aa_ hl596_13
         clear hi596_13 hl596_13
         replace p596 := eq_true p596
         replace q596 := eq_true q596
         have ea_ := Option.some.inj (hx595_13.symm.trans hx596_13)
         injection ea_ with ea_ en_ ec_
         subst ea_
         subst ec_
         clear en_
         refine start_ (n := 14) (S := fun w' => w'.cell? (ad595.add ((x15_2).toNat * 14)) = some (.int .i64 ((rd_T63 t572 x15_2).f0.f0)) ∧ w'.cell? ⟨(ad595.add ((x15_2).toNat * 14)).block, (ad595.add ((x15_2).toNat * 14)).off + 1, none⟩ = some (.int .i64 ((rd_T63 t572 x15_2).f0.f1.f0)) ∧ w'.cell? ⟨(ad595.add ((x15_2).toNat * 14)).block, (ad595.add ((x15_2).toNat * 14)).off + 2, none⟩ = some (.int .i64 ((rd_T63 t572 x15_2).f0.f1.f1)) ∧ w'.cell? ⟨(ad595.add ((x15_2).toNat * 14)).block, (ad595.add ((x15_2).toNat * 14)).off + 3, none⟩ = some (.int .i64 ((rd_T63 t572 x15_2).f0.f2)) ∧ w'.cell? ⟨(ad595.add ((x15_2).toNat * 14)).block, (ad595.add ((x15_2).toNat * 14)).off + 4, none⟩ = some (.int .i64 ((rd_T63 t572 x15_2).f0.f3.f0)) ∧ w'.cell? ⟨(ad595.add ((x15_2).toNat * 14)).block, (ad595.add ((x15_2).toNat * 14)).off + 5, none⟩ = some (.int .i64 ((rd_T63 t572 x15_2).f0.f3.f1)) ∧ w'.cell? ⟨(ad595.add ((x15_2).toNat * 14)).block, (ad595.add ((x15_2).toNat * 14)).off + 6, none⟩ = some (.int .i64 ((rd_T63 t572 x15_2).f0.f4.f0)) ∧ w'.cell? ⟨(ad595.add ((x15_2).toNat * 14)).block, (ad595.add ((x15_2).toNat * 14)).off + 7, none⟩ = some (.int .i64 ((rd_T63 t572 x15_2).f0.f4.f1)) ∧ w'.cell? ⟨(ad595.add ((x15_2).toNat * 14)).block, (ad595.add ((x15_2).toNat * 14)).off + 8, none⟩ = some (.int .i64 ((rd_T63 t572 x15_2).f0.f5)) ∧ w'.cell? ⟨(ad595.add ((x15_2).toNat * 14)).block, (ad595.add ((x15_2).toNat * 14)).off + 9, none⟩ = some (.int .i64 ((rd_T63 t572 x15_2).f0.f6)) ∧ w'.cell? ⟨(ad595.add ((x15_2).toNat * 14)).block, (ad595.add ((x15_2).toNat * 14)).off + 10, none⟩ = some (.int .i64 ((rd_T63 t572 x15_2).f1.f0.f0)) ∧ w'.cell? ⟨(ad595.add ((x15_2).toNat * 14)).block, (ad595.add ((x15_2).toNat * 14)).off + 11, none⟩ = some (.int .i64 ((rd_T63 t572 x15_2).f1.f0.f1)) ∧ w'.cell? ⟨(ad595.add ((x15_2).toNat * 14)).block, (ad595.add ((x15_2).toNat * 14)).off + 12, none⟩ = some (.int .i64 ((rd_T63 t572 x15_2).f1.f1)) ∧ w'.cell? ⟨(ad595.add ((x15_2).toNat * 14)).block, (ad595.add ((x15_2).toNat * 14)).off + 13, none⟩ = some (.slice A595_13 ((rd_T63 t572 x15_2).f2).length c595_13) ∧ w'.cell? (ad595.add ((x15_2).toNat * 14)) = some (.int .i64 ((rd_T63 t572 x15_2).f0.f0)) ∧ w'.cell? ⟨(ad595.add ((x15_2).toNat * 14)).block, (ad595.add ((x15_2).toNat * 14)).off + 1, none⟩ = some (.int .i64 ((rd_T63 t572 x15_2).f0.f1.f0)) ∧ w'.cell? ⟨(ad595.add ((x15_2).toNat * 14)).block, (ad595.add ((x15_2).toNat * 14)).off + 2, none⟩ = some (.int .i64 ((rd_T63 t572 x15_2).f0.f1.f1)) ∧ w'.cell? ⟨(ad595.add ((x15_2).toNat * 14)).block, (ad595.add ((x15_2).toNat * 14)).off + 3, none⟩ = some (.int .i64 ((rd_T63 t572 x15_2).f0.f2)) ∧ w'.cell? ⟨(ad595.add ((x15_2).toNat * 14)).block, (ad595.add ((x15_2).toNat * 14)).off + 4, none⟩ = some (.int .i64 ((rd_T63 t572 x15_2).f0.f3.f0)) ∧ w'.cell? ⟨(ad595.add ((x15_2).toNat * 14)).block, (ad595.add ((x15_2).toNat * 14)).off + 5, none⟩ = some (.int .i64 ((rd_T63 t572 x15_2).f0.f3.f1)) ∧ w'.cell? ⟨(ad595.add ((x15_2).toNat * 14)).block, (ad595.add ((x15_2).toNat * 14)).off + 6, none⟩ = some (.int .i64 ((rd_T63 t572 x15_2).f0.f4.f0)) ∧ w'.cell? ⟨(ad595.add ((x15_2).toNat * 14)).block, (ad595.add ((x15_2).toNat * 14)).off + 7, none⟩ = some (.int .i64 ((rd_T63 t572 x15_2).f0.f4.f1)) ∧ w'.cell? ⟨(ad595.add ((x15_2).toNat * 14)).block, (ad595.add ((x15_2).toNat * 14)).off + 8, none⟩ = some (.int .i64 ((rd_T63 t572 x15_2).f0.f5)) ∧ w'.cell? ⟨(ad595.add ((x15_2).toNat * 14)).block, (ad595.add ((x15_2).toNat * 14)).off + 9, none⟩ = some (.int .i64 ((rd_T63 t572 x15_2).f0.f6)) ∧ w'.cell? ⟨(ad595.add ((x15_2).toNat * 14)).block, (ad595.add ((x15_2).toNat * 14)).off + 10, none⟩ = some (.int .i64 ((rd_T63 t572 x15_2).f1.f0.f0)) ∧ w'.cell? ⟨(ad595.add ((x15_2).toNat * 14)).block, (ad595.add ((x15_2).toNat * 14)).off + 11, none⟩ = some (.int .i64 ((rd_T63 t572 x15_2).f1.f0.f1)) ∧ w'.cell? ⟨(ad595.add ((x15_2).toNat * 14)).block, (ad595.add ((x15_2).toNat * 14)).off + 12, none⟩ = some (.int .i64 ((rd_T63 t572 x15_2).f1.f1)) ∧ w'.cell? ⟨(ad595.add ((x15_2).toNat * 14)).block, (ad595.add ((x15_2).toNat * 14)).off + 13, none⟩ = some (.slice A595_13 ((rd_T63 t572 x15_2).f2).length c595_13)) (ds := []) #[false, false, false, false, false, false, false, false, false, false, false, false, false, false] (by kernel_rfl) rfl rfl ⟨hx595_0, hx595_1, hx595_2, hx595_3, hx595_4, hx595_5, hx595_6, hx595_7, hx595_8, hx595_9, hx595_10, hx595_11, hx595_12, hx595_13, hx596_0, hx596_1, hx596_2, hx596_3, hx596_4, hx596_5, hx596_6, hx596_7, hx596_8, hx596_9, hx596_10, hx596_11, hx596_12, hx596_13⟩ (fun hHeld => ?_); refine with_tabW spec_ProofOf.tab20 spec_ProofOf.bits20 (fun HT_ HW_ => ?_)
         generalize wr.drew = w54 at HO_8 HO_10 HO_13 HO_14 BK571 HB HL595_13 HL596_13 HR595_13 HR596_13 hx595_0 hx595_1 hx595_10 hx595_11 hx595_12 hx595_13 hx595_2 hx595_3 hx595_4 hx595_5 hx595_6 hx595_7 hx595_8 hx595_9 hx596_0 hx596_1 hx596_10 hx596_11 hx596_12 hx596_13 hx596_2 hx596_3 hx596_4 hx596_5 hx596_6 hx596_7 hx596_8 hx596_9 hHeld ⊢
         refine pureZ_ (i := 0) (some 79) #[true, false, false, false, false, false, false, false, false, false, false, false, false, false] (ao_ HT_) ?_
         refine pureZ_ (i := 1) (some 80) #[true, true, false, false, false, false, false, false, false, false, false, false, false, false] (ao_ HT_) ?_
         refine pureZ_ (i := 2) (some 81) #[true, true, true, false, false, false, false, false, false, false, false, false, false, false] (ao_ HT_) ?_
         refine pureZ_ (i := 3) (some 82) #[true, true, true, true, false, false, false, false, false, false, false, false, false, false] (ao_ HT_) ?_
         refine pureZ_ (i := 5) (some 84) #[true, true, true, true, false, true, false, false, false, false, false, false, false, false] (ao_ HT_) ?_
         refine pureZ_ (i := 6) (some 85) #[true, true, true, true, false, true, true, false, false, false, false, false, false, false] (ao_ HT_) ?_
         refine pureZ_ (i := 7) (some 86) #[true, true, true, true, false, true, true, true, false, false, false, false, false, false] (ao_ HT_) ?_
         refine pureZ_ (i := 8) (some 87) #[true, true, true, true, false, true, true, true, true, false, false, false, false, false] (ao_ HT_) ?_
         refine takeZ_ (i := 4) (some 83) #[true, true, true, true, true, true, true, true, true, false, false, false, false, false] (take_ofW HT_.out HW_.out (by kernel_rfl)) hHeld ?_
         refine takeZ_ (i := 9) (some 88) #[true, true, true, true, true, true, true, true, true, true, false, false, false, false] (take_ofW HT_.out HW_.out (by kernel_rfl)) hHeld ?_
         refine join_ (σ := Value × Nat) 1 #[true, true, true, true, true, true, true, true, true, true, true, true, true, false] (fun s_ => [(89, s_.1), (16, .pointer (some ⟨s_.2, 0, none⟩)), (90, .agg #[.int .i64 ((rd_T63 t572 x15_2).f0.f0), .int .i64 ((rd_T63 t572 x15_2).f0.f1.f0), .int .i64 ((rd_T63 t572 x15_2).f0.f1.f1), .int .i64 ((rd_T63 t572 x15_2).f0.f2), .int .i64 ((rd_T63 t572 x15_2).f0.f3.f0), .int .i64 ((rd_T63 t572 x15_2).f0.f3.f1), .int .i64 ((rd_T63 t572 x15_2).f0.f4.f0), .int .i64 ((rd_T63 t572 x15_2).f0.f4.f1), .int .i64 ((rd_T63 t572 x15_2).f0.f5), .int .i64 ((rd_T63 t572 x15_2).f0.f6), .int .i64 ((rd_T63 t572 x15_2).f1.f0.f0), .int .i64 ((rd_T63 t572 x15_2).f1.f0.f1), .int .i64 ((rd_T63 t572 x15_2).f1.f1), s_.1])]) (fun s_ w' => (w'.cell? (ad595.add ((x15_2).toNat * 14)) = some (.int .i64 ((rd_T63 t572 x15_2).f0.f0)) ∧ w'.cell? ⟨(ad595.add ((x15_2).toNat * 14)).block, (ad595.add ((x15_2).toNat * 14)).off + 1, none⟩ = some (.int .i64 ((rd_T63 t572 x15_2).f0.f1.f0)) ∧ w'.cell? ⟨(ad595.add ((x15_2).toNat * 14)).block, (ad595.add ((x15_2).toNat * 14)).off + 2, none⟩ = some (.int .i64 ((rd_T63 t572 x15_2).f0.f1.f1)) ∧ w'.cell? ⟨(ad595.add ((x15_2).toNat * 14)).block, (ad595.add ((x15_2).toNat * 14)).off + 3, none⟩ = some (.int .i64 ((rd_T63 t572 x15_2).f0.f2)) ∧ w'.cell? ⟨(ad595.add ((x15_2).toNat * 14)).block, (ad595.add ((x15_2).toNat * 14)).off + 4, none⟩ = some (.int .i64 ((rd_T63 t572 x15_2).f0.f3.f0)) ∧ w'.cell? ⟨(ad595.add ((x15_2).toNat * 14)).block, (ad595.add ((x15_2).toNat * 14)).off + 5, none⟩ = some (.int .i64 ((rd_T63 t572 x15_2).f0.f3.f1)) ∧ w'.cell? ⟨(ad595.add ((x15_2).toNat * 14)).block, (ad595.add ((x15_2).toNat * 14)).off + 6, none⟩ = some (.int .i64 ((rd_T63 t572 x15_2).f0.f4.f0)) ∧ w'.cell? ⟨(ad595.add ((x15_2).toNat * 14)).block, (ad595.add ((x15_2).toNat * 14)).off + 7, none⟩ = some (.int .i64 ((rd_T63 t572 x15_2).f0.f4.f1)) ∧ w'.cell? ⟨(ad595.add ((x15_2).toNat * 14)).block, (ad595.add ((x15_2).toNat * 14)).off + 8, none⟩ = some (.int .i64 ((rd_T63 t572 x15_2).f0.f5)) ∧ w'.cell? ⟨(ad595.add ((x15_2).toNat * 14)).block, (ad595.add ((x15_2).toNat * 14)).off + 9, none⟩ = some (.int .i64 ((rd_T63 t572 x15_2).f0.f6)) ∧ w'.cell? ⟨(ad595.add ((x15_2).toNat * 14)).block, (ad595.add ((x15_2).toNat * 14)).off + 10, none⟩ = some (.int .i64 ((rd_T63 t572 x15_2).f1.f0.f0)) ∧ w'.cell? ⟨(ad595.add ((x15_2).toNat * 14)).block, (ad595.add ((x15_2).toNat * 14)).off + 11, none⟩ = some (.int .i64 ((rd_T63 t572 x15_2).f1.f0.f1)) ∧ w'.cell? ⟨(ad595.add ((x15_2).toNat * 14)).block, (ad595.add ((x15_2).toNat * 14)).off + 12, none⟩ = some (.int .i64 ((rd_T63 t572 x15_2).f1.f1)) ∧ w'.cell? ⟨(ad595.add ((x15_2).toNat * 14)).block, (ad595.add ((x15_2).toNat * 14)).off + 13, none⟩ = some (.slice A595_13 ((rd_T63 t572 x15_2).f2).length c595_13) ∧ w'.cell? (ad595.add ((x15_2).toNat * 14)) = some (.int .i64 ((rd_T63 t572 x15_2).f0.f0)) ∧ w'.cell? ⟨(ad595.add ((x15_2).toNat * 14)).block, (ad595.add ((x15_2).toNat * 14)).off + 1, none⟩ = some (.int .i64 ((rd_T63 t572 x15_2).f0.f1.f0)) ∧ w'.cell? ⟨(ad595.add ((x15_2).toNat * 14)).block, (ad595.add ((x15_2).toNat * 14)).off + 2, none⟩ = some (.int .i64 ((rd_T63 t572 x15_2).f0.f1.f1)) ∧ w'.cell? ⟨(ad595.add ((x15_2).toNat * 14)).block, (ad595.add ((x15_2).toNat * 14)).off + 3, none⟩ = some (.int .i64 ((rd_T63 t572 x15_2).f0.f2)) ∧ w'.cell? ⟨(ad595.add ((x15_2).toNat * 14)).block, (ad595.add ((x15_2).toNat * 14)).off + 4, none⟩ = some (.int .i64 ((rd_T63 t572 x15_2).f0.f3.f0)) ∧ w'.cell? ⟨(ad595.add ((x15_2).toNat * 14)).block, (ad595.add ((x15_2).toNat * 14)).off + 5, none⟩ = some (.int .i64 ((rd_T63 t572 x15_2).f0.f3.f1)) ∧ w'.cell? ⟨(ad595.add ((x15_2).toNat * 14)).block, (ad595.add ((x15_2).toNat * 14)).off + 6, none⟩ = some (.int .i64 ((rd_T63 t572 x15_2).f0.f4.f0)) ∧ w'.cell? ⟨(ad595.add ((x15_2).toNat * 14)).block, (ad595.add ((x15_2).toNat * 14)).off + 7, none⟩ = some (.int .i64 ((rd_T63 t572 x15_2).f0.f4.f1)) ∧ w'.cell? ⟨(ad595.add ((x15_2).toNat * 14)).block, (ad595.add ((x15_2).toNat * 14)).off + 8, none⟩ = some (.int .i64 ((rd_T63 t572 x15_2).f0.f5)) ∧ w'.cell? ⟨(ad595.add ((x15_2).toNat * 14)).block, (ad595.add ((x15_2).toNat * 14)).off + 9, none⟩ = some (.int .i64 ((rd_T63 t572 x15_2).f0.f6)) ∧ w'.cell? ⟨(ad595.add ((x15_2).toNat * 14)).block, (ad595.add ((x15_2).toNat * 14)).off + 10, none⟩ = some (.int .i64 ((rd_T63 t572 x15_2).f1.f0.f0)) ∧ w'.cell? ⟨(ad595.add ((x15_2).toNat * 14)).block, (ad595.add ((x15_2).toNat * 14)).off + 11, none⟩ = some (.int .i64 ((rd_T63 t572 x15_2).f1.f0.f1)) ∧ w'.cell? ⟨(ad595.add ((x15_2).toNat * 14)).block, (ad595.add ((x15_2).toNat * 14)).off + 12, none⟩ = some (.int .i64 ((rd_T63 t572 x15_2).f1.f1)) ∧ w'.cell? ⟨(ad595.add ((x15_2).toNat * 14)).block, (ad595.add ((x15_2).toNat * 14)).off + 13, none⟩ = some (.slice A595_13 ((rd_T63 t572 x15_2).f2).length c595_13)) ∧ (Kd.R (Kd.int .i64) 3 w' w.heap.size (fun k_ => some k_ ≠ (s_.1 : Value).ownBlock ∧ some k_ ≠ (v589 : Value).ownBlock ∧ some k_ ≠ (u14 : Value).ownBlock ∧ some k_ ≠ (.slice (some ad595) t572.length co23 : Value).ownBlock) (.slice A595_13 ((rd_T63 t572 x15_2).f2).length c595_13) ((rd_T63 t572 x15_2).f2)) ∧ (Kd.R (Kd.int .i64) 3 w' w.heap.size (fun k_ => some k_ ≠ (s_.1 : Value).ownBlock ∧ some k_ ≠ (v589 : Value).ownBlock ∧ some k_ ≠ (u14 : Value).ownBlock ∧ some k_ ≠ (.slice (some ad595) t572.length co23 : Value).ownBlock) (.slice A595_13 ((rd_T63 t572 x15_2).f2).length c595_13) ((rd_T63 t572 x15_2).f2)) ∧ (Kd.R (Kd.int .i64) 3 w' w.heap.size (fun k_ => some k_ ≠ (.slice A595_13 ((rd_T63 t572 x15_2).f2).length c595_13 : Value).ownBlock ∧ some k_ ≠ (.slice A595_13 ((rd_T63 t572 x15_2).f2).length c595_13 : Value).ownBlock ∧ some k_ ≠ (v589 : Value).ownBlock) s_.1 y597) ∧ (Kd.R Kd.bool 4 w' w.heap.size (fun _ => True) (.slice (some ⟨go19, 0, none⟩) x10_1.length co19) x10_1) ∧ (Kd.R (Kd.int .i64) 3 w' w.heap.size (fun k_ => some k_ ≠ (s_.1 : Value).ownBlock) v589 x13_2) ∧ (Kd.S k63 63 w' w.heap.size (fun k_ => some k_ ≠ (s_.1 : Value).ownBlock ∧ some k_ ≠ (v589 : Value).ownBlock ∧ some k_ ≠ (.slice (some ad595) t572.length co23 : Value).ownBlock ∧ k_ ≠ s_.2) u14 x14_2) ∧ (Kd.S k63 63 w' w.heap.size (fun k_ => some k_ ≠ (s_.1 : Value).ownBlock ∧ some k_ ≠ (v589 : Value).ownBlock ∧ some k_ ≠ (u14 : Value).ownBlock ∧ k_ ≠ s_.2) (.slice (some ad595) t572.length co23) t572) ∧ (w'.heap[gb571]? = some (.cells #[.int .i64 a1_0, .int .i64 a1_1] 27 (0, 0))) ∧ (w'.heap[s_.2]? = some (.cells #[.int .i64 0, .int .i64 0, .int .i64 0, .int .i64 0, .int .i64 0, .int .i64 0, .int .i64 0, .int .i64 0, .int .i64 0, .int .i64 0, .int .i64 0, .int .i64 0, .int .i64 0, .slice none 0 0] 63 (0, 0))) ∧ (w.heap.size ≤ s_.2) ∧ (w.heap.size ≤ s_.2) ∧ (gb571 ≠ s_.2) ∧ (s_.2 ≠ gb571) ∧ (Below w.heap.size w w')) ?_ ?_
         rotate_left
         ·intro hCont
          refine two_ (i := 10) (j := 12) (Ni := some 89) (Nj := some 16) #[true, true, true, true, true, true, true, true, true, true, true, false, false, false] #[true, true, true, true, true, true, true, true, true, true, false, false, true, false] rfl rfl rfl rfl (two_of HT_.out (by kernel_rfl)) (by decide) (by decide) (fun K hK => ?_) (fun K hK => ?_)
          ·skip
           refine Kd.R_lit_step (Kd.int .i64) _ 3 ?hg (N := 89) ?hd (xs := ([] : List Int)) (inner := []) (ok := fun _ => True) (okp := fun _ => True) ?hr ?hp (fun _ hk => hk) trivial (Below.refl _ _) (Nat.le_refl _) (by simp) ?_; (case hd => rfl); (case hg => rfl); (case hr => first | (go_simp; done) | (go_simp; rfl)); (case hp => exact (Reps.none _ _))
           intro v598 w55 ho56 hb hg_ hnew_
           have HS0_ := (hb.cell (World.block_lt_of_cell? _ _ (hHeld.1))).trans (hHeld.1)
           have HS1_ := (hb.cell (World.block_lt_of_cell? _ _ (hHeld.2.1))).trans (hHeld.2.1)
           have HS2_ := (hb.cell (World.block_lt_of_cell? _ _ (hHeld.2.2.1))).trans (hHeld.2.2.1)
           have HS3_ := (hb.cell (World.block_lt_of_cell? _ _ (hHeld.2.2.2.1))).trans (hHeld.2.2.2.1)
           have HS4_ := (hb.cell (World.block_lt_of_cell? _ _ (hHeld.2.2.2.2.1))).trans (hHeld.2.2.2.2.1)
           have HS5_ := (hb.cell (World.block_lt_of_cell? _ _ (hHeld.2.2.2.2.2.1))).trans (hHeld.2.2.2.2.2.1)
           have HS6_ := (hb.cell (World.block_lt_of_cell? _ _ (hHeld.2.2.2.2.2.2.1))).trans (hHeld.2.2.2.2.2.2.1)
           have HS7_ := (hb.cell (World.block_lt_of_cell? _ _ (hHeld.2.2.2.2.2.2.2.1))).trans (hHeld.2.2.2.2.2.2.2.1)
           have HS8_ := (hb.cell (World.block_lt_of_cell? _ _ (hHeld.2.2.2.2.2.2.2.2.1))).trans (hHeld.2.2.2.2.2.2.2.2.1)
           have HS9_ := (hb.cell (World.block_lt_of_cell? _ _ (hHeld.2.2.2.2.2.2.2.2.2.1))).trans (hHeld.2.2.2.2.2.2.2.2.2.1)
           have HS10_ := (hb.cell (World.block_lt_of_cell? _ _ (hHeld.2.2.2.2.2.2.2.2.2.2.1))).trans (hHeld.2.2.2.2.2.2.2.2.2.2.1)
           have HS11_ := (hb.cell (World.block_lt_of_cell? _ _ (hHeld.2.2.2.2.2.2.2.2.2.2.2.1))).trans (hHeld.2.2.2.2.2.2.2.2.2.2.2.1)
           have HS12_ := (hb.cell (World.block_lt_of_cell? _ _ (hHeld.2.2.2.2.2.2.2.2.2.2.2.2.1))).trans (hHeld.2.2.2.2.2.2.2.2.2.2.2.2.1)
           have HS13_ := (hb.cell (World.block_lt_of_cell? _ _ (hHeld.2.2.2.2.2.2.2.2.2.2.2.2.2.1))).trans (hHeld.2.2.2.2.2.2.2.2.2.2.2.2.2.1)
           have HS14_ := (hb.cell (World.block_lt_of_cell? _ _ (hHeld.2.2.2.2.2.2.2.2.2.2.2.2.2.2.1))).trans (hHeld.2.2.2.2.2.2.2.2.2.2.2.2.2.2.1)
           have HS15_ := (hb.cell (World.block_lt_of_cell? _ _ (hHeld.2.2.2.2.2.2.2.2.2.2.2.2.2.2.2.1))).trans (hHeld.2.2.2.2.2.2.2.2.2.2.2.2.2.2.2.1)
           have HS16_ := (hb.cell (World.block_lt_of_cell? _ _ (hHeld.2.2.2.2.2.2.2.2.2.2.2.2.2.2.2.2.1))).trans (hHeld.2.2.2.2.2.2.2.2.2.2.2.2.2.2.2.2.1)
           have HS17_ := (hb.cell (World.block_lt_of_cell? _ _ (hHeld.2.2.2.2.2.2.2.2.2.2.2.2.2.2.2.2.2.1))).trans (hHeld.2.2.2.2.2.2.2.2.2.2.2.2.2.2.2.2.2.1)
           have HS18_ := (hb.cell (World.block_lt_of_cell? _ _ (hHeld.2.2.2.2.2.2.2.2.2.2.2.2.2.2.2.2.2.2.1))).trans (hHeld.2.2.2.2.2.2.2.2.2.2.2.2.2.2.2.2.2.2.1)
           have HS19_ := (hb.cell (World.block_lt_of_cell? _ _ (hHeld.2.2.2.2.2.2.2.2.2.2.2.2.2.2.2.2.2.2.2.1))).trans (hHeld.2.2.2.2.2.2.2.2.2.2.2.2.2.2.2.2.2.2.2.1)
           have HS20_ := (hb.cell (World.block_lt_of_cell? _ _ (hHeld.2.2.2.2.2.2.2.2.2.2.2.2.2.2.2.2.2.2.2.2.1))).trans (hHeld.2.2.2.2.2.2.2.2.2.2.2.2.2.2.2.2.2.2.2.2.1)
           have HS21_ := (hb.cell (World.block_lt_of_cell? _ _ (hHeld.2.2.2.2.2.2.2.2.2.2.2.2.2.2.2.2.2.2.2.2.2.1))).trans (hHeld.2.2.2.2.2.2.2.2.2.2.2.2.2.2.2.2.2.2.2.2.2.1)
           have HS22_ := (hb.cell (World.block_lt_of_cell? _ _ (hHeld.2.2.2.2.2.2.2.2.2.2.2.2.2.2.2.2.2.2.2.2.2.2.1))).trans (hHeld.2.2.2.2.2.2.2.2.2.2.2.2.2.2.2.2.2.2.2.2.2.2.1)
           have HS23_ := (hb.cell (World.block_lt_of_cell? _ _ (hHeld.2.2.2.2.2.2.2.2.2.2.2.2.2.2.2.2.2.2.2.2.2.2.2.1))).trans (hHeld.2.2.2.2.2.2.2.2.2.2.2.2.2.2.2.2.2.2.2.2.2.2.2.1)
           have HS24_ := (hb.cell (World.block_lt_of_cell? _ _ (hHeld.2.2.2.2.2.2.2.2.2.2.2.2.2.2.2.2.2.2.2.2.2.2.2.2.1))).trans (hHeld.2.2.2.2.2.2.2.2.2.2.2.2.2.2.2.2.2.2.2.2.2.2.2.2.1)
           have HS25_ := (hb.cell (World.block_lt_of_cell? _ _ (hHeld.2.2.2.2.2.2.2.2.2.2.2.2.2.2.2.2.2.2.2.2.2.2.2.2.2.1))).trans (hHeld.2.2.2.2.2.2.2.2.2.2.2.2.2.2.2.2.2.2.2.2.2.2.2.2.2.1)
           have HS26_ := (hb.cell (World.block_lt_of_cell? _ _ (hHeld.2.2.2.2.2.2.2.2.2.2.2.2.2.2.2.2.2.2.2.2.2.2.2.2.2.2.1))).trans (hHeld.2.2.2.2.2.2.2.2.2.2.2.2.2.2.2.2.2.2.2.2.2.2.2.2.2.2.1)
           have HS27_ := (hb.cell (World.block_lt_of_cell? _ _ (hHeld.2.2.2.2.2.2.2.2.2.2.2.2.2.2.2.2.2.2.2.2.2.2.2.2.2.2.2))).trans (hHeld.2.2.2.2.2.2.2.2.2.2.2.2.2.2.2.2.2.2.2.2.2.2.2.2.2.2.2)
           clear hg_ hnew_
           (first | rw [← Ny597.out] at ho56 | (simp only [Int.reduceToNat] at ho56; rw [← Ny597.out] at ho56))
           replace HO_8 := aa_ (Kd.S_elder' (rs_ HO_8) (Kd.R_base ho56) hb)
           replace HO_10 := hob_ HO_10 hb
           replace HO_14 := aa_ (Kd.S_elder' (rs_ HO_14) (Kd.R_base ho56) hb)
           have HO599 := aa_ (Kd.R_lower (Kd.R_new' (Kd.R_new' (Kd.R_new' ho56 (Kd.R_lt (rr_ HO_13))) (Kd.R_lt (rr_ HL595_13))) (Kd.R_lt (rr_ HL596_13))) bls_)
           replace HO_13 := aa_ (Kd.R_elder' (rr_ HO_13) (Kd.R_base ho56) hb)
           replace HL595_13 := aa_ (Kd.R_elder' (rr_ HL595_13) (Kd.R_base ho56) hb)
           replace HL596_13 := aa_ (Kd.R_elder' (rr_ HL596_13) (Kd.R_base ho56) hb)
           replace BK571 := bkb_ BK571 hb
           replace HR595_13 := aa_ (Kd.C_below (by repeat (first | (with_reducible exact HR595_13.out) | (with_reducible refine Kd.C_alloc ?_ _) | (with_reducible refine Kd.C_drewN ?_ _) | (with_reducible refine Kd.C_drew ?_) | exact HR595_13.out)) hb)
           replace HR596_13 := aa_ (Kd.C_below (by repeat (first | (with_reducible exact HR596_13.out) | (with_reducible refine Kd.C_alloc ?_ _) | (with_reducible refine Kd.C_drewN ?_ _) | (with_reducible refine Kd.C_drew ?_) | exact HR596_13.out)) hb)
           replace HB := hbs_ hb
           clear hb ho56
           obtain ⟨Ao57, co57, eo57⟩ := Kd.R_slice HO599.out
           (first | subst eo57 | (injection eo57 with f1_ f2_ f3_; have f4_ := f1_.symm; have f5_ := f3_.symm; clear f1_ f2_ f3_; subst f4_; subst f5_))
           refine hK.out _ _ ⟨HS0_, HS1_, HS2_, HS3_, HS4_, HS5_, HS6_, HS7_, HS8_, HS9_, HS10_, HS11_, HS12_, HS13_, HS14_, HS15_, HS16_, HS17_, HS18_, HS19_, HS20_, HS21_, HS22_, HS23_, HS24_, HS25_, HS26_, HS27_⟩ (fun hHeld => ?_)
           clear hK K
           refine norm_ (a' := ?_) ?_ ?_
           rotate_left
           ·show Act.put _ (some 89) _ = _
            simp only [Act.put, List.setIfInBounds_toArray, List.set_cons_zero, List.set_cons_succ, i64_w, i32_w]
            rfl
           refine pureZ_ (i := 11) (some 90) #[true, true, true, true, true, true, true, true, true, true, true, true, false, false] (ao_ HT_) ?_
           refine one_ (i := 12) (N := some 16) #[true, true, true, true, true, true, true, true, true, true, true, true, true, false] rfl rfl (one_of HT_.out (by kernel_rfl)) (by decide) (fun K hK => ?_)
           refine box_step ?hg (N := 16) ?hd (cs := #[.int .i64 0, .int .i64 0, .int .i64 0, .int .i64 0, .int .i64 0, .int .i64 0, .int .i64 0, .int .i64 0, .int .i64 0, .int .i64 0, .int .i64 0, .int .i64 0, .int .i64 0, .slice none 0 0]) (t := 63) ?hr ?_; (case hd => rfl); (case hg => rfl); (case hr => first | (go_simp; done) | (go_simp; rfl))
           intro gb600 hg w58 hbox hb
           have HS0_ := (hb.cell (World.block_lt_of_cell? _ _ (hHeld.1))).trans (hHeld.1)
           have HS1_ := (hb.cell (World.block_lt_of_cell? _ _ (hHeld.2.1))).trans (hHeld.2.1)
           have HS2_ := (hb.cell (World.block_lt_of_cell? _ _ (hHeld.2.2.1))).trans (hHeld.2.2.1)
           have HS3_ := (hb.cell (World.block_lt_of_cell? _ _ (hHeld.2.2.2.1))).trans (hHeld.2.2.2.1)
           have HS4_ := (hb.cell (World.block_lt_of_cell? _ _ (hHeld.2.2.2.2.1))).trans (hHeld.2.2.2.2.1)
           have HS5_ := (hb.cell (World.block_lt_of_cell? _ _ (hHeld.2.2.2.2.2.1))).trans (hHeld.2.2.2.2.2.1)
           have HS6_ := (hb.cell (World.block_lt_of_cell? _ _ (hHeld.2.2.2.2.2.2.1))).trans (hHeld.2.2.2.2.2.2.1)
           have HS7_ := (hb.cell (World.block_lt_of_cell? _ _ (hHeld.2.2.2.2.2.2.2.1))).trans (hHeld.2.2.2.2.2.2.2.1)
           have HS8_ := (hb.cell (World.block_lt_of_cell? _ _ (hHeld.2.2.2.2.2.2.2.2.1))).trans (hHeld.2.2.2.2.2.2.2.2.1)
           have HS9_ := (hb.cell (World.block_lt_of_cell? _ _ (hHeld.2.2.2.2.2.2.2.2.2.1))).trans (hHeld.2.2.2.2.2.2.2.2.2.1)
           have HS10_ := (hb.cell (World.block_lt_of_cell? _ _ (hHeld.2.2.2.2.2.2.2.2.2.2.1))).trans (hHeld.2.2.2.2.2.2.2.2.2.2.1)
           have HS11_ := (hb.cell (World.block_lt_of_cell? _ _ (hHeld.2.2.2.2.2.2.2.2.2.2.2.1))).trans (hHeld.2.2.2.2.2.2.2.2.2.2.2.1)
           have HS12_ := (hb.cell (World.block_lt_of_cell? _ _ (hHeld.2.2.2.2.2.2.2.2.2.2.2.2.1))).trans (hHeld.2.2.2.2.2.2.2.2.2.2.2.2.1)
           have HS13_ := (hb.cell (World.block_lt_of_cell? _ _ (hHeld.2.2.2.2.2.2.2.2.2.2.2.2.2.1))).trans (hHeld.2.2.2.2.2.2.2.2.2.2.2.2.2.1)
           have HS14_ := (hb.cell (World.block_lt_of_cell? _ _ (hHeld.2.2.2.2.2.2.2.2.2.2.2.2.2.2.1))).trans (hHeld.2.2.2.2.2.2.2.2.2.2.2.2.2.2.1)
           have HS15_ := (hb.cell (World.block_lt_of_cell? _ _ (hHeld.2.2.2.2.2.2.2.2.2.2.2.2.2.2.2.1))).trans (hHeld.2.2.2.2.2.2.2.2.2.2.2.2.2.2.2.1)
           have HS16_ := (hb.cell (World.block_lt_of_cell? _ _ (hHeld.2.2.2.2.2.2.2.2.2.2.2.2.2.2.2.2.1))).trans (hHeld.2.2.2.2.2.2.2.2.2.2.2.2.2.2.2.2.1)
           have HS17_ := (hb.cell (World.block_lt_of_cell? _ _ (hHeld.2.2.2.2.2.2.2.2.2.2.2.2.2.2.2.2.2.1))).trans (hHeld.2.2.2.2.2.2.2.2.2.2.2.2.2.2.2.2.2.1)
           have HS18_ := (hb.cell (World.block_lt_of_cell? _ _ (hHeld.2.2.2.2.2.2.2.2.2.2.2.2.2.2.2.2.2.2.1))).trans (hHeld.2.2.2.2.2.2.2.2.2.2.2.2.2.2.2.2.2.2.1)
           have HS19_ := (hb.cell (World.block_lt_of_cell? _ _ (hHeld.2.2.2.2.2.2.2.2.2.2.2.2.2.2.2.2.2.2.2.1))).trans (hHeld.2.2.2.2.2.2.2.2.2.2.2.2.2.2.2.2.2.2.2.1)
           have HS20_ := (hb.cell (World.block_lt_of_cell? _ _ (hHeld.2.2.2.2.2.2.2.2.2.2.2.2.2.2.2.2.2.2.2.2.1))).trans (hHeld.2.2.2.2.2.2.2.2.2.2.2.2.2.2.2.2.2.2.2.2.1)
           have HS21_ := (hb.cell (World.block_lt_of_cell? _ _ (hHeld.2.2.2.2.2.2.2.2.2.2.2.2.2.2.2.2.2.2.2.2.2.1))).trans (hHeld.2.2.2.2.2.2.2.2.2.2.2.2.2.2.2.2.2.2.2.2.2.1)
           have HS22_ := (hb.cell (World.block_lt_of_cell? _ _ (hHeld.2.2.2.2.2.2.2.2.2.2.2.2.2.2.2.2.2.2.2.2.2.2.1))).trans (hHeld.2.2.2.2.2.2.2.2.2.2.2.2.2.2.2.2.2.2.2.2.2.2.1)
           have HS23_ := (hb.cell (World.block_lt_of_cell? _ _ (hHeld.2.2.2.2.2.2.2.2.2.2.2.2.2.2.2.2.2.2.2.2.2.2.2.1))).trans (hHeld.2.2.2.2.2.2.2.2.2.2.2.2.2.2.2.2.2.2.2.2.2.2.2.1)
           have HS24_ := (hb.cell (World.block_lt_of_cell? _ _ (hHeld.2.2.2.2.2.2.2.2.2.2.2.2.2.2.2.2.2.2.2.2.2.2.2.2.1))).trans (hHeld.2.2.2.2.2.2.2.2.2.2.2.2.2.2.2.2.2.2.2.2.2.2.2.2.1)
           have HS25_ := (hb.cell (World.block_lt_of_cell? _ _ (hHeld.2.2.2.2.2.2.2.2.2.2.2.2.2.2.2.2.2.2.2.2.2.2.2.2.2.1))).trans (hHeld.2.2.2.2.2.2.2.2.2.2.2.2.2.2.2.2.2.2.2.2.2.2.2.2.2.1)
           have HS26_ := (hb.cell (World.block_lt_of_cell? _ _ (hHeld.2.2.2.2.2.2.2.2.2.2.2.2.2.2.2.2.2.2.2.2.2.2.2.2.2.2.1))).trans (hHeld.2.2.2.2.2.2.2.2.2.2.2.2.2.2.2.2.2.2.2.2.2.2.2.2.2.2.1)
           have HS27_ := (hb.cell (World.block_lt_of_cell? _ _ (hHeld.2.2.2.2.2.2.2.2.2.2.2.2.2.2.2.2.2.2.2.2.2.2.2.2.2.2.2))).trans (hHeld.2.2.2.2.2.2.2.2.2.2.2.2.2.2.2.2.2.2.2.2.2.2.2.2.2.2.2)
           replace HO_8 := aa_ (Kd.S_below (Kd.S_elderB (rs_ HO_8) gb600 (Nat.le_of_eq hg.symm)) hb)
           replace HO_10 := hob_ HO_10 hb
           replace HO_13 := hob_ HO_13 hb
           replace HO_14 := aa_ (Kd.S_below (Kd.S_elderB (rs_ HO_14) gb600 (Nat.le_of_eq hg.symm)) hb)
           replace HL595_13 := aa_ (Kd.R_below (rr_ HL595_13) hb)
           replace HL596_13 := aa_ (Kd.R_below (rr_ HL596_13) hb)
           replace HO599 := hob_ HO599 hb
           replace HR595_13 := aa_ (Kd.C_below (by repeat (first | (with_reducible exact HR595_13.out) | (with_reducible refine Kd.C_alloc ?_ _) | (with_reducible refine Kd.C_drewN ?_ _) | (with_reducible refine Kd.C_drew ?_) | exact HR595_13.out)) hb)
           replace HR596_13 := aa_ (Kd.C_below (by repeat (first | (with_reducible exact HR596_13.out) | (with_reducible refine Kd.C_alloc ?_ _) | (with_reducible refine Kd.C_drewN ?_ _) | (with_reducible refine Kd.C_drew ?_) | exact HR596_13.out)) hb)
           have BK600 := aa_ (hbox)
           have GW600 := gs_ hg
           have GE600 := gs_ hg
           replace HB := hbs_ hb
           have NB571_600 := nl_ hg BK571
           have NB600_571 := nr_ hg BK571
           replace BK571 := bkb_ BK571 hb
           clear hb hbox hg
           refine hK.out _ _ ⟨HS0_, HS1_, HS2_, HS3_, HS4_, HS5_, HS6_, HS7_, HS8_, HS9_, HS10_, HS11_, HS12_, HS13_, HS14_, HS15_, HS16_, HS17_, HS18_, HS19_, HS20_, HS21_, HS22_, HS23_, HS24_, HS25_, HS26_, HS27_⟩ (fun hHeld => ?_)
           clear hK K
           refine norm_ (a' := ?_) ?_ ?_
           rotate_left
           ·show Act.put _ (some 16) _ = _
            simp only [Act.put, List.setIfInBounds_toArray, List.set_cons_zero, List.set_cons_succ, i64_w, i32_w]
            rfl
           exact norm_ (by simp only [putAll, Act.put, List.setIfInBounds_toArray, List.set_cons_zero, List.set_cons_succ]) (hCont (.slice Ao57 y597.length co57, gb600) _ ⟨hHeld, (by (with_reducible repeat (first | apply Kd.R_alloc | apply Kd.R_drewN | apply Kd.R_drew)); exact Kd.R_mono HL595_13.out (fun _ hk => ⟨hk.2, ⟨hk.1.1.1, ⟨hk.1.1.2, hk.1.2⟩⟩⟩)), (by (with_reducible repeat (first | apply Kd.R_alloc | apply Kd.R_drewN | apply Kd.R_drew)); exact Kd.R_mono HL596_13.out (fun _ hk => ⟨hk.2, ⟨hk.1.1.1, ⟨hk.1.1.2, hk.1.2⟩⟩⟩)), (by (with_reducible repeat (first | apply Kd.R_alloc | apply Kd.R_drewN | apply Kd.R_drew)); exact Kd.R_mono HO599.out (fun _ hk => ⟨hk.1.2, ⟨hk.2, hk.1.1.2⟩⟩)), (rr_ HO_10), (by (with_reducible repeat (first | apply Kd.R_alloc | apply Kd.R_drewN | apply Kd.R_drew)); exact Kd.R_mono HO_13.out (fun _ hk => hk.2)), (by (with_reducible repeat (first | apply Kd.S_alloc | apply Kd.S_drewN | apply Kd.S_drew)); exact Kd.S_mono HO_14.out (fun _ hk => ⟨hk.1.2, ⟨hk.1.1.2, ⟨hk.1.1.1, hk.2⟩⟩⟩)), (by (with_reducible repeat (first | apply Kd.S_alloc | apply Kd.S_drewN | apply Kd.S_drew)); exact Kd.S_mono HO_8.out (fun _ hk => ⟨hk.1.2, ⟨hk.1.1.1, ⟨hk.1.1.2, hk.2⟩⟩⟩)), (bk_ BK571), (bk_ BK600), GW600.out, GE600.out, NB571_600.out, NB600_571.out, bl_⟩)
          ·skip
           refine box_step ?hg (N := 16) ?hd (cs := #[.int .i64 0, .int .i64 0, .int .i64 0, .int .i64 0, .int .i64 0, .int .i64 0, .int .i64 0, .int .i64 0, .int .i64 0, .int .i64 0, .int .i64 0, .int .i64 0, .int .i64 0, .slice none 0 0]) (t := 63) ?hr ?_; (case hd => rfl); (case hg => rfl); (case hr => first | (go_simp; done) | (go_simp; rfl))
           intro gb600 hg w55 hbox hb
           have HS0_ := (hb.cell (World.block_lt_of_cell? _ _ (hHeld.1))).trans (hHeld.1)
           have HS1_ := (hb.cell (World.block_lt_of_cell? _ _ (hHeld.2.1))).trans (hHeld.2.1)
           have HS2_ := (hb.cell (World.block_lt_of_cell? _ _ (hHeld.2.2.1))).trans (hHeld.2.2.1)
           have HS3_ := (hb.cell (World.block_lt_of_cell? _ _ (hHeld.2.2.2.1))).trans (hHeld.2.2.2.1)
           have HS4_ := (hb.cell (World.block_lt_of_cell? _ _ (hHeld.2.2.2.2.1))).trans (hHeld.2.2.2.2.1)
           have HS5_ := (hb.cell (World.block_lt_of_cell? _ _ (hHeld.2.2.2.2.2.1))).trans (hHeld.2.2.2.2.2.1)
           have HS6_ := (hb.cell (World.block_lt_of_cell? _ _ (hHeld.2.2.2.2.2.2.1))).trans (hHeld.2.2.2.2.2.2.1)
           have HS7_ := (hb.cell (World.block_lt_of_cell? _ _ (hHeld.2.2.2.2.2.2.2.1))).trans (hHeld.2.2.2.2.2.2.2.1)
           have HS8_ := (hb.cell (World.block_lt_of_cell? _ _ (hHeld.2.2.2.2.2.2.2.2.1))).trans (hHeld.2.2.2.2.2.2.2.2.1)
           have HS9_ := (hb.cell (World.block_lt_of_cell? _ _ (hHeld.2.2.2.2.2.2.2.2.2.1))).trans (hHeld.2.2.2.2.2.2.2.2.2.1)
           have HS10_ := (hb.cell (World.block_lt_of_cell? _ _ (hHeld.2.2.2.2.2.2.2.2.2.2.1))).trans (hHeld.2.2.2.2.2.2.2.2.2.2.1)
           have HS11_ := (hb.cell (World.block_lt_of_cell? _ _ (hHeld.2.2.2.2.2.2.2.2.2.2.2.1))).trans (hHeld.2.2.2.2.2.2.2.2.2.2.2.1)
           have HS12_ := (hb.cell (World.block_lt_of_cell? _ _ (hHeld.2.2.2.2.2.2.2.2.2.2.2.2.1))).trans (hHeld.2.2.2.2.2.2.2.2.2.2.2.2.1)
           have HS13_ := (hb.cell (World.block_lt_of_cell? _ _ (hHeld.2.2.2.2.2.2.2.2.2.2.2.2.2.1))).trans (hHeld.2.2.2.2.2.2.2.2.2.2.2.2.2.1)
           have HS14_ := (hb.cell (World.block_lt_of_cell? _ _ (hHeld.2.2.2.2.2.2.2.2.2.2.2.2.2.2.1))).trans (hHeld.2.2.2.2.2.2.2.2.2.2.2.2.2.2.1)
           have HS15_ := (hb.cell (World.block_lt_of_cell? _ _ (hHeld.2.2.2.2.2.2.2.2.2.2.2.2.2.2.2.1))).trans (hHeld.2.2.2.2.2.2.2.2.2.2.2.2.2.2.2.1)
           have HS16_ := (hb.cell (World.block_lt_of_cell? _ _ (hHeld.2.2.2.2.2.2.2.2.2.2.2.2.2.2.2.2.1))).trans (hHeld.2.2.2.2.2.2.2.2.2.2.2.2.2.2.2.2.1)
           have HS17_ := (hb.cell (World.block_lt_of_cell? _ _ (hHeld.2.2.2.2.2.2.2.2.2.2.2.2.2.2.2.2.2.1))).trans (hHeld.2.2.2.2.2.2.2.2.2.2.2.2.2.2.2.2.2.1)
           have HS18_ := (hb.cell (World.block_lt_of_cell? _ _ (hHeld.2.2.2.2.2.2.2.2.2.2.2.2.2.2.2.2.2.2.1))).trans (hHeld.2.2.2.2.2.2.2.2.2.2.2.2.2.2.2.2.2.2.1)
           have HS19_ := (hb.cell (World.block_lt_of_cell? _ _ (hHeld.2.2.2.2.2.2.2.2.2.2.2.2.2.2.2.2.2.2.2.1))).trans (hHeld.2.2.2.2.2.2.2.2.2.2.2.2.2.2.2.2.2.2.2.1)
           have HS20_ := (hb.cell (World.block_lt_of_cell? _ _ (hHeld.2.2.2.2.2.2.2.2.2.2.2.2.2.2.2.2.2.2.2.2.1))).trans (hHeld.2.2.2.2.2.2.2.2.2.2.2.2.2.2.2.2.2.2.2.2.1)
           have HS21_ := (hb.cell (World.block_lt_of_cell? _ _ (hHeld.2.2.2.2.2.2.2.2.2.2.2.2.2.2.2.2.2.2.2.2.2.1))).trans (hHeld.2.2.2.2.2.2.2.2.2.2.2.2.2.2.2.2.2.2.2.2.2.1)
           have HS22_ := (hb.cell (World.block_lt_of_cell? _ _ (hHeld.2.2.2.2.2.2.2.2.2.2.2.2.2.2.2.2.2.2.2.2.2.2.1))).trans (hHeld.2.2.2.2.2.2.2.2.2.2.2.2.2.2.2.2.2.2.2.2.2.2.1)
           have HS23_ := (hb.cell (World.block_lt_of_cell? _ _ (hHeld.2.2.2.2.2.2.2.2.2.2.2.2.2.2.2.2.2.2.2.2.2.2.2.1))).trans (hHeld.2.2.2.2.2.2.2.2.2.2.2.2.2.2.2.2.2.2.2.2.2.2.2.1)
           have HS24_ := (hb.cell (World.block_lt_of_cell? _ _ (hHeld.2.2.2.2.2.2.2.2.2.2.2.2.2.2.2.2.2.2.2.2.2.2.2.2.1))).trans (hHeld.2.2.2.2.2.2.2.2.2.2.2.2.2.2.2.2.2.2.2.2.2.2.2.2.1)
           have HS25_ := (hb.cell (World.block_lt_of_cell? _ _ (hHeld.2.2.2.2.2.2.2.2.2.2.2.2.2.2.2.2.2.2.2.2.2.2.2.2.2.1))).trans (hHeld.2.2.2.2.2.2.2.2.2.2.2.2.2.2.2.2.2.2.2.2.2.2.2.2.2.1)
           have HS26_ := (hb.cell (World.block_lt_of_cell? _ _ (hHeld.2.2.2.2.2.2.2.2.2.2.2.2.2.2.2.2.2.2.2.2.2.2.2.2.2.2.1))).trans (hHeld.2.2.2.2.2.2.2.2.2.2.2.2.2.2.2.2.2.2.2.2.2.2.2.2.2.2.1)
           have HS27_ := (hb.cell (World.block_lt_of_cell? _ _ (hHeld.2.2.2.2.2.2.2.2.2.2.2.2.2.2.2.2.2.2.2.2.2.2.2.2.2.2.2))).trans (hHeld.2.2.2.2.2.2.2.2.2.2.2.2.2.2.2.2.2.2.2.2.2.2.2.2.2.2.2)
           replace HO_8 := aa_ (Kd.S_below (Kd.S_elderB (rs_ HO_8) gb600 (Nat.le_of_eq hg.symm)) hb)
           replace HO_10 := hob_ HO_10 hb
           replace HO_13 := hob_ HO_13 hb
           replace HO_14 := aa_ (Kd.S_below (Kd.S_elderB (rs_ HO_14) gb600 (Nat.le_of_eq hg.symm)) hb)
           replace HL595_13 := aa_ (Kd.R_below (rr_ HL595_13) hb)
           replace HL596_13 := aa_ (Kd.R_below (rr_ HL596_13) hb)
           replace HR595_13 := aa_ (Kd.C_below (by repeat (first | (with_reducible exact HR595_13.out) | (with_reducible refine Kd.C_alloc ?_ _) | (with_reducible refine Kd.C_drewN ?_ _) | (with_reducible refine Kd.C_drew ?_) | exact HR595_13.out)) hb)
           replace HR596_13 := aa_ (Kd.C_below (by repeat (first | (with_reducible exact HR596_13.out) | (with_reducible refine Kd.C_alloc ?_ _) | (with_reducible refine Kd.C_drewN ?_ _) | (with_reducible refine Kd.C_drew ?_) | exact HR596_13.out)) hb)
           have BK600 := aa_ (hbox)
           have GW600 := gs_ hg
           have GE600 := gs_ hg
           replace HB := hbs_ hb
           have NB571_600 := nl_ hg BK571
           have NB600_571 := nr_ hg BK571
           replace BK571 := bkb_ BK571 hb
           clear hb hbox hg
           refine hK.out _ _ ⟨HS0_, HS1_, HS2_, HS3_, HS4_, HS5_, HS6_, HS7_, HS8_, HS9_, HS10_, HS11_, HS12_, HS13_, HS14_, HS15_, HS16_, HS17_, HS18_, HS19_, HS20_, HS21_, HS22_, HS23_, HS24_, HS25_, HS26_, HS27_⟩ (fun hHeld => ?_)
           clear hK K
           refine norm_ (a' := ?_) ?_ ?_
           rotate_left
           ·show Act.put _ (some 16) _ = _
            simp only [Act.put, List.setIfInBounds_toArray, List.set_cons_zero, List.set_cons_succ, i64_w, i32_w]
            rfl
           refine one_ (i := 10) (N := some 89) #[true, true, true, true, true, true, true, true, true, true, true, false, true, false] rfl rfl (one_of HT_.out (by kernel_rfl)) (by decide) (fun K hK => ?_)
           refine Kd.R_lit_step (Kd.int .i64) _ 3 ?hg (N := 89) ?hd (xs := ([] : List Int)) (inner := []) (ok := fun _ => True) (okp := fun _ => True) ?hr ?hp (fun _ hk => hk) trivial (Below.refl _ _) (Nat.le_refl _) (by simp) ?_; (case hd => rfl); (case hg => rfl); (case hr => first | (go_simp; done) | (go_simp; rfl)); (case hp => exact (Reps.none _ _))
           intro v598 w56 ho57 hb hg_ hnew_
           have HS0_ := (hb.cell (World.block_lt_of_cell? _ _ (hHeld.1))).trans (hHeld.1)
           have HS1_ := (hb.cell (World.block_lt_of_cell? _ _ (hHeld.2.1))).trans (hHeld.2.1)
           have HS2_ := (hb.cell (World.block_lt_of_cell? _ _ (hHeld.2.2.1))).trans (hHeld.2.2.1)
           have HS3_ := (hb.cell (World.block_lt_of_cell? _ _ (hHeld.2.2.2.1))).trans (hHeld.2.2.2.1)
           have HS4_ := (hb.cell (World.block_lt_of_cell? _ _ (hHeld.2.2.2.2.1))).trans (hHeld.2.2.2.2.1)
           have HS5_ := (hb.cell (World.block_lt_of_cell? _ _ (hHeld.2.2.2.2.2.1))).trans (hHeld.2.2.2.2.2.1)
           have HS6_ := (hb.cell (World.block_lt_of_cell? _ _ (hHeld.2.2.2.2.2.2.1))).trans (hHeld.2.2.2.2.2.2.1)
           have HS7_ := (hb.cell (World.block_lt_of_cell? _ _ (hHeld.2.2.2.2.2.2.2.1))).trans (hHeld.2.2.2.2.2.2.2.1)
           have HS8_ := (hb.cell (World.block_lt_of_cell? _ _ (hHeld.2.2.2.2.2.2.2.2.1))).trans (hHeld.2.2.2.2.2.2.2.2.1)
           have HS9_ := (hb.cell (World.block_lt_of_cell? _ _ (hHeld.2.2.2.2.2.2.2.2.2.1))).trans (hHeld.2.2.2.2.2.2.2.2.2.1)
           have HS10_ := (hb.cell (World.block_lt_of_cell? _ _ (hHeld.2.2.2.2.2.2.2.2.2.2.1))).trans (hHeld.2.2.2.2.2.2.2.2.2.2.1)
           have HS11_ := (hb.cell (World.block_lt_of_cell? _ _ (hHeld.2.2.2.2.2.2.2.2.2.2.2.1))).trans (hHeld.2.2.2.2.2.2.2.2.2.2.2.1)
           have HS12_ := (hb.cell (World.block_lt_of_cell? _ _ (hHeld.2.2.2.2.2.2.2.2.2.2.2.2.1))).trans (hHeld.2.2.2.2.2.2.2.2.2.2.2.2.1)
           have HS13_ := (hb.cell (World.block_lt_of_cell? _ _ (hHeld.2.2.2.2.2.2.2.2.2.2.2.2.2.1))).trans (hHeld.2.2.2.2.2.2.2.2.2.2.2.2.2.1)
           have HS14_ := (hb.cell (World.block_lt_of_cell? _ _ (hHeld.2.2.2.2.2.2.2.2.2.2.2.2.2.2.1))).trans (hHeld.2.2.2.2.2.2.2.2.2.2.2.2.2.2.1)
           have HS15_ := (hb.cell (World.block_lt_of_cell? _ _ (hHeld.2.2.2.2.2.2.2.2.2.2.2.2.2.2.2.1))).trans (hHeld.2.2.2.2.2.2.2.2.2.2.2.2.2.2.2.1)
           have HS16_ := (hb.cell (World.block_lt_of_cell? _ _ (hHeld.2.2.2.2.2.2.2.2.2.2.2.2.2.2.2.2.1))).trans (hHeld.2.2.2.2.2.2.2.2.2.2.2.2.2.2.2.2.1)
           have HS17_ := (hb.cell (World.block_lt_of_cell? _ _ (hHeld.2.2.2.2.2.2.2.2.2.2.2.2.2.2.2.2.2.1))).trans (hHeld.2.2.2.2.2.2.2.2.2.2.2.2.2.2.2.2.2.1)
           have HS18_ := (hb.cell (World.block_lt_of_cell? _ _ (hHeld.2.2.2.2.2.2.2.2.2.2.2.2.2.2.2.2.2.2.1))).trans (hHeld.2.2.2.2.2.2.2.2.2.2.2.2.2.2.2.2.2.2.1)
           have HS19_ := (hb.cell (World.block_lt_of_cell? _ _ (hHeld.2.2.2.2.2.2.2.2.2.2.2.2.2.2.2.2.2.2.2.1))).trans (hHeld.2.2.2.2.2.2.2.2.2.2.2.2.2.2.2.2.2.2.2.1)
           have HS20_ := (hb.cell (World.block_lt_of_cell? _ _ (hHeld.2.2.2.2.2.2.2.2.2.2.2.2.2.2.2.2.2.2.2.2.1))).trans (hHeld.2.2.2.2.2.2.2.2.2.2.2.2.2.2.2.2.2.2.2.2.1)
           have HS21_ := (hb.cell (World.block_lt_of_cell? _ _ (hHeld.2.2.2.2.2.2.2.2.2.2.2.2.2.2.2.2.2.2.2.2.2.1))).trans (hHeld.2.2.2.2.2.2.2.2.2.2.2.2.2.2.2.2.2.2.2.2.2.1)
           have HS22_ := (hb.cell (World.block_lt_of_cell? _ _ (hHeld.2.2.2.2.2.2.2.2.2.2.2.2.2.2.2.2.2.2.2.2.2.2.1))).trans (hHeld.2.2.2.2.2.2.2.2.2.2.2.2.2.2.2.2.2.2.2.2.2.2.1)
           have HS23_ := (hb.cell (World.block_lt_of_cell? _ _ (hHeld.2.2.2.2.2.2.2.2.2.2.2.2.2.2.2.2.2.2.2.2.2.2.2.1))).trans (hHeld.2.2.2.2.2.2.2.2.2.2.2.2.2.2.2.2.2.2.2.2.2.2.2.1)
           have HS24_ := (hb.cell (World.block_lt_of_cell? _ _ (hHeld.2.2.2.2.2.2.2.2.2.2.2.2.2.2.2.2.2.2.2.2.2.2.2.2.1))).trans (hHeld.2.2.2.2.2.2.2.2.2.2.2.2.2.2.2.2.2.2.2.2.2.2.2.2.1)
           have HS25_ := (hb.cell (World.block_lt_of_cell? _ _ (hHeld.2.2.2.2.2.2.2.2.2.2.2.2.2.2.2.2.2.2.2.2.2.2.2.2.2.1))).trans (hHeld.2.2.2.2.2.2.2.2.2.2.2.2.2.2.2.2.2.2.2.2.2.2.2.2.2.1)
           have HS26_ := (hb.cell (World.block_lt_of_cell? _ _ (hHeld.2.2.2.2.2.2.2.2.2.2.2.2.2.2.2.2.2.2.2.2.2.2.2.2.2.2.1))).trans (hHeld.2.2.2.2.2.2.2.2.2.2.2.2.2.2.2.2.2.2.2.2.2.2.2.2.2.2.1)
           have HS27_ := (hb.cell (World.block_lt_of_cell? _ _ (hHeld.2.2.2.2.2.2.2.2.2.2.2.2.2.2.2.2.2.2.2.2.2.2.2.2.2.2.2))).trans (hHeld.2.2.2.2.2.2.2.2.2.2.2.2.2.2.2.2.2.2.2.2.2.2.2.2.2.2.2)
           clear hg_ hnew_
           (first | rw [← Ny597.out] at ho57 | (simp only [Int.reduceToNat] at ho57; rw [← Ny597.out] at ho57))
           replace HO_8 := aa_ (Kd.S_elder' (rs_ HO_8) (Kd.R_base ho57) hb)
           replace HO_10 := hob_ HO_10 hb
           replace HO_14 := aa_ (Kd.S_elder' (rs_ HO_14) (Kd.R_base ho57) hb)
           have HO599 := aa_ (Kd.R_lower (Kd.R_new' (Kd.R_new' (Kd.R_new' ho57 (Kd.R_lt (rr_ HO_13))) (Kd.R_lt (rr_ HL595_13))) (Kd.R_lt (rr_ HL596_13))) bls_)
           replace HO_13 := aa_ (Kd.R_elder' (rr_ HO_13) (Kd.R_base ho57) hb)
           replace HL595_13 := aa_ (Kd.R_elder' (rr_ HL595_13) (Kd.R_base ho57) hb)
           replace HL596_13 := aa_ (Kd.R_elder' (rr_ HL596_13) (Kd.R_base ho57) hb)
           replace BK571 := bkb_ BK571 hb
           replace HR595_13 := aa_ (Kd.C_below (by repeat (first | (with_reducible exact HR595_13.out) | (with_reducible refine Kd.C_alloc ?_ _) | (with_reducible refine Kd.C_drewN ?_ _) | (with_reducible refine Kd.C_drew ?_) | exact HR595_13.out)) hb)
           replace HR596_13 := aa_ (Kd.C_below (by repeat (first | (with_reducible exact HR596_13.out) | (with_reducible refine Kd.C_alloc ?_ _) | (with_reducible refine Kd.C_drewN ?_ _) | (with_reducible refine Kd.C_drew ?_) | exact HR596_13.out)) hb)
           replace BK600 := bkb_ BK600 hb
           replace HB := hbs_ hb
           clear hb ho57
           obtain ⟨Ao58, co58, eo58⟩ := Kd.R_slice HO599.out
           (first | subst eo58 | (injection eo58 with f1_ f2_ f3_; have f4_ := f1_.symm; have f5_ := f3_.symm; clear f1_ f2_ f3_; subst f4_; subst f5_))
           refine hK.out _ _ ⟨HS0_, HS1_, HS2_, HS3_, HS4_, HS5_, HS6_, HS7_, HS8_, HS9_, HS10_, HS11_, HS12_, HS13_, HS14_, HS15_, HS16_, HS17_, HS18_, HS19_, HS20_, HS21_, HS22_, HS23_, HS24_, HS25_, HS26_, HS27_⟩ (fun hHeld => ?_)
           clear hK K
           refine norm_ (a' := ?_) ?_ ?_
           rotate_left
           ·show Act.put _ (some 89) _ = _
            simp only [Act.put, List.setIfInBounds_toArray, List.set_cons_zero, List.set_cons_succ, i64_w, i32_w]
            rfl
           refine pureZ_ (i := 11) (some 90) #[true, true, true, true, true, true, true, true, true, true, true, true, true, false] (ao_ HT_) ?_
           exact norm_ (by simp only [putAll, Act.put, List.setIfInBounds_toArray, List.set_cons_zero, List.set_cons_succ]) (hCont (.slice Ao58 y597.length co58, gb600) _ ⟨hHeld, (by (with_reducible repeat (first | apply Kd.R_alloc | apply Kd.R_drewN | apply Kd.R_drew)); exact Kd.R_mono HL595_13.out (fun _ hk => ⟨hk.2, ⟨hk.1.1.1, ⟨hk.1.1.2, hk.1.2⟩⟩⟩)), (by (with_reducible repeat (first | apply Kd.R_alloc | apply Kd.R_drewN | apply Kd.R_drew)); exact Kd.R_mono HL596_13.out (fun _ hk => ⟨hk.2, ⟨hk.1.1.1, ⟨hk.1.1.2, hk.1.2⟩⟩⟩)), (by (with_reducible repeat (first | apply Kd.R_alloc | apply Kd.R_drewN | apply Kd.R_drew)); exact Kd.R_mono HO599.out (fun _ hk => ⟨hk.1.2, ⟨hk.2, hk.1.1.2⟩⟩)), (rr_ HO_10), (by (with_reducible repeat (first | apply Kd.R_alloc | apply Kd.R_drewN | apply Kd.R_drew)); exact Kd.R_mono HO_13.out (fun _ hk => hk.2)), (by (with_reducible repeat (first | apply Kd.S_alloc | apply Kd.S_drewN | apply Kd.S_drew)); exact Kd.S_mono HO_14.out (fun _ hk => ⟨hk.2, ⟨hk.1.1.2, ⟨hk.1.1.1, hk.1.2⟩⟩⟩)), (by (with_reducible repeat (first | apply Kd.S_alloc | apply Kd.S_drewN | apply Kd.S_drew)); exact Kd.S_mono HO_8.out (fun _ hk => ⟨hk.2, ⟨hk.1.1.1, ⟨hk.1.1.2, hk.1.2⟩⟩⟩)), (bk_ BK571), (bk_ BK600), GW600.out, GE600.out, NB571_600.out, NB600_571.out, bl_⟩)
         rintro ⟨v598, gb600⟩ w59 ⟨hS_, h0_, h1_, h2_, h3_, h4_, h5_, h6_, h7_, h8_, h9_, h10_, h11_, h12_, h13_⟩
         have n0_ : Aside0 (Kd.R (Kd.int .i64) 3 w59 w.heap.size (fun k_ => some k_ ≠ (v598 : Value).ownBlock ∧ some k_ ≠ (v589 : Value).ownBlock ∧ some k_ ≠ (u14 : Value).ownBlock ∧ some k_ ≠ (.slice (some ad595) t572.length co23 : Value).ownBlock) (.slice A595_13 ((rd_T63 t572 x15_2).f2).length c595_13) ((rd_T63 t572 x15_2).f2)) := ⟨h0_⟩
         have n1_ : Aside0 (Kd.R (Kd.int .i64) 3 w59 w.heap.size (fun k_ => some k_ ≠ (v598 : Value).ownBlock ∧ some k_ ≠ (v589 : Value).ownBlock ∧ some k_ ≠ (u14 : Value).ownBlock ∧ some k_ ≠ (.slice (some ad595) t572.length co23 : Value).ownBlock) (.slice A595_13 ((rd_T63 t572 x15_2).f2).length c595_13) ((rd_T63 t572 x15_2).f2)) := ⟨h1_⟩
         have n2_ : Aside0 (Kd.R (Kd.int .i64) 3 w59 w.heap.size (fun k_ => some k_ ≠ (.slice A595_13 ((rd_T63 t572 x15_2).f2).length c595_13 : Value).ownBlock ∧ some k_ ≠ (.slice A595_13 ((rd_T63 t572 x15_2).f2).length c595_13 : Value).ownBlock ∧ some k_ ≠ (v589 : Value).ownBlock) v598 y597) := ⟨h2_⟩
         have n3_ : Aside0 (Kd.R Kd.bool 4 w59 w.heap.size (fun _ => True) (.slice (some ⟨go19, 0, none⟩) x10_1.length co19) x10_1) := ⟨h3_⟩
         have n4_ : Aside0 (Kd.R (Kd.int .i64) 3 w59 w.heap.size (fun k_ => some k_ ≠ (v598 : Value).ownBlock) v589 x13_2) := ⟨h4_⟩
         have n5_ : Aside0 (Kd.S k63 63 w59 w.heap.size (fun k_ => some k_ ≠ (v598 : Value).ownBlock ∧ some k_ ≠ (v589 : Value).ownBlock ∧ some k_ ≠ (.slice (some ad595) t572.length co23 : Value).ownBlock ∧ k_ ≠ gb600) u14 x14_2) := ⟨h5_⟩
         have n6_ : Aside0 (Kd.S k63 63 w59 w.heap.size (fun k_ => some k_ ≠ (v598 : Value).ownBlock ∧ some k_ ≠ (v589 : Value).ownBlock ∧ some k_ ≠ (u14 : Value).ownBlock ∧ k_ ≠ gb600) (.slice (some ad595) t572.length co23) t572) := ⟨h6_⟩
         have n7_ : Aside0 (w59.heap[gb571]? = some (.cells #[.int .i64 a1_0, .int .i64 a1_1] 27 (0, 0))) := ⟨h7_⟩
         have n8_ : Aside0 (w59.heap[gb600]? = some (.cells #[.int .i64 0, .int .i64 0, .int .i64 0, .int .i64 0, .int .i64 0, .int .i64 0, .int .i64 0, .int .i64 0, .int .i64 0, .int .i64 0, .int .i64 0, .int .i64 0, .int .i64 0, .slice none 0 0] 63 (0, 0))) := ⟨h8_⟩
         have n9_ : Aside0 (w.heap.size ≤ gb600) := ⟨h9_⟩
         have n10_ : Aside0 (w.heap.size ≤ gb600) := ⟨h10_⟩
         have n11_ : Aside0 (gb571 ≠ gb600) := ⟨h11_⟩
         have n12_ : Aside0 (gb600 ≠ gb571) := ⟨h12_⟩
         have n13_ : Aside0 (Below w.heap.size w w59) := ⟨h13_⟩
         clear HO_8
         clear HO_10
         clear HO_13
         clear HO_14
         clear BK571
         clear HB
         clear h0_ h1_ h2_ h3_ h4_ h5_ h6_ h7_ h8_ h9_ h10_ h11_ h12_ h13_
         have HL595_13 := n0_
         have HL596_13 := n1_
         have HO599 := n2_
         have HO_10 := n3_
         have HO_13 := n4_
         have HO_14 := n5_
         have HO_8 := n6_
         have BK571 := n7_
         have BK600 := n8_
         have GW600 := n9_
         have GE600 := n10_
         have NB571_600 := n11_
         have NB600_571 := n12_
         have HB := n13_
         clear n0_ n1_ n2_ n3_ n4_ n5_ n6_ n7_ n8_ n9_ n10_ n11_ n12_ n13_
         have hHeld : w59.cell? (ad595.add ((x15_2).toNat * 14)) = some (.int .i64 ((rd_T63 t572 x15_2).f0.f0)) ∧ w59.cell? ⟨(ad595.add ((x15_2).toNat * 14)).block, (ad595.add ((x15_2).toNat * 14)).off + 1, none⟩ = some (.int .i64 ((rd_T63 t572 x15_2).f0.f1.f0)) ∧ w59.cell? ⟨(ad595.add ((x15_2).toNat * 14)).block, (ad595.add ((x15_2).toNat * 14)).off + 2, none⟩ = some (.int .i64 ((rd_T63 t572 x15_2).f0.f1.f1)) ∧ w59.cell? ⟨(ad595.add ((x15_2).toNat * 14)).block, (ad595.add ((x15_2).toNat * 14)).off + 3, none⟩ = some (.int .i64 ((rd_T63 t572 x15_2).f0.f2)) ∧ w59.cell? ⟨(ad595.add ((x15_2).toNat * 14)).block, (ad595.add ((x15_2).toNat * 14)).off + 4, none⟩ = some (.int .i64 ((rd_T63 t572 x15_2).f0.f3.f0)) ∧ w59.cell? ⟨(ad595.add ((x15_2).toNat * 14)).block, (ad595.add ((x15_2).toNat * 14)).off + 5, none⟩ = some (.int .i64 ((rd_T63 t572 x15_2).f0.f3.f1)) ∧ w59.cell? ⟨(ad595.add ((x15_2).toNat * 14)).block, (ad595.add ((x15_2).toNat * 14)).off + 6, none⟩ = some (.int .i64 ((rd_T63 t572 x15_2).f0.f4.f0)) ∧ w59.cell? ⟨(ad595.add ((x15_2).toNat * 14)).block, (ad595.add ((x15_2).toNat * 14)).off + 7, none⟩ = some (.int .i64 ((rd_T63 t572 x15_2).f0.f4.f1)) ∧ w59.cell? ⟨(ad595.add ((x15_2).toNat * 14)).block, (ad595.add ((x15_2).toNat * 14)).off + 8, none⟩ = some (.int .i64 ((rd_T63 t572 x15_2).f0.f5)) ∧ w59.cell? ⟨(ad595.add ((x15_2).toNat * 14)).block, (ad595.add ((x15_2).toNat * 14)).off + 9, none⟩ = some (.int .i64 ((rd_T63 t572 x15_2).f0.f6)) ∧ w59.cell? ⟨(ad595.add ((x15_2).toNat * 14)).block, (ad595.add ((x15_2).toNat * 14)).off + 10, none⟩ = some (.int .i64 ((rd_T63 t572 x15_2).f1.f0.f0)) ∧ w59.cell? ⟨(ad595.add ((x15_2).toNat * 14)).block, (ad595.add ((x15_2).toNat * 14)).off + 11, none⟩ = some (.int .i64 ((rd_T63 t572 x15_2).f1.f0.f1)) ∧ w59.cell? ⟨(ad595.add ((x15_2).toNat * 14)).block, (ad595.add ((x15_2).toNat * 14)).off + 12, none⟩ = some (.int .i64 ((rd_T63 t572 x15_2).f1.f1)) ∧ w59.cell? ⟨(ad595.add ((x15_2).toNat * 14)).block, (ad595.add ((x15_2).toNat * 14)).off + 13, none⟩ = some (.slice A595_13 ((rd_T63 t572 x15_2).f2).length c595_13) ∧ w59.cell? (ad595.add ((x15_2).toNat * 14)) = some (.int .i64 ((rd_T63 t572 x15_2).f0.f0)) ∧ w59.cell? ⟨(ad595.add ((x15_2).toNat * 14)).block, (ad595.add ((x15_2).toNat * 14)).off + 1, none⟩ = some (.int .i64 ((rd_T63 t572 x15_2).f0.f1.f0)) ∧ w59.cell? ⟨(ad595.add ((x15_2).toNat * 14)).block, (ad595.add ((x15_2).toNat * 14)).off + 2, none⟩ = some (.int .i64 ((rd_T63 t572 x15_2).f0.f1.f1)) ∧ w59.cell? ⟨(ad595.add ((x15_2).toNat * 14)).block, (ad595.add ((x15_2).toNat * 14)).off + 3, none⟩ = some (.int .i64 ((rd_T63 t572 x15_2).f0.f2)) ∧ w59.cell? ⟨(ad595.add ((x15_2).toNat * 14)).block, (ad595.add ((x15_2).toNat * 14)).off + 4, none⟩ = some (.int .i64 ((rd_T63 t572 x15_2).f0.f3.f0)) ∧ w59.cell? ⟨(ad595.add ((x15_2).toNat * 14)).block, (ad595.add ((x15_2).toNat * 14)).off + 5, none⟩ = some (.int .i64 ((rd_T63 t572 x15_2).f0.f3.f1)) ∧ w59.cell? ⟨(ad595.add ((x15_2).toNat * 14)).block, (ad595.add ((x15_2).toNat * 14)).off + 6, none⟩ = some (.int .i64 ((rd_T63 t572 x15_2).f0.f4.f0)) ∧ w59.cell? ⟨(ad595.add ((x15_2).toNat * 14)).block, (ad595.add ((x15_2).toNat * 14)).off + 7, none⟩ = some (.int .i64 ((rd_T63 t572 x15_2).f0.f4.f1)) ∧ w59.cell? ⟨(ad595.add ((x15_2).toNat * 14)).block, (ad595.add ((x15_2).toNat * 14)).off + 8, none⟩ = some (.int .i64 ((rd_T63 t572 x15_2).f0.f5)) ∧ w59.cell? ⟨(ad595.add ((x15_2).toNat * 14)).block, (ad595.add ((x15_2).toNat * 14)).off + 9, none⟩ = some (.int .i64 ((rd_T63 t572 x15_2).f0.f6)) ∧ w59.cell? ⟨(ad595.add ((x15_2).toNat * 14)).block, (ad595.add ((x15_2).toNat * 14)).off + 10, none⟩ = some (.int .i64 ((rd_T63 t572 x15_2).f1.f0.f0)) ∧ w59.cell? ⟨(ad595.add ((x15_2).toNat * 14)).block, (ad595.add ((x15_2).toNat * 14)).off + 11, none⟩ = some (.int .i64 ((rd_T63 t572 x15_2).f1.f0.f1)) ∧ w59.cell? ⟨(ad595.add ((x15_2).toNat * 14)).block, (ad595.add ((x15_2).toNat * 14)).off + 12, none⟩ = some (.int .i64 ((rd_T63 t572 x15_2).f1.f1)) ∧ w59.cell? ⟨(ad595.add ((x15_2).toNat * 14)).block, (ad595.add ((x15_2).toNat * 14)).off + 13, none⟩ = some (.slice A595_13 ((rd_T63 t572 x15_2).f2).length c595_13) := hS_
         obtain ⟨Ao60, co60, eo60⟩ := Kd.R_slice HO599.out
         (first | subst eo60 | (injection eo60 with f1_ f2_ f3_; have f4_ := f1_.symm; have f5_ := f3_.symm; clear f1_ f2_ f3_; subst f4_; subst f5_))
         refine norm_ (a' := ?_) ?_ ?_
         rotate_left
         ·simp only [putAll, Act.put, List.setIfInBounds_toArray, List.set_cons_zero, List.set_cons_succ]
          rfl
         refine one_ (i := 13) (N := none) #[true, true, true, true, true, true, true, true, true, true, true, true, true, true] rfl rfl (one_of HT_.out (by kernel_rfl)) (by decide) (fun K hK => ?_)
         have hs61 : w59.cell? ⟨gb600, 0, none⟩ = some (.int .i64 0) := (blk_cell BK600.out 0).trans rfl
         have hfs61 := blk_frozen BK600.out 0
         have hns61_0 := NB571_600.out
         have hms61_0 := NB600_571.out
         have hs62 : w59.cell? ⟨gb600, 1, none⟩ = some (.int .i64 0) := (blk_cell BK600.out 1).trans rfl
         have hfs62 := blk_frozen BK600.out 1
         have hns62_0 := NB571_600.out
         have hms62_0 := NB600_571.out
         have hs63 : w59.cell? ⟨gb600, 2, none⟩ = some (.int .i64 0) := (blk_cell BK600.out 2).trans rfl
         have hfs63 := blk_frozen BK600.out 2
         have hns63_0 := NB571_600.out
         have hms63_0 := NB600_571.out
         have hs64 : w59.cell? ⟨gb600, 3, none⟩ = some (.int .i64 0) := (blk_cell BK600.out 3).trans rfl
         have hfs64 := blk_frozen BK600.out 3
         have hns64_0 := NB571_600.out
         have hms64_0 := NB600_571.out
         have hs65 : w59.cell? ⟨gb600, 4, none⟩ = some (.int .i64 0) := (blk_cell BK600.out 4).trans rfl
         have hfs65 := blk_frozen BK600.out 4
         have hns65_0 := NB571_600.out
         have hms65_0 := NB600_571.out
         have hs66 : w59.cell? ⟨gb600, 5, none⟩ = some (.int .i64 0) := (blk_cell BK600.out 5).trans rfl
         have hfs66 := blk_frozen BK600.out 5
         have hns66_0 := NB571_600.out
         have hms66_0 := NB600_571.out
         have hs67 : w59.cell? ⟨gb600, 6, none⟩ = some (.int .i64 0) := (blk_cell BK600.out 6).trans rfl
         have hfs67 := blk_frozen BK600.out 6
         have hns67_0 := NB571_600.out
         have hms67_0 := NB600_571.out
         have hs68 : w59.cell? ⟨gb600, 7, none⟩ = some (.int .i64 0) := (blk_cell BK600.out 7).trans rfl
         have hfs68 := blk_frozen BK600.out 7
         have hns68_0 := NB571_600.out
         have hms68_0 := NB600_571.out
         have hs69 : w59.cell? ⟨gb600, 8, none⟩ = some (.int .i64 0) := (blk_cell BK600.out 8).trans rfl
         have hfs69 := blk_frozen BK600.out 8
         have hns69_0 := NB571_600.out
         have hms69_0 := NB600_571.out
         have hs70 : w59.cell? ⟨gb600, 9, none⟩ = some (.int .i64 0) := (blk_cell BK600.out 9).trans rfl
         have hfs70 := blk_frozen BK600.out 9
         have hns70_0 := NB571_600.out
         have hms70_0 := NB600_571.out
         have hs71 : w59.cell? ⟨gb600, 10, none⟩ = some (.int .i64 0) := (blk_cell BK600.out 10).trans rfl
         have hfs71 := blk_frozen BK600.out 10
         have hns71_0 := NB571_600.out
         have hms71_0 := NB600_571.out
         have hs72 : w59.cell? ⟨gb600, 11, none⟩ = some (.int .i64 0) := (blk_cell BK600.out 11).trans rfl
         have hfs72 := blk_frozen BK600.out 11
         have hns72_0 := NB571_600.out
         have hms72_0 := NB600_571.out
         have hs73 : w59.cell? ⟨gb600, 12, none⟩ = some (.int .i64 0) := (blk_cell BK600.out 12).trans rfl
         have hfs73 := blk_frozen BK600.out 12
         have hns73_0 := NB571_600.out
         have hms73_0 := NB600_571.out
         have hs74 : w59.cell? ⟨gb600, 13, none⟩ = some (.slice none 0 0) := (blk_cell BK600.out 13).trans rfl
         have hfs74 := blk_frozen BK600.out 13
         have hns74_0 := NB571_600.out
         have hms74_0 := NB600_571.out
         refine skip_ (w1 := ?_) (by rfl) rfl ?_ ?_
         rotate_left
         ·go_simp
          rfl
         refine hK.out _ _ ⟨((cf_ (Kd.own_blk (Kd.S_away HO_8.out (fun _ hk => hk.2.2.2)))).trans (((cf_ (Kd.own_blk (Kd.S_away HO_8.out (fun _ hk => hk.2.2.2)))).trans (((cf_ (Kd.own_blk (Kd.S_away HO_8.out (fun _ hk => hk.2.2.2)))).trans (((cf_ (Kd.own_blk (Kd.S_away HO_8.out (fun _ hk => hk.2.2.2)))).trans (((cf_ (Kd.own_blk (Kd.S_away HO_8.out (fun _ hk => hk.2.2.2)))).trans (((cf_ (Kd.own_blk (Kd.S_away HO_8.out (fun _ hk => hk.2.2.2)))).trans (((cf_ (Kd.own_blk (Kd.S_away HO_8.out (fun _ hk => hk.2.2.2)))).trans (((cf_ (Kd.own_blk (Kd.S_away HO_8.out (fun _ hk => hk.2.2.2)))).trans (((cf_ (Kd.own_blk (Kd.S_away HO_8.out (fun _ hk => hk.2.2.2)))).trans (((cf_ (Kd.own_blk (Kd.S_away HO_8.out (fun _ hk => hk.2.2.2)))).trans (((cf_ (Kd.own_blk (Kd.S_away HO_8.out (fun _ hk => hk.2.2.2)))).trans (((cf_ (Kd.own_blk (Kd.S_away HO_8.out (fun _ hk => hk.2.2.2)))).trans (((cf_ (Kd.own_blk (Kd.S_away HO_8.out (fun _ hk => hk.2.2.2)))).trans (((cf_ (Kd.own_blk (Kd.S_away HO_8.out (fun _ hk => hk.2.2.2)))).trans (hHeld.1)))))))))))))))))))))))))))), ((cf_ (Kd.own_blk (Kd.S_away HO_8.out (fun _ hk => hk.2.2.2)))).trans (((cf_ (Kd.own_blk (Kd.S_away HO_8.out (fun _ hk => hk.2.2.2)))).trans (((cf_ (Kd.own_blk (Kd.S_away HO_8.out (fun _ hk => hk.2.2.2)))).trans (((cf_ (Kd.own_blk (Kd.S_away HO_8.out (fun _ hk => hk.2.2.2)))).trans (((cf_ (Kd.own_blk (Kd.S_away HO_8.out (fun _ hk => hk.2.2.2)))).trans (((cf_ (Kd.own_blk (Kd.S_away HO_8.out (fun _ hk => hk.2.2.2)))).trans (((cf_ (Kd.own_blk (Kd.S_away HO_8.out (fun _ hk => hk.2.2.2)))).trans (((cf_ (Kd.own_blk (Kd.S_away HO_8.out (fun _ hk => hk.2.2.2)))).trans (((cf_ (Kd.own_blk (Kd.S_away HO_8.out (fun _ hk => hk.2.2.2)))).trans (((cf_ (Kd.own_blk (Kd.S_away HO_8.out (fun _ hk => hk.2.2.2)))).trans (((cf_ (Kd.own_blk (Kd.S_away HO_8.out (fun _ hk => hk.2.2.2)))).trans (((cf_ (Kd.own_blk (Kd.S_away HO_8.out (fun _ hk => hk.2.2.2)))).trans (((cf_ (Kd.own_blk (Kd.S_away HO_8.out (fun _ hk => hk.2.2.2)))).trans (((cf_ (Kd.own_blk (Kd.S_away HO_8.out (fun _ hk => hk.2.2.2)))).trans (hHeld.2.1)))))))))))))))))))))))))))), ((cf_ (Kd.own_blk (Kd.S_away HO_8.out (fun _ hk => hk.2.2.2)))).trans (((cf_ (Kd.own_blk (Kd.S_away HO_8.out (fun _ hk => hk.2.2.2)))).trans (((cf_ (Kd.own_blk (Kd.S_away HO_8.out (fun _ hk => hk.2.2.2)))).trans (((cf_ (Kd.own_blk (Kd.S_away HO_8.out (fun _ hk => hk.2.2.2)))).trans (((cf_ (Kd.own_blk (Kd.S_away HO_8.out (fun _ hk => hk.2.2.2)))).trans (((cf_ (Kd.own_blk (Kd.S_away HO_8.out (fun _ hk => hk.2.2.2)))).trans (((cf_ (Kd.own_blk (Kd.S_away HO_8.out (fun _ hk => hk.2.2.2)))).trans (((cf_ (Kd.own_blk (Kd.S_away HO_8.out (fun _ hk => hk.2.2.2)))).trans (((cf_ (Kd.own_blk (Kd.S_away HO_8.out (fun _ hk => hk.2.2.2)))).trans (((cf_ (Kd.own_blk (Kd.S_away HO_8.out (fun _ hk => hk.2.2.2)))).trans (((cf_ (Kd.own_blk (Kd.S_away HO_8.out (fun _ hk => hk.2.2.2)))).trans (((cf_ (Kd.own_blk (Kd.S_away HO_8.out (fun _ hk => hk.2.2.2)))).trans (((cf_ (Kd.own_blk (Kd.S_away HO_8.out (fun _ hk => hk.2.2.2)))).trans (((cf_ (Kd.own_blk (Kd.S_away HO_8.out (fun _ hk => hk.2.2.2)))).trans (hHeld.2.2.1)))))))))))))))))))))))))))), ((cf_ (Kd.own_blk (Kd.S_away HO_8.out (fun _ hk => hk.2.2.2)))).trans (((cf_ (Kd.own_blk (Kd.S_away HO_8.out (fun _ hk => hk.2.2.2)))).trans (((cf_ (Kd.own_blk (Kd.S_away HO_8.out (fun _ hk => hk.2.2.2)))).trans (((cf_ (Kd.own_blk (Kd.S_away HO_8.out (fun _ hk => hk.2.2.2)))).trans (((cf_ (Kd.own_blk (Kd.S_away HO_8.out (fun _ hk => hk.2.2.2)))).trans (((cf_ (Kd.own_blk (Kd.S_away HO_8.out (fun _ hk => hk.2.2.2)))).trans (((cf_ (Kd.own_blk (Kd.S_away HO_8.out (fun _ hk => hk.2.2.2)))).trans (((cf_ (Kd.own_blk (Kd.S_away HO_8.out (fun _ hk => hk.2.2.2)))).trans (((cf_ (Kd.own_blk (Kd.S_away HO_8.out (fun _ hk => hk.2.2.2)))).trans (((cf_ (Kd.own_blk (Kd.S_away HO_8.out (fun _ hk => hk.2.2.2)))).trans (((cf_ (Kd.own_blk (Kd.S_away HO_8.out (fun _ hk => hk.2.2.2)))).trans (((cf_ (Kd.own_blk (Kd.S_away HO_8.out (fun _ hk => hk.2.2.2)))).trans (((cf_ (Kd.own_blk (Kd.S_away HO_8.out (fun _ hk => hk.2.2.2)))).trans (((cf_ (Kd.own_blk (Kd.S_away HO_8.out (fun _ hk => hk.2.2.2)))).trans (hHeld.2.2.2.1)))))))))))))))))))))))))))), ((cf_ (Kd.own_blk (Kd.S_away HO_8.out (fun _ hk => hk.2.2.2)))).trans (((cf_ (Kd.own_blk (Kd.S_away HO_8.out (fun _ hk => hk.2.2.2)))).trans (((cf_ (Kd.own_blk (Kd.S_away HO_8.out (fun _ hk => hk.2.2.2)))).trans (((cf_ (Kd.own_blk (Kd.S_away HO_8.out (fun _ hk => hk.2.2.2)))).trans (((cf_ (Kd.own_blk (Kd.S_away HO_8.out (fun _ hk => hk.2.2.2)))).trans (((cf_ (Kd.own_blk (Kd.S_away HO_8.out (fun _ hk => hk.2.2.2)))).trans (((cf_ (Kd.own_blk (Kd.S_away HO_8.out (fun _ hk => hk.2.2.2)))).trans (((cf_ (Kd.own_blk (Kd.S_away HO_8.out (fun _ hk => hk.2.2.2)))).trans (((cf_ (Kd.own_blk (Kd.S_away HO_8.out (fun _ hk => hk.2.2.2)))).trans (((cf_ (Kd.own_blk (Kd.S_away HO_8.out (fun _ hk => hk.2.2.2)))).trans (((cf_ (Kd.own_blk (Kd.S_away HO_8.out (fun _ hk => hk.2.2.2)))).trans (((cf_ (Kd.own_blk (Kd.S_away HO_8.out (fun _ hk => hk.2.2.2)))).trans (((cf_ (Kd.own_blk (Kd.S_away HO_8.out (fun _ hk => hk.2.2.2)))).trans (((cf_ (Kd.own_blk (Kd.S_away HO_8.out (fun _ hk => hk.2.2.2)))).trans (hHeld.2.2.2.2.1)))))))))))))))))))))))))))), ((cf_ (Kd.own_blk (Kd.S_away HO_8.out (fun _ hk => hk.2.2.2)))).trans (((cf_ (Kd.own_blk (Kd.S_away HO_8.out (fun _ hk => hk.2.2.2)))).trans (((cf_ (Kd.own_blk (Kd.S_away HO_8.out (fun _ hk => hk.2.2.2)))).trans (((cf_ (Kd.own_blk (Kd.S_away HO_8.out (fun _ hk => hk.2.2.2)))).trans (((cf_ (Kd.own_blk (Kd.S_away HO_8.out (fun _ hk => hk.2.2.2)))).trans (((cf_ (Kd.own_blk (Kd.S_away HO_8.out (fun _ hk => hk.2.2.2)))).trans (((cf_ (Kd.own_blk (Kd.S_away HO_8.out (fun _ hk => hk.2.2.2)))).trans (((cf_ (Kd.own_blk (Kd.S_away HO_8.out (fun _ hk => hk.2.2.2)))).trans (((cf_ (Kd.own_blk (Kd.S_away HO_8.out (fun _ hk => hk.2.2.2)))).trans (((cf_ (Kd.own_blk (Kd.S_away HO_8.out (fun _ hk => hk.2.2.2)))).trans (((cf_ (Kd.own_blk (Kd.S_away HO_8.out (fun _ hk => hk.2.2.2)))).trans (((cf_ (Kd.own_blk (Kd.S_away HO_8.out (fun _ hk => hk.2.2.2)))).trans (((cf_ (Kd.own_blk (Kd.S_away HO_8.out (fun _ hk => hk.2.2.2)))).trans (((cf_ (Kd.own_blk (Kd.S_away HO_8.out (fun _ hk => hk.2.2.2)))).trans (hHeld.2.2.2.2.2.1)))))))))))))))))))))))))))), ((cf_ (Kd.own_blk (Kd.S_away HO_8.out (fun _ hk => hk.2.2.2)))).trans (((cf_ (Kd.own_blk (Kd.S_away HO_8.out (fun _ hk => hk.2.2.2)))).trans (((cf_ (Kd.own_blk (Kd.S_away HO_8.out (fun _ hk => hk.2.2.2)))).trans (((cf_ (Kd.own_blk (Kd.S_away HO_8.out (fun _ hk => hk.2.2.2)))).trans (((cf_ (Kd.own_blk (Kd.S_away HO_8.out (fun _ hk => hk.2.2.2)))).trans (((cf_ (Kd.own_blk (Kd.S_away HO_8.out (fun _ hk => hk.2.2.2)))).trans (((cf_ (Kd.own_blk (Kd.S_away HO_8.out (fun _ hk => hk.2.2.2)))).trans (((cf_ (Kd.own_blk (Kd.S_away HO_8.out (fun _ hk => hk.2.2.2)))).trans (((cf_ (Kd.own_blk (Kd.S_away HO_8.out (fun _ hk => hk.2.2.2)))).trans (((cf_ (Kd.own_blk (Kd.S_away HO_8.out (fun _ hk => hk.2.2.2)))).trans (((cf_ (Kd.own_blk (Kd.S_away HO_8.out (fun _ hk => hk.2.2.2)))).trans (((cf_ (Kd.own_blk (Kd.S_away HO_8.out (fun _ hk => hk.2.2.2)))).trans (((cf_ (Kd.own_blk (Kd.S_away HO_8.out (fun _ hk => hk.2.2.2)))).trans (((cf_ (Kd.own_blk (Kd.S_away HO_8.out (fun _ hk => hk.2.2.2)))).trans (hHeld.2.2.2.2.2.2.1)))))))))))))))))))))))))))), ((cf_ (Kd.own_blk (Kd.S_away HO_8.out (fun _ hk => hk.2.2.2)))).trans (((cf_ (Kd.own_blk (Kd.S_away HO_8.out (fun _ hk => hk.2.2.2)))).trans (((cf_ (Kd.own_blk (Kd.S_away HO_8.out (fun _ hk => hk.2.2.2)))).trans (((cf_ (Kd.own_blk (Kd.S_away HO_8.out (fun _ hk => hk.2.2.2)))).trans (((cf_ (Kd.own_blk (Kd.S_away HO_8.out (fun _ hk => hk.2.2.2)))).trans (((cf_ (Kd.own_blk (Kd.S_away HO_8.out (fun _ hk => hk.2.2.2)))).trans (((cf_ (Kd.own_blk (Kd.S_away HO_8.out (fun _ hk => hk.2.2.2)))).trans (((cf_ (Kd.own_blk (Kd.S_away HO_8.out (fun _ hk => hk.2.2.2)))).trans (((cf_ (Kd.own_blk (Kd.S_away HO_8.out (fun _ hk => hk.2.2.2)))).trans (((cf_ (Kd.own_blk (Kd.S_away HO_8.out (fun _ hk => hk.2.2.2)))).trans (((cf_ (Kd.own_blk (Kd.S_away HO_8.out (fun _ hk => hk.2.2.2)))).trans (((cf_ (Kd.own_blk (Kd.S_away HO_8.out (fun _ hk => hk.2.2.2)))).trans (((cf_ (Kd.own_blk (Kd.S_away HO_8.out (fun _ hk => hk.2.2.2)))).trans (((cf_ (Kd.own_blk (Kd.S_away HO_8.out (fun _ hk => hk.2.2.2)))).trans (hHeld.2.2.2.2.2.2.2.1)))))))))))))))))))))))))))), ((cf_ (Kd.own_blk (Kd.S_away HO_8.out (fun _ hk => hk.2.2.2)))).trans (((cf_ (Kd.own_blk (Kd.S_away HO_8.out (fun _ hk => hk.2.2.2)))).trans (((cf_ (Kd.own_blk (Kd.S_away HO_8.out (fun _ hk => hk.2.2.2)))).trans (((cf_ (Kd.own_blk (Kd.S_away HO_8.out (fun _ hk => hk.2.2.2)))).trans (((cf_ (Kd.own_blk (Kd.S_away HO_8.out (fun _ hk => hk.2.2.2)))).trans (((cf_ (Kd.own_blk (Kd.S_away HO_8.out (fun _ hk => hk.2.2.2)))).trans (((cf_ (Kd.own_blk (Kd.S_away HO_8.out (fun _ hk => hk.2.2.2)))).trans (((cf_ (Kd.own_blk (Kd.S_away HO_8.out (fun _ hk => hk.2.2.2)))).trans (((cf_ (Kd.own_blk (Kd.S_away HO_8.out (fun _ hk => hk.2.2.2)))).trans (((cf_ (Kd.own_blk (Kd.S_away HO_8.out (fun _ hk => hk.2.2.2)))).trans (((cf_ (Kd.own_blk (Kd.S_away HO_8.out (fun _ hk => hk.2.2.2)))).trans (((cf_ (Kd.own_blk (Kd.S_away HO_8.out (fun _ hk => hk.2.2.2)))).trans (((cf_ (Kd.own_blk (Kd.S_away HO_8.out (fun _ hk => hk.2.2.2)))).trans (((cf_ (Kd.own_blk (Kd.S_away HO_8.out (fun _ hk => hk.2.2.2)))).trans (hHeld.2.2.2.2.2.2.2.2.1)))))))))))))))))))))))))))), ((cf_ (Kd.own_blk (Kd.S_away HO_8.out (fun _ hk => hk.2.2.2)))).trans (((cf_ (Kd.own_blk (Kd.S_away HO_8.out (fun _ hk => hk.2.2.2)))).trans (((cf_ (Kd.own_blk (Kd.S_away HO_8.out (fun _ hk => hk.2.2.2)))).trans (((cf_ (Kd.own_blk (Kd.S_away HO_8.out (fun _ hk => hk.2.2.2)))).trans (((cf_ (Kd.own_blk (Kd.S_away HO_8.out (fun _ hk => hk.2.2.2)))).trans (((cf_ (Kd.own_blk (Kd.S_away HO_8.out (fun _ hk => hk.2.2.2)))).trans (((cf_ (Kd.own_blk (Kd.S_away HO_8.out (fun _ hk => hk.2.2.2)))).trans (((cf_ (Kd.own_blk (Kd.S_away HO_8.out (fun _ hk => hk.2.2.2)))).trans (((cf_ (Kd.own_blk (Kd.S_away HO_8.out (fun _ hk => hk.2.2.2)))).trans (((cf_ (Kd.own_blk (Kd.S_away HO_8.out (fun _ hk => hk.2.2.2)))).trans (((cf_ (Kd.own_blk (Kd.S_away HO_8.out (fun _ hk => hk.2.2.2)))).trans (((cf_ (Kd.own_blk (Kd.S_away HO_8.out (fun _ hk => hk.2.2.2)))).trans (((cf_ (Kd.own_blk (Kd.S_away HO_8.out (fun _ hk => hk.2.2.2)))).trans (((cf_ (Kd.own_blk (Kd.S_away HO_8.out (fun _ hk => hk.2.2.2)))).trans (hHeld.2.2.2.2.2.2.2.2.2.1)))))))))))))))))))))))))))), ((cf_ (Kd.own_blk (Kd.S_away HO_8.out (fun _ hk => hk.2.2.2)))).trans (((cf_ (Kd.own_blk (Kd.S_away HO_8.out (fun _ hk => hk.2.2.2)))).trans (((cf_ (Kd.own_blk (Kd.S_away HO_8.out (fun _ hk => hk.2.2.2)))).trans (((cf_ (Kd.own_blk (Kd.S_away HO_8.out (fun _ hk => hk.2.2.2)))).trans (((cf_ (Kd.own_blk (Kd.S_away HO_8.out (fun _ hk => hk.2.2.2)))).trans (((cf_ (Kd.own_blk (Kd.S_away HO_8.out (fun _ hk => hk.2.2.2)))).trans (((cf_ (Kd.own_blk (Kd.S_away HO_8.out (fun _ hk => hk.2.2.2)))).trans (((cf_ (Kd.own_blk (Kd.S_away HO_8.out (fun _ hk => hk.2.2.2)))).trans (((cf_ (Kd.own_blk (Kd.S_away HO_8.out (fun _ hk => hk.2.2.2)))).trans (((cf_ (Kd.own_blk (Kd.S_away HO_8.out (fun _ hk => hk.2.2.2)))).trans (((cf_ (Kd.own_blk (Kd.S_away HO_8.out (fun _ hk => hk.2.2.2)))).trans (((cf_ (Kd.own_blk (Kd.S_away HO_8.out (fun _ hk => hk.2.2.2)))).trans (((cf_ (Kd.own_blk (Kd.S_away HO_8.out (fun _ hk => hk.2.2.2)))).trans (((cf_ (Kd.own_blk (Kd.S_away HO_8.out (fun _ hk => hk.2.2.2)))).trans (hHeld.2.2.2.2.2.2.2.2.2.2.1)))))))))))))))))))))))))))), ((cf_ (Kd.own_blk (Kd.S_away HO_8.out (fun _ hk => hk.2.2.2)))).trans (((cf_ (Kd.own_blk (Kd.S_away HO_8.out (fun _ hk => hk.2.2.2)))).trans (((cf_ (Kd.own_blk (Kd.S_away HO_8.out (fun _ hk => hk.2.2.2)))).trans (((cf_ (Kd.own_blk (Kd.S_away HO_8.out (fun _ hk => hk.2.2.2)))).trans (((cf_ (Kd.own_blk (Kd.S_away HO_8.out (fun _ hk => hk.2.2.2)))).trans (((cf_ (Kd.own_blk (Kd.S_away HO_8.out (fun _ hk => hk.2.2.2)))).trans (((cf_ (Kd.own_blk (Kd.S_away HO_8.out (fun _ hk => hk.2.2.2)))).trans (((cf_ (Kd.own_blk (Kd.S_away HO_8.out (fun _ hk => hk.2.2.2)))).trans (((cf_ (Kd.own_blk (Kd.S_away HO_8.out (fun _ hk => hk.2.2.2)))).trans (((cf_ (Kd.own_blk (Kd.S_away HO_8.out (fun _ hk => hk.2.2.2)))).trans (((cf_ (Kd.own_blk (Kd.S_away HO_8.out (fun _ hk => hk.2.2.2)))).trans (((cf_ (Kd.own_blk (Kd.S_away HO_8.out (fun _ hk => hk.2.2.2)))).trans (((cf_ (Kd.own_blk (Kd.S_away HO_8.out (fun _ hk => hk.2.2.2)))).trans (((cf_ (Kd.own_blk (Kd.S_away HO_8.out (fun _ hk => hk.2.2.2)))).trans (hHeld.2.2.2.2.2.2.2.2.2.2.2.1)))))))))))))))))))))))))))), ((cf_ (Kd.own_blk (Kd.S_away HO_8.out (fun _ hk => hk.2.2.2)))).trans (((cf_ (Kd.own_blk (Kd.S_away HO_8.out (fun _ hk => hk.2.2.2)))).trans (((cf_ (Kd.own_blk (Kd.S_away HO_8.out (fun _ hk => hk.2.2.2)))).trans (((cf_ (Kd.own_blk (Kd.S_away HO_8.out (fun _ hk => hk.2.2.2)))).trans (((cf_ (Kd.own_blk (Kd.S_away HO_8.out (fun _ hk => hk.2.2.2)))).trans (((cf_ (Kd.own_blk (Kd.S_away HO_8.out (fun _ hk => hk.2.2.2)))).trans (((cf_ (Kd.own_blk (Kd.S_away HO_8.out (fun _ hk => hk.2.2.2)))).trans (((cf_ (Kd.own_blk (Kd.S_away HO_8.out (fun _ hk => hk.2.2.2)))).trans (((cf_ (Kd.own_blk (Kd.S_away HO_8.out (fun _ hk => hk.2.2.2)))).trans (((cf_ (Kd.own_blk (Kd.S_away HO_8.out (fun _ hk => hk.2.2.2)))).trans (((cf_ (Kd.own_blk (Kd.S_away HO_8.out (fun _ hk => hk.2.2.2)))).trans (((cf_ (Kd.own_blk (Kd.S_away HO_8.out (fun _ hk => hk.2.2.2)))).trans (((cf_ (Kd.own_blk (Kd.S_away HO_8.out (fun _ hk => hk.2.2.2)))).trans (((cf_ (Kd.own_blk (Kd.S_away HO_8.out (fun _ hk => hk.2.2.2)))).trans (hHeld.2.2.2.2.2.2.2.2.2.2.2.2.1)))))))))))))))))))))))))))), ((cf_ (Kd.own_blk (Kd.S_away HO_8.out (fun _ hk => hk.2.2.2)))).trans (((cf_ (Kd.own_blk (Kd.S_away HO_8.out (fun _ hk => hk.2.2.2)))).trans (((cf_ (Kd.own_blk (Kd.S_away HO_8.out (fun _ hk => hk.2.2.2)))).trans (((cf_ (Kd.own_blk (Kd.S_away HO_8.out (fun _ hk => hk.2.2.2)))).trans (((cf_ (Kd.own_blk (Kd.S_away HO_8.out (fun _ hk => hk.2.2.2)))).trans (((cf_ (Kd.own_blk (Kd.S_away HO_8.out (fun _ hk => hk.2.2.2)))).trans (((cf_ (Kd.own_blk (Kd.S_away HO_8.out (fun _ hk => hk.2.2.2)))).trans (((cf_ (Kd.own_blk (Kd.S_away HO_8.out (fun _ hk => hk.2.2.2)))).trans (((cf_ (Kd.own_blk (Kd.S_away HO_8.out (fun _ hk => hk.2.2.2)))).trans (((cf_ (Kd.own_blk (Kd.S_away HO_8.out (fun _ hk => hk.2.2.2)))).trans (((cf_ (Kd.own_blk (Kd.S_away HO_8.out (fun _ hk => hk.2.2.2)))).trans (((cf_ (Kd.own_blk (Kd.S_away HO_8.out (fun _ hk => hk.2.2.2)))).trans (((cf_ (Kd.own_blk (Kd.S_away HO_8.out (fun _ hk => hk.2.2.2)))).trans (((cf_ (Kd.own_blk (Kd.S_away HO_8.out (fun _ hk => hk.2.2.2)))).trans (hHeld.2.2.2.2.2.2.2.2.2.2.2.2.2.1)))))))))))))))))))))))))))), ((cf_ (Kd.own_blk (Kd.S_away HO_8.out (fun _ hk => hk.2.2.2)))).trans (((cf_ (Kd.own_blk (Kd.S_away HO_8.out (fun _ hk => hk.2.2.2)))).trans (((cf_ (Kd.own_blk (Kd.S_away HO_8.out (fun _ hk => hk.2.2.2)))).trans (((cf_ (Kd.own_blk (Kd.S_away HO_8.out (fun _ hk => hk.2.2.2)))).trans (((cf_ (Kd.own_blk (Kd.S_away HO_8.out (fun _ hk => hk.2.2.2)))).trans (((cf_ (Kd.own_blk (Kd.S_away HO_8.out (fun _ hk => hk.2.2.2)))).trans (((cf_ (Kd.own_blk (Kd.S_away HO_8.out (fun _ hk => hk.2.2.2)))).trans (((cf_ (Kd.own_blk (Kd.S_away HO_8.out (fun _ hk => hk.2.2.2)))).trans (((cf_ (Kd.own_blk (Kd.S_away HO_8.out (fun _ hk => hk.2.2.2)))).trans (((cf_ (Kd.own_blk (Kd.S_away HO_8.out (fun _ hk => hk.2.2.2)))).trans (((cf_ (Kd.own_blk (Kd.S_away HO_8.out (fun _ hk => hk.2.2.2)))).trans (((cf_ (Kd.own_blk (Kd.S_away HO_8.out (fun _ hk => hk.2.2.2)))).trans (((cf_ (Kd.own_blk (Kd.S_away HO_8.out (fun _ hk => hk.2.2.2)))).trans (((cf_ (Kd.own_blk (Kd.S_away HO_8.out (fun _ hk => hk.2.2.2)))).trans (hHeld.2.2.2.2.2.2.2.2.2.2.2.2.2.2.1)))))))))))))))))))))))))))), ((cf_ (Kd.own_blk (Kd.S_away HO_8.out (fun _ hk => hk.2.2.2)))).trans (((cf_ (Kd.own_blk (Kd.S_away HO_8.out (fun _ hk => hk.2.2.2)))).trans (((cf_ (Kd.own_blk (Kd.S_away HO_8.out (fun _ hk => hk.2.2.2)))).trans (((cf_ (Kd.own_blk (Kd.S_away HO_8.out (fun _ hk => hk.2.2.2)))).trans (((cf_ (Kd.own_blk (Kd.S_away HO_8.out (fun _ hk => hk.2.2.2)))).trans (((cf_ (Kd.own_blk (Kd.S_away HO_8.out (fun _ hk => hk.2.2.2)))).trans (((cf_ (Kd.own_blk (Kd.S_away HO_8.out (fun _ hk => hk.2.2.2)))).trans (((cf_ (Kd.own_blk (Kd.S_away HO_8.out (fun _ hk => hk.2.2.2)))).trans (((cf_ (Kd.own_blk (Kd.S_away HO_8.out (fun _ hk => hk.2.2.2)))).trans (((cf_ (Kd.own_blk (Kd.S_away HO_8.out (fun _ hk => hk.2.2.2)))).trans (((cf_ (Kd.own_blk (Kd.S_away HO_8.out (fun _ hk => hk.2.2.2)))).trans (((cf_ (Kd.own_blk (Kd.S_away HO_8.out (fun _ hk => hk.2.2.2)))).trans (((cf_ (Kd.own_blk (Kd.S_away HO_8.out (fun _ hk => hk.2.2.2)))).trans (((cf_ (Kd.own_blk (Kd.S_away HO_8.out (fun _ hk => hk.2.2.2)))).trans (hHeld.2.2.2.2.2.2.2.2.2.2.2.2.2.2.2.1)))))))))))))))))))))))))))), ((cf_ (Kd.own_blk (Kd.S_away HO_8.out (fun _ hk => hk.2.2.2)))).trans (((cf_ (Kd.own_blk (Kd.S_away HO_8.out (fun _ hk => hk.2.2.2)))).trans (((cf_ (Kd.own_blk (Kd.S_away HO_8.out (fun _ hk => hk.2.2.2)))).trans (((cf_ (Kd.own_blk (Kd.S_away HO_8.out (fun _ hk => hk.2.2.2)))).trans (((cf_ (Kd.own_blk (Kd.S_away HO_8.out (fun _ hk => hk.2.2.2)))).trans (((cf_ (Kd.own_blk (Kd.S_away HO_8.out (fun _ hk => hk.2.2.2)))).trans (((cf_ (Kd.own_blk (Kd.S_away HO_8.out (fun _ hk => hk.2.2.2)))).trans (((cf_ (Kd.own_blk (Kd.S_away HO_8.out (fun _ hk => hk.2.2.2)))).trans (((cf_ (Kd.own_blk (Kd.S_away HO_8.out (fun _ hk => hk.2.2.2)))).trans (((cf_ (Kd.own_blk (Kd.S_away HO_8.out (fun _ hk => hk.2.2.2)))).trans (((cf_ (Kd.own_blk (Kd.S_away HO_8.out (fun _ hk => hk.2.2.2)))).trans (((cf_ (Kd.own_blk (Kd.S_away HO_8.out (fun _ hk => hk.2.2.2)))).trans (((cf_ (Kd.own_blk (Kd.S_away HO_8.out (fun _ hk => hk.2.2.2)))).trans (((cf_ (Kd.own_blk (Kd.S_away HO_8.out (fun _ hk => hk.2.2.2)))).trans (hHeld.2.2.2.2.2.2.2.2.2.2.2.2.2.2.2.2.1)))))))))))))))))))))))))))), ((cf_ (Kd.own_blk (Kd.S_away HO_8.out (fun _ hk => hk.2.2.2)))).trans (((cf_ (Kd.own_blk (Kd.S_away HO_8.out (fun _ hk => hk.2.2.2)))).trans (((cf_ (Kd.own_blk (Kd.S_away HO_8.out (fun _ hk => hk.2.2.2)))).trans (((cf_ (Kd.own_blk (Kd.S_away HO_8.out (fun _ hk => hk.2.2.2)))).trans (((cf_ (Kd.own_blk (Kd.S_away HO_8.out (fun _ hk => hk.2.2.2)))).trans (((cf_ (Kd.own_blk (Kd.S_away HO_8.out (fun _ hk => hk.2.2.2)))).trans (((cf_ (Kd.own_blk (Kd.S_away HO_8.out (fun _ hk => hk.2.2.2)))).trans (((cf_ (Kd.own_blk (Kd.S_away HO_8.out (fun _ hk => hk.2.2.2)))).trans (((cf_ (Kd.own_blk (Kd.S_away HO_8.out (fun _ hk => hk.2.2.2)))).trans (((cf_ (Kd.own_blk (Kd.S_away HO_8.out (fun _ hk => hk.2.2.2)))).trans (((cf_ (Kd.own_blk (Kd.S_away HO_8.out (fun _ hk => hk.2.2.2)))).trans (((cf_ (Kd.own_blk (Kd.S_away HO_8.out (fun _ hk => hk.2.2.2)))).trans (((cf_ (Kd.own_blk (Kd.S_away HO_8.out (fun _ hk => hk.2.2.2)))).trans (((cf_ (Kd.own_blk (Kd.S_away HO_8.out (fun _ hk => hk.2.2.2)))).trans (hHeld.2.2.2.2.2.2.2.2.2.2.2.2.2.2.2.2.2.1)))))))))))))))))))))))))))), ((cf_ (Kd.own_blk (Kd.S_away HO_8.out (fun _ hk => hk.2.2.2)))).trans (((cf_ (Kd.own_blk (Kd.S_away HO_8.out (fun _ hk => hk.2.2.2)))).trans (((cf_ (Kd.own_blk (Kd.S_away HO_8.out (fun _ hk => hk.2.2.2)))).trans (((cf_ (Kd.own_blk (Kd.S_away HO_8.out (fun _ hk => hk.2.2.2)))).trans (((cf_ (Kd.own_blk (Kd.S_away HO_8.out (fun _ hk => hk.2.2.2)))).trans (((cf_ (Kd.own_blk (Kd.S_away HO_8.out (fun _ hk => hk.2.2.2)))).trans (((cf_ (Kd.own_blk (Kd.S_away HO_8.out (fun _ hk => hk.2.2.2)))).trans (((cf_ (Kd.own_blk (Kd.S_away HO_8.out (fun _ hk => hk.2.2.2)))).trans (((cf_ (Kd.own_blk (Kd.S_away HO_8.out (fun _ hk => hk.2.2.2)))).trans (((cf_ (Kd.own_blk (Kd.S_away HO_8.out (fun _ hk => hk.2.2.2)))).trans (((cf_ (Kd.own_blk (Kd.S_away HO_8.out (fun _ hk => hk.2.2.2)))).trans (((cf_ (Kd.own_blk (Kd.S_away HO_8.out (fun _ hk => hk.2.2.2)))).trans (((cf_ (Kd.own_blk (Kd.S_away HO_8.out (fun _ hk => hk.2.2.2)))).trans (((cf_ (Kd.own_blk (Kd.S_away HO_8.out (fun _ hk => hk.2.2.2)))).trans (hHeld.2.2.2.2.2.2.2.2.2.2.2.2.2.2.2.2.2.2.1)))))))))))))))))))))))))))), ((cf_ (Kd.own_blk (Kd.S_away HO_8.out (fun _ hk => hk.2.2.2)))).trans (((cf_ (Kd.own_blk (Kd.S_away HO_8.out (fun _ hk => hk.2.2.2)))).trans (((cf_ (Kd.own_blk (Kd.S_away HO_8.out (fun _ hk => hk.2.2.2)))).trans (((cf_ (Kd.own_blk (Kd.S_away HO_8.out (fun _ hk => hk.2.2.2)))).trans (((cf_ (Kd.own_blk (Kd.S_away HO_8.out (fun _ hk => hk.2.2.2)))).trans (((cf_ (Kd.own_blk (Kd.S_away HO_8.out (fun _ hk => hk.2.2.2)))).trans (((cf_ (Kd.own_blk (Kd.S_away HO_8.out (fun _ hk => hk.2.2.2)))).trans (((cf_ (Kd.own_blk (Kd.S_away HO_8.out (fun _ hk => hk.2.2.2)))).trans (((cf_ (Kd.own_blk (Kd.S_away HO_8.out (fun _ hk => hk.2.2.2)))).trans (((cf_ (Kd.own_blk (Kd.S_away HO_8.out (fun _ hk => hk.2.2.2)))).trans (((cf_ (Kd.own_blk (Kd.S_away HO_8.out (fun _ hk => hk.2.2.2)))).trans (((cf_ (Kd.own_blk (Kd.S_away HO_8.out (fun _ hk => hk.2.2.2)))).trans (((cf_ (Kd.own_blk (Kd.S_away HO_8.out (fun _ hk => hk.2.2.2)))).trans (((cf_ (Kd.own_blk (Kd.S_away HO_8.out (fun _ hk => hk.2.2.2)))).trans (hHeld.2.2.2.2.2.2.2.2.2.2.2.2.2.2.2.2.2.2.2.1)))))))))))))))))))))))))))), ((cf_ (Kd.own_blk (Kd.S_away HO_8.out (fun _ hk => hk.2.2.2)))).trans (((cf_ (Kd.own_blk (Kd.S_away HO_8.out (fun _ hk => hk.2.2.2)))).trans (((cf_ (Kd.own_blk (Kd.S_away HO_8.out (fun _ hk => hk.2.2.2)))).trans (((cf_ (Kd.own_blk (Kd.S_away HO_8.out (fun _ hk => hk.2.2.2)))).trans (((cf_ (Kd.own_blk (Kd.S_away HO_8.out (fun _ hk => hk.2.2.2)))).trans (((cf_ (Kd.own_blk (Kd.S_away HO_8.out (fun _ hk => hk.2.2.2)))).trans (((cf_ (Kd.own_blk (Kd.S_away HO_8.out (fun _ hk => hk.2.2.2)))).trans (((cf_ (Kd.own_blk (Kd.S_away HO_8.out (fun _ hk => hk.2.2.2)))).trans (((cf_ (Kd.own_blk (Kd.S_away HO_8.out (fun _ hk => hk.2.2.2)))).trans (((cf_ (Kd.own_blk (Kd.S_away HO_8.out (fun _ hk => hk.2.2.2)))).trans (((cf_ (Kd.own_blk (Kd.S_away HO_8.out (fun _ hk => hk.2.2.2)))).trans (((cf_ (Kd.own_blk (Kd.S_away HO_8.out (fun _ hk => hk.2.2.2)))).trans (((cf_ (Kd.own_blk (Kd.S_away HO_8.out (fun _ hk => hk.2.2.2)))).trans (((cf_ (Kd.own_blk (Kd.S_away HO_8.out (fun _ hk => hk.2.2.2)))).trans (hHeld.2.2.2.2.2.2.2.2.2.2.2.2.2.2.2.2.2.2.2.2.1)))))))))))))))))))))))))))), ((cf_ (Kd.own_blk (Kd.S_away HO_8.out (fun _ hk => hk.2.2.2)))).trans (((cf_ (Kd.own_blk (Kd.S_away HO_8.out (fun _ hk => hk.2.2.2)))).trans (((cf_ (Kd.own_blk (Kd.S_away HO_8.out (fun _ hk => hk.2.2.2)))).trans (((cf_ (Kd.own_blk (Kd.S_away HO_8.out (fun _ hk => hk.2.2.2)))).trans (((cf_ (Kd.own_blk (Kd.S_away HO_8.out (fun _ hk => hk.2.2.2)))).trans (((cf_ (Kd.own_blk (Kd.S_away HO_8.out (fun _ hk => hk.2.2.2)))).trans (((cf_ (Kd.own_blk (Kd.S_away HO_8.out (fun _ hk => hk.2.2.2)))).trans (((cf_ (Kd.own_blk (Kd.S_away HO_8.out (fun _ hk => hk.2.2.2)))).trans (((cf_ (Kd.own_blk (Kd.S_away HO_8.out (fun _ hk => hk.2.2.2)))).trans (((cf_ (Kd.own_blk (Kd.S_away HO_8.out (fun _ hk => hk.2.2.2)))).trans (((cf_ (Kd.own_blk (Kd.S_away HO_8.out (fun _ hk => hk.2.2.2)))).trans (((cf_ (Kd.own_blk (Kd.S_away HO_8.out (fun _ hk => hk.2.2.2)))).trans (((cf_ (Kd.own_blk (Kd.S_away HO_8.out (fun _ hk => hk.2.2.2)))).trans (((cf_ (Kd.own_blk (Kd.S_away HO_8.out (fun _ hk => hk.2.2.2)))).trans (hHeld.2.2.2.2.2.2.2.2.2.2.2.2.2.2.2.2.2.2.2.2.2.1)))))))))))))))))))))))))))), ((cf_ (Kd.own_blk (Kd.S_away HO_8.out (fun _ hk => hk.2.2.2)))).trans (((cf_ (Kd.own_blk (Kd.S_away HO_8.out (fun _ hk => hk.2.2.2)))).trans (((cf_ (Kd.own_blk (Kd.S_away HO_8.out (fun _ hk => hk.2.2.2)))).trans (((cf_ (Kd.own_blk (Kd.S_away HO_8.out (fun _ hk => hk.2.2.2)))).trans (((cf_ (Kd.own_blk (Kd.S_away HO_8.out (fun _ hk => hk.2.2.2)))).trans (((cf_ (Kd.own_blk (Kd.S_away HO_8.out (fun _ hk => hk.2.2.2)))).trans (((cf_ (Kd.own_blk (Kd.S_away HO_8.out (fun _ hk => hk.2.2.2)))).trans (((cf_ (Kd.own_blk (Kd.S_away HO_8.out (fun _ hk => hk.2.2.2)))).trans (((cf_ (Kd.own_blk (Kd.S_away HO_8.out (fun _ hk => hk.2.2.2)))).trans (((cf_ (Kd.own_blk (Kd.S_away HO_8.out (fun _ hk => hk.2.2.2)))).trans (((cf_ (Kd.own_blk (Kd.S_away HO_8.out (fun _ hk => hk.2.2.2)))).trans (((cf_ (Kd.own_blk (Kd.S_away HO_8.out (fun _ hk => hk.2.2.2)))).trans (((cf_ (Kd.own_blk (Kd.S_away HO_8.out (fun _ hk => hk.2.2.2)))).trans (((cf_ (Kd.own_blk (Kd.S_away HO_8.out (fun _ hk => hk.2.2.2)))).trans (hHeld.2.2.2.2.2.2.2.2.2.2.2.2.2.2.2.2.2.2.2.2.2.2.1)))))))))))))))))))))))))))), ((cf_ (Kd.own_blk (Kd.S_away HO_8.out (fun _ hk => hk.2.2.2)))).trans (((cf_ (Kd.own_blk (Kd.S_away HO_8.out (fun _ hk => hk.2.2.2)))).trans (((cf_ (Kd.own_blk (Kd.S_away HO_8.out (fun _ hk => hk.2.2.2)))).trans (((cf_ (Kd.own_blk (Kd.S_away HO_8.out (fun _ hk => hk.2.2.2)))).trans (((cf_ (Kd.own_blk (Kd.S_away HO_8.out (fun _ hk => hk.2.2.2)))).trans (((cf_ (Kd.own_blk (Kd.S_away HO_8.out (fun _ hk => hk.2.2.2)))).trans (((cf_ (Kd.own_blk (Kd.S_away HO_8.out (fun _ hk => hk.2.2.2)))).trans (((cf_ (Kd.own_blk (Kd.S_away HO_8.out (fun _ hk => hk.2.2.2)))).trans (((cf_ (Kd.own_blk (Kd.S_away HO_8.out (fun _ hk => hk.2.2.2)))).trans (((cf_ (Kd.own_blk (Kd.S_away HO_8.out (fun _ hk => hk.2.2.2)))).trans (((cf_ (Kd.own_blk (Kd.S_away HO_8.out (fun _ hk => hk.2.2.2)))).trans (((cf_ (Kd.own_blk (Kd.S_away HO_8.out (fun _ hk => hk.2.2.2)))).trans (((cf_ (Kd.own_blk (Kd.S_away HO_8.out (fun _ hk => hk.2.2.2)))).trans (((cf_ (Kd.own_blk (Kd.S_away HO_8.out (fun _ hk => hk.2.2.2)))).trans (hHeld.2.2.2.2.2.2.2.2.2.2.2.2.2.2.2.2.2.2.2.2.2.2.2.1)))))))))))))))))))))))))))), ((cf_ (Kd.own_blk (Kd.S_away HO_8.out (fun _ hk => hk.2.2.2)))).trans (((cf_ (Kd.own_blk (Kd.S_away HO_8.out (fun _ hk => hk.2.2.2)))).trans (((cf_ (Kd.own_blk (Kd.S_away HO_8.out (fun _ hk => hk.2.2.2)))).trans (((cf_ (Kd.own_blk (Kd.S_away HO_8.out (fun _ hk => hk.2.2.2)))).trans (((cf_ (Kd.own_blk (Kd.S_away HO_8.out (fun _ hk => hk.2.2.2)))).trans (((cf_ (Kd.own_blk (Kd.S_away HO_8.out (fun _ hk => hk.2.2.2)))).trans (((cf_ (Kd.own_blk (Kd.S_away HO_8.out (fun _ hk => hk.2.2.2)))).trans (((cf_ (Kd.own_blk (Kd.S_away HO_8.out (fun _ hk => hk.2.2.2)))).trans (((cf_ (Kd.own_blk (Kd.S_away HO_8.out (fun _ hk => hk.2.2.2)))).trans (((cf_ (Kd.own_blk (Kd.S_away HO_8.out (fun _ hk => hk.2.2.2)))).trans (((cf_ (Kd.own_blk (Kd.S_away HO_8.out (fun _ hk => hk.2.2.2)))).trans (((cf_ (Kd.own_blk (Kd.S_away HO_8.out (fun _ hk => hk.2.2.2)))).trans (((cf_ (Kd.own_blk (Kd.S_away HO_8.out (fun _ hk => hk.2.2.2)))).trans (((cf_ (Kd.own_blk (Kd.S_away HO_8.out (fun _ hk => hk.2.2.2)))).trans (hHeld.2.2.2.2.2.2.2.2.2.2.2.2.2.2.2.2.2.2.2.2.2.2.2.2.1)))))))))))))))))))))))))))), ((cf_ (Kd.own_blk (Kd.S_away HO_8.out (fun _ hk => hk.2.2.2)))).trans (((cf_ (Kd.own_blk (Kd.S_away HO_8.out (fun _ hk => hk.2.2.2)))).trans (((cf_ (Kd.own_blk (Kd.S_away HO_8.out (fun _ hk => hk.2.2.2)))).trans (((cf_ (Kd.own_blk (Kd.S_away HO_8.out (fun _ hk => hk.2.2.2)))).trans (((cf_ (Kd.own_blk (Kd.S_away HO_8.out (fun _ hk => hk.2.2.2)))).trans (((cf_ (Kd.own_blk (Kd.S_away HO_8.out (fun _ hk => hk.2.2.2)))).trans (((cf_ (Kd.own_blk (Kd.S_away HO_8.out (fun _ hk => hk.2.2.2)))).trans (((cf_ (Kd.own_blk (Kd.S_away HO_8.out (fun _ hk => hk.2.2.2)))).trans (((cf_ (Kd.own_blk (Kd.S_away HO_8.out (fun _ hk => hk.2.2.2)))).trans (((cf_ (Kd.own_blk (Kd.S_away HO_8.out (fun _ hk => hk.2.2.2)))).trans (((cf_ (Kd.own_blk (Kd.S_away HO_8.out (fun _ hk => hk.2.2.2)))).trans (((cf_ (Kd.own_blk (Kd.S_away HO_8.out (fun _ hk => hk.2.2.2)))).trans (((cf_ (Kd.own_blk (Kd.S_away HO_8.out (fun _ hk => hk.2.2.2)))).trans (((cf_ (Kd.own_blk (Kd.S_away HO_8.out (fun _ hk => hk.2.2.2)))).trans (hHeld.2.2.2.2.2.2.2.2.2.2.2.2.2.2.2.2.2.2.2.2.2.2.2.2.2.1)))))))))))))))))))))))))))), ((cf_ (Kd.own_blk (Kd.S_away HO_8.out (fun _ hk => hk.2.2.2)))).trans (((cf_ (Kd.own_blk (Kd.S_away HO_8.out (fun _ hk => hk.2.2.2)))).trans (((cf_ (Kd.own_blk (Kd.S_away HO_8.out (fun _ hk => hk.2.2.2)))).trans (((cf_ (Kd.own_blk (Kd.S_away HO_8.out (fun _ hk => hk.2.2.2)))).trans (((cf_ (Kd.own_blk (Kd.S_away HO_8.out (fun _ hk => hk.2.2.2)))).trans (((cf_ (Kd.own_blk (Kd.S_away HO_8.out (fun _ hk => hk.2.2.2)))).trans (((cf_ (Kd.own_blk (Kd.S_away HO_8.out (fun _ hk => hk.2.2.2)))).trans (((cf_ (Kd.own_blk (Kd.S_away HO_8.out (fun _ hk => hk.2.2.2)))).trans (((cf_ (Kd.own_blk (Kd.S_away HO_8.out (fun _ hk => hk.2.2.2)))).trans (((cf_ (Kd.own_blk (Kd.S_away HO_8.out (fun _ hk => hk.2.2.2)))).trans (((cf_ (Kd.own_blk (Kd.S_away HO_8.out (fun _ hk => hk.2.2.2)))).trans (((cf_ (Kd.own_blk (Kd.S_away HO_8.out (fun _ hk => hk.2.2.2)))).trans (((cf_ (Kd.own_blk (Kd.S_away HO_8.out (fun _ hk => hk.2.2.2)))).trans (((cf_ (Kd.own_blk (Kd.S_away HO_8.out (fun _ hk => hk.2.2.2)))).trans (hHeld.2.2.2.2.2.2.2.2.2.2.2.2.2.2.2.2.2.2.2.2.2.2.2.2.2.2.1)))))))))))))))))))))))))))), ((cf_ (Kd.own_blk (Kd.S_away HO_8.out (fun _ hk => hk.2.2.2)))).trans (((cf_ (Kd.own_blk (Kd.S_away HO_8.out (fun _ hk => hk.2.2.2)))).trans (((cf_ (Kd.own_blk (Kd.S_away HO_8.out (fun _ hk => hk.2.2.2)))).trans (((cf_ (Kd.own_blk (Kd.S_away HO_8.out (fun _ hk => hk.2.2.2)))).trans (((cf_ (Kd.own_blk (Kd.S_away HO_8.out (fun _ hk => hk.2.2.2)))).trans (((cf_ (Kd.own_blk (Kd.S_away HO_8.out (fun _ hk => hk.2.2.2)))).trans (((cf_ (Kd.own_blk (Kd.S_away HO_8.out (fun _ hk => hk.2.2.2)))).trans (((cf_ (Kd.own_blk (Kd.S_away HO_8.out (fun _ hk => hk.2.2.2)))).trans (((cf_ (Kd.own_blk (Kd.S_away HO_8.out (fun _ hk => hk.2.2.2)))).trans (((cf_ (Kd.own_blk (Kd.S_away HO_8.out (fun _ hk => hk.2.2.2)))).trans (((cf_ (Kd.own_blk (Kd.S_away HO_8.out (fun _ hk => hk.2.2.2)))).trans (((cf_ (Kd.own_blk (Kd.S_away HO_8.out (fun _ hk => hk.2.2.2)))).trans (((cf_ (Kd.own_blk (Kd.S_away HO_8.out (fun _ hk => hk.2.2.2)))).trans (((cf_ (Kd.own_blk (Kd.S_away HO_8.out (fun _ hk => hk.2.2.2)))).trans (hHeld.2.2.2.2.2.2.2.2.2.2.2.2.2.2.2.2.2.2.2.2.2.2.2.2.2.2.2))))))))))))))))))))))))))))⟩ (fun hHeld => ?_)
         clear hK K
         refine done_ (done_of HT_.out (by kernel_rfl)) ?_
         try go_wp2
         go_loopg [17] k2 (fun kq v17 w' => ∃ (x17_3 : Int) (x601013_3 : List Int) (u601013 : Value), v17 = .int .i64 x17_3 ∧ Aside0 (spec_ProofOf.l3 kq t572 t575 x10_1 x13_2 x14_2 x15_2 x17_3 ((rd_T63 t572 x15_2).f0.f0) ((rd_T63 t572 x15_2).f0.f1.f0) ((rd_T63 t572 x15_2).f0.f1.f1) ((rd_T63 t572 x15_2).f0.f2) ((rd_T63 t572 x15_2).f0.f3.f0) ((rd_T63 t572 x15_2).f0.f3.f1) ((rd_T63 t572 x15_2).f0.f4.f0) ((rd_T63 t572 x15_2).f0.f4.f1) ((rd_T63 t572 x15_2).f0.f5) ((rd_T63 t572 x15_2).f0.f6) ((rd_T63 t572 x15_2).f1.f0.f0) ((rd_T63 t572 x15_2).f1.f0.f1) ((rd_T63 t572 x15_2).f1.f1) x601013_3 = some (r1, r2)) ∧ Aside0 (kq ≤ k2) ∧ Aside0 (Kd.S k63 63 w' w.heap.size (fun k_ => some k_ ≠ (v589 : Value).ownBlock ∧ some k_ ≠ (u14 : Value).ownBlock ∧ some k_ ≠ (u601013 : Value).ownBlock ∧ k_ ≠ gb600) (.slice (some ad595) t572.length co23) t572) ∧ Aside0 (Kd.R Kd.bool 4 w' w.heap.size (fun _ => True) (.slice (some ⟨go19, 0, none⟩) x10_1.length co19) x10_1) ∧ Aside0 (Kd.R (Kd.int .i64) 3 w' w.heap.size (fun k_ => some k_ ≠ (u601013 : Value).ownBlock) v589 x13_2) ∧ Aside0 (Kd.S k63 63 w' w.heap.size (fun k_ => some k_ ≠ ((.slice (some ad595) t572.length co23) : Value).ownBlock ∧ some k_ ≠ (v589 : Value).ownBlock ∧ some k_ ≠ (u601013 : Value).ownBlock ∧ k_ ≠ gb600) u14 x14_2) ∧ Aside0 (Kd.R (Kd.int .i64) 3 w' w.heap.size (fun k_ => some k_ ≠ (v589 : Value).ownBlock) u601013 x601013_3) ∧ Aside0 (w'.heap[gb571]? = some (.cells #[.int .i64 a1_0, .int .i64 a1_1] 27 (0, 0))) ∧ Aside0 (w'.heap[gb600]? = some (.cells #[.int .i64 ((rd_T63 t572 x15_2).f0.f0), .int .i64 ((rd_T63 t572 x15_2).f0.f1.f0), .int .i64 ((rd_T63 t572 x15_2).f0.f1.f1), .int .i64 ((rd_T63 t572 x15_2).f0.f2), .int .i64 ((rd_T63 t572 x15_2).f0.f3.f0), .int .i64 ((rd_T63 t572 x15_2).f0.f3.f1), .int .i64 ((rd_T63 t572 x15_2).f0.f4.f0), .int .i64 ((rd_T63 t572 x15_2).f0.f4.f1), .int .i64 ((rd_T63 t572 x15_2).f0.f5), .int .i64 ((rd_T63 t572 x15_2).f0.f6), .int .i64 ((rd_T63 t572 x15_2).f1.f0.f0), .int .i64 ((rd_T63 t572 x15_2).f1.f0.f1), .int .i64 ((rd_T63 t572 x15_2).f1.f1), u601013] 63 (0, 0))) ∧ Aside0 (Below w.heap.size w w'))
         case atStart => exact ⟨(0), (y597), (.slice Ao60 y597.length co60), rf_, H', ⟨Nat.le_refl _⟩, ⟨by (try simp only [hl10_1]); (with_reducible repeat (first | apply Kd.S_alloc | apply Kd.S_drewN | apply Kd.S_drew)); exact Kd.S_mono (fs14_ (Kd.S_mono HO_8.out (fun k_ hk => (⟨hk, hk.2.2.2⟩ : _ ∧ k_ ≠ gb600))) (fun _ hk => hk.2)) (fun _ hk => ⟨hk.1.2.1, ⟨hk.1.2.2.1, ⟨hk.1.1, hk.1.2.2.2⟩⟩⟩)⟩, ⟨by (try simp only [hl10_1]); (with_reducible repeat (first | apply Kd.R_alloc | apply Kd.R_drewN | apply Kd.R_drew)); exact Kd.R_mono (fr14_ (Kd.R_types HO_10.out BK600.out (by decide)) (fun _ hk => hk.2)) (fun _ hk => trivial)⟩, ⟨by (try simp only [hl10_1]); (with_reducible repeat (first | apply Kd.R_alloc | apply Kd.R_drewN | apply Kd.R_drew)); exact Kd.R_mono (fr14_ (Kd.R_types HO_13.out BK600.out (by decide)) (fun _ hk => hk.2)) (fun _ hk => hk.1)⟩, ⟨by (try simp only [hl10_1]); (with_reducible repeat (first | apply Kd.S_alloc | apply Kd.S_drewN | apply Kd.S_drew)); exact Kd.S_mono (fs14_ (Kd.S_mono HO_14.out (fun k_ hk => (⟨hk, hk.2.2.2⟩ : _ ∧ k_ ≠ gb600))) (fun _ hk => hk.2)) (fun _ hk => ⟨hk.1.2.2.1, ⟨hk.1.2.1, ⟨hk.1.1, hk.1.2.2.2⟩⟩⟩)⟩, ⟨by (try simp only [hl10_1]); (with_reducible repeat (first | apply Kd.R_alloc | apply Kd.R_drewN | apply Kd.R_drew)); exact Kd.R_mono (fr14_ (Kd.R_types HO599.out BK600.out (by decide)) (fun _ hk => hk.2)) (fun _ hk => hk.1.2.2)⟩, ⟨by (try simp only [hl10_1]); (with_reducible repeat (first | refine blk_drewN ?_ _ | refine blk_drew ?_ | refine blk_alloc ?_ _)); refine blk_far ?_ NB571_600.out _; (with_reducible repeat (first | refine blk_drewN ?_ _ | refine blk_drew ?_ | refine blk_alloc ?_ _)); refine blk_far ?_ NB571_600.out _; (with_reducible repeat (first | refine blk_drewN ?_ _ | refine blk_drew ?_ | refine blk_alloc ?_ _)); refine blk_far ?_ NB571_600.out _; (with_reducible repeat (first | refine blk_drewN ?_ _ | refine blk_drew ?_ | refine blk_alloc ?_ _)); refine blk_far ?_ NB571_600.out _; (with_reducible repeat (first | refine blk_drewN ?_ _ | refine blk_drew ?_ | refine blk_alloc ?_ _)); refine blk_far ?_ NB571_600.out _; (with_reducible repeat (first | refine blk_drewN ?_ _ | refine blk_drew ?_ | refine blk_alloc ?_ _)); refine blk_far ?_ NB571_600.out _; (with_reducible repeat (first | refine blk_drewN ?_ _ | refine blk_drew ?_ | refine blk_alloc ?_ _)); refine blk_far ?_ NB571_600.out _; (with_reducible repeat (first | refine blk_drewN ?_ _ | refine blk_drew ?_ | refine blk_alloc ?_ _)); refine blk_far ?_ NB571_600.out _; (with_reducible repeat (first | refine blk_drewN ?_ _ | refine blk_drew ?_ | refine blk_alloc ?_ _)); refine blk_far ?_ NB571_600.out _; (with_reducible repeat (first | refine blk_drewN ?_ _ | refine blk_drew ?_ | refine blk_alloc ?_ _)); refine blk_far ?_ NB571_600.out _; (with_reducible repeat (first | refine blk_drewN ?_ _ | refine blk_drew ?_ | refine blk_alloc ?_ _)); refine blk_far ?_ NB571_600.out _; (with_reducible repeat (first | refine blk_drewN ?_ _ | refine blk_drew ?_ | refine blk_alloc ?_ _)); refine blk_far ?_ NB571_600.out _; (with_reducible repeat (first | refine blk_drewN ?_ _ | refine blk_drew ?_ | refine blk_alloc ?_ _)); refine blk_far ?_ NB571_600.out _; (with_reducible repeat (first | refine blk_drewN ?_ _ | refine blk_drew ?_ | refine blk_alloc ?_ _)); refine blk_far ?_ NB571_600.out _; (with_reducible repeat (first | refine blk_drewN ?_ _ | refine blk_drew ?_ | refine blk_alloc ?_ _)); exact BK571.out⟩, ⟨by (try simp only [hl10_1]); (with_reducible repeat (first | refine blk_drewN ?_ _ | refine blk_drew ?_ | refine blk_alloc ?_ _)); refine blk_put (cs := #[.int .i64 ((rd_T63 t572 x15_2).f0.f0), .int .i64 ((rd_T63 t572 x15_2).f0.f1.f0), .int .i64 ((rd_T63 t572 x15_2).f0.f1.f1), .int .i64 ((rd_T63 t572 x15_2).f0.f2), .int .i64 ((rd_T63 t572 x15_2).f0.f3.f0), .int .i64 ((rd_T63 t572 x15_2).f0.f3.f1), .int .i64 ((rd_T63 t572 x15_2).f0.f4.f0), .int .i64 ((rd_T63 t572 x15_2).f0.f4.f1), .int .i64 ((rd_T63 t572 x15_2).f0.f5), .int .i64 ((rd_T63 t572 x15_2).f0.f6), .int .i64 ((rd_T63 t572 x15_2).f1.f0.f0), .int .i64 ((rd_T63 t572 x15_2).f1.f0.f1), .int .i64 ((rd_T63 t572 x15_2).f1.f1), .slice none 0 0]) ?_ 13 _ rfl; (with_reducible repeat (first | refine blk_drewN ?_ _ | refine blk_drew ?_ | refine blk_alloc ?_ _)); refine blk_put (cs := #[.int .i64 ((rd_T63 t572 x15_2).f0.f0), .int .i64 ((rd_T63 t572 x15_2).f0.f1.f0), .int .i64 ((rd_T63 t572 x15_2).f0.f1.f1), .int .i64 ((rd_T63 t572 x15_2).f0.f2), .int .i64 ((rd_T63 t572 x15_2).f0.f3.f0), .int .i64 ((rd_T63 t572 x15_2).f0.f3.f1), .int .i64 ((rd_T63 t572 x15_2).f0.f4.f0), .int .i64 ((rd_T63 t572 x15_2).f0.f4.f1), .int .i64 ((rd_T63 t572 x15_2).f0.f5), .int .i64 ((rd_T63 t572 x15_2).f0.f6), .int .i64 ((rd_T63 t572 x15_2).f1.f0.f0), .int .i64 ((rd_T63 t572 x15_2).f1.f0.f1), .int .i64 0, .slice none 0 0]) ?_ 12 _ rfl; (with_reducible repeat (first | refine blk_drewN ?_ _ | refine blk_drew ?_ | refine blk_alloc ?_ _)); refine blk_put (cs := #[.int .i64 ((rd_T63 t572 x15_2).f0.f0), .int .i64 ((rd_T63 t572 x15_2).f0.f1.f0), .int .i64 ((rd_T63 t572 x15_2).f0.f1.f1), .int .i64 ((rd_T63 t572 x15_2).f0.f2), .int .i64 ((rd_T63 t572 x15_2).f0.f3.f0), .int .i64 ((rd_T63 t572 x15_2).f0.f3.f1), .int .i64 ((rd_T63 t572 x15_2).f0.f4.f0), .int .i64 ((rd_T63 t572 x15_2).f0.f4.f1), .int .i64 ((rd_T63 t572 x15_2).f0.f5), .int .i64 ((rd_T63 t572 x15_2).f0.f6), .int .i64 ((rd_T63 t572 x15_2).f1.f0.f0), .int .i64 0, .int .i64 0, .slice none 0 0]) ?_ 11 _ rfl; (with_reducible repeat (first | refine blk_drewN ?_ _ | refine blk_drew ?_ | refine blk_alloc ?_ _)); refine blk_put (cs := #[.int .i64 ((rd_T63 t572 x15_2).f0.f0), .int .i64 ((rd_T63 t572 x15_2).f0.f1.f0), .int .i64 ((rd_T63 t572 x15_2).f0.f1.f1), .int .i64 ((rd_T63 t572 x15_2).f0.f2), .int .i64 ((rd_T63 t572 x15_2).f0.f3.f0), .int .i64 ((rd_T63 t572 x15_2).f0.f3.f1), .int .i64 ((rd_T63 t572 x15_2).f0.f4.f0), .int .i64 ((rd_T63 t572 x15_2).f0.f4.f1), .int .i64 ((rd_T63 t572 x15_2).f0.f5), .int .i64 ((rd_T63 t572 x15_2).f0.f6), .int .i64 0, .int .i64 0, .int .i64 0, .slice none 0 0]) ?_ 10 _ rfl; (with_reducible repeat (first | refine blk_drewN ?_ _ | refine blk_drew ?_ | refine blk_alloc ?_ _)); refine blk_put (cs := #[.int .i64 ((rd_T63 t572 x15_2).f0.f0), .int .i64 ((rd_T63 t572 x15_2).f0.f1.f0), .int .i64 ((rd_T63 t572 x15_2).f0.f1.f1), .int .i64 ((rd_T63 t572 x15_2).f0.f2), .int .i64 ((rd_T63 t572 x15_2).f0.f3.f0), .int .i64 ((rd_T63 t572 x15_2).f0.f3.f1), .int .i64 ((rd_T63 t572 x15_2).f0.f4.f0), .int .i64 ((rd_T63 t572 x15_2).f0.f4.f1), .int .i64 ((rd_T63 t572 x15_2).f0.f5), .int .i64 0, .int .i64 0, .int .i64 0, .int .i64 0, .slice none 0 0]) ?_ 9 _ rfl; (with_reducible repeat (first | refine blk_drewN ?_ _ | refine blk_drew ?_ | refine blk_alloc ?_ _)); refine blk_put (cs := #[.int .i64 ((rd_T63 t572 x15_2).f0.f0), .int .i64 ((rd_T63 t572 x15_2).f0.f1.f0), .int .i64 ((rd_T63 t572 x15_2).f0.f1.f1), .int .i64 ((rd_T63 t572 x15_2).f0.f2), .int .i64 ((rd_T63 t572 x15_2).f0.f3.f0), .int .i64 ((rd_T63 t572 x15_2).f0.f3.f1), .int .i64 ((rd_T63 t572 x15_2).f0.f4.f0), .int .i64 ((rd_T63 t572 x15_2).f0.f4.f1), .int .i64 0, .int .i64 0, .int .i64 0, .int .i64 0, .int .i64 0, .slice none 0 0]) ?_ 8 _ rfl; (with_reducible repeat (first | refine blk_drewN ?_ _ | refine blk_drew ?_ | refine blk_alloc ?_ _)); refine blk_put (cs := #[.int .i64 ((rd_T63 t572 x15_2).f0.f0), .int .i64 ((rd_T63 t572 x15_2).f0.f1.f0), .int .i64 ((rd_T63 t572 x15_2).f0.f1.f1), .int .i64 ((rd_T63 t572 x15_2).f0.f2), .int .i64 ((rd_T63 t572 x15_2).f0.f3.f0), .int .i64 ((rd_T63 t572 x15_2).f0.f3.f1), .int .i64 ((rd_T63 t572 x15_2).f0.f4.f0), .int .i64 0, .int .i64 0, .int .i64 0, .int .i64 0, .int .i64 0, .int .i64 0, .slice none 0 0]) ?_ 7 _ rfl; (with_reducible repeat (first | refine blk_drewN ?_ _ | refine blk_drew ?_ | refine blk_alloc ?_ _)); refine blk_put (cs := #[.int .i64 ((rd_T63 t572 x15_2).f0.f0), .int .i64 ((rd_T63 t572 x15_2).f0.f1.f0), .int .i64 ((rd_T63 t572 x15_2).f0.f1.f1), .int .i64 ((rd_T63 t572 x15_2).f0.f2), .int .i64 ((rd_T63 t572 x15_2).f0.f3.f0), .int .i64 ((rd_T63 t572 x15_2).f0.f3.f1), .int .i64 0, .int .i64 0, .int .i64 0, .int .i64 0, .int .i64 0, .int .i64 0, .int .i64 0, .slice none 0 0]) ?_ 6 _ rfl; (with_reducible repeat (first | refine blk_drewN ?_ _ | refine blk_drew ?_ | refine blk_alloc ?_ _)); refine blk_put (cs := #[.int .i64 ((rd_T63 t572 x15_2).f0.f0), .int .i64 ((rd_T63 t572 x15_2).f0.f1.f0), .int .i64 ((rd_T63 t572 x15_2).f0.f1.f1), .int .i64 ((rd_T63 t572 x15_2).f0.f2), .int .i64 ((rd_T63 t572 x15_2).f0.f3.f0), .int .i64 0, .int .i64 0, .int .i64 0, .int .i64 0, .int .i64 0, .int .i64 0, .int .i64 0, .int .i64 0, .slice none 0 0]) ?_ 5 _ rfl; (with_reducible repeat (first | refine blk_drewN ?_ _ | refine blk_drew ?_ | refine blk_alloc ?_ _)); refine blk_put (cs := #[.int .i64 ((rd_T63 t572 x15_2).f0.f0), .int .i64 ((rd_T63 t572 x15_2).f0.f1.f0), .int .i64 ((rd_T63 t572 x15_2).f0.f1.f1), .int .i64 ((rd_T63 t572 x15_2).f0.f2), .int .i64 0, .int .i64 0, .int .i64 0, .int .i64 0, .int .i64 0, .int .i64 0, .int .i64 0, .int .i64 0, .int .i64 0, .slice none 0 0]) ?_ 4 _ rfl; (with_reducible repeat (first | refine blk_drewN ?_ _ | refine blk_drew ?_ | refine blk_alloc ?_ _)); refine blk_put (cs := #[.int .i64 ((rd_T63 t572 x15_2).f0.f0), .int .i64 ((rd_T63 t572 x15_2).f0.f1.f0), .int .i64 ((rd_T63 t572 x15_2).f0.f1.f1), .int .i64 0, .int .i64 0, .int .i64 0, .int .i64 0, .int .i64 0, .int .i64 0, .int .i64 0, .int .i64 0, .int .i64 0, .int .i64 0, .slice none 0 0]) ?_ 3 _ rfl; (with_reducible repeat (first | refine blk_drewN ?_ _ | refine blk_drew ?_ | refine blk_alloc ?_ _)); refine blk_put (cs := #[.int .i64 ((rd_T63 t572 x15_2).f0.f0), .int .i64 ((rd_T63 t572 x15_2).f0.f1.f0), .int .i64 0, .int .i64 0, .int .i64 0, .int .i64 0, .int .i64 0, .int .i64 0, .int .i64 0, .int .i64 0, .int .i64 0, .int .i64 0, .int .i64 0, .slice none 0 0]) ?_ 2 _ rfl; (with_reducible repeat (first | refine blk_drewN ?_ _ | refine blk_drew ?_ | refine blk_alloc ?_ _)); refine blk_put (cs := #[.int .i64 ((rd_T63 t572 x15_2).f0.f0), .int .i64 0, .int .i64 0, .int .i64 0, .int .i64 0, .int .i64 0, .int .i64 0, .int .i64 0, .int .i64 0, .int .i64 0, .int .i64 0, .int .i64 0, .int .i64 0, .slice none 0 0]) ?_ 1 _ rfl; (with_reducible repeat (first | refine blk_drewN ?_ _ | refine blk_drew ?_ | refine blk_alloc ?_ _)); refine blk_put (cs := #[.int .i64 0, .int .i64 0, .int .i64 0, .int .i64 0, .int .i64 0, .int .i64 0, .int .i64 0, .int .i64 0, .int .i64 0, .int .i64 0, .int .i64 0, .int .i64 0, .int .i64 0, .slice none 0 0]) ?_ 0 _ rfl; (with_reducible repeat (first | refine blk_drewN ?_ _ | refine blk_drew ?_ | refine blk_alloc ?_ _)); exact BK600.out⟩, ⟨bl_⟩⟩
         case round =>
          clear H'
          try clear p2
          try clear c5
          try clear p5
          try clear q5
          try clear hx5
          try clear c59
          try clear p59
          try clear q59
          try clear hx59
          try clear hx594_0
          try clear hx595_0
          try clear hx595_1
          try clear hx595_10
          try clear hx595_11
          try clear hx595_12
          try clear hx595_13
          try clear hx595_2
          try clear hx595_3
          try clear hx595_4
          try clear hx595_5
          try clear hx595_6
          try clear hx595_7
          try clear hx595_8
          try clear hx595_9
          try clear hx596_0
          try clear hx596_1
          try clear hx596_10
          try clear hx596_11
          try clear hx596_12
          try clear hx596_13
          try clear hx596_2
          try clear hx596_3
          try clear hx596_4
          try clear hx596_5
          try clear hx596_6
          try clear hx596_7
          try clear hx596_8
          try clear hx596_9
          try clear p594
          try clear p595
          try clear p596
          try clear q594
          try clear q595
          try clear q596
          obtain ⟨x17_3, x601013_3, u601013, rfl, HA, HK3, HO_8, HO_10, HO_13, HO_14, HO_601013, BK571, BK600, HB⟩ := hrel
          cases gk with
          | zero => exact absurd HA.out (by simp [spec_ProofOf.l3])
          | succ k3 =>
           have H := HA.out
           clear HA
           simp only [spec_ProofOf.l3] at H
           obtain ⟨c75b0, H⟩ := ifd_ H
           obtain ⟨c76b0, H⟩ := ifd_ H
           by_cases c77 : x17_3 < (((rd_T63 t572 x15_2).f2).length : Int)
           ·rw [if_pos c77] at H
            have c77b0 : decide (x17_3 < (((rd_T63 t572 x15_2).f2).length : Int)) = true := decide_eq_true c77
            clear c77
            obtain ⟨c78b0, H⟩ := ifd_ H
            obtain ⟨c79b0, H⟩ := ifd_ H
            obtain ⟨c80b0, H⟩ := ifd_ H
            obtain ⟨c81, H⟩ := ifn_ H
            have LMc81 := aa_ c81
            clear c81
            obtain ⟨y605, hy605⟩ : ∃ y_ : List Int, y_ = (x601013_3 ++ [rd x13_2 (rd ((rd_T63 t572 x15_2).f2) x17_3)]) := ⟨_, rfl⟩
            replace H : (spec_ProofOf.l3 k3 t572 t575 x10_1 x13_2 x14_2 x15_2 (wrap64 (x17_3 + 1)) ((rd_T63 t572 x15_2).f0.f0) ((rd_T63 t572 x15_2).f0.f1.f0) ((rd_T63 t572 x15_2).f0.f1.f1) ((rd_T63 t572 x15_2).f0.f2) ((rd_T63 t572 x15_2).f0.f3.f0) ((rd_T63 t572 x15_2).f0.f3.f1) ((rd_T63 t572 x15_2).f0.f4.f0) ((rd_T63 t572 x15_2).f0.f4.f1) ((rd_T63 t572 x15_2).f0.f5) ((rd_T63 t572 x15_2).f0.f6) ((rd_T63 t572 x15_2).f1.f0.f0) ((rd_T63 t572 x15_2).f1.f0.f1) ((rd_T63 t572 x15_2).f1.f1) y605) = some (r1, r2) := rh_ hy605 H
            have Ny605 := aa_ hy605
            clear hy605
            have H' := aa_ H
            clear H
            have p601 : 0 ≤ (x15_2 : Int) := od_
            have q601 : x15_2 < (t572.length : Int) := od_
            obtain ⟨ad601, A601_13, c601_13, e601, hx601_0, hx601_1, hx601_2, hx601_3, hx601_4, hx601_5, hx601_6, hx601_7, hx601_8, hx601_9, hx601_10, hx601_11, hx601_12, hx601_13, hl601_13, hi601_13⟩ := at_T63 (Kd.S_reads' HO_8.out).2.2 x15_2 p601 q601
            obtain rfl : ad595 = ad601 := (by injection e601)
            obtain ⟨ce601, hce601, hMe601, hcc601⟩ := Kd.S_get HO_8.out z63 x15_2 p601 (by first | exact q601 | exact od_ | (have e_ := (Kd.S_reads' HO_8.out).1; omega))
            obtain ⟨ve601_13, rfl, ge601_13⟩ := k63_openM hMe601
            have hv601_13 := hcc601 13 _ rfl
            rw [add_field _ _ 13 (by omega)] at hv601_13
            replace hv601_13 := Option.some.inj (hv601_13.symm.trans hx601_13)
            rw [hv601_13] at ge601_13
            have HL601_13 := aa_ (show Kd.R (Kd.int .i64) 3 _ _ _ _ ((rd_T63 t572 x15_2).f2) from ge601_13)
            clear hv601_13 ge601_13
            clear hcc601 hce601
            have HR601_13 := aa_ hi601_13
            have HC601_13 := aa_ hl601_13
            clear hi601_13 hl601_13
            replace p601 := eq_true p601
            replace q601 := eq_true q601
            try go_wp2
            replace HO_8 := aa_ (Kd.S_drew HO_8.out)
            replace HO_10 := aa_ (Kd.R_drew HO_10.out)
            replace HO_13 := aa_ (Kd.R_drew HO_13.out)
            replace HO_14 := aa_ (Kd.S_drew HO_14.out)
            replace HO_601013 := aa_ (Kd.R_drew HO_601013.out)
            replace HL601_13 := aa_ (Kd.R_drew HL601_13.out)
            replace BK571 := aa_ (blk_drew BK571.out)
            replace BK600 := aa_ (blk_drew BK600.out)
            replace HR601_13 := aa_ (Kd.C_drew HR601_13.out)
            replace HB := aa_ (below_drew1 HB.out)
            have p602 : 0 ≤ (x15_2 : Int) := od_
            have q602 : x15_2 < (t572.length : Int) := od_
            obtain ⟨ad602, A602_13, c602_13, e602, hx602_0, hx602_1, hx602_2, hx602_3, hx602_4, hx602_5, hx602_6, hx602_7, hx602_8, hx602_9, hx602_10, hx602_11, hx602_12, hx602_13, hl602_13, hi602_13⟩ := at_T63 (Kd.S_reads' HO_8.out).2.2 x15_2 p602 q602
            obtain rfl : ad595 = ad602 := (by injection e602)
            obtain ⟨ce602, hce602, hMe602, hcc602⟩ := Kd.S_get HO_8.out z63 x15_2 p602 (by first | exact q602 | exact od_ | (have e_ := (Kd.S_reads' HO_8.out).1; omega))
            obtain ⟨ve602_13, rfl, ge602_13⟩ := k63_openM hMe602
            have hv602_13 := hcc602 13 _ rfl
            rw [add_field _ _ 13 (by omega)] at hv602_13
            replace hv602_13 := Option.some.inj (hv602_13.symm.trans hx602_13)
            rw [hv602_13] at ge602_13
            have HL602_13 := aa_ (show Kd.R (Kd.int .i64) 3 _ _ _ _ ((rd_T63 t572 x15_2).f2) from ge602_13)
            clear hv602_13 ge602_13
            clear hcc602 hce602
            have HR602_13 := aa_ hi602_13
            have HC602_13 := aa_ hl602_13
            clear hi602_13 hl602_13
            replace p602 := eq_true p602
            replace q602 := eq_true q602
            have p603 : 0 ≤ (x17_3 : Int) := od_
            have q603 : x17_3 < (((rd_T63 t572 x15_2).f2).length : Int) := od_
            obtain ⟨ad603, e603, hx603_0⟩ := Kd.at_int (by repeat (first | (with_reducible exact HR602_13.out) | (with_reducible refine Kd.C_alloc ?_ _) | (with_reducible refine Kd.C_drewN ?_ _) | (with_reducible refine Kd.C_drew ?_) | exact HR602_13.out)) x17_3 p603 q603
            cases e603
            replace p603 := eq_true p603
            replace q603 := eq_true q603
            obtain ⟨Ao83, co83, eo83⟩ := Kd.R_slice HO_13.out
            (first | subst eo83 | (injection eo83 with f1_ f2_ f3_; have f4_ := f1_.symm; have f5_ := f3_.symm; clear f1_ f2_ f3_; subst f4_; subst f5_))
            have p604 : 0 ≤ ((rd ((rd_T63 t572 x15_2).f2) x17_3) : Int) := od_
            have q604 : (rd ((rd_T63 t572 x15_2).f2) x17_3) < (x13_2.length : Int) := od_
            obtain ⟨ad604, e604, hx604_0⟩ := Kd.at_int (Kd.R_reads' HO_13.out).2.2 (rd ((rd_T63 t572 x15_2).f2) x17_3) p604 q604
            cases e604
            replace p604 := eq_true p604
            replace q604 := eq_true q604
            refine start_ (n := 17) (S := fun w' => w'.cell? ⟨gb600, 0, none⟩ = some (.int .i64 ((rd_T63 t572 x15_2).f0.f0)) ∧ w'.cell? ⟨gb600, 1, none⟩ = some (.int .i64 ((rd_T63 t572 x15_2).f0.f1.f0)) ∧ w'.cell? ⟨gb600, 2, none⟩ = some (.int .i64 ((rd_T63 t572 x15_2).f0.f1.f1)) ∧ w'.cell? ⟨gb600, 3, none⟩ = some (.int .i64 ((rd_T63 t572 x15_2).f0.f2)) ∧ w'.cell? ⟨gb600, 4, none⟩ = some (.int .i64 ((rd_T63 t572 x15_2).f0.f3.f0)) ∧ w'.cell? ⟨gb600, 5, none⟩ = some (.int .i64 ((rd_T63 t572 x15_2).f0.f3.f1)) ∧ w'.cell? ⟨gb600, 6, none⟩ = some (.int .i64 ((rd_T63 t572 x15_2).f0.f4.f0)) ∧ w'.cell? ⟨gb600, 7, none⟩ = some (.int .i64 ((rd_T63 t572 x15_2).f0.f4.f1)) ∧ w'.cell? ⟨gb600, 8, none⟩ = some (.int .i64 ((rd_T63 t572 x15_2).f0.f5)) ∧ w'.cell? ⟨gb600, 9, none⟩ = some (.int .i64 ((rd_T63 t572 x15_2).f0.f6)) ∧ w'.cell? ⟨gb600, 10, none⟩ = some (.int .i64 ((rd_T63 t572 x15_2).f1.f0.f0)) ∧ w'.cell? ⟨gb600, 11, none⟩ = some (.int .i64 ((rd_T63 t572 x15_2).f1.f0.f1)) ∧ w'.cell? ⟨gb600, 12, none⟩ = some (.int .i64 ((rd_T63 t572 x15_2).f1.f1)) ∧ w'.cell? ⟨gb600, 13, none⟩ = some (u601013) ∧ w'.cell? (ad595.add ((x15_2).toNat * 14)) = some (.int .i64 ((rd_T63 t572 x15_2).f0.f0)) ∧ w'.cell? ⟨(ad595.add ((x15_2).toNat * 14)).block, (ad595.add ((x15_2).toNat * 14)).off + 1, none⟩ = some (.int .i64 ((rd_T63 t572 x15_2).f0.f1.f0)) ∧ w'.cell? ⟨(ad595.add ((x15_2).toNat * 14)).block, (ad595.add ((x15_2).toNat * 14)).off + 2, none⟩ = some (.int .i64 ((rd_T63 t572 x15_2).f0.f1.f1)) ∧ w'.cell? ⟨(ad595.add ((x15_2).toNat * 14)).block, (ad595.add ((x15_2).toNat * 14)).off + 3, none⟩ = some (.int .i64 ((rd_T63 t572 x15_2).f0.f2)) ∧ w'.cell? ⟨(ad595.add ((x15_2).toNat * 14)).block, (ad595.add ((x15_2).toNat * 14)).off + 4, none⟩ = some (.int .i64 ((rd_T63 t572 x15_2).f0.f3.f0)) ∧ w'.cell? ⟨(ad595.add ((x15_2).toNat * 14)).block, (ad595.add ((x15_2).toNat * 14)).off + 5, none⟩ = some (.int .i64 ((rd_T63 t572 x15_2).f0.f3.f1)) ∧ w'.cell? ⟨(ad595.add ((x15_2).toNat * 14)).block, (ad595.add ((x15_2).toNat * 14)).off + 6, none⟩ = some (.int .i64 ((rd_T63 t572 x15_2).f0.f4.f0)) ∧ w'.cell? ⟨(ad595.add ((x15_2).toNat * 14)).block, (ad595.add ((x15_2).toNat * 14)).off + 7, none⟩ = some (.int .i64 ((rd_T63 t572 x15_2).f0.f4.f1)) ∧ w'.cell? ⟨(ad595.add ((x15_2).toNat * 14)).block, (ad595.add ((x15_2).toNat * 14)).off + 8, none⟩ = some (.int .i64 ((rd_T63 t572 x15_2).f0.f5)) ∧ w'.cell? ⟨(ad595.add ((x15_2).toNat * 14)).block, (ad595.add ((x15_2).toNat * 14)).off + 9, none⟩ = some (.int .i64 ((rd_T63 t572 x15_2).f0.f6)) ∧ w'.cell? ⟨(ad595.add ((x15_2).toNat * 14)).block, (ad595.add ((x15_2).toNat * 14)).off + 10, none⟩ = some (.int .i64 ((rd_T63 t572 x15_2).f1.f0.f0)) ∧ w'.cell? ⟨(ad595.add ((x15_2).toNat * 14)).block, (ad595.add ((x15_2).toNat * 14)).off + 11, none⟩ = some (.int .i64 ((rd_T63 t572 x15_2).f1.f0.f1)) ∧ w'.cell? ⟨(ad595.add ((x15_2).toNat * 14)).block, (ad595.add ((x15_2).toNat * 14)).off + 12, none⟩ = some (.int .i64 ((rd_T63 t572 x15_2).f1.f1)) ∧ w'.cell? ⟨(ad595.add ((x15_2).toNat * 14)).block, (ad595.add ((x15_2).toNat * 14)).off + 13, none⟩ = some (.slice (some ad603) ((rd_T63 t572 x15_2).f2).length c602_13) ∧ w'.cell? (ad603.add (x17_3).toNat) = some (.int .i64 (rd ((rd_T63 t572 x15_2).f2) x17_3)) ∧ w'.cell? (ad604.add ((rd ((rd_T63 t572 x15_2).f2) x17_3)).toNat) = some (.int .i64 (rd x13_2 (rd ((rd_T63 t572 x15_2).f2) x17_3)))) (ds := [14, 16]) #[false, false, false, false, false, false, false, false, false, false, false, false, false, false, false, false, false] (by kernel_rfl) rfl rfl ⟨(blk_cell BK600.out 0).trans rfl, (blk_cell BK600.out 1).trans rfl, (blk_cell BK600.out 2).trans rfl, (blk_cell BK600.out 3).trans rfl, (blk_cell BK600.out 4).trans rfl, (blk_cell BK600.out 5).trans rfl, (blk_cell BK600.out 6).trans rfl, (blk_cell BK600.out 7).trans rfl, (blk_cell BK600.out 8).trans rfl, (blk_cell BK600.out 9).trans rfl, (blk_cell BK600.out 10).trans rfl, (blk_cell BK600.out 11).trans rfl, (blk_cell BK600.out 12).trans rfl, (blk_cell BK600.out 13).trans rfl, hx602_0, hx602_1, hx602_2, hx602_3, hx602_4, hx602_5, hx602_6, hx602_7, hx602_8, hx602_9, hx602_10, hx602_11, hx602_12, hx602_13, hx603_0, hx604_0⟩ (fun hHeld => ?_); refine with_tabW spec_ProofOf.tab24 spec_ProofOf.bits24 (fun HT_ HW_ => ?_)
            generalize wr.drew = w82 at HO_8 HO_10 HO_13 HO_14 HO_601013 HL601_13 BK571 BK600 HR601_13 HB HL602_13 HR602_13 hx602_0 hx602_1 hx602_10 hx602_11 hx602_12 hx602_13 hx602_2 hx602_3 hx602_4 hx602_5 hx602_6 hx602_7 hx602_8 hx602_9 hx603_0 hx604_0 hHeld ⊢
            refine pureZ_ (i := 0) (some 101) #[true, false, false, false, false, false, false, false, false, false, false, false, false, false, false, false, false] (ao_ HT_) ?_
            refine pureZ_ (i := 2) (some 103) #[true, false, true, false, false, false, false, false, false, false, false, false, false, false, false, false, false] (ao_ HT_) ?_
            refine pureZ_ (i := 3) (some 104) #[true, false, true, true, false, false, false, false, false, false, false, false, false, false, false, false, false] (ao_ HT_) ?_
            refine pureZ_ (i := 4) (some 105) #[true, false, true, true, true, false, false, false, false, false, false, false, false, false, false, false, false] (ao_ HT_) ?_
            refine pureZ_ (i := 5) (some 106) #[true, false, true, true, true, true, false, false, false, false, false, false, false, false, false, false, false] (ao_ HT_) ?_
            refine pureZ_ (i := 6) (some 107) #[true, false, true, true, true, true, true, false, false, false, false, false, false, false, false, false, false] (ao_ HT_) ?_
            refine pureZ_ (i := 8) (some 109) #[true, false, true, true, true, true, true, false, true, false, false, false, false, false, false, false, false] (ao_ HT_) ?_
            refine takeZ_ (i := 1) (some 102) #[true, true, true, true, true, true, true, false, true, false, false, false, false, false, false, false, false] (take_ofW HT_.out HW_.out (by kernel_rfl)) hHeld ?_
            refine takeZ_ (i := 7) (some 108) #[true, true, true, true, true, true, true, true, true, false, false, false, false, false, false, false, false] (take_ofW HT_.out HW_.out (by kernel_rfl)) hHeld ?_
            refine pureZ_ (i := 9) (some 110) #[true, true, true, true, true, true, true, true, true, true, false, false, false, false, false, false, false] (ao_ HT_) ?_
            refine takeZ_ (i := 10) (some 111) #[true, true, true, true, true, true, true, true, true, true, true, false, false, false, false, false, false] (take_ofW HT_.out HW_.out (by kernel_rfl)) hHeld ?_
            refine pureZ_ (i := 11) (some 112) #[true, true, true, true, true, true, true, true, true, true, true, true, false, false, false, false, false] (ao_ HT_) ?_
            refine takeZ_ (i := 12) (some 113) #[true, true, true, true, true, true, true, true, true, true, true, true, true, false, false, false, false] (take_ofW HT_.out HW_.out (by kernel_rfl)) hHeld ?_
            refine one_ (i := 13) (N := some 114) #[true, true, true, true, true, true, true, true, true, true, true, true, true, true, false, false, false] rfl rfl (one_of HT_.out (by kernel_rfl)) (by decide) (fun K hK => ?_)
            refine value_ (w1 := ?_) (v := ?_) (by rfl) rfl ?_ ?_
            rotate_left 2
            ·go_simp
             constructor
             ·rfl
             ·rfl
            refine hK.out _ _ ⟨(blk_cell (blk_alloc BK600.out _) 0).trans rfl, (blk_cell (blk_alloc BK600.out _) 1).trans rfl, (blk_cell (blk_alloc BK600.out _) 2).trans rfl, (blk_cell (blk_alloc BK600.out _) 3).trans rfl, (blk_cell (blk_alloc BK600.out _) 4).trans rfl, (blk_cell (blk_alloc BK600.out _) 5).trans rfl, (blk_cell (blk_alloc BK600.out _) 6).trans rfl, (blk_cell (blk_alloc BK600.out _) 7).trans rfl, (blk_cell (blk_alloc BK600.out _) 8).trans rfl, (blk_cell (blk_alloc BK600.out _) 9).trans rfl, (blk_cell (blk_alloc BK600.out _) 10).trans rfl, (blk_cell (blk_alloc BK600.out _) 11).trans rfl, (blk_cell (blk_alloc BK600.out _) 12).trans rfl, (blk_cell (blk_alloc BK600.out _) 13).trans rfl, (World.cell?_alloc_lt _ _ _ (World.block_lt_of_cell? _ _ (hHeld.2.2.2.2.2.2.2.2.2.2.2.2.2.2.1))).trans (hHeld.2.2.2.2.2.2.2.2.2.2.2.2.2.2.1), (World.cell?_alloc_lt _ _ _ (World.block_lt_of_cell? _ _ (hHeld.2.2.2.2.2.2.2.2.2.2.2.2.2.2.2.1))).trans (hHeld.2.2.2.2.2.2.2.2.2.2.2.2.2.2.2.1), (World.cell?_alloc_lt _ _ _ (World.block_lt_of_cell? _ _ (hHeld.2.2.2.2.2.2.2.2.2.2.2.2.2.2.2.2.1))).trans (hHeld.2.2.2.2.2.2.2.2.2.2.2.2.2.2.2.2.1), (World.cell?_alloc_lt _ _ _ (World.block_lt_of_cell? _ _ (hHeld.2.2.2.2.2.2.2.2.2.2.2.2.2.2.2.2.2.1))).trans (hHeld.2.2.2.2.2.2.2.2.2.2.2.2.2.2.2.2.2.1), (World.cell?_alloc_lt _ _ _ (World.block_lt_of_cell? _ _ (hHeld.2.2.2.2.2.2.2.2.2.2.2.2.2.2.2.2.2.2.1))).trans (hHeld.2.2.2.2.2.2.2.2.2.2.2.2.2.2.2.2.2.2.1), (World.cell?_alloc_lt _ _ _ (World.block_lt_of_cell? _ _ (hHeld.2.2.2.2.2.2.2.2.2.2.2.2.2.2.2.2.2.2.2.1))).trans (hHeld.2.2.2.2.2.2.2.2.2.2.2.2.2.2.2.2.2.2.2.1), (World.cell?_alloc_lt _ _ _ (World.block_lt_of_cell? _ _ (hHeld.2.2.2.2.2.2.2.2.2.2.2.2.2.2.2.2.2.2.2.2.1))).trans (hHeld.2.2.2.2.2.2.2.2.2.2.2.2.2.2.2.2.2.2.2.2.1), (World.cell?_alloc_lt _ _ _ (World.block_lt_of_cell? _ _ (hHeld.2.2.2.2.2.2.2.2.2.2.2.2.2.2.2.2.2.2.2.2.2.1))).trans (hHeld.2.2.2.2.2.2.2.2.2.2.2.2.2.2.2.2.2.2.2.2.2.1), (World.cell?_alloc_lt _ _ _ (World.block_lt_of_cell? _ _ (hHeld.2.2.2.2.2.2.2.2.2.2.2.2.2.2.2.2.2.2.2.2.2.2.1))).trans (hHeld.2.2.2.2.2.2.2.2.2.2.2.2.2.2.2.2.2.2.2.2.2.2.1), (World.cell?_alloc_lt _ _ _ (World.block_lt_of_cell? _ _ (hHeld.2.2.2.2.2.2.2.2.2.2.2.2.2.2.2.2.2.2.2.2.2.2.2.1))).trans (hHeld.2.2.2.2.2.2.2.2.2.2.2.2.2.2.2.2.2.2.2.2.2.2.2.1), (World.cell?_alloc_lt _ _ _ (World.block_lt_of_cell? _ _ (hHeld.2.2.2.2.2.2.2.2.2.2.2.2.2.2.2.2.2.2.2.2.2.2.2.2.1))).trans (hHeld.2.2.2.2.2.2.2.2.2.2.2.2.2.2.2.2.2.2.2.2.2.2.2.2.1), (World.cell?_alloc_lt _ _ _ (World.block_lt_of_cell? _ _ (hHeld.2.2.2.2.2.2.2.2.2.2.2.2.2.2.2.2.2.2.2.2.2.2.2.2.2.1))).trans (hHeld.2.2.2.2.2.2.2.2.2.2.2.2.2.2.2.2.2.2.2.2.2.2.2.2.2.1), (World.cell?_alloc_lt _ _ _ (World.block_lt_of_cell? _ _ (hHeld.2.2.2.2.2.2.2.2.2.2.2.2.2.2.2.2.2.2.2.2.2.2.2.2.2.2.1))).trans (hHeld.2.2.2.2.2.2.2.2.2.2.2.2.2.2.2.2.2.2.2.2.2.2.2.2.2.2.1), (World.cell?_alloc_lt _ _ _ (World.block_lt_of_cell? _ _ (hHeld.2.2.2.2.2.2.2.2.2.2.2.2.2.2.2.2.2.2.2.2.2.2.2.2.2.2.2.1))).trans (hHeld.2.2.2.2.2.2.2.2.2.2.2.2.2.2.2.2.2.2.2.2.2.2.2.2.2.2.2.1), (World.cell?_alloc_lt _ _ _ (World.block_lt_of_cell? _ _ (hHeld.2.2.2.2.2.2.2.2.2.2.2.2.2.2.2.2.2.2.2.2.2.2.2.2.2.2.2.2.1))).trans (hHeld.2.2.2.2.2.2.2.2.2.2.2.2.2.2.2.2.2.2.2.2.2.2.2.2.2.2.2.2.1), (World.cell?_alloc_lt _ _ _ (World.block_lt_of_cell? _ _ (hHeld.2.2.2.2.2.2.2.2.2.2.2.2.2.2.2.2.2.2.2.2.2.2.2.2.2.2.2.2.2))).trans (hHeld.2.2.2.2.2.2.2.2.2.2.2.2.2.2.2.2.2.2.2.2.2.2.2.2.2.2.2.2.2)⟩ (fun hHeld => ?_)
            clear hK K
            refine norm_ (a' := ?_) ?_ ?_
            rotate_left
            ·show Act.put _ (some 114) _ = _
             simp only [Act.put, List.setIfInBounds_toArray, List.set_cons_zero, List.set_cons_succ, i64_w, i32_w]
             rfl
            refine last_ (i := 14) (N := some 115) #[true, true, true, true, true, true, true, true, true, true, true, true, true, true, true, false, false] rfl rfl (one_of HT_.out (by kernel_rfl)) (by decide) (fun K hK => ?_)
            refine Kd.R_append_step (Kd.int .i64) (w0 := w) w.heap.size (by rfl) (.tmp 102) (.tmp 114) 32 3 (.int .i64 0) 8 rfl Try.underlying32 info3 rfl (by decide) (by omega) u601013 x601013_3 (rd x13_2 (rd ((rd_T63 t572 x15_2).f2) x17_3)) [.int .i64 (rd x13_2 (rd ((rd_T63 t572 x15_2).f2) x17_3))] (fun k_ => some k_ ≠ (.slice (some ad604) x13_2.length co83 : Value).ownBlock) (fun _ => False) rfl rfl ?aP (fun _ hk => hk.elim) ?aF ?aO ?aB ?aS ?aL ?_
            (case aP => exact rfl)
            (case aB => exact bl_)
            (case aF => exact (fun k_ hk => Kd.fresh' (Kd.R_lt (rr_ HO_13)) k_ hk))
            (case aO => exact (rr_ HO_601013))
            (case aS => exact bls_)
            (case aL => have := LMc81.out; omega)
            intro v606 w84 ho hb hg hat
            rw [← Ny605.out] at ho
            replace HO_8 := aa_ (Kd.S_after (ok := (fun k_ => some k_ ≠ (.slice (some ad604) x13_2.length co83 : Value).ownBlock ∧ some k_ ≠ (u14 : Value).ownBlock ∧ k_ ≠ gb600)) (by (with_reducible repeat (first | apply Kd.S_alloc | apply Kd.S_drewN | apply Kd.S_drew)); exact Kd.S_mono HO_8.out (fun _ hk => ⟨⟨hk.1, ⟨hk.2.1, hk.2.2.2⟩⟩, hk.2.2.1⟩)) hg hat)
            replace HO_10 := aa_ (Kd.R_over' (rr_ HO_10) (Kd.R_typed (rr_ HO_601013)) (by decide) hg)
            replace HO_13 := aa_ (Kd.R_after (ok := (fun _ => True)) (by (with_reducible repeat (first | apply Kd.R_alloc | apply Kd.R_drewN | apply Kd.R_drew)); exact Kd.R_mono HO_13.out (fun _ hk => ⟨trivial, hk⟩)) hg hat)
            replace HO_14 := aa_ (Kd.S_after (ok := (fun k_ => some k_ ≠ (.slice (some ad595) t572.length co23 : Value).ownBlock ∧ some k_ ≠ (.slice (some ad604) x13_2.length co83 : Value).ownBlock ∧ k_ ≠ gb600)) (by (with_reducible repeat (first | apply Kd.S_alloc | apply Kd.S_drewN | apply Kd.S_drew)); exact Kd.S_mono HO_14.out (fun _ hk => ⟨⟨hk.1, ⟨hk.2.1, hk.2.2.2⟩⟩, hk.2.2.1⟩)) hg hat)
            replace BK571 := aa_ (blk_grown (g := gb571) (o := .cells #[.int .i64 a1_0, .int .i64 a1_1] 27 (0, 0)) (bk_ BK571) hg (Kd.R_ne HO_601013.out BK571.out (by decide)))
            replace BK600 := aa_ (blk_grown (g := gb600) (o := .cells #[.int .i64 ((rd_T63 t572 x15_2).f0.f0), .int .i64 ((rd_T63 t572 x15_2).f0.f1.f0), .int .i64 ((rd_T63 t572 x15_2).f0.f1.f1), .int .i64 ((rd_T63 t572 x15_2).f0.f2), .int .i64 ((rd_T63 t572 x15_2).f0.f3.f0), .int .i64 ((rd_T63 t572 x15_2).f0.f3.f1), .int .i64 ((rd_T63 t572 x15_2).f0.f4.f0), .int .i64 ((rd_T63 t572 x15_2).f0.f4.f1), .int .i64 ((rd_T63 t572 x15_2).f0.f5), .int .i64 ((rd_T63 t572 x15_2).f0.f6), .int .i64 ((rd_T63 t572 x15_2).f1.f0.f0), .int .i64 ((rd_T63 t572 x15_2).f1.f0.f1), .int .i64 ((rd_T63 t572 x15_2).f1.f1), u601013] 63 (0, 0)) (bk_ BK600) hg (Kd.R_ne HO_601013.out BK600.out (by decide)))
            replace HL601_13 := aa_ (Kd.R_after (ok := (fun k_ => some k_ ≠ (.slice (some ad595) t572.length co23 : Value).ownBlock ∧ some k_ ≠ (.slice (some ad604) x13_2.length co83 : Value).ownBlock ∧ some k_ ≠ (u14 : Value).ownBlock ∧ k_ ≠ gb600)) (by (with_reducible repeat (first | apply Kd.R_alloc | apply Kd.R_drewN | apply Kd.R_drew)); exact Kd.R_mono HL601_13.out (fun _ hk => ⟨⟨hk.2, ⟨hk.1.1, ⟨hk.1.2.1, hk.1.2.2.2⟩⟩⟩, hk.1.2.2.1⟩)) hg hat)
            replace HL602_13 := aa_ (Kd.R_after (ok := (fun k_ => some k_ ≠ (.slice (some ad595) t572.length co23 : Value).ownBlock ∧ some k_ ≠ (.slice (some ad604) x13_2.length co83 : Value).ownBlock ∧ some k_ ≠ (u14 : Value).ownBlock ∧ k_ ≠ gb600)) (by (with_reducible repeat (first | apply Kd.R_alloc | apply Kd.R_drewN | apply Kd.R_drew)); exact Kd.R_mono HL602_13.out (fun _ hk => ⟨⟨hk.2, ⟨hk.1.1, ⟨hk.1.2.1, hk.1.2.2.2⟩⟩⟩, hk.1.2.2.1⟩)) hg hat)
            replace HB := aa_ (hb)
            have HO607 := aa_ (ho)
            clear HO_601013
            clear ho hb hg hat
            obtain ⟨Ao85, co85, eo85⟩ := Kd.R_slice HO607.out
            (first | subst eo85 | (injection eo85 with f1_ f2_ f3_; have f4_ := f1_.symm; have f5_ := f3_.symm; clear f1_ f2_ f3_; subst f4_; subst f5_))
            refine hK.out _ _ ?_
            clear hK K
            refine norm_ (a' := ?_) ?_ ?_
            rotate_left
            ·show Act.put _ (some 115) _ = _
             simp only [Act.put, List.setIfInBounds_toArray, List.set_cons_zero, List.set_cons_succ, i64_w, i32_w]
             rfl
            refine pureZ_ (i := 15) (some 116) #[true, true, true, true, true, true, true, true, true, true, true, true, true, true, true, true, false] (ao_ HT_) ?_
            refine last_ (i := 16) (N := none) #[true, true, true, true, true, true, true, true, true, true, true, true, true, true, true, true, true] rfl rfl (one_of HT_.out (by kernel_rfl)) (by decide) (fun K hK => ?_)
            have hs86 : w84.cell? ⟨gb600, 13, none⟩ = some (u601013) := (blk_cell BK600.out 13).trans rfl
            have hfs86 := blk_frozen BK600.out 13
            have hns86_0 := NB571_600.out
            have hms86_0 := NB600_571.out
            refine skip_ (w1 := ?_) (by rfl) rfl ?_ ?_
            rotate_left
            ·go_simp
             rfl
            refine hK.out _ _ ?_
            clear hK K
            refine done_ (done_of HT_.out (by kernel_rfl)) ?_
            try go_wp2
            go_roundg k3
            case measure => have := HK1.out; have := HK2.out; have := HK3.out; omega
            case rel => exact ⟨(wrap64 (x17_3 + 1)), (y605), (.slice Ao85 y605.length co85), rf_, H', ⟨by have := HK1.out; have := HK2.out; have := HK3.out; omega⟩, ⟨by (try simp only [hl10_1]); (with_reducible repeat (first | apply Kd.S_alloc | apply Kd.S_drewN | apply Kd.S_drew)); exact Kd.S_mono (Kd.S_far (p := ⟨gb600, 13, none⟩) (Kd.S_mono HO_8.out (fun k_ hk => (⟨hk, hk.1.2.2⟩ : _ ∧ k_ ≠ gb600))) (fun _ hk => hk.2) (.slice Ao85 y605.length co85)) (fun _ hk => ⟨hk.1.1.1, ⟨hk.1.1.2.1, ⟨hk.1.2, hk.1.1.2.2⟩⟩⟩)⟩, ⟨by (try simp only [hl10_1]); (with_reducible repeat (first | apply Kd.R_alloc | apply Kd.R_drewN | apply Kd.R_drew)); exact Kd.R_mono (Kd.R_far (p := ⟨gb600, 13, none⟩) (Kd.R_types HO_10.out BK600.out (by decide)) (fun _ hk => hk.2) (.slice Ao85 y605.length co85)) (fun _ hk => trivial)⟩, ⟨by (try simp only [hl10_1]); (with_reducible repeat (first | apply Kd.R_alloc | apply Kd.R_drewN | apply Kd.R_drew)); exact Kd.R_mono (Kd.R_far (p := ⟨gb600, 13, none⟩) (Kd.R_types HO_13.out BK600.out (by decide)) (fun _ hk => hk.2) (.slice Ao85 y605.length co85)) (fun _ hk => hk.1.2)⟩, ⟨by (try simp only [hl10_1]); (with_reducible repeat (first | apply Kd.S_alloc | apply Kd.S_drewN | apply Kd.S_drew)); exact Kd.S_mono (Kd.S_far (p := ⟨gb600, 13, none⟩) (Kd.S_mono HO_14.out (fun k_ hk => (⟨hk, hk.1.2.2⟩ : _ ∧ k_ ≠ gb600))) (fun _ hk => hk.2) (.slice Ao85 y605.length co85)) (fun _ hk => ⟨hk.1.1.1, ⟨hk.1.1.2.1, ⟨hk.1.2, hk.1.1.2.2⟩⟩⟩)⟩, ⟨by (try simp only [hl10_1]); (with_reducible repeat (first | apply Kd.R_alloc | apply Kd.R_drewN | apply Kd.R_drew)); exact Kd.R_mono (Kd.R_far (p := ⟨gb600, 13, none⟩) (Kd.R_types HO607.out BK600.out (by decide)) (fun _ hk => hk.2) (.slice Ao85 y605.length co85)) (fun _ hk => hk.1)⟩, ⟨by (try simp only [hl10_1]); (with_reducible repeat (first | refine blk_drewN ?_ _ | refine blk_drew ?_ | refine blk_alloc ?_ _)); refine blk_far ?_ NB571_600.out _; (with_reducible repeat (first | refine blk_drewN ?_ _ | refine blk_drew ?_ | refine blk_alloc ?_ _)); exact BK571.out⟩, ⟨by (try simp only [hl10_1]); (with_reducible repeat (first | refine blk_drewN ?_ _ | refine blk_drew ?_ | refine blk_alloc ?_ _)); refine blk_put (cs := #[.int .i64 ((rd_T63 t572 x15_2).f0.f0), .int .i64 ((rd_T63 t572 x15_2).f0.f1.f0), .int .i64 ((rd_T63 t572 x15_2).f0.f1.f1), .int .i64 ((rd_T63 t572 x15_2).f0.f2), .int .i64 ((rd_T63 t572 x15_2).f0.f3.f0), .int .i64 ((rd_T63 t572 x15_2).f0.f3.f1), .int .i64 ((rd_T63 t572 x15_2).f0.f4.f0), .int .i64 ((rd_T63 t572 x15_2).f0.f4.f1), .int .i64 ((rd_T63 t572 x15_2).f0.f5), .int .i64 ((rd_T63 t572 x15_2).f0.f6), .int .i64 ((rd_T63 t572 x15_2).f1.f0.f0), .int .i64 ((rd_T63 t572 x15_2).f1.f0.f1), .int .i64 ((rd_T63 t572 x15_2).f1.f1), u601013]) ?_ 13 _ rfl; (with_reducible repeat (first | refine blk_drewN ?_ _ | refine blk_drew ?_ | refine blk_alloc ?_ _)); exact BK600.out⟩, ⟨bl_⟩⟩
           ·rw [if_neg c77] at H
            have c77b0 : decide (x17_3 < (((rd_T63 t572 x15_2).f2).length : Int)) = false := decide_eq_false c77
            clear c77
            obtain ⟨c87b0, H⟩ := ifd_ H
            obtain ⟨y608, hy608⟩ : ∃ y_ : List Int, y_ = (x13_2.set (x15_2 : Int).toNat (x14_2.length : Int)) := ⟨_, rfl⟩
            replace H : (if x14_2.length < 1099511627776 then (spec_ProofOf.l2 k3 t572 t575 x10_1 y608 (x14_2 ++ [(⟨(⟨((rd_T63 t572 x15_2).f0.f0), (⟨((rd_T63 t572 x15_2).f0.f1.f0), ((rd_T63 t572 x15_2).f0.f1.f1)⟩ : S27), ((rd_T63 t572 x15_2).f0.f2), (⟨((rd_T63 t572 x15_2).f0.f3.f0), ((rd_T63 t572 x15_2).f0.f3.f1)⟩ : S27), (⟨((rd_T63 t572 x15_2).f0.f4.f0), ((rd_T63 t572 x15_2).f0.f4.f1)⟩ : S27), ((rd_T63 t572 x15_2).f0.f5), ((rd_T63 t572 x15_2).f0.f6)⟩ : S46), (⟨(⟨((rd_T63 t572 x15_2).f1.f0.f0), ((rd_T63 t572 x15_2).f1.f0.f1)⟩ : S27), ((rd_T63 t572 x15_2).f1.f1)⟩ : S29), x601013_3⟩ : S63)]) (wrap64 (x15_2 + 1))) else (none)) = some (r1, r2) := rh_ hy608 H
            have Ny608 := aa_ hy608
            clear hy608
            obtain ⟨c89, H⟩ := ifn_ H
            have LMc89 := aa_ c89
            clear c89
            obtain ⟨y609, hy609⟩ : ∃ y_ : List (S63), y_ = (x14_2 ++ [(⟨(⟨((rd_T63 t572 x15_2).f0.f0), (⟨((rd_T63 t572 x15_2).f0.f1.f0), ((rd_T63 t572 x15_2).f0.f1.f1)⟩ : S27), ((rd_T63 t572 x15_2).f0.f2), (⟨((rd_T63 t572 x15_2).f0.f3.f0), ((rd_T63 t572 x15_2).f0.f3.f1)⟩ : S27), (⟨((rd_T63 t572 x15_2).f0.f4.f0), ((rd_T63 t572 x15_2).f0.f4.f1)⟩ : S27), ((rd_T63 t572 x15_2).f0.f5), ((rd_T63 t572 x15_2).f0.f6)⟩ : S46), (⟨(⟨((rd_T63 t572 x15_2).f1.f0.f0), ((rd_T63 t572 x15_2).f1.f0.f1)⟩ : S27), ((rd_T63 t572 x15_2).f1.f1)⟩ : S29), x601013_3⟩ : S63)]) := ⟨_, rfl⟩
            replace H : (spec_ProofOf.l2 k3 t572 t575 x10_1 y608 y609 (wrap64 (x15_2 + 1))) = some (r1, r2) := rh_ hy609 H
            have Ny609 := aa_ hy609
            clear hy609
            have H' := aa_ H
            clear H
            have p601 : 0 ≤ (x15_2 : Int) := od_
            have q601 : x15_2 < (t572.length : Int) := od_
            obtain ⟨ad601, A601_13, c601_13, e601, hx601_0, hx601_1, hx601_2, hx601_3, hx601_4, hx601_5, hx601_6, hx601_7, hx601_8, hx601_9, hx601_10, hx601_11, hx601_12, hx601_13, hl601_13, hi601_13⟩ := at_T63 (Kd.S_reads' HO_8.out).2.2 x15_2 p601 q601
            obtain rfl : ad595 = ad601 := (by injection e601)
            obtain ⟨ce601, hce601, hMe601, hcc601⟩ := Kd.S_get HO_8.out z63 x15_2 p601 (by first | exact q601 | exact od_ | (have e_ := (Kd.S_reads' HO_8.out).1; omega))
            obtain ⟨ve601_13, rfl, ge601_13⟩ := k63_openM hMe601
            have hv601_13 := hcc601 13 _ rfl
            rw [add_field _ _ 13 (by omega)] at hv601_13
            replace hv601_13 := Option.some.inj (hv601_13.symm.trans hx601_13)
            rw [hv601_13] at ge601_13
            have HL601_13 := aa_ (show Kd.R (Kd.int .i64) 3 _ _ _ _ ((rd_T63 t572 x15_2).f2) from ge601_13)
            clear hv601_13 ge601_13
            clear hcc601 hce601
            have HR601_13 := aa_ hi601_13
            have HC601_13 := aa_ hl601_13
            clear hi601_13 hl601_13
            replace p601 := eq_true p601
            replace q601 := eq_true q601
            obtain ⟨Ao90, co90, eo90⟩ := Kd.S_slice HO_14.out
            subst eo90
            have p88 : 0 ≤ (x15_2 : Int) := od_
            have q88 : (x15_2 : Int) < ((x13_2.length : Int) : Int) := od_
            obtain ⟨go88, co88, eo88, gb88, gl88, cl88, HG88⟩ := Kd.R_form HO_13.out (by omega)
            (first | cases eo88 | (injection eo88 with ea_ en_ ec_; (first | subst ea_ | (injection ea_ with ea_; subst ea_)); subst ec_; clear en_))
            have GB88 := aa_ gb88
            have GG88 := aa_ HG88
            clear gb88 gl88 HG88
            obtain ⟨hx88_0, hf88_0⟩ := Kd.R_celln 0 HO_13.out (x15_2 : Int) p88 q88
            replace p88 := eq_true p88
            replace q88 := eq_true q88
            have HP91 := Kd.R_putg HO_13.out (x15_2 : Int) (x14_2.length : Int)
            go_wp2_with (first | ((with_reducible refine gate_store (t := 3) (p := 121) rfl ?_); refine store_event (t := 3) (p := 121) (v := ?vo_w92) (w1 := (wr.setCell ⟨go88, (x15_2 : Int).toNat, none⟩ (.int .i64 (x14_2.length : Int)))) ?hg ?ho ?hn ?hr ?_; (case ho => rfl); (case hg => rfl); (case hn => rfl); (case hr => first | (go_simp; done) | (go_simp; rfl)); intro w92 hw; have hg : wr.grownBy w92 (some go88) := (by rw [hw]; exact HP91.2); have hp_ : Kd.R (Kd.int .i64) 3 w92 w.heap.size (fun k_ => some k_ ≠ (u601013 : Value).ownBlock) (.slice (some ⟨go88, 0, none⟩) x13_2.length co88) y608 := (by rw [hw, Ny608.out]; exact HP91.1); clear HP91; replace HO_8 := aa_ (Kd.S_after (v := (.slice (some ⟨go88, 0, none⟩) x13_2.length co88)) (v1 := (.slice (some ⟨go88, 0, none⟩) x13_2.length co88)) (ok := (fun k_ => some k_ ≠ (.slice Ao90 x14_2.length co90 : Value).ownBlock ∧ some k_ ≠ (u601013 : Value).ownBlock ∧ k_ ≠ gb600)) (by (with_reducible repeat (first | apply Kd.S_alloc | apply Kd.S_drewN | apply Kd.S_drew)); exact Kd.S_mono HO_8.out (fun _ hk => ⟨⟨hk.2.1, ⟨hk.2.2.1, hk.2.2.2⟩⟩, hk.1⟩)) hg (.inl rfl)); replace HO_10 := aa_ (Kd.R_over' (v := (.slice (some ⟨go88, 0, none⟩) x13_2.length co88)) (rr_ HO_10) (Kd.R_typed HO_13.out) (by decide) hg); replace HO_14 := aa_ (Kd.S_after (v := (.slice (some ⟨go88, 0, none⟩) x13_2.length co88)) (v1 := (.slice (some ⟨go88, 0, none⟩) x13_2.length co88)) (ok := (fun k_ => some k_ ≠ (.slice (some ad595) t572.length co23 : Value).ownBlock ∧ some k_ ≠ (u601013 : Value).ownBlock ∧ k_ ≠ gb600)) (by (with_reducible repeat (first | apply Kd.S_alloc | apply Kd.S_drewN | apply Kd.S_drew)); exact Kd.S_mono HO_14.out (fun _ hk => ⟨⟨hk.1, ⟨hk.2.2.1, hk.2.2.2⟩⟩, hk.2.1⟩)) hg (.inl rfl)); replace HO_601013 := aa_ (Kd.R_after (v := (.slice (some ⟨go88, 0, none⟩) x13_2.length co88)) (v1 := (.slice (some ⟨go88, 0, none⟩) x13_2.length co88)) (ok := (fun _ => True)) (by (with_reducible repeat (first | apply Kd.R_alloc | apply Kd.R_drewN | apply Kd.R_drew)); exact Kd.R_mono HO_601013.out (fun _ hk => ⟨trivial, hk⟩)) hg (.inl rfl)); replace BK571 := aa_ (blk_grown (g := gb571) (o := .cells #[.int .i64 a1_0, .int .i64 a1_1] 27 (0, 0)) (bk_ BK571) hg (Kd.R_ne HO_13.out BK571.out (by decide))); replace BK600 := aa_ (blk_grown (g := gb600) (o := .cells #[.int .i64 ((rd_T63 t572 x15_2).f0.f0), .int .i64 ((rd_T63 t572 x15_2).f0.f1.f0), .int .i64 ((rd_T63 t572 x15_2).f0.f1.f1), .int .i64 ((rd_T63 t572 x15_2).f0.f2), .int .i64 ((rd_T63 t572 x15_2).f0.f3.f0), .int .i64 ((rd_T63 t572 x15_2).f0.f3.f1), .int .i64 ((rd_T63 t572 x15_2).f0.f4.f0), .int .i64 ((rd_T63 t572 x15_2).f0.f4.f1), .int .i64 ((rd_T63 t572 x15_2).f0.f5), .int .i64 ((rd_T63 t572 x15_2).f0.f6), .int .i64 ((rd_T63 t572 x15_2).f1.f0.f0), .int .i64 ((rd_T63 t572 x15_2).f1.f0.f1), .int .i64 ((rd_T63 t572 x15_2).f1.f1), u601013] 63 (0, 0)) (bk_ BK600) hg (Kd.R_ne HO_13.out BK600.out (by decide))); replace HO_13 := aa_ (hp_); replace HL601_13 := aa_ (Kd.R_after (v := (.slice (some ⟨go88, 0, none⟩) x13_2.length co88)) (v1 := (.slice (some ⟨go88, 0, none⟩) x13_2.length co88)) (ok := (fun k_ => some k_ ≠ (.slice (some ad595) t572.length co23 : Value).ownBlock ∧ some k_ ≠ (.slice Ao90 x14_2.length co90 : Value).ownBlock ∧ some k_ ≠ (u601013 : Value).ownBlock ∧ k_ ≠ gb600)) (by (with_reducible repeat (first | apply Kd.R_alloc | apply Kd.R_drewN | apply Kd.R_drew)); exact Kd.R_mono HL601_13.out (fun _ hk => ⟨⟨hk.2, ⟨hk.1.2.1, ⟨hk.1.2.2.1, hk.1.2.2.2⟩⟩⟩, hk.1.1⟩)) hg (.inl rfl)); replace HB := aa_ ((by rw [hw]; exact below_set (HB.out) GB88.out : Below w.heap.size w w92)); clear hg hw hp_; have hnb93 := NB600_571.out; have hnc93 := NB571_600.out; obtain ⟨hcz94, hfz94⟩ := bcf_ BK600; obtain ⟨Ao96, co96, eo96⟩ := Kd.R_slice HO_601013.out; subst eo96) | ((with_reducible refine gate_builtin (b := .append) (xs := #[.tmp 122, .tmp 124]) rfl ?_); at_builtin; refine Kd.S_append k63 (w0 := w) w.heap.size rfl (.tmp 122) (.tmp 124) 41 63 (.agg #[(.int .i64 0), (.int .i64 0), (.int .i64 0), (.int .i64 0), (.int .i64 0), (.int .i64 0), (.int .i64 0), (.int .i64 0), (.int .i64 0), (.int .i64 0), (.int .i64 0), (.int .i64 0), (.int .i64 0), (.slice none 0 0)]) 128 rfl Try.underlying41 info63 rfl (by decide) (by omega) (.slice Ao90 x14_2.length co90) x14_2 (⟨(⟨((rd_T63 t572 x15_2).f0.f0), (⟨((rd_T63 t572 x15_2).f0.f1.f0), ((rd_T63 t572 x15_2).f0.f1.f1)⟩ : S27), ((rd_T63 t572 x15_2).f0.f2), (⟨((rd_T63 t572 x15_2).f0.f3.f0), ((rd_T63 t572 x15_2).f0.f3.f1)⟩ : S27), (⟨((rd_T63 t572 x15_2).f0.f4.f0), ((rd_T63 t572 x15_2).f0.f4.f1)⟩ : S27), ((rd_T63 t572 x15_2).f0.f5), ((rd_T63 t572 x15_2).f0.f6)⟩ : S46), (⟨(⟨((rd_T63 t572 x15_2).f1.f0.f0), ((rd_T63 t572 x15_2).f1.f0.f1)⟩ : S27), ((rd_T63 t572 x15_2).f1.f1)⟩ : S29), x601013_3⟩ : S63) [.int .i64 ((rd_T63 t572 x15_2).f0.f0), .int .i64 ((rd_T63 t572 x15_2).f0.f1.f0), .int .i64 ((rd_T63 t572 x15_2).f0.f1.f1), .int .i64 ((rd_T63 t572 x15_2).f0.f2), .int .i64 ((rd_T63 t572 x15_2).f0.f3.f0), .int .i64 ((rd_T63 t572 x15_2).f0.f3.f1), .int .i64 ((rd_T63 t572 x15_2).f0.f4.f0), .int .i64 ((rd_T63 t572 x15_2).f0.f4.f1), .int .i64 ((rd_T63 t572 x15_2).f0.f5), .int .i64 ((rd_T63 t572 x15_2).f0.f6), .int .i64 ((rd_T63 t572 x15_2).f1.f0.f0), .int .i64 ((rd_T63 t572 x15_2).f1.f0.f1), .int .i64 ((rd_T63 t572 x15_2).f1.f1), .slice Ao96 x601013_3.length co96] (fun k_ => some k_ ≠ (.slice (some ad595) t572.length co23 : Value).ownBlock ∧ some k_ ≠ (.slice (some ⟨go88, 0, none⟩) x13_2.length co88 : Value).ownBlock ∧ k_ ≠ gb600) (fun k_ => some k_ = (.slice Ao96 x601013_3.length co96 : Value).ownBlock) rfl rfl ?aP (fun k_ hk_ => ((Kd.R_mono (ok' := fun k_ => ((fun k_ => some k_ ≠ (.slice (some ad595) t572.length co23 : Value).ownBlock ∧ some k_ ≠ (.slice (some ⟨go88, 0, none⟩) x13_2.length co88 : Value).ownBlock ∧ k_ ≠ gb600)) k_ ∧ some k_ ≠ (.slice Ao90 x14_2.length co90 : Value).ownBlock) (Kd.R_types (Kd.R_apart' (Kd.R_apart' (HO_601013.out) (Kd.S_typed HO_8.out) (by decide)) (Kd.S_typed HO_14.out) (by decide)) BK600.out (by decide)) (fun k_ hk => ⟨⟨hk.1.1.2, ⟨hk.1.1.1.2, hk.2⟩⟩, hk.1.2⟩))).1 k_ hk_.symm) ?aF ?aO ?aB ?aS ?aL ?_; (case aP => exact k63_mkM _ _ _ (⟨(⟨((rd_T63 t572 x15_2).f0.f0), (⟨((rd_T63 t572 x15_2).f0.f1.f0), ((rd_T63 t572 x15_2).f0.f1.f1)⟩ : S27), ((rd_T63 t572 x15_2).f0.f2), (⟨((rd_T63 t572 x15_2).f0.f3.f0), ((rd_T63 t572 x15_2).f0.f3.f1)⟩ : S27), (⟨((rd_T63 t572 x15_2).f0.f4.f0), ((rd_T63 t572 x15_2).f0.f4.f1)⟩ : S27), ((rd_T63 t572 x15_2).f0.f5), ((rd_T63 t572 x15_2).f0.f6)⟩ : S46), (⟨(⟨((rd_T63 t572 x15_2).f1.f0.f0), ((rd_T63 t572 x15_2).f1.f0.f1)⟩ : S27), ((rd_T63 t572 x15_2).f1.f1)⟩ : S29), x601013_3⟩ : S63) (Kd.R_mono (Kd.R_tight rfl (Kd.R_mono (ok' := fun k_ => ((fun k_ => some k_ ≠ (.slice (some ad595) t572.length co23 : Value).ownBlock ∧ some k_ ≠ (.slice (some ⟨go88, 0, none⟩) x13_2.length co88 : Value).ownBlock ∧ k_ ≠ gb600)) k_ ∧ some k_ ≠ (.slice Ao90 x14_2.length co90 : Value).ownBlock) (Kd.R_types (Kd.R_apart' (Kd.R_apart' (HO_601013.out) (Kd.S_typed HO_8.out) (by decide)) (Kd.S_typed HO_14.out) (by decide)) BK600.out (by decide)) (fun k_ hk => ⟨⟨hk.1.1.2, ⟨hk.1.1.1.2, hk.2⟩⟩, hk.1.2⟩))) (fun _ h_ => h_))); (case aB => exact bl_); (case aF => exact (fun k_ hk => ⟨Kd.fresh' (Kd.S_lt (rs_ HO_8)) k_ hk, Kd.fresh' (Kd.R_lt (rr_ HO_13)) k_ hk, Kd.freshB (g := gb600) (o := .cells #[.int .i64 ((rd_T63 t572 x15_2).f0.f0), .int .i64 ((rd_T63 t572 x15_2).f0.f1.f0), .int .i64 ((rd_T63 t572 x15_2).f0.f1.f1), .int .i64 ((rd_T63 t572 x15_2).f0.f2), .int .i64 ((rd_T63 t572 x15_2).f0.f3.f0), .int .i64 ((rd_T63 t572 x15_2).f0.f3.f1), .int .i64 ((rd_T63 t572 x15_2).f0.f4.f0), .int .i64 ((rd_T63 t572 x15_2).f0.f4.f1), .int .i64 ((rd_T63 t572 x15_2).f0.f5), .int .i64 ((rd_T63 t572 x15_2).f0.f6), .int .i64 ((rd_T63 t572 x15_2).f1.f0.f0), .int .i64 ((rd_T63 t572 x15_2).f1.f0.f1), .int .i64 ((rd_T63 t572 x15_2).f1.f1), .slice Ao96 x601013_3.length co96] 63 (0, 0)) (bk_ BK600) k_ hk⟩)); (case aO => exact (by (with_reducible repeat (first | apply Kd.S_alloc | apply Kd.S_drewN | apply Kd.S_drew)); exact Kd.S_mono HO_14.out (fun k_ hk => ⟨⟨hk.1.1, ⟨hk.2, hk.1.2.2⟩⟩, fun e_ => hk.1.2.1 e_⟩))); (case aS => exact bls_); (case aL => have := LMc89.out; omega); intro v610 w95 ho hb hg hat; rw [← Ny609.out] at ho; replace HO_8 := aa_ (Kd.S_after (ok := (fun k_ => some k_ ≠ (.slice (some ⟨go88, 0, none⟩) x13_2.length co88 : Value).ownBlock ∧ some k_ ≠ (.slice Ao96 x601013_3.length co96 : Value).ownBlock ∧ k_ ≠ gb600)) (by (with_reducible repeat (first | apply Kd.S_alloc | apply Kd.S_drewN | apply Kd.S_drew)); exact Kd.S_mono HO_8.out (fun _ hk => ⟨⟨hk.2, ⟨hk.1.2.1, hk.1.2.2⟩⟩, hk.1.1⟩)) hg hat); replace HO_10 := aa_ (Kd.R_over' (rr_ HO_10) (Kd.S_typed (rs_ HO_14)) (by decide) hg); replace HO_13 := aa_ (Kd.R_over' (rr_ HO_13) (Kd.S_typed (rs_ HO_14)) (by decide) hg); replace BK571 := aa_ (blk_grown (g := gb571) (o := .cells #[.int .i64 a1_0, .int .i64 a1_1] 27 (0, 0)) (bk_ BK571) hg (Kd.S_ne HO_14.out BK571.out (by decide))); replace BK600 := aa_ (blk_grown (g := gb600) (o := .cells #[.int .i64 ((rd_T63 t572 x15_2).f0.f0), .int .i64 ((rd_T63 t572 x15_2).f0.f1.f0), .int .i64 ((rd_T63 t572 x15_2).f0.f1.f1), .int .i64 ((rd_T63 t572 x15_2).f0.f2), .int .i64 ((rd_T63 t572 x15_2).f0.f3.f0), .int .i64 ((rd_T63 t572 x15_2).f0.f3.f1), .int .i64 ((rd_T63 t572 x15_2).f0.f4.f0), .int .i64 ((rd_T63 t572 x15_2).f0.f4.f1), .int .i64 ((rd_T63 t572 x15_2).f0.f5), .int .i64 ((rd_T63 t572 x15_2).f0.f6), .int .i64 ((rd_T63 t572 x15_2).f1.f0.f0), .int .i64 ((rd_T63 t572 x15_2).f1.f0.f1), .int .i64 ((rd_T63 t572 x15_2).f1.f1), .slice Ao96 x601013_3.length co96] 63 (0, 0)) (bk_ BK600) hg (Kd.S_away HO_14.out (fun _ hk => hk.1.2.2))); replace HL601_13 := aa_ (Kd.R_after (ok := (fun k_ => some k_ ≠ (.slice (some ad595) t572.length co23 : Value).ownBlock ∧ some k_ ≠ (.slice (some ⟨go88, 0, none⟩) x13_2.length co88 : Value).ownBlock ∧ some k_ ≠ (.slice Ao96 x601013_3.length co96 : Value).ownBlock ∧ k_ ≠ gb600)) (by (with_reducible repeat (first | apply Kd.R_alloc | apply Kd.R_drewN | apply Kd.R_drew)); exact Kd.R_mono HL601_13.out (fun _ hk => ⟨⟨hk.1.1, ⟨hk.2, ⟨hk.1.2.2.1, hk.1.2.2.2⟩⟩⟩, hk.1.2.1⟩)) hg hat); replace HB := aa_ (hb); have HO611 := aa_ (ho); clear HO_14; clear HO_601013; clear ho hb hg hat))
            go_roundg k3
            case measure => have := HK1.out; have := HK2.out; have := HK3.out; omega
            case rel => exact ⟨(y608), (y609), (wrap64 (x15_2 + 1)), rf_, H', ⟨by have := HK1.out; have := HK2.out; have := HK3.out; omega⟩, ⟨by (try simp only [hl10_1]); (with_reducible repeat (first | apply Kd.S_alloc | apply Kd.S_drewN | apply Kd.S_drew)); exact Kd.S_mono HO_8.out (fun _ hk => ⟨hk.1.1, hk.2⟩)⟩, ⟨by (try simp only [hl10_1]); (with_reducible repeat (first | apply Kd.R_alloc | apply Kd.R_drewN | apply Kd.R_drew)); exact HO_10.out⟩, ⟨by (try simp only [hl10_1]); (with_reducible repeat (first | apply Kd.R_alloc | apply Kd.R_drewN | apply Kd.R_drew)); exact Kd.R_mono HO_13.out (fun _ hk => trivial)⟩, ⟨by (try simp only [hl10_1]); (with_reducible repeat (first | apply Kd.S_alloc | apply Kd.S_drewN | apply Kd.S_drew)); exact Kd.S_mono HO611.out (fun _ hk => ⟨hk.1, hk.2.1⟩)⟩, ⟨by (try simp only [hl10_1]); (with_reducible repeat (first | refine blk_drewN ?_ _ | refine blk_drew ?_ | refine blk_alloc ?_ _)); exact BK571.out⟩, ⟨bl_⟩⟩
        ·replace c52 := Bool.eq_false_iff.mpr c52
         subst c52
         replace H := ite_f_ H
         have H' := aa_ H
         clear H
         have p594 : 0 ≤ (x15_2 : Int) := od_
         have q594 : x15_2 < (x10_1.length : Int) := od_
         obtain ⟨ad594, e594, hx594_0⟩ := Kd.at_bool (Kd.R_reads' HO_10.out).2.2 x15_2 p594 q594
         (try rw [← Nbq51.out] at hx594_0)
         obtain rfl : (⟨go19, 0, none⟩ : Addr) = ad594 := (by injection e594)
         (first | simp only [add_plain] at hx594_0 | simp only [add_at] at hx594_0 | simp only [Addr.add, Nat.zero_add] at hx594_0 | skip)
         replace p594 := eq_true p594
         replace q594 := eq_true q594
         go_wp2
         go_roundg k2
         case measure => have := HK1.out; have := HK2.out; omega
         case rel => exact ⟨(x13_2), (x14_2), (wrap64 (x15_2 + 1)), rf_, H', ⟨by have := HK1.out; have := HK2.out; omega⟩, ⟨by (try simp only [hl10_1]); (with_reducible repeat (first | apply Kd.S_alloc | apply Kd.S_drewN | apply Kd.S_drew)); exact HO_8.out⟩, ⟨by (try simp only [hl10_1]); (with_reducible repeat (first | apply Kd.R_alloc | apply Kd.R_drewN | apply Kd.R_drew)); exact HO_10.out⟩, ⟨by (try simp only [hl10_1]); (with_reducible repeat (first | apply Kd.R_alloc | apply Kd.R_drewN | apply Kd.R_drew)); exact HO_13.out⟩, ⟨by (try simp only [hl10_1]); (with_reducible repeat (first | apply Kd.S_alloc | apply Kd.S_drewN | apply Kd.S_drew)); exact HO_14.out⟩, ⟨by (try simp only [hl10_1]); (with_reducible repeat (first | refine blk_drewN ?_ _ | refine blk_drew ?_ | refine blk_alloc ?_ _)); exact BK571.out⟩, ⟨bl_⟩⟩
       ·rw [if_neg c48] at H
        have c48b0 : decide (x15_2 ≤ t575) = false := decide_eq_false c48
        clear c48
        simp only [Option.some.injEq, Prod.mk.injEq] at H
        obtain ⟨rfl, rfl⟩ := H
        go_wp2
        go_ret2
        exact ⟨_, by first | rfl | (simp [errW_none, errW_some] <;> rfl) | (simp only [← hji14, ← hji14]; first | rfl | (simp [errW_none, errW_some] <;> rfl)) | (simp [*, errW_none, errW_some] <;> rfl), by (with_reducible repeat (first | apply Kd.S_alloc | apply Kd.S_drewN | apply Kd.S_drew)); exact Kd.S_mono HO_14.out (fun _ hk => trivial), bl_⟩
end Go.Proofs.Ytcbhmcpdnokbiaa.PA
