import Derived.Test.YtljhfomkakhflaaKEPAx25
-- printed by wip/tools
namespace Go.Proofs.Ytljhfomkakhflaa.PA
open Go.RowKit Go.Proofs.YtljhfomkakhflaaW.PrintWords Go.Proofs.YtljhfomkakhflaaW.PrintLast Go.Proofs.YtljhfomkakhflaaW.PrintMore
attribute [local go_sem] max2_int min2_int max_two min_two max_three min_three max_four min_four
set_option linter.unusedVariables false
set_option linter.unusedSimpArgs false
attribute [local go_sem high] eqA26 eqA28
mutual
def laws_FnLeastEach.l0 : Nat → List (S35) → List (S47) → List (S28) → Int → Option (Bool)
 | 0, _, _, _, _ => none
 | k + 1, x3, x4, x5, x6 => if x6 < (x4.length : Int) then (if 0 ≤ x6 then ((impl_LeastProof.f k x3 ((rd_T47 x4 x6).f0.f0.f0) ((rd_T47 x4 x6).f0.f0.f1) ((rd_T47 x4 x6).f0.f1)).bind fun bt837 => (if bt837.2 = true then (if x6 < (x5.length : Int) then (if ((!(((rd_T47 x4 x6).f0.f0.f0) == ((rd_T28 x5 x6).f0.f0)) || (!(((rd_T47 x4 x6).f0.f0.f1) == ((rd_T28 x5 x6).f0.f1)))) || (!(((rd_T47 x4 x6).f0.f1) == ((rd_T28 x5 x6).f1)))) = true then (laws_FnLeastEach.j1 k x3 x4 x5 x6 true ((rd_T47 x4 x6).f0.f0.f0) ((rd_T47 x4 x6).f0.f0.f1) ((rd_T47 x4 x6).f0.f1)) else ((spec_TreeSize.f k bt837.1 (wrap64 ((bt837.1.length : Int) - 1))).bind fun t842 => (if t842 = ((rd_T47 x4 x6).f1) then (laws_FnLeastEach.j1 k x3 x4 x5 x6 (decide (((rd_T47 x4 x6).f1) < (bt837.1.length : Int))) ((rd_T47 x4 x6).f0.f0.f0) ((rd_T47 x4 x6).f0.f0.f1) ((rd_T47 x4 x6).f0.f1)) else (laws_FnLeastEach.j1 k x3 x4 x5 x6 true ((rd_T47 x4 x6).f0.f0.f0) ((rd_T47 x4 x6).f0.f0.f1) ((rd_T47 x4 x6).f0.f1))))) else (none)) else (laws_FnLeastEach.j1 k x3 x4 x5 x6 true ((rd_T47 x4 x6).f0.f0.f0) ((rd_T47 x4 x6).f0.f0.f1) ((rd_T47 x4 x6).f0.f1)))) else (none)) else (some ((x4.length : Int) == (x5.length : Int)))
def laws_FnLeastEach.j1 : Nat → List (S35) → List (S47) → List (S28) → Int → Bool → Int → Int → Int → Option (Bool)
 | 0, _, _, _, _, _, _, _, _ => none
 | k + 1, x3, x4, x5, x6, x72, x837000, x837001, x837002 => if x72 = true then (some false) else (laws_FnLeastEach.l1 k x3 x4 x5 x6 false 0 x837000 x837001 x837002)
def laws_FnLeastEach.l1 : Nat → List (S35) → List (S47) → List (S28) → Int → Bool → Int → Int → Int → Int → Option (Bool)
 | 0, _, _, _, _, _, _, _, _, _ => none
 | k + 1, x3, x4, x5, x6, x10, x11, x837000, x837001, x837002 => if x11 < (x3.length : Int) then (if x10 = true then (laws_FnLeastEach.l1 k x3 x4 x5 x6 true (wrap64 (x11 + 1)) x837000 x837001 x837002) else (if 0 ≤ x11 then (if ((rd_T35 x3 x11).f0) = 1 then (if (((rd_T35 x3 x11).f1.f0) == x837000 && (((rd_T35 x3 x11).f1.f1) == x837001)) = true then (laws_FnLeastEach.l1 k x3 x4 x5 x6 (((rd_T35 x3 x11).f2) == x837002) (wrap64 (x11 + 1)) x837000 x837001 x837002) else (laws_FnLeastEach.l1 k x3 x4 x5 x6 false (wrap64 (x11 + 1)) x837000 x837001 x837002)) else (laws_FnLeastEach.l1 k x3 x4 x5 x6 false (wrap64 (x11 + 1)) x837000 x837001 x837002)) else (none))) else (if 0 ≤ x6 then (if x6 < (x4.length : Int) then (if (x10 != (((rd_T47 x4 x6).f1) == 1)) = true then (some false) else (laws_FnLeastEach.l0 k x3 x4 x5 (wrap64 (x6 + 1)))) else (none)) else (none))
end
def laws_FnLeastEach.f (k : Nat) (l0 : List Int) : Option (Bool) := (laws_big.f l0).bind fun t825 => (if t825 = true then (some true) else ((spec_DrawWords.f k l0).bind fun t826 => ((impl_CostsOf.f k t826).bind fun t829 => ((spec_FactsOf.f k t826).bind fun t832 => (laws_FnLeastEach.l0 k t826 t829 t832 0)))))
def laws_FnLeastEach.T11 : Bool × List (List Nat × List Nat) := (true, [([], []), ([0], [0]), ([1], [1]), ([2], [2]), ([2], [2]), ([2], [2]), ([4, 5, 2], [2, 4, 5]), ([6, 2], [2, 6]), ([3, 7, 2], [2, 3, 7]), ([2, 8], [2, 8]), ([9, 2], [9]), ([10], [10]), ([10], [10]), ([12, 10], [10, 12]), ([13, 10], [10, 13]), ([11, 14, 10, 10], [10, 11, 14]), ([10], [10]), ([10], [10]), ([16, 17, 10], [10, 16, 17]), ([18, 10], [10, 18]), ([19, 10], [10, 19]), ([15, 20, 10], [10, 15, 20]), ([10, 21], [10, 21]), ([22, 15], [22]), ([23], [23]), ([23], [23]), ([24, 25, 23], [23, 24, 25]), ([26, 23], [23, 26]), ([27, 23], [23, 27]), ([23], [23]), ([29, 23], [23, 29]), ([28, 30, 23], [23, 28, 30]), ([23, 31], [23, 31])])
def laws_FnLeastEach.B11 : List Nat := [0, 1, 3, 7, 7, 7, 55, 119, 255, 511, 1023, 2047, 2047, 6143, 14335, 32767, 2047, 2047, 198655, 460799, 985087, 2097151, 4194303, 8388607, 16777215, 16777215, 67108863, 134217727, 268435455, 16777215, 553648127, 2147483647, 4294967295]
theorem laws_FnLeastEach.tab11 : rtab .any (opsOf Try.f4 11) = laws_FnLeastEach.T11 := by kernel_rfl
theorem laws_FnLeastEach.bits11 : waitsOk laws_FnLeastEach.T11.2 laws_FnLeastEach.B11 = true := by kernel_rfl
def laws_FnLeastEach.T17 : Bool × List (List Nat × List Nat) := (true, [([], []), ([0], [0]), ([1], [1]), ([1], [1]), ([2, 3, 1], [1, 2, 3]), ([4, 1], [1, 4]), ([5, 1], [1, 5]), ([6, 1], [1, 6]), ([7, 1, 1], [1, 7]), ([8], [8]), ([8], [8]), ([9, 10, 8], [8, 9, 10]), ([11, 8], [8, 11]), ([12, 8], [8, 12]), ([8], [8]), ([14, 8], [8, 14]), ([13, 15, 8], [8, 13, 15]), ([8, 16, 1], [1, 8, 16]), ([17, 8, 1], [1, 17]), ([18], [18]), ([18], [18]), ([19, 20, 18], [18, 19, 20]), ([21, 18], [18, 21]), ([22, 18], [18, 22]), ([18], [18]), ([24, 18], [18, 24]), ([23, 25, 18], [18, 23, 25]), ([18, 26, 1], [1, 18, 26]), ([1, 27], [1, 27]), ([28, 18, 0, 1, 2, 3, 4, 5, 6, 7, 8, 9, 10, 11, 12, 13, 14, 15, 16, 17, 18, 19, 20, 21, 22, 23, 24, 25, 26, 27, 28], [0, 28])])
def laws_FnLeastEach.B17 : List Nat := [0, 1, 3, 3, 15, 31, 63, 127, 255, 511, 511, 2047, 4095, 8191, 511, 16895, 65535, 131071, 262143, 524287, 524287, 2097151, 4194303, 8388607, 524287, 17301503, 67108863, 134217727, 268435455, 536870911]
theorem laws_FnLeastEach.tab17 : rtab .any (opsOf Try.f4 17) = laws_FnLeastEach.T17 := by kernel_rfl
theorem laws_FnLeastEach.bits17 : waitsOk laws_FnLeastEach.T17.2 laws_FnLeastEach.B17 = true := by kernel_rfl
set_option maxHeartbeats 8000000 in
set_option maxRecDepth 100000 in
theorem laws_FnLeastEach.calls (k : Nat) (A0 : Option Addr) (c0 : Nat) (l0 : List Int) (r : Bool) (w : World) (hr0 : Kd.C (Kd.int .u8) w A0 l0.length l0) (hc0 : l0.length ≤ c0) (hr_ : r = true) (h : laws_FnLeastEach.f k l0 = some r) :
  Calls Try.prog 4 #[.slice A0 l0.length c0] w fun e w' => e = .returned (.bool r) ∧ Below w.heap.size w w' := by
 have hu28 := Try.underlying28
 have hu26 := Try.underlying26
 have HR0 := aa_ hr0
 have HC0 := aa_ hc0
 clear hr0 hc0
 have HB := aa_ (Below.refl w.heap.size w)
 have H : ((laws_big.f l0).bind fun t825 => (if t825 = true then (some true) else ((spec_DrawWords.f k l0).bind fun t826 => ((impl_CostsOf.f k t826).bind fun t829 => ((spec_FactsOf.f k t826).bind fun t832 => (laws_FnLeastEach.l0 k t826 t829 t832 0)))))) = some r := h
 clear h
 obtain ⟨t825, A2, H⟩ := bindE_ H
 have HC3 := aa_ H
 clear H
 go_enter Try.func4, Try.ntmps4
 go_upto_if 13 with (first | ((with_reducible refine gC_ 5 rfl ?_); refine goesC_ (some 13) Try.func5 #[.slice A0 l0.length c0] ?_; (with_reducible refine (laws_big.calls _ _ l0 t825 _ ?side1 ?side2 A2.out).mono ?_); (case side1 => exact cc_ HR0); (case side2 => exact HC0.out); rintro e w' ⟨rfl, ⟨nd, rfl⟩⟩; refine ⟨_, rfl, ?_⟩))
 (try simp only [Act.put, sb_, sz_, ss_])
 have H := HC3.out
 clear HC3
 by_cases c4 : t825 = true
 ·subst c4
  replace H := ite_t_ H
  obtain rfl := Option.some.inj H
  go_wp2
  go_ret
  exact ⟨eq_, bl_⟩
 ·replace c4 := Bool.eq_false_iff.mpr c4
  subst c4
  replace H := ite_f_ H
  obtain ⟨t826, A5, H⟩ := bindE_ H
  obtain ⟨t829, A6, H⟩ := bindE_ H
  obtain ⟨t832, A7, H⟩ := bindE_ H
  have H' := aa_ H
  clear H
  go_wp2_with (first | ((with_reducible refine gC_ 15 rfl ?_); refine goesC_ (some 15) Try.func15 #[.slice A0 l0.length c0] ?_; (with_reducible refine (spec_DrawWords.calls k _ _ l0 t826 _ ?side1 ?side2 A5.out).mono ?_); (case side1 => repeat (first | exact (Kd.C_below HR0.out HB.out) | (with_reducible refine Kd.C_alloc ?_ _) | (with_reducible refine Kd.C_drewN ?_ _) | (with_reducible refine Kd.C_drew ?_))); (case side2 => exact HC0.out); rintro e w8 ⟨v827, rfl, ho0, hb⟩; refine ⟨_, rfl, ?_⟩; have HO828 := aa_ (Kd.R_lower ho0 bls_); replace HB := hbs_ hb; (try clear hb ho0); obtain ⟨Ao9, co9, eo9⟩ := Kd.R_slice HO828.out; subst eo9) | ((with_reducible refine gC_ 11 rfl ?_); refine goesC_ (some 17) Try.func11 #[.slice Ao9 t826.length co9] ?_; (with_reducible refine (impl_CostsOf.calls k _ _ t826 t829 _ ?side1 ?side2 A6.out).mono ?_); (case side1 => repeat (first | exact (Kd.R_reads' HO828.out).2.2 | (with_reducible refine Kd.C_alloc ?_ _) | (with_reducible refine Kd.C_drewN ?_ _) | (with_reducible refine Kd.C_drew ?_))); (case side2 => exact (Kd.R_reads' HO828.out).2.1); rintro e w10 ⟨v830, rfl, ho0, hb⟩; refine ⟨_, rfl, ?_⟩; replace HO828 := hob_ HO828 hb; have HO831 := aa_ (Kd.R_lower ho0 bls_); replace HB := hbs_ hb; (try clear hb ho0)) | ((with_reducible refine gC_ 16 rfl ?_); refine goesC_ (some 19) Try.func16 #[.slice Ao9 t826.length co9] ?_; (with_reducible refine (spec_FactsOf.calls k _ _ t826 t832 _ ?side1 ?side2 A7.out).mono ?_); (case side1 => repeat (first | exact (Kd.R_reads' HO828.out).2.2 | (with_reducible refine Kd.C_alloc ?_ _) | (with_reducible refine Kd.C_drewN ?_ _) | (with_reducible refine Kd.C_drew ?_))); (case side2 => exact (Kd.R_reads' HO828.out).2.1); rintro e w11 ⟨v833, rfl, ho0, hb⟩; refine ⟨_, rfl, ?_⟩; replace HO828 := hob_ HO828 hb; replace HO831 := hob_ HO831 hb; have HO834 := aa_ (Kd.R_lower ho0 bls_); replace HB := hbs_ hb; (try clear hb ho0)))
  go_loopg [6] k (fun kq v6 w' => ∃ (x6_1 : Int), v6 = .int .i64 x6_1 ∧ Aside0 (laws_FnLeastEach.l0 kq t826 t829 t832 x6_1 = some r) ∧ Aside0 (kq ≤ k) ∧ Aside0 (Kd.R k35 35 w' w.heap.size (fun _ => True) (.slice Ao9 t826.length co9) t826) ∧ Aside0 (Kd.R k47 47 w' w.heap.size (fun _ => True) v830 t829) ∧ Aside0 (Kd.R k28 28 w' w.heap.size (fun _ => True) v833 t832) ∧ Aside0 (Below w.heap.size w w'))
  case atStart => exact ⟨(0), rf_, H', ⟨Nat.le_refl _⟩, ⟨rr_ HO828⟩, ⟨rr_ HO831⟩, ⟨rr_ HO834⟩, ⟨bl_⟩⟩
  case round =>
   clear H'
   try clear p2
   obtain ⟨x6_1, rfl, HA, HK1, HO_3, HO_4, HO_5, HB⟩ := hrel
   cases gk with
   | zero => exact absurd HA.out (by simp [laws_FnLeastEach.l0])
   | succ k1 =>
    have H := HA.out
    clear HA
    simp only [laws_FnLeastEach.l0] at H
    by_cases c12 : x6_1 < (t829.length : Int)
    ·rw [if_pos c12] at H
     have c12b0 : decide (x6_1 < (t829.length : Int)) = true := decide_eq_true c12
     clear c12
     (first | rw [c12b0] | (simp only [i64_w, i32_w]; rw [c12b0]) | (have cz_ := c12b0; simp only [Int.ofNat_lt, Int.ofNat_le, gt_iff_lt, ge_iff_le] at cz_; rw [cz_]; clear cz_) | skip)
     obtain ⟨c13b0, H⟩ := ifd_ H
     obtain ⟨⟨t837, t840⟩, A14, H⟩ := bindE_ H
     (try dsimp only at H)
     have HC15 := aa_ H
     clear H
     obtain ⟨Ao16, co16, eo16⟩ := Kd.R_slice HO_4.out
     subst eo16
     have p835 : 0 ≤ (x6_1 : Int) := od_
     have q835 : x6_1 < (t829.length : Int) := od_
     obtain ⟨ad835, e835, hx835_0, hx835_1, hx835_2, hx835_3⟩ := at_T47 (Kd.R_reads' HO_4.out).2.2 x6_1 p835 q835
     cases e835
     replace p835 := eq_true p835
     replace q835 := eq_true q835
     go_upto_region 11 with (first | ((with_reducible refine gD_ 7 rfl ?_); (try (refine gate_guard (by rfl) ?_; dsimp only)); refine bx_ (N := 7) (cs := #[.int .i64 0, .int .i64 0, .int .i64 0]) (t := 28) ?_; intro gb836 hg w17 hbox hb; replace HO_3 := hob_ HO_3 hb; replace HO_4 := hob_ HO_4 hb; replace HO_5 := aa_ (Kd.R_below (Kd.R_elderB (rr_ HO_5) gb836 (Nat.le_of_eq hg.symm)) hb); have BK836 := aa_ (hbox); have GW836 := gs_ hg; have GE836 := gs_ hg; replace HB := hbs_ hb; clear hb hbox hg; obtain ⟨hcz18, hfz18⟩ := bcf_ BK836) | ((with_reducible refine gC_ 7 rfl ?_); refine goesC_ (some 37) Try.func7 #[.slice Ao9 t826.length co9, .agg #[.int .i64 ((rd_T47 t829 x6_1).f0.f0.f0), .int .i64 ((rd_T47 t829 x6_1).f0.f0.f1)], .int .i64 ((rd_T47 t829 x6_1).f0.f1)] ?_; (with_reducible refine (impl_LeastProof.calls k1 _ _ t826 ((rd_T47 t829 x6_1).f0.f0.f0) ((rd_T47 t829 x6_1).f0.f0.f1) ((rd_T47 t829 x6_1).f0.f1) t837 t840 _ ?side1 ?side2 A14.out).mono ?_); (case side1 => refine (Kd.R_reads' (e := 35) (base := w.heap.size) (ok := fun k_ => True) (n := t826.length) (c := co9) ?_).2.2; exact (by (with_reducible repeat (first | apply Kd.R_alloc | apply Kd.R_drewN | apply Kd.R_drew)); exact (Kd.R_mono (fr3_ (Kd.R_types HO_3.out BK836.out (by decide)) (fun _ hk => hk.2)) (fun _ h_ => h_.1)))); (case side2 => exact (Kd.R_reads' HO_3.out).2.1); rintro e w19 ⟨v838, rfl, ho0, hb⟩; refine ⟨_, rfl, ?_⟩; replace HO_3 := aa_ (Kd.R_below (by (with_reducible repeat (first | apply Kd.R_alloc | apply Kd.R_drewN | apply Kd.R_drew)); exact (Kd.R_mono (fr3_ (Kd.R_types HO_3.out BK836.out (by decide)) (fun _ hk => hk.2)) (fun _ h_ => h_.1))) hb); replace HO_4 := aa_ (Kd.R_below (by (with_reducible repeat (first | apply Kd.R_alloc | apply Kd.R_drewN | apply Kd.R_drew)); exact (Kd.R_mono (fr3_ (Kd.R_types HO_4.out BK836.out (by decide)) (fun _ hk => hk.2)) (fun _ h_ => h_.1))) hb); replace HO_5 := aa_ (Kd.R_below (by (with_reducible repeat (first | apply Kd.R_alloc | apply Kd.R_drewN | apply Kd.R_drew)); exact (Kd.R_mono (fr3_ (Kd.R_mono HO_5.out (fun k_ hk => (⟨hk, hk.2⟩ : _ ∧ k_ ≠ gb836))) (fun _ hk => hk.2)) (fun _ h_ => h_.1))) hb); have HO839 := aa_ (Kd.S_lower ho0 bls_); replace BK836 := aa_ (blk_below (g := gb836) (o := .cells #[.int .i64 ((rd_T47 t829 x6_1).f0.f0.f0), .int .i64 ((rd_T47 t829 x6_1).f0.f0.f1), .int .i64 ((rd_T47 t829 x6_1).f0.f1)] 28 (0, 0)) (bk_ BK836) hb); replace HB := hbs_ hb; (try clear hb ho0)))
     (try simp only [Act.put, sb_, sz_, ss_])
     go_cut [72] (fun v72 wc => ∃ (kq : Nat) (x72_14 : Bool), v72 = .bool x72_14 ∧ Aside0 (laws_FnLeastEach.j1 kq t826 t829 t832 x6_1 x72_14 ((rd_T47 t829 x6_1).f0.f0.f0) ((rd_T47 t829 x6_1).f0.f0.f1) ((rd_T47 t829 x6_1).f0.f1) = some r) ∧ Aside0 (kq ≤ k1) ∧ Aside0 (Kd.R k35 35 wc w.heap.size (fun _ => True) (.slice Ao9 t826.length co9) t826) ∧ Aside0 (Kd.R k47 47 wc w.heap.size (fun _ => True) (.slice (some ad835) t829.length co16) t829) ∧ Aside0 (Kd.R k28 28 wc w.heap.size (fun k_ => k_ ≠ gb836) v833 t832) ∧ Aside0 (wc.heap[gb836]? = some (.cells #[.int .i64 ((rd_T47 t829 x6_1).f0.f0.f0), .int .i64 ((rd_T47 t829 x6_1).f0.f0.f1), .int .i64 ((rd_T47 t829 x6_1).f0.f1)] 28 (0, 0))) ∧ Aside0 (Below w.heap.size w wc))
     case first =>
      have H := HC15.out
      clear HC15
      by_cases c20 : t840 = true
      ·subst c20
       replace H := ite_t_ H
       obtain ⟨c21b0, H⟩ := ifd_ H
       (first | rw [c21b0] | (simp only [i64_w, i32_w]; rw [c21b0]) | (have cz_ := c21b0; simp only [Int.ofNat_lt, Int.ofNat_le, gt_iff_lt, ge_iff_le] at cz_; rw [cz_]; clear cz_) | skip)
       by_cases c22 : ((!(((rd_T47 t829 x6_1).f0.f0.f0) == ((rd_T28 t832 x6_1).f0.f0)) || (!(((rd_T47 t829 x6_1).f0.f0.f1) == ((rd_T28 t832 x6_1).f0.f1)))) || (!(((rd_T47 t829 x6_1).f0.f1) == ((rd_T28 t832 x6_1).f1)))) = true
       ·rw [if_pos c22] at H
        have c22b0 : ((!(((rd_T47 t829 x6_1).f0.f0.f0) == ((rd_T28 t832 x6_1).f0.f0)) || (!(((rd_T47 t829 x6_1).f0.f0.f1) == ((rd_T28 t832 x6_1).f0.f1)))) || (!(((rd_T47 t829 x6_1).f0.f1) == ((rd_T28 t832 x6_1).f1)))) = true := c22
        clear c22
        have H' := aa_ H
        clear H
        try go_wp2
        replace HO_3 := aa_ (Kd.R_drew HO_3.out)
        replace HO_4 := aa_ (Kd.R_drew HO_4.out)
        replace HO_5 := aa_ (Kd.R_drew HO_5.out)
        replace HO839 := aa_ (Kd.S_drew HO839.out)
        replace BK836 := aa_ (blk_drew BK836.out)
        replace HB := aa_ (below_drew1 HB.out)
        obtain ⟨Ao24, co24, eo24⟩ := Kd.R_slice HO_5.out
        (first | subst eo24 | (injection eo24 with f1_ f2_ f3_; have f4_ := f1_.symm; have f5_ := f3_.symm; clear f1_ f2_ f3_; subst f4_; subst f5_))
        have p841 : 0 ≤ (x6_1 : Int) := od_
        have q841 : x6_1 < (t832.length : Int) := od_
        obtain ⟨ad841, e841, hx841_0, hx841_1, hx841_2⟩ := at_T28 (Kd.R_reads' HO_5.out).2.2 x6_1 p841 q841
        cases e841
        replace p841 := eq_true p841
        replace q841 := eq_true q841
        refine start_ (n := 33) (S := fun w' => w'.cell? ⟨gb836, 0, none⟩ = some (.int .i64 ((rd_T47 t829 x6_1).f0.f0.f0)) ∧ w'.cell? ⟨gb836, 1, none⟩ = some (.int .i64 ((rd_T47 t829 x6_1).f0.f0.f1)) ∧ w'.cell? ⟨gb836, 2, none⟩ = some (.int .i64 ((rd_T47 t829 x6_1).f0.f1)) ∧ w'.cell? (ad841.add ((x6_1).toNat * 3)) = some (.int .i64 ((rd_T28 t832 x6_1).f0.f0)) ∧ w'.cell? ⟨(ad841.add ((x6_1).toNat * 3)).block, (ad841.add ((x6_1).toNat * 3)).off + 1, none⟩ = some (.int .i64 ((rd_T28 t832 x6_1).f0.f1)) ∧ w'.cell? ⟨(ad841.add ((x6_1).toNat * 3)).block, (ad841.add ((x6_1).toNat * 3)).off + 2, none⟩ = some (.int .i64 ((rd_T28 t832 x6_1).f1))) (ds := []) (ba_ 33 0) (by kernel_rfl) rfl rfl ⟨(blk_cell BK836.out 0).trans rfl, (blk_cell BK836.out 1).trans rfl, (blk_cell BK836.out 2).trans rfl, hx841_0, hx841_1, hx841_2⟩ (fun hHeld => ?_); refine with_tabW laws_FnLeastEach.tab11 laws_FnLeastEach.bits11 (fun HT_ HW_ => ?_)
        generalize w19.drew = w23 at HO_3 HO_4 HO_5 HO839 BK836 HB hx841_0 hx841_1 hx841_2 hHeld ⊢
        refine pz_ 0 40 (ba_ 33 1) (ao_ HT_) ?_
        refine pz_ 1 41 (ba_ 33 3) (ao_ HT_) ?_
        refine pz_ 2 42 (ba_ 33 7) (ao_ HT_) ?_
        refine pz_ 4 44 (ba_ 33 23) (ao_ HT_) ?_
        refine pz_ 5 45 (ba_ 33 55) (ao_ HT_) ?_
        refine pz_ 6 46 (ba_ 33 119) (ao_ HT_) ?_
        refine tz_ 3 43 (ba_ 33 127) (take_ofW HT_.out HW_.out (by kernel_rfl)) hHeld ?_
        refine tz_ 7 47 (ba_ 33 255) (take_ofW HT_.out HW_.out (by kernel_rfl)) hHeld ?_
        refine pz_ 8 48 (ba_ 33 511) (ao_ HT_) ?_
        refine pz_ 9 49 (ba_ 33 1023) (ao_ HT_) ?_
        refine pz_ 10 50 (ba_ 33 2047) (ao_ HT_) ?_
        refine pv_ 11 51 (a' := ?_) (ba_ 33 4095) (ao_ HT_) ?_ ?_
        rotate_left
        ·simp only [Act.put, sb_, sz_, ss_, i64_w, i32_w]
         rfl
        refine pv_ 12 52 (a' := ?_) (ba_ 33 8191) (ao_ HT_) ?_ ?_
        rotate_left
        ·simp only [Act.put, sb_, sz_, ss_, i64_w, i32_w]
         rfl
        refine pv_ 13 53 (a' := ?_) (ba_ 33 16383) (ao_ HT_) ?_ ?_
        rotate_left
        ·simp only [Act.put, sb_, sz_, ss_, i64_w, i32_w]
         rfl
        refine pv_ 14 54 (a' := ?_) (ba_ 33 32767) (ao_ HT_) ?_ ?_
        rotate_left
        ·simp only [Act.put, sb_, sz_, ss_, i64_w, i32_w]
         rfl
        refine pv_ 15 55 (a' := ?_) (ba_ 33 65535) (ao_ HT_) ?_ ?_
        rotate_left
        ·simp only [Act.put, sb_, sz_, ss_, i64_w, i32_w]
         rfl
        refine pv_ 16 56 (a' := ?_) (ba_ 33 131071) (ao_ HT_) ?_ ?_
        rotate_left
        ·simp only [Act.put, sb_, sz_, ss_, i64_w, i32_w]
         rfl
        refine pv_ 17 57 (a' := ?_) (ba_ 33 262143) (ao_ HT_) ?_ ?_
        rotate_left
        ·simp only [Act.put, sb_, sz_, ss_, i64_w, i32_w]
         rfl
        refine pv_ 18 58 (a' := ?_) (ba_ 33 524287) (ao_ HT_) ?_ ?_
        rotate_left
        ·simp only [Act.put, sb_, sz_, ss_, i64_w, i32_w]
         rfl
        refine pv_ 19 59 (a' := ?_) (ba_ 33 1048575) (ao_ HT_) ?_ ?_
        rotate_left
        ·simp only [Act.put, sb_, sz_, ss_, i64_w, i32_w]
         rfl
        refine pv_ 20 60 (a' := ?_) (ba_ 33 2097151) (ao_ HT_) ?_ ?_
        rotate_left
        ·simp only [Act.put, sb_, sz_, ss_, i64_w, i32_w]
         rfl
        refine pv_ 21 61 (a' := ?_) (ba_ 33 4194303) (ao_ HT_) ?_ ?_
        rotate_left
        ·simp only [Act.put, sb_, sz_, ss_, i64_w, i32_w]
         rfl
        refine pz_ 22 62 (ba_ 33 8388607) (ao_ HT_) ?_
        refine pz_ 23 63 (ba_ 33 16777215) (ao_ HT_) ?_
        refine pv_ 24 64 (a' := ?_) (ba_ 33 33554431) (ao_ HT_) ?_ ?_
        rotate_left
        ·simp only [Act.put, sb_, sz_, ss_, i64_w, i32_w]
         rfl
        refine pv_ 25 65 (a' := ?_) (ba_ 33 67108863) (ao_ HT_) ?_ ?_
        rotate_left
        ·simp only [Act.put, sb_, sz_, ss_, i64_w, i32_w]
         rfl
        refine pv_ 26 66 (a' := ?_) (ba_ 33 134217727) (ao_ HT_) ?_ ?_
        rotate_left
        ·simp only [Act.put, sb_, sz_, ss_, i64_w, i32_w]
         rfl
        refine pv_ 27 67 (a' := ?_) (ba_ 33 268435455) (ao_ HT_) ?_ ?_
        rotate_left
        ·simp only [Act.put, sb_, sz_, ss_, i64_w, i32_w]
         rfl
        refine pv_ 28 68 (a' := ?_) (ba_ 33 536870911) (ao_ HT_) ?_ ?_
        rotate_left
        ·simp only [Act.put, sb_, sz_, ss_, i64_w, i32_w]
         rfl
        refine pv_ 29 69 (a' := ?_) (ba_ 33 1073741823) (ao_ HT_) ?_ ?_
        rotate_left
        ·simp only [Act.put, sb_, sz_, ss_, i64_w, i32_w]
         rfl
        refine pv_ 30 70 (a' := ?_) (ba_ 33 2147483647) (ao_ HT_) ?_ ?_
        rotate_left
        ·simp only [Act.put, sb_, sz_, ss_, i64_w, i32_w]
         rfl
        refine pv_ 31 71 (a' := ?_) (ba_ 33 4294967295) (ao_ HT_) ?_ ?_
        rotate_left
        ·simp only [Act.put, sb_, sz_, ss_, i64_w, i32_w]
         rfl
        refine pz_ 32 72 (ba_ 33 8589934591) (ao_ HT_) ?_
        refine done_ (done_of HT_.out (by kernel_rfl)) ?_
        try go_wp2
        go_meet
        case rel => exact ⟨_, (true), rf_, H', ⟨by have := HK1.out; first | omega | exact Nat.le_refl _⟩, ⟨rr_ HO_3⟩, ⟨rr_ HO_4⟩, ⟨by (with_reducible repeat (first | apply Kd.R_alloc | apply Kd.R_drewN | apply Kd.R_drew)); exact Kd.R_mono HO_5.out (fun _ hk => hk.2)⟩, ⟨bk_ BK836⟩, ⟨bl_⟩⟩
       ·rw [if_neg c22] at H
        have c22b0 : ((!(((rd_T47 t829 x6_1).f0.f0.f0) == ((rd_T28 t832 x6_1).f0.f0)) || (!(((rd_T47 t829 x6_1).f0.f0.f1) == ((rd_T28 t832 x6_1).f0.f1)))) || (!(((rd_T47 t829 x6_1).f0.f1) == ((rd_T28 t832 x6_1).f1)))) = false := by simpa using c22
        clear c22
        obtain ⟨t842, A25, H⟩ := bindE_ H
        by_cases c26 : t842 = ((rd_T47 t829 x6_1).f1)
        ·rw [if_pos c26] at H
         have c26b0 : (t842 == ((rd_T47 t829 x6_1).f1)) = true := beq_iff_eq.mpr c26
         have c26b1 : (t842 != ((rd_T47 t829 x6_1).f1)) = false := bne_eq_false_iff_eq.mpr c26
         clear c26
         have H' := aa_ H
         clear H
         try go_wp2
         replace HO_3 := aa_ (Kd.R_drew HO_3.out)
         replace HO_4 := aa_ (Kd.R_drew HO_4.out)
         replace HO_5 := aa_ (Kd.R_drew HO_5.out)
         replace HO839 := aa_ (Kd.S_drew HO839.out)
         replace BK836 := aa_ (blk_drew BK836.out)
         replace HB := aa_ (below_drew1 HB.out)
         obtain ⟨Ao28, co28, eo28⟩ := Kd.R_slice HO_5.out
         (first | subst eo28 | (injection eo28 with f1_ f2_ f3_; have f4_ := f1_.symm; have f5_ := f3_.symm; clear f1_ f2_ f3_; subst f4_; subst f5_))
         have p841 : 0 ≤ (x6_1 : Int) := od_
         have q841 : x6_1 < (t832.length : Int) := od_
         obtain ⟨ad841, e841, hx841_0, hx841_1, hx841_2⟩ := at_T28 (Kd.R_reads' HO_5.out).2.2 x6_1 p841 q841
         cases e841
         replace p841 := eq_true p841
         replace q841 := eq_true q841
         obtain ⟨Ao29, co29, eo29⟩ := Kd.S_slice HO839.out
         (first | subst eo29 | (injection eo29 with f1_ f2_ f3_; have f4_ := f1_.symm; have f5_ := f3_.symm; clear f1_ f2_ f3_; subst f4_; subst f5_))
         have p843 : 0 ≤ (x6_1 : Int) := od_
         have q843 : x6_1 < (t829.length : Int) := od_
         obtain ⟨ad843, e843, hx843_0, hx843_1, hx843_2, hx843_3⟩ := at_T47 (Kd.R_reads' HO_4.out).2.2 x6_1 p843 q843
         obtain rfl : ad835 = ad843 := (by injection e843)
         replace p843 := eq_true p843
         replace q843 := eq_true q843
         have p844 : 0 ≤ (x6_1 : Int) := od_
         have q844 : x6_1 < (t829.length : Int) := od_
         obtain ⟨ad844, e844, hx844_0, hx844_1, hx844_2, hx844_3⟩ := at_T47 (Kd.R_reads' HO_4.out).2.2 x6_1 p844 q844
         obtain rfl : ad835 = ad844 := (by injection e844)
         replace p844 := eq_true p844
         replace q844 := eq_true q844
         refine start_ (n := 33) (S := fun w' => w'.cell? ⟨gb836, 0, none⟩ = some (.int .i64 ((rd_T47 t829 x6_1).f0.f0.f0)) ∧ w'.cell? ⟨gb836, 1, none⟩ = some (.int .i64 ((rd_T47 t829 x6_1).f0.f0.f1)) ∧ w'.cell? ⟨gb836, 2, none⟩ = some (.int .i64 ((rd_T47 t829 x6_1).f0.f1)) ∧ w'.cell? (ad841.add ((x6_1).toNat * 3)) = some (.int .i64 ((rd_T28 t832 x6_1).f0.f0)) ∧ w'.cell? ⟨(ad841.add ((x6_1).toNat * 3)).block, (ad841.add ((x6_1).toNat * 3)).off + 1, none⟩ = some (.int .i64 ((rd_T28 t832 x6_1).f0.f1)) ∧ w'.cell? ⟨(ad841.add ((x6_1).toNat * 3)).block, (ad841.add ((x6_1).toNat * 3)).off + 2, none⟩ = some (.int .i64 ((rd_T28 t832 x6_1).f1)) ∧ w'.cell? (ad835.add ((x6_1).toNat * 4)) = some (.int .i64 ((rd_T47 t829 x6_1).f0.f0.f0)) ∧ w'.cell? ⟨(ad835.add ((x6_1).toNat * 4)).block, (ad835.add ((x6_1).toNat * 4)).off + 1, none⟩ = some (.int .i64 ((rd_T47 t829 x6_1).f0.f0.f1)) ∧ w'.cell? ⟨(ad835.add ((x6_1).toNat * 4)).block, (ad835.add ((x6_1).toNat * 4)).off + 2, none⟩ = some (.int .i64 ((rd_T47 t829 x6_1).f0.f1)) ∧ w'.cell? ⟨(ad835.add ((x6_1).toNat * 4)).block, (ad835.add ((x6_1).toNat * 4)).off + 3, none⟩ = some (.int .i64 ((rd_T47 t829 x6_1).f1)) ∧ w'.cell? (ad835.add ((x6_1).toNat * 4)) = some (.int .i64 ((rd_T47 t829 x6_1).f0.f0.f0)) ∧ w'.cell? ⟨(ad835.add ((x6_1).toNat * 4)).block, (ad835.add ((x6_1).toNat * 4)).off + 1, none⟩ = some (.int .i64 ((rd_T47 t829 x6_1).f0.f0.f1)) ∧ w'.cell? ⟨(ad835.add ((x6_1).toNat * 4)).block, (ad835.add ((x6_1).toNat * 4)).off + 2, none⟩ = some (.int .i64 ((rd_T47 t829 x6_1).f0.f1)) ∧ w'.cell? ⟨(ad835.add ((x6_1).toNat * 4)).block, (ad835.add ((x6_1).toNat * 4)).off + 3, none⟩ = some (.int .i64 ((rd_T47 t829 x6_1).f1))) (ds := []) (ba_ 33 0) (by kernel_rfl) rfl rfl ⟨(blk_cell BK836.out 0).trans rfl, (blk_cell BK836.out 1).trans rfl, (blk_cell BK836.out 2).trans rfl, hx841_0, hx841_1, hx841_2, hx843_0, hx843_1, hx843_2, hx843_3, hx844_0, hx844_1, hx844_2, hx844_3⟩ (fun hHeld => ?_); refine with_tabW laws_FnLeastEach.tab11 laws_FnLeastEach.bits11 (fun HT_ HW_ => ?_)
         generalize w19.drew = w27 at HO_3 HO_4 HO_5 HO839 BK836 HB hx841_0 hx841_1 hx841_2 hx843_0 hx843_1 hx843_2 hx843_3 hx844_0 hx844_1 hx844_2 hx844_3 hHeld ⊢
         refine pz_ 0 40 (ba_ 33 1) (ao_ HT_) ?_
         refine pz_ 1 41 (ba_ 33 3) (ao_ HT_) ?_
         refine pz_ 2 42 (ba_ 33 7) (ao_ HT_) ?_
         refine pz_ 4 44 (ba_ 33 23) (ao_ HT_) ?_
         refine pz_ 5 45 (ba_ 33 55) (ao_ HT_) ?_
         refine pz_ 6 46 (ba_ 33 119) (ao_ HT_) ?_
         refine tz_ 3 43 (ba_ 33 127) (take_ofW HT_.out HW_.out (by kernel_rfl)) hHeld ?_
         refine tz_ 7 47 (ba_ 33 255) (take_ofW HT_.out HW_.out (by kernel_rfl)) hHeld ?_
         refine pz_ 8 48 (ba_ 33 511) (ao_ HT_) ?_
         refine pz_ 9 49 (ba_ 33 1023) (ao_ HT_) ?_
         refine pz_ 10 50 (ba_ 33 2047) (ao_ HT_) ?_
         refine pz_ 11 51 (ba_ 33 4095) (ao_ HT_) ?_
         refine pz_ 12 52 (ba_ 33 8191) (ao_ HT_) ?_
         refine pz_ 13 53 (ba_ 33 16383) (ao_ HT_) ?_
         refine pz_ 14 54 (ba_ 33 32767) (ao_ HT_) ?_
         refine pz_ 16 56 (ba_ 33 98303) (ao_ HT_) ?_
         refine pz_ 17 57 (ba_ 33 229375) (ao_ HT_) ?_
         refine pz_ 18 58 (ba_ 33 491519) (ao_ HT_) ?_
         refine pz_ 19 59 (ba_ 33 1015807) (ao_ HT_) ?_
         refine tz_ 20 60 (ba_ 33 2064383) (take_ofW HT_.out HW_.out (by kernel_rfl)) hHeld ?_
         refine one_ (i := 15) (N := some 55) (ba_ 33 2097151) rfl rfl (one_of HT_.out (by kernel_rfl)) (by decide) (fun K hK => ?_)
         refine goes_ Try.func17 (by kernel_rfl) rfl #[.slice Ao29 t837.length co29, .int .i64 (wrap64 ((t837.length : Int) - 1))] (by rfl) rfl rfl (by (try simp only [List.map_toArray, List.map_cons, List.map_nil]); first | done | rfl | (simp only [List.length_drop, List.length_take]; rfl)) ?_
         with_reducible refine (spec_TreeSize.calls k1 _ _ t837 (wrap64 ((t837.length : Int) - 1)) t842 _ ?side1 ?side2 A25.out).mono ?_
         (case side1 => repeat (first | exact (Kd.S_reads' HO839.out).2.2 | (with_reducible refine Kd.C_alloc ?_ _) | (with_reducible refine Kd.C_drewN ?_ _) | (with_reducible refine Kd.C_drew ?_)))
         (case side2 => exact (Kd.S_reads' HO839.out).2.1)
         rintro e w30 ⟨rfl, hb⟩
         have HS3_ := (hb.cell (World.block_lt_of_cell? _ _ (hHeld.2.2.2.1))).trans (hHeld.2.2.2.1)
         have HS4_ := (hb.cell (World.block_lt_of_cell? _ _ (hHeld.2.2.2.2.1))).trans (hHeld.2.2.2.2.1)
         have HS5_ := (hb.cell (World.block_lt_of_cell? _ _ (hHeld.2.2.2.2.2.1))).trans (hHeld.2.2.2.2.2.1)
         have HS6_ := (hb.cell (World.block_lt_of_cell? _ _ (hHeld.2.2.2.2.2.2.1))).trans (hHeld.2.2.2.2.2.2.1)
         have HS7_ := (hb.cell (World.block_lt_of_cell? _ _ (hHeld.2.2.2.2.2.2.2.1))).trans (hHeld.2.2.2.2.2.2.2.1)
         have HS8_ := (hb.cell (World.block_lt_of_cell? _ _ (hHeld.2.2.2.2.2.2.2.2.1))).trans (hHeld.2.2.2.2.2.2.2.2.1)
         have HS9_ := (hb.cell (World.block_lt_of_cell? _ _ (hHeld.2.2.2.2.2.2.2.2.2.1))).trans (hHeld.2.2.2.2.2.2.2.2.2.1)
         have HS10_ := (hb.cell (World.block_lt_of_cell? _ _ (hHeld.2.2.2.2.2.2.2.2.2.2.1))).trans (hHeld.2.2.2.2.2.2.2.2.2.2.1)
         have HS11_ := (hb.cell (World.block_lt_of_cell? _ _ (hHeld.2.2.2.2.2.2.2.2.2.2.2.1))).trans (hHeld.2.2.2.2.2.2.2.2.2.2.2.1)
         have HS12_ := (hb.cell (World.block_lt_of_cell? _ _ (hHeld.2.2.2.2.2.2.2.2.2.2.2.2.1))).trans (hHeld.2.2.2.2.2.2.2.2.2.2.2.2.1)
         have HS13_ := (hb.cell (World.block_lt_of_cell? _ _ (hHeld.2.2.2.2.2.2.2.2.2.2.2.2.2))).trans (hHeld.2.2.2.2.2.2.2.2.2.2.2.2.2)
         refine ⟨_, rfl, ?_⟩
         replace HO_3 := hob_ HO_3 hb
         replace HO_4 := hob_ HO_4 hb
         replace HO_5 := hob_ HO_5 hb
         replace HO839 := aa_ (Kd.S_below (rs_ HO839) hb)
         replace BK836 := bkb_ BK836 hb
         replace HB := hbs_ hb
         (try clear hb)
         (try clear hb2)
         (try clear hk)
         (try clear hi)
         refine hK.out _ _ ⟨(blk_cell BK836.out 0).trans rfl, (blk_cell BK836.out 1).trans rfl, (blk_cell BK836.out 2).trans rfl, HS3_, HS4_, HS5_, HS6_, HS7_, HS8_, HS9_, HS10_, HS11_, HS12_, HS13_⟩ (fun hHeld => ?_)
         clear hK K
         refine norm_ (a' := ?_) ?_ ?_
         rotate_left
         ·show Act.put _ (some 55) _ = _
          simp only [Act.put, sb_, sz_, ss_, i64_w, i32_w]
          rfl
         refine pz_ 21 61 (ba_ 33 4194303) (ao_ HT_) ?_
         refine pz_ 22 62 (ba_ 33 8388607) (ao_ HT_) ?_
         refine pz_ 23 63 (ba_ 33 16777215) (ao_ HT_) ?_
         refine pz_ 24 64 (ba_ 33 33554431) (ao_ HT_) ?_
         refine pz_ 25 65 (ba_ 33 67108863) (ao_ HT_) ?_
         refine pz_ 26 66 (ba_ 33 134217727) (ao_ HT_) ?_
         refine pz_ 27 67 (ba_ 33 268435455) (ao_ HT_) ?_
         refine pz_ 29 69 (ba_ 33 805306367) (ao_ HT_) ?_
         refine pz_ 30 70 (ba_ 33 1879048191) (ao_ HT_) ?_
         refine tz_ 28 68 (ba_ 33 2147483647) (take_ofW HT_.out HW_.out (by kernel_rfl)) hHeld ?_
         refine pz_ 31 71 (ba_ 33 4294967295) (ao_ HT_) ?_
         refine pz_ 32 72 (ba_ 33 8589934591) (ao_ HT_) ?_
         refine done_ (done_of HT_.out (by kernel_rfl)) ?_
         try go_wp2
         go_meet
         case rel => exact ⟨_, (decide (((rd_T47 t829 x6_1).f1) < (t837.length : Int))), rf_, H', ⟨by have := HK1.out; first | omega | exact Nat.le_refl _⟩, ⟨rr_ HO_3⟩, ⟨rr_ HO_4⟩, ⟨by (with_reducible repeat (first | apply Kd.R_alloc | apply Kd.R_drewN | apply Kd.R_drew)); exact Kd.R_mono HO_5.out (fun _ hk => hk.2)⟩, ⟨bk_ BK836⟩, ⟨bl_⟩⟩
        ·rw [if_neg c26] at H
         have c26b0 : (t842 == ((rd_T47 t829 x6_1).f1)) = false := beq_eq_false_iff_ne.mpr c26
         have c26b1 : (t842 != ((rd_T47 t829 x6_1).f1)) = true := bne_iff_ne.mpr c26
         have H' := aa_ H
         clear H
         try go_wp2
         replace HO_3 := aa_ (Kd.R_drew HO_3.out)
         replace HO_4 := aa_ (Kd.R_drew HO_4.out)
         replace HO_5 := aa_ (Kd.R_drew HO_5.out)
         replace HO839 := aa_ (Kd.S_drew HO839.out)
         replace BK836 := aa_ (blk_drew BK836.out)
         replace HB := aa_ (below_drew1 HB.out)
         obtain ⟨Ao32, co32, eo32⟩ := Kd.R_slice HO_5.out
         (first | subst eo32 | (injection eo32 with f1_ f2_ f3_; have f4_ := f1_.symm; have f5_ := f3_.symm; clear f1_ f2_ f3_; subst f4_; subst f5_))
         have p841 : 0 ≤ (x6_1 : Int) := od_
         have q841 : x6_1 < (t832.length : Int) := od_
         obtain ⟨ad841, e841, hx841_0, hx841_1, hx841_2⟩ := at_T28 (Kd.R_reads' HO_5.out).2.2 x6_1 p841 q841
         cases e841
         replace p841 := eq_true p841
         replace q841 := eq_true q841
         obtain ⟨Ao33, co33, eo33⟩ := Kd.S_slice HO839.out
         (first | subst eo33 | (injection eo33 with f1_ f2_ f3_; have f4_ := f1_.symm; have f5_ := f3_.symm; clear f1_ f2_ f3_; subst f4_; subst f5_))
         have p843 : 0 ≤ (x6_1 : Int) := od_
         have q843 : x6_1 < (t829.length : Int) := od_
         obtain ⟨ad843, e843, hx843_0, hx843_1, hx843_2, hx843_3⟩ := at_T47 (Kd.R_reads' HO_4.out).2.2 x6_1 p843 q843
         obtain rfl : ad835 = ad843 := (by injection e843)
         replace p843 := eq_true p843
         replace q843 := eq_true q843
         refine start_ (n := 33) (S := fun w' => w'.cell? ⟨gb836, 0, none⟩ = some (.int .i64 ((rd_T47 t829 x6_1).f0.f0.f0)) ∧ w'.cell? ⟨gb836, 1, none⟩ = some (.int .i64 ((rd_T47 t829 x6_1).f0.f0.f1)) ∧ w'.cell? ⟨gb836, 2, none⟩ = some (.int .i64 ((rd_T47 t829 x6_1).f0.f1)) ∧ w'.cell? (ad841.add ((x6_1).toNat * 3)) = some (.int .i64 ((rd_T28 t832 x6_1).f0.f0)) ∧ w'.cell? ⟨(ad841.add ((x6_1).toNat * 3)).block, (ad841.add ((x6_1).toNat * 3)).off + 1, none⟩ = some (.int .i64 ((rd_T28 t832 x6_1).f0.f1)) ∧ w'.cell? ⟨(ad841.add ((x6_1).toNat * 3)).block, (ad841.add ((x6_1).toNat * 3)).off + 2, none⟩ = some (.int .i64 ((rd_T28 t832 x6_1).f1)) ∧ w'.cell? (ad835.add ((x6_1).toNat * 4)) = some (.int .i64 ((rd_T47 t829 x6_1).f0.f0.f0)) ∧ w'.cell? ⟨(ad835.add ((x6_1).toNat * 4)).block, (ad835.add ((x6_1).toNat * 4)).off + 1, none⟩ = some (.int .i64 ((rd_T47 t829 x6_1).f0.f0.f1)) ∧ w'.cell? ⟨(ad835.add ((x6_1).toNat * 4)).block, (ad835.add ((x6_1).toNat * 4)).off + 2, none⟩ = some (.int .i64 ((rd_T47 t829 x6_1).f0.f1)) ∧ w'.cell? ⟨(ad835.add ((x6_1).toNat * 4)).block, (ad835.add ((x6_1).toNat * 4)).off + 3, none⟩ = some (.int .i64 ((rd_T47 t829 x6_1).f1))) (ds := []) (ba_ 33 0) (by kernel_rfl) rfl rfl ⟨(blk_cell BK836.out 0).trans rfl, (blk_cell BK836.out 1).trans rfl, (blk_cell BK836.out 2).trans rfl, hx841_0, hx841_1, hx841_2, hx843_0, hx843_1, hx843_2, hx843_3⟩ (fun hHeld => ?_); refine with_tabW laws_FnLeastEach.tab11 laws_FnLeastEach.bits11 (fun HT_ HW_ => ?_)
         generalize w19.drew = w31 at HO_3 HO_4 HO_5 HO839 BK836 HB hx841_0 hx841_1 hx841_2 hx843_0 hx843_1 hx843_2 hx843_3 hHeld ⊢
         refine pz_ 0 40 (ba_ 33 1) (ao_ HT_) ?_
         refine pz_ 1 41 (ba_ 33 3) (ao_ HT_) ?_
         refine pz_ 2 42 (ba_ 33 7) (ao_ HT_) ?_
         refine pz_ 4 44 (ba_ 33 23) (ao_ HT_) ?_
         refine pz_ 5 45 (ba_ 33 55) (ao_ HT_) ?_
         refine pz_ 6 46 (ba_ 33 119) (ao_ HT_) ?_
         refine tz_ 3 43 (ba_ 33 127) (take_ofW HT_.out HW_.out (by kernel_rfl)) hHeld ?_
         refine tz_ 7 47 (ba_ 33 255) (take_ofW HT_.out HW_.out (by kernel_rfl)) hHeld ?_
         refine pz_ 8 48 (ba_ 33 511) (ao_ HT_) ?_
         refine pz_ 9 49 (ba_ 33 1023) (ao_ HT_) ?_
         refine pz_ 10 50 (ba_ 33 2047) (ao_ HT_) ?_
         refine pz_ 11 51 (ba_ 33 4095) (ao_ HT_) ?_
         refine pz_ 12 52 (ba_ 33 8191) (ao_ HT_) ?_
         refine pz_ 13 53 (ba_ 33 16383) (ao_ HT_) ?_
         refine pz_ 14 54 (ba_ 33 32767) (ao_ HT_) ?_
         refine pz_ 16 56 (ba_ 33 98303) (ao_ HT_) ?_
         refine pz_ 17 57 (ba_ 33 229375) (ao_ HT_) ?_
         refine pz_ 18 58 (ba_ 33 491519) (ao_ HT_) ?_
         refine pz_ 19 59 (ba_ 33 1015807) (ao_ HT_) ?_
         refine tz_ 20 60 (ba_ 33 2064383) (take_ofW HT_.out HW_.out (by kernel_rfl)) hHeld ?_
         refine one_ (i := 15) (N := some 55) (ba_ 33 2097151) rfl rfl (one_of HT_.out (by kernel_rfl)) (by decide) (fun K hK => ?_)
         refine goes_ Try.func17 (by kernel_rfl) rfl #[.slice Ao33 t837.length co33, .int .i64 (wrap64 ((t837.length : Int) - 1))] (by rfl) rfl rfl (by (try simp only [List.map_toArray, List.map_cons, List.map_nil]); first | done | rfl | (simp only [List.length_drop, List.length_take]; rfl)) ?_
         with_reducible refine (spec_TreeSize.calls k1 _ _ t837 (wrap64 ((t837.length : Int) - 1)) t842 _ ?side1 ?side2 A25.out).mono ?_
         (case side1 => repeat (first | exact (Kd.S_reads' HO839.out).2.2 | (with_reducible refine Kd.C_alloc ?_ _) | (with_reducible refine Kd.C_drewN ?_ _) | (with_reducible refine Kd.C_drew ?_)))
         (case side2 => exact (Kd.S_reads' HO839.out).2.1)
         rintro e w34 ⟨rfl, hb⟩
         have HS3_ := (hb.cell (World.block_lt_of_cell? _ _ (hHeld.2.2.2.1))).trans (hHeld.2.2.2.1)
         have HS4_ := (hb.cell (World.block_lt_of_cell? _ _ (hHeld.2.2.2.2.1))).trans (hHeld.2.2.2.2.1)
         have HS5_ := (hb.cell (World.block_lt_of_cell? _ _ (hHeld.2.2.2.2.2.1))).trans (hHeld.2.2.2.2.2.1)
         have HS6_ := (hb.cell (World.block_lt_of_cell? _ _ (hHeld.2.2.2.2.2.2.1))).trans (hHeld.2.2.2.2.2.2.1)
         have HS7_ := (hb.cell (World.block_lt_of_cell? _ _ (hHeld.2.2.2.2.2.2.2.1))).trans (hHeld.2.2.2.2.2.2.2.1)
         have HS8_ := (hb.cell (World.block_lt_of_cell? _ _ (hHeld.2.2.2.2.2.2.2.2.1))).trans (hHeld.2.2.2.2.2.2.2.2.1)
         have HS9_ := (hb.cell (World.block_lt_of_cell? _ _ (hHeld.2.2.2.2.2.2.2.2.2))).trans (hHeld.2.2.2.2.2.2.2.2.2)
         refine ⟨_, rfl, ?_⟩
         replace HO_3 := hob_ HO_3 hb
         replace HO_4 := hob_ HO_4 hb
         replace HO_5 := hob_ HO_5 hb
         replace HO839 := aa_ (Kd.S_below (rs_ HO839) hb)
         replace BK836 := bkb_ BK836 hb
         replace HB := hbs_ hb
         (try clear hb)
         (try clear hb2)
         (try clear hk)
         (try clear hi)
         refine hK.out _ _ ⟨(blk_cell BK836.out 0).trans rfl, (blk_cell BK836.out 1).trans rfl, (blk_cell BK836.out 2).trans rfl, HS3_, HS4_, HS5_, HS6_, HS7_, HS8_, HS9_⟩ (fun hHeld => ?_)
         clear hK K
         refine norm_ (a' := ?_) ?_ ?_
         rotate_left
         ·show Act.put _ (some 55) _ = _
          simp only [Act.put, sb_, sz_, ss_, i64_w, i32_w]
          rfl
         refine pz_ 21 61 (ba_ 33 4194303) (ao_ HT_) ?_
         refine pz_ 22 62 (ba_ 33 8388607) (ao_ HT_) ?_
         refine pz_ 23 63 (ba_ 33 16777215) (ao_ HT_) ?_
         refine pv_ 24 64 (a' := ?_) (ba_ 33 33554431) (ao_ HT_) ?_ ?_
         rotate_left
         ·simp only [Act.put, sb_, sz_, ss_, i64_w, i32_w]
          rfl
         refine pv_ 25 65 (a' := ?_) (ba_ 33 67108863) (ao_ HT_) ?_ ?_
         rotate_left
         ·simp only [Act.put, sb_, sz_, ss_, i64_w, i32_w]
          rfl
         refine pv_ 26 66 (a' := ?_) (ba_ 33 134217727) (ao_ HT_) ?_ ?_
         rotate_left
         ·simp only [Act.put, sb_, sz_, ss_, i64_w, i32_w]
          rfl
         refine pv_ 27 67 (a' := ?_) (ba_ 33 268435455) (ao_ HT_) ?_ ?_
         rotate_left
         ·simp only [Act.put, sb_, sz_, ss_, i64_w, i32_w]
          rfl
         refine pv_ 28 68 (a' := ?_) (ba_ 33 536870911) (ao_ HT_) ?_ ?_
         rotate_left
         ·simp only [Act.put, sb_, sz_, ss_, i64_w, i32_w]
          rfl
         refine pv_ 29 69 (a' := ?_) (ba_ 33 1073741823) (ao_ HT_) ?_ ?_
         rotate_left
         ·simp only [Act.put, sb_, sz_, ss_, i64_w, i32_w]
          rfl
         refine pv_ 30 70 (a' := ?_) (ba_ 33 2147483647) (ao_ HT_) ?_ ?_
         rotate_left
         ·simp only [Act.put, sb_, sz_, ss_, i64_w, i32_w]
          rfl
         refine pv_ 31 71 (a' := ?_) (ba_ 33 4294967295) (ao_ HT_) ?_ ?_
         rotate_left
         ·simp only [Act.put, sb_, sz_, ss_, i64_w, i32_w]
          rfl
         refine pz_ 32 72 (ba_ 33 8589934591) (ao_ HT_) ?_
         refine done_ (done_of HT_.out (by kernel_rfl)) ?_
         try go_wp2
         go_meet
         case rel => exact ⟨_, (true), rf_, H', ⟨by have := HK1.out; first | omega | exact Nat.le_refl _⟩, ⟨rr_ HO_3⟩, ⟨rr_ HO_4⟩, ⟨by (with_reducible repeat (first | apply Kd.R_alloc | apply Kd.R_drewN | apply Kd.R_drew)); exact Kd.R_mono HO_5.out (fun _ hk => hk.2)⟩, ⟨bk_ BK836⟩, ⟨bl_⟩⟩
      ·replace c20 := Bool.eq_false_iff.mpr c20
       subst c20
       replace H := ite_f_ H
       have H' := aa_ H
       clear H
       try go_wp2
       replace HO_3 := aa_ (Kd.R_drew HO_3.out)
       replace HO_4 := aa_ (Kd.R_drew HO_4.out)
       replace HO_5 := aa_ (Kd.R_drew HO_5.out)
       replace HO839 := aa_ (Kd.S_drew HO839.out)
       replace BK836 := aa_ (blk_drew BK836.out)
       replace HB := aa_ (below_drew1 HB.out)
       refine start_ (n := 33) (S := fun w' => True) (ds := []) (ba_ 33 0) (by kernel_rfl) rfl rfl trivial (fun hHeld => ?_); refine with_tabW laws_FnLeastEach.tab11 laws_FnLeastEach.bits11 (fun HT_ HW_ => ?_)
       generalize w19.drew = w35 at HO_3 HO_4 HO_5 HO839 BK836 HB hHeld ⊢
       refine pz_ 0 40 (ba_ 33 1) (ao_ HT_) ?_
       refine pz_ 1 41 (ba_ 33 3) (ao_ HT_) ?_
       refine pz_ 2 42 (ba_ 33 7) (ao_ HT_) ?_
       refine pv_ 3 43 (a' := ?_) (ba_ 33 15) (ao_ HT_) ?_ ?_
       rotate_left
       ·simp only [Act.put, sb_, sz_, ss_, i64_w, i32_w]
        rfl
       refine pv_ 4 44 (a' := ?_) (ba_ 33 31) (ao_ HT_) ?_ ?_
       rotate_left
       ·simp only [Act.put, sb_, sz_, ss_, i64_w, i32_w]
        rfl
       refine pv_ 5 45 (a' := ?_) (ba_ 33 63) (ao_ HT_) ?_ ?_
       rotate_left
       ·simp only [Act.put, sb_, sz_, ss_, i64_w, i32_w]
        rfl
       refine pv_ 6 46 (a' := ?_) (ba_ 33 127) (ao_ HT_) ?_ ?_
       rotate_left
       ·simp only [Act.put, sb_, sz_, ss_, i64_w, i32_w]
        rfl
       refine pv_ 7 47 (a' := ?_) (ba_ 33 255) (ao_ HT_) ?_ ?_
       rotate_left
       ·simp only [Act.put, sb_, sz_, ss_, i64_w, i32_w]
        rfl
       refine pv_ 8 48 (a' := ?_) (ba_ 33 511) (ao_ HT_) ?_ ?_
       rotate_left
       ·simp only [Act.put, sb_, sz_, ss_, i64_w, i32_w]
        rfl
       refine pz_ 9 49 (ba_ 33 1023) (ao_ HT_) ?_
       refine pz_ 10 50 (ba_ 33 2047) (ao_ HT_) ?_
       refine pv_ 11 51 (a' := ?_) (ba_ 33 4095) (ao_ HT_) ?_ ?_
       rotate_left
       ·simp only [Act.put, sb_, sz_, ss_, i64_w, i32_w]
        rfl
       refine pv_ 12 52 (a' := ?_) (ba_ 33 8191) (ao_ HT_) ?_ ?_
       rotate_left
       ·simp only [Act.put, sb_, sz_, ss_, i64_w, i32_w]
        rfl
       refine pv_ 13 53 (a' := ?_) (ba_ 33 16383) (ao_ HT_) ?_ ?_
       rotate_left
       ·simp only [Act.put, sb_, sz_, ss_, i64_w, i32_w]
        rfl
       refine pv_ 14 54 (a' := ?_) (ba_ 33 32767) (ao_ HT_) ?_ ?_
       rotate_left
       ·simp only [Act.put, sb_, sz_, ss_, i64_w, i32_w]
        rfl
       refine pv_ 15 55 (a' := ?_) (ba_ 33 65535) (ao_ HT_) ?_ ?_
       rotate_left
       ·simp only [Act.put, sb_, sz_, ss_, i64_w, i32_w]
        rfl
       refine pv_ 16 56 (a' := ?_) (ba_ 33 131071) (ao_ HT_) ?_ ?_
       rotate_left
       ·simp only [Act.put, sb_, sz_, ss_, i64_w, i32_w]
        rfl
       refine pv_ 17 57 (a' := ?_) (ba_ 33 262143) (ao_ HT_) ?_ ?_
       rotate_left
       ·simp only [Act.put, sb_, sz_, ss_, i64_w, i32_w]
        rfl
       refine pv_ 18 58 (a' := ?_) (ba_ 33 524287) (ao_ HT_) ?_ ?_
       rotate_left
       ·simp only [Act.put, sb_, sz_, ss_, i64_w, i32_w]
        rfl
       refine pv_ 19 59 (a' := ?_) (ba_ 33 1048575) (ao_ HT_) ?_ ?_
       rotate_left
       ·simp only [Act.put, sb_, sz_, ss_, i64_w, i32_w]
        rfl
       refine pv_ 20 60 (a' := ?_) (ba_ 33 2097151) (ao_ HT_) ?_ ?_
       rotate_left
       ·simp only [Act.put, sb_, sz_, ss_, i64_w, i32_w]
        rfl
       refine pv_ 21 61 (a' := ?_) (ba_ 33 4194303) (ao_ HT_) ?_ ?_
       rotate_left
       ·simp only [Act.put, sb_, sz_, ss_, i64_w, i32_w]
        rfl
       refine pz_ 22 62 (ba_ 33 8388607) (ao_ HT_) ?_
       refine pz_ 23 63 (ba_ 33 16777215) (ao_ HT_) ?_
       refine pv_ 24 64 (a' := ?_) (ba_ 33 33554431) (ao_ HT_) ?_ ?_
       rotate_left
       ·simp only [Act.put, sb_, sz_, ss_, i64_w, i32_w]
        rfl
       refine pv_ 25 65 (a' := ?_) (ba_ 33 67108863) (ao_ HT_) ?_ ?_
       rotate_left
       ·simp only [Act.put, sb_, sz_, ss_, i64_w, i32_w]
        rfl
       refine pv_ 26 66 (a' := ?_) (ba_ 33 134217727) (ao_ HT_) ?_ ?_
       rotate_left
       ·simp only [Act.put, sb_, sz_, ss_, i64_w, i32_w]
        rfl
       refine pv_ 27 67 (a' := ?_) (ba_ 33 268435455) (ao_ HT_) ?_ ?_
       rotate_left
       ·simp only [Act.put, sb_, sz_, ss_, i64_w, i32_w]
        rfl
       refine pv_ 28 68 (a' := ?_) (ba_ 33 536870911) (ao_ HT_) ?_ ?_
       rotate_left
       ·simp only [Act.put, sb_, sz_, ss_, i64_w, i32_w]
        rfl
       refine pv_ 29 69 (a' := ?_) (ba_ 33 1073741823) (ao_ HT_) ?_ ?_
       rotate_left
       ·simp only [Act.put, sb_, sz_, ss_, i64_w, i32_w]
        rfl
       refine pv_ 30 70 (a' := ?_) (ba_ 33 2147483647) (ao_ HT_) ?_ ?_
       rotate_left
       ·simp only [Act.put, sb_, sz_, ss_, i64_w, i32_w]
        rfl
       refine pv_ 31 71 (a' := ?_) (ba_ 33 4294967295) (ao_ HT_) ?_ ?_
       rotate_left
       ·simp only [Act.put, sb_, sz_, ss_, i64_w, i32_w]
        rfl
       refine pz_ 32 72 (ba_ 33 8589934591) (ao_ HT_) ?_
       refine done_ (done_of HT_.out (by kernel_rfl)) ?_
       try go_wp2
       go_meet
       case rel => exact ⟨_, (true), rf_, H', ⟨by have := HK1.out; first | omega | exact Nat.le_refl _⟩, ⟨rr_ HO_3⟩, ⟨rr_ HO_4⟩, ⟨by (with_reducible repeat (first | apply Kd.R_alloc | apply Kd.R_drewN | apply Kd.R_drew)); exact Kd.R_mono HO_5.out (fun _ hk => hk.2)⟩, ⟨bk_ BK836⟩, ⟨bl_⟩⟩
     case rest =>
      clear HC15
      try clear p2
      try clear p6
      try clear p8
      try clear q8
      try clear hx8
      try clear c26b0
      try clear c26b1
      try clear hx841_0
      try clear hx841_1
      try clear hx841_2
      try clear hx843_0
      try clear hx843_1
      try clear hx843_2
      try clear hx843_3
      try clear p841
      try clear p843
      try clear q841
      try clear q843
      obtain ⟨kq, x72_14, rfl, HA, HJ14, HO_3, HO_4, HO_5, BK836, HB⟩ := hcut
      cases kq with
      | zero => exact absurd HA.out (by simp [laws_FnLeastEach.j1])
      | succ kj14 =>
       have H := HA.out
       clear HA
       simp only [laws_FnLeastEach.j1] at H
       by_cases c36 : x72_14 = true
       ·subst c36
        replace H := ite_t_ H
        exact absurd (Option.some.inj (H.trans (congrArg some hr_))) (by decide)
       ·replace c36 := Bool.eq_false_iff.mpr c36
        subst c36
        replace H := ite_f_ H
        have H' := aa_ H
        clear H
        go_wp2
        go_loopg [10, 11] kj14 (fun kq v10 v11 w' => ∃ (x10_3 : Bool) (x11_3 : Int), v10 = .bool x10_3 ∧ v11 = .int .i64 x11_3 ∧ Aside0 (laws_FnLeastEach.l1 kq t826 t829 t832 x6_1 x10_3 x11_3 ((rd_T47 t829 x6_1).f0.f0.f0) ((rd_T47 t829 x6_1).f0.f0.f1) ((rd_T47 t829 x6_1).f0.f1) = some r) ∧ Aside0 (kq ≤ kj14) ∧ Aside0 (Kd.R k35 35 w' w.heap.size (fun _ => True) (.slice Ao9 t826.length co9) t826) ∧ Aside0 (Kd.R k47 47 w' w.heap.size (fun _ => True) (.slice (some ad835) t829.length co16) t829) ∧ Aside0 (Kd.R k28 28 w' w.heap.size (fun k_ => k_ ≠ gb836) v833 t832) ∧ Aside0 (w'.heap[gb836]? = some (.cells #[.int .i64 ((rd_T47 t829 x6_1).f0.f0.f0), .int .i64 ((rd_T47 t829 x6_1).f0.f0.f1), .int .i64 ((rd_T47 t829 x6_1).f0.f1)] 28 (0, 0))) ∧ Aside0 (Below w.heap.size w w'))
        case atStart => exact ⟨(false), (0), rf_, rf_, H', ⟨Nat.le_refl _⟩, ⟨rr_ HO_3⟩, ⟨rr_ HO_4⟩, ⟨rr_ HO_5⟩, ⟨bk_ BK836⟩, ⟨bl_⟩⟩
        case round =>
         clear H'
         try clear p2
         try clear p6
         try clear p8
         try clear q8
         try clear hx8
         try clear c26b0
         try clear c26b1
         try clear hx841_0
         try clear hx841_1
         try clear hx841_2
         try clear hx843_0
         try clear hx843_1
         try clear hx843_2
         try clear hx843_3
         try clear p2
         try clear p6
         try clear p8
         try clear p841
         try clear p843
         try clear q8
         try clear q841
         try clear q843
         obtain ⟨x10_3, x11_3, rfl, rfl, HA, HK3, HO_3, HO_4, HO_5, BK836, HB⟩ := hrel
         cases gk with
         | zero => exact absurd HA.out (by simp [laws_FnLeastEach.l1])
         | succ k3 =>
          have H := HA.out
          clear HA
          simp only [laws_FnLeastEach.l1] at H
          by_cases c37 : x11_3 < (t826.length : Int)
          ·rw [if_pos c37] at H
           have c37b0 : decide (x11_3 < (t826.length : Int)) = true := decide_eq_true c37
           clear c37
           by_cases c38 : x10_3 = true
           ·subst c38
            replace H := ite_t_ H
            have H' := aa_ H
            clear H
            try go_wp2
            replace HO_3 := aa_ (Kd.R_drew HO_3.out)
            replace HO_4 := aa_ (Kd.R_drew HO_4.out)
            replace HO_5 := aa_ (Kd.R_drew HO_5.out)
            replace BK836 := aa_ (blk_drew BK836.out)
            replace HB := aa_ (below_drew1 HB.out)
            refine start_ (n := 30) (S := fun w' => True) (ds := []) (ba_ 30 0) (by kernel_rfl) rfl rfl trivial (fun hHeld => ?_); refine with_tabW laws_FnLeastEach.tab17 laws_FnLeastEach.bits17 (fun HT_ HW_ => ?_)
            generalize wr.drew = w39 at HO_3 HO_4 HO_5 BK836 HB hHeld ⊢
            refine pz_ 0 79 (ba_ 30 1) (ao_ HT_) ?_
            refine pz_ 1 80 (ba_ 30 3) (ao_ HT_) ?_
            refine pv_ 2 81 (a' := ?_) (ba_ 30 7) (ao_ HT_) ?_ ?_
            rotate_left
            ·simp only [Act.put, sb_, sz_, ss_, i64_w, i32_w]
             rfl
            refine pv_ 3 82 (a' := ?_) (ba_ 30 15) (ao_ HT_) ?_ ?_
            rotate_left
            ·simp only [Act.put, sb_, sz_, ss_, i64_w, i32_w]
             rfl
            refine pv_ 4 83 (a' := ?_) (ba_ 30 31) (ao_ HT_) ?_ ?_
            rotate_left
            ·simp only [Act.put, sb_, sz_, ss_, i64_w, i32_w]
             rfl
            refine pv_ 5 84 (a' := ?_) (ba_ 30 63) (ao_ HT_) ?_ ?_
            rotate_left
            ·simp only [Act.put, sb_, sz_, ss_, i64_w, i32_w]
             rfl
            refine pv_ 6 85 (a' := ?_) (ba_ 30 127) (ao_ HT_) ?_ ?_
            rotate_left
            ·simp only [Act.put, sb_, sz_, ss_, i64_w, i32_w]
             rfl
            refine pv_ 7 86 (a' := ?_) (ba_ 30 255) (ao_ HT_) ?_ ?_
            rotate_left
            ·simp only [Act.put, sb_, sz_, ss_, i64_w, i32_w]
             rfl
            refine pv_ 8 87 (a' := ?_) (ba_ 30 511) (ao_ HT_) ?_ ?_
            rotate_left
            ·simp only [Act.put, sb_, sz_, ss_, i64_w, i32_w]
             rfl
            refine pv_ 9 88 (a' := ?_) (ba_ 30 1023) (ao_ HT_) ?_ ?_
            rotate_left
            ·simp only [Act.put, sb_, sz_, ss_, i64_w, i32_w]
             rfl
            refine pv_ 10 89 (a' := ?_) (ba_ 30 2047) (ao_ HT_) ?_ ?_
            rotate_left
            ·simp only [Act.put, sb_, sz_, ss_, i64_w, i32_w]
             rfl
            refine pv_ 11 90 (a' := ?_) (ba_ 30 4095) (ao_ HT_) ?_ ?_
            rotate_left
            ·simp only [Act.put, sb_, sz_, ss_, i64_w, i32_w]
             rfl
            refine pv_ 12 91 (a' := ?_) (ba_ 30 8191) (ao_ HT_) ?_ ?_
            rotate_left
            ·simp only [Act.put, sb_, sz_, ss_, i64_w, i32_w]
             rfl
            refine pv_ 13 92 (a' := ?_) (ba_ 30 16383) (ao_ HT_) ?_ ?_
            rotate_left
            ·simp only [Act.put, sb_, sz_, ss_, i64_w, i32_w]
             rfl
            refine pv_ 14 93 (a' := ?_) (ba_ 30 32767) (ao_ HT_) ?_ ?_
            rotate_left
            ·simp only [Act.put, sb_, sz_, ss_, i64_w, i32_w]
             rfl
            refine pv_ 15 94 (a' := ?_) (ba_ 30 65535) (ao_ HT_) ?_ ?_
            rotate_left
            ·simp only [Act.put, sb_, sz_, ss_, i64_w, i32_w]
             rfl
            refine pv_ 16 95 (a' := ?_) (ba_ 30 131071) (ao_ HT_) ?_ ?_
            rotate_left
            ·simp only [Act.put, sb_, sz_, ss_, i64_w, i32_w]
             rfl
            refine pv_ 17 96 (a' := ?_) (ba_ 30 262143) (ao_ HT_) ?_ ?_
            rotate_left
            ·simp only [Act.put, sb_, sz_, ss_, i64_w, i32_w]
             rfl
            refine pv_ 18 97 (a' := ?_) (ba_ 30 524287) (ao_ HT_) ?_ ?_
            rotate_left
            ·simp only [Act.put, sb_, sz_, ss_, i64_w, i32_w]
             rfl
            refine pv_ 19 98 (a' := ?_) (ba_ 30 1048575) (ao_ HT_) ?_ ?_
            rotate_left
            ·simp only [Act.put, sb_, sz_, ss_, i64_w, i32_w]
             rfl
            refine pv_ 20 99 (a' := ?_) (ba_ 30 2097151) (ao_ HT_) ?_ ?_
            rotate_left
            ·simp only [Act.put, sb_, sz_, ss_, i64_w, i32_w]
             rfl
            refine pv_ 21 100 (a' := ?_) (ba_ 30 4194303) (ao_ HT_) ?_ ?_
            rotate_left
            ·simp only [Act.put, sb_, sz_, ss_, i64_w, i32_w]
             rfl
            refine pv_ 22 101 (a' := ?_) (ba_ 30 8388607) (ao_ HT_) ?_ ?_
            rotate_left
            ·simp only [Act.put, sb_, sz_, ss_, i64_w, i32_w]
             rfl
            refine pv_ 23 102 (a' := ?_) (ba_ 30 16777215) (ao_ HT_) ?_ ?_
            rotate_left
            ·simp only [Act.put, sb_, sz_, ss_, i64_w, i32_w]
             rfl
            refine pv_ 24 103 (a' := ?_) (ba_ 30 33554431) (ao_ HT_) ?_ ?_
            rotate_left
            ·simp only [Act.put, sb_, sz_, ss_, i64_w, i32_w]
             rfl
            refine pv_ 25 104 (a' := ?_) (ba_ 30 67108863) (ao_ HT_) ?_ ?_
            rotate_left
            ·simp only [Act.put, sb_, sz_, ss_, i64_w, i32_w]
             rfl
            refine pv_ 26 105 (a' := ?_) (ba_ 30 134217727) (ao_ HT_) ?_ ?_
            rotate_left
            ·simp only [Act.put, sb_, sz_, ss_, i64_w, i32_w]
             rfl
            refine pv_ 27 106 (a' := ?_) (ba_ 30 268435455) (ao_ HT_) ?_ ?_
            rotate_left
            ·simp only [Act.put, sb_, sz_, ss_, i64_w, i32_w]
             rfl
            refine pz_ 28 107 (ba_ 30 536870911) (ao_ HT_) ?_
            refine pz_ 29 10 (ba_ 30 1073741823) (ao_ HT_) ?_
            refine done_ (done_of HT_.out (by kernel_rfl)) ?_
            try go_wp2
            go_roundg k3
            case measure => have := HK1.out; have := HJ14.out; have := HK3.out; omega
            case rel => exact ⟨(true), (wrap64 (x11_3 + 1)), rf_, rf_, H', ⟨by have := HK1.out; have := HJ14.out; have := HK3.out; omega⟩, ⟨rr_ HO_3⟩, ⟨rr_ HO_4⟩, ⟨rr_ HO_5⟩, ⟨bk_ BK836⟩, ⟨bl_⟩⟩
           ·replace c38 := Bool.eq_false_iff.mpr c38
            subst c38
            replace H := ite_f_ H
            obtain ⟨c40b0, H⟩ := ifd_ H
            by_cases c41 : ((rd_T35 t826 x11_3).f0) = 1
            ·rw [if_pos c41] at H
             have c41b0 : (((rd_T35 t826 x11_3).f0) == 1) = true := beq_iff_eq.mpr c41
             have c41b1 : (((rd_T35 t826 x11_3).f0) != 1) = false := bne_eq_false_iff_eq.mpr c41
             clear c41
             by_cases c42 : (((rd_T35 t826 x11_3).f1.f0) == ((rd_T47 t829 x6_1).f0.f0.f0) && (((rd_T35 t826 x11_3).f1.f1) == ((rd_T47 t829 x6_1).f0.f0.f1))) = true
             ·rw [if_pos c42] at H
              have c42b0 : (((rd_T35 t826 x11_3).f1.f0) == ((rd_T47 t829 x6_1).f0.f0.f0) && (((rd_T35 t826 x11_3).f1.f1) == ((rd_T47 t829 x6_1).f0.f0.f1))) = true := c42
              (try (have c42b1 : decide (((rd_T35 t826 x11_3).f1.f0) = ((rd_T47 t829 x6_1).f0.f0.f0) && (((rd_T35 t826 x11_3).f1.f1) == ((rd_T47 t829 x6_1).f0.f0.f1))) = true := by simpa using c42))
              (try (have c42b2 : (((rd_T35 t826 x11_3).f1.f0) == ((rd_T47 t829 x6_1).f0.f0.f0) && (((rd_T35 t826 x11_3).f1.f1) == ((rd_T47 t829 x6_1).f0.f0.f1))) = true := by simpa using c42))
              (try (have c42b5 : (!(((rd_T35 t826 x11_3).f1.f0) == ((rd_T47 t829 x6_1).f0.f0.f0) && (((rd_T35 t826 x11_3).f1.f1) == ((rd_T47 t829 x6_1).f0.f0.f1)))) = false := by rw [c42b2]; rfl))
              clear c42
              have H' := aa_ H
              clear H
              try go_wp2
              replace HO_3 := aa_ (Kd.R_drew HO_3.out)
              replace HO_4 := aa_ (Kd.R_drew HO_4.out)
              replace HO_5 := aa_ (Kd.R_drew HO_5.out)
              replace BK836 := aa_ (blk_drew BK836.out)
              replace HB := aa_ (below_drew1 HB.out)
              have p845 : 0 ≤ (x11_3 : Int) := od_
              have q845 : x11_3 < (t826.length : Int) := od_
              obtain ⟨ad845, e845, hx845_0, hx845_1, hx845_2, hx845_3, hx845_4, hx845_5, hx845_6, hx845_7, hx845_8, hx845_9⟩ := at_T35 (Kd.R_reads' HO_3.out).2.2 x11_3 p845 q845
              cases e845
              replace p845 := eq_true p845
              replace q845 := eq_true q845
              have p846 : 0 ≤ (x11_3 : Int) := od_
              have q846 : x11_3 < (t826.length : Int) := od_
              obtain ⟨ad846, e846, hx846_0, hx846_1, hx846_2, hx846_3, hx846_4, hx846_5, hx846_6, hx846_7, hx846_8, hx846_9⟩ := at_T35 (Kd.R_reads' HO_3.out).2.2 x11_3 p846 q846
              obtain rfl : ad845 = ad846 := (by injection e846)
              replace p846 := eq_true p846
              replace q846 := eq_true q846
              have p847 : 0 ≤ (x11_3 : Int) := od_
              have q847 : x11_3 < (t826.length : Int) := od_
              obtain ⟨ad847, e847, hx847_0, hx847_1, hx847_2, hx847_3, hx847_4, hx847_5, hx847_6, hx847_7, hx847_8, hx847_9⟩ := at_T35 (Kd.R_reads' HO_3.out).2.2 x11_3 p847 q847
              obtain rfl : ad845 = ad847 := (by injection e847)
              replace p847 := eq_true p847
              replace q847 := eq_true q847
              refine start_ (n := 30) (S := fun w' => w'.cell? ⟨gb836, 0, none⟩ = some (.int .i64 ((rd_T47 t829 x6_1).f0.f0.f0)) ∧ w'.cell? ⟨gb836, 1, none⟩ = some (.int .i64 ((rd_T47 t829 x6_1).f0.f0.f1)) ∧ w'.cell? ⟨gb836, 2, none⟩ = some (.int .i64 ((rd_T47 t829 x6_1).f0.f1)) ∧ w'.cell? (ad845.add ((x11_3).toNat * 10)) = some (.int .i64 ((rd_T35 t826 x11_3).f0)) ∧ w'.cell? ⟨(ad845.add ((x11_3).toNat * 10)).block, (ad845.add ((x11_3).toNat * 10)).off + 1, none⟩ = some (.int .i64 ((rd_T35 t826 x11_3).f1.f0)) ∧ w'.cell? ⟨(ad845.add ((x11_3).toNat * 10)).block, (ad845.add ((x11_3).toNat * 10)).off + 2, none⟩ = some (.int .i64 ((rd_T35 t826 x11_3).f1.f1)) ∧ w'.cell? ⟨(ad845.add ((x11_3).toNat * 10)).block, (ad845.add ((x11_3).toNat * 10)).off + 3, none⟩ = some (.int .i64 ((rd_T35 t826 x11_3).f2)) ∧ w'.cell? ⟨(ad845.add ((x11_3).toNat * 10)).block, (ad845.add ((x11_3).toNat * 10)).off + 4, none⟩ = some (.int .i64 ((rd_T35 t826 x11_3).f3.f0)) ∧ w'.cell? ⟨(ad845.add ((x11_3).toNat * 10)).block, (ad845.add ((x11_3).toNat * 10)).off + 5, none⟩ = some (.int .i64 ((rd_T35 t826 x11_3).f3.f1)) ∧ w'.cell? ⟨(ad845.add ((x11_3).toNat * 10)).block, (ad845.add ((x11_3).toNat * 10)).off + 6, none⟩ = some (.int .i64 ((rd_T35 t826 x11_3).f4.f0)) ∧ w'.cell? ⟨(ad845.add ((x11_3).toNat * 10)).block, (ad845.add ((x11_3).toNat * 10)).off + 7, none⟩ = some (.int .i64 ((rd_T35 t826 x11_3).f4.f1)) ∧ w'.cell? ⟨(ad845.add ((x11_3).toNat * 10)).block, (ad845.add ((x11_3).toNat * 10)).off + 8, none⟩ = some (.int .i64 ((rd_T35 t826 x11_3).f5)) ∧ w'.cell? ⟨(ad845.add ((x11_3).toNat * 10)).block, (ad845.add ((x11_3).toNat * 10)).off + 9, none⟩ = some (.int .i64 ((rd_T35 t826 x11_3).f6)) ∧ w'.cell? (ad845.add ((x11_3).toNat * 10)) = some (.int .i64 ((rd_T35 t826 x11_3).f0)) ∧ w'.cell? ⟨(ad845.add ((x11_3).toNat * 10)).block, (ad845.add ((x11_3).toNat * 10)).off + 1, none⟩ = some (.int .i64 ((rd_T35 t826 x11_3).f1.f0)) ∧ w'.cell? ⟨(ad845.add ((x11_3).toNat * 10)).block, (ad845.add ((x11_3).toNat * 10)).off + 2, none⟩ = some (.int .i64 ((rd_T35 t826 x11_3).f1.f1)) ∧ w'.cell? ⟨(ad845.add ((x11_3).toNat * 10)).block, (ad845.add ((x11_3).toNat * 10)).off + 3, none⟩ = some (.int .i64 ((rd_T35 t826 x11_3).f2)) ∧ w'.cell? ⟨(ad845.add ((x11_3).toNat * 10)).block, (ad845.add ((x11_3).toNat * 10)).off + 4, none⟩ = some (.int .i64 ((rd_T35 t826 x11_3).f3.f0)) ∧ w'.cell? ⟨(ad845.add ((x11_3).toNat * 10)).block, (ad845.add ((x11_3).toNat * 10)).off + 5, none⟩ = some (.int .i64 ((rd_T35 t826 x11_3).f3.f1)) ∧ w'.cell? ⟨(ad845.add ((x11_3).toNat * 10)).block, (ad845.add ((x11_3).toNat * 10)).off + 6, none⟩ = some (.int .i64 ((rd_T35 t826 x11_3).f4.f0)) ∧ w'.cell? ⟨(ad845.add ((x11_3).toNat * 10)).block, (ad845.add ((x11_3).toNat * 10)).off + 7, none⟩ = some (.int .i64 ((rd_T35 t826 x11_3).f4.f1)) ∧ w'.cell? ⟨(ad845.add ((x11_3).toNat * 10)).block, (ad845.add ((x11_3).toNat * 10)).off + 8, none⟩ = some (.int .i64 ((rd_T35 t826 x11_3).f5)) ∧ w'.cell? ⟨(ad845.add ((x11_3).toNat * 10)).block, (ad845.add ((x11_3).toNat * 10)).off + 9, none⟩ = some (.int .i64 ((rd_T35 t826 x11_3).f6)) ∧ w'.cell? (ad845.add ((x11_3).toNat * 10)) = some (.int .i64 ((rd_T35 t826 x11_3).f0)) ∧ w'.cell? ⟨(ad845.add ((x11_3).toNat * 10)).block, (ad845.add ((x11_3).toNat * 10)).off + 1, none⟩ = some (.int .i64 ((rd_T35 t826 x11_3).f1.f0)) ∧ w'.cell? ⟨(ad845.add ((x11_3).toNat * 10)).block, (ad845.add ((x11_3).toNat * 10)).off + 2, none⟩ = some (.int .i64 ((rd_T35 t826 x11_3).f1.f1)) ∧ w'.cell? ⟨(ad845.add ((x11_3).toNat * 10)).block, (ad845.add ((x11_3).toNat * 10)).off + 3, none⟩ = some (.int .i64 ((rd_T35 t826 x11_3).f2)) ∧ w'.cell? ⟨(ad845.add ((x11_3).toNat * 10)).block, (ad845.add ((x11_3).toNat * 10)).off + 4, none⟩ = some (.int .i64 ((rd_T35 t826 x11_3).f3.f0)) ∧ w'.cell? ⟨(ad845.add ((x11_3).toNat * 10)).block, (ad845.add ((x11_3).toNat * 10)).off + 5, none⟩ = some (.int .i64 ((rd_T35 t826 x11_3).f3.f1)) ∧ w'.cell? ⟨(ad845.add ((x11_3).toNat * 10)).block, (ad845.add ((x11_3).toNat * 10)).off + 6, none⟩ = some (.int .i64 ((rd_T35 t826 x11_3).f4.f0)) ∧ w'.cell? ⟨(ad845.add ((x11_3).toNat * 10)).block, (ad845.add ((x11_3).toNat * 10)).off + 7, none⟩ = some (.int .i64 ((rd_T35 t826 x11_3).f4.f1)) ∧ w'.cell? ⟨(ad845.add ((x11_3).toNat * 10)).block, (ad845.add ((x11_3).toNat * 10)).off + 8, none⟩ = some (.int .i64 ((rd_T35 t826 x11_3).f5)) ∧ w'.cell? ⟨(ad845.add ((x11_3).toNat * 10)).block, (ad845.add ((x11_3).toNat * 10)).off + 9, none⟩ = some (.int .i64 ((rd_T35 t826 x11_3).f6))) (ds := []) (ba_ 30 0) (by kernel_rfl) rfl rfl ⟨(blk_cell BK836.out 0).trans rfl, (blk_cell BK836.out 1).trans rfl, (blk_cell BK836.out 2).trans rfl, hx845_0, hx845_1, hx845_2, hx845_3, hx845_4, hx845_5, hx845_6, hx845_7, hx845_8, hx845_9, hx846_0, hx846_1, hx846_2, hx846_3, hx846_4, hx846_5, hx846_6, hx846_7, hx846_8, hx846_9, hx847_0, hx847_1, hx847_2, hx847_3, hx847_4, hx847_5, hx847_6, hx847_7, hx847_8, hx847_9⟩ (fun hHeld => ?_); refine with_tabW laws_FnLeastEach.tab17 laws_FnLeastEach.bits17 (fun HT_ HW_ => ?_)
              generalize wr.drew = w43 at HO_3 HO_4 HO_5 BK836 HB hx845_0 hx845_1 hx845_2 hx845_3 hx845_4 hx845_5 hx845_6 hx845_7 hx845_8 hx845_9 hx846_0 hx846_1 hx846_2 hx846_3 hx846_4 hx846_5 hx846_6 hx846_7 hx846_8 hx846_9 hx847_0 hx847_1 hx847_2 hx847_3 hx847_4 hx847_5 hx847_6 hx847_7 hx847_8 hx847_9 hHeld ⊢
              refine pz_ 0 79 (ba_ 30 1) (ao_ HT_) ?_
              refine pz_ 1 80 (ba_ 30 3) (ao_ HT_) ?_
              refine pz_ 2 81 (ba_ 30 7) (ao_ HT_) ?_
              refine pz_ 3 82 (ba_ 30 15) (ao_ HT_) ?_
              refine pz_ 4 83 (ba_ 30 31) (ao_ HT_) ?_
              refine pz_ 5 84 (ba_ 30 63) (ao_ HT_) ?_
              refine tz_ 6 85 (ba_ 30 127) (take_ofW HT_.out HW_.out (by kernel_rfl)) hHeld ?_
              refine pz_ 7 86 (ba_ 30 255) (ao_ HT_) ?_
              refine pz_ 8 87 (ba_ 30 511) (ao_ HT_) ?_
              refine pz_ 9 88 (ba_ 30 1023) (ao_ HT_) ?_
              refine pz_ 10 89 (ba_ 30 2047) (ao_ HT_) ?_
              refine pz_ 11 90 (ba_ 30 4095) (ao_ HT_) ?_
              refine pz_ 12 91 (ba_ 30 8191) (ao_ HT_) ?_
              refine pz_ 14 93 (ba_ 30 24575) (ao_ HT_) ?_
              refine tz_ 13 92 (ba_ 30 32767) (take_ofW HT_.out HW_.out (by kernel_rfl)) hHeld ?_
              refine tz_ 15 94 (ba_ 30 65535) (take_ofW HT_.out HW_.out (by kernel_rfl)) hHeld ?_
              refine pz_ 16 95 (ba_ 30 131071) (ao_ HT_) ?_
              refine pz_ 17 96 (ba_ 30 262143) (ao_ HT_) ?_
              refine pz_ 18 97 (ba_ 30 524287) (ao_ HT_) ?_
              refine pz_ 19 98 (ba_ 30 1048575) (ao_ HT_) ?_
              refine pz_ 20 99 (ba_ 30 2097151) (ao_ HT_) ?_
              refine pz_ 21 100 (ba_ 30 4194303) (ao_ HT_) ?_
              refine pz_ 22 101 (ba_ 30 8388607) (ao_ HT_) ?_
              refine pz_ 24 103 (ba_ 30 25165823) (ao_ HT_) ?_
              refine tz_ 23 102 (ba_ 30 33554431) (take_ofW HT_.out HW_.out (by kernel_rfl)) hHeld ?_
              refine tz_ 25 104 (ba_ 30 67108863) (take_ofW HT_.out HW_.out (by kernel_rfl)) hHeld ?_
              refine pz_ 26 105 (ba_ 30 134217727) (ao_ HT_) ?_
              refine pz_ 27 106 (ba_ 30 268435455) (ao_ HT_) ?_
              refine pz_ 28 107 (ba_ 30 536870911) (ao_ HT_) ?_
              refine pz_ 29 10 (ba_ 30 1073741823) (ao_ HT_) ?_
              refine done_ (done_of HT_.out (by kernel_rfl)) ?_
              try go_wp2
              go_roundg k3
              case measure => have := HK1.out; have := HJ14.out; have := HK3.out; omega
              case rel => exact ⟨((((rd_T35 t826 x11_3).f2) == ((rd_T47 t829 x6_1).f0.f1))), (wrap64 (x11_3 + 1)), rf_, rf_, H', ⟨by have := HK1.out; have := HJ14.out; have := HK3.out; omega⟩, ⟨rr_ HO_3⟩, ⟨rr_ HO_4⟩, ⟨rr_ HO_5⟩, ⟨bk_ BK836⟩, ⟨bl_⟩⟩
             ·rw [if_neg c42] at H
              have c42b0 : (((rd_T35 t826 x11_3).f1.f0) == ((rd_T47 t829 x6_1).f0.f0.f0) && (((rd_T35 t826 x11_3).f1.f1) == ((rd_T47 t829 x6_1).f0.f0.f1))) = false := by simpa using c42
              (try (have c42b1 : decide (((rd_T35 t826 x11_3).f1.f0) = ((rd_T47 t829 x6_1).f0.f0.f0) && (((rd_T35 t826 x11_3).f1.f1) == ((rd_T47 t829 x6_1).f0.f0.f1))) = false := by simpa using c42))
              (try (have c42b2 : (((rd_T35 t826 x11_3).f1.f0) == ((rd_T47 t829 x6_1).f0.f0.f0) && (((rd_T35 t826 x11_3).f1.f1) == ((rd_T47 t829 x6_1).f0.f0.f1))) = false := by simpa using c42))
              (try (have c42b3 : ¬ (((rd_T35 t826 x11_3).f1.f0) = ((rd_T47 t829 x6_1).f0.f0.f0) && (((rd_T35 t826 x11_3).f1.f1) == ((rd_T47 t829 x6_1).f0.f0.f1))) := by simpa using c42))
              clear c42
              have H' := aa_ H
              clear H
              try go_wp2
              replace HO_3 := aa_ (Kd.R_drew HO_3.out)
              replace HO_4 := aa_ (Kd.R_drew HO_4.out)
              replace HO_5 := aa_ (Kd.R_drew HO_5.out)
              replace BK836 := aa_ (blk_drew BK836.out)
              replace HB := aa_ (below_drew1 HB.out)
              have p845 : 0 ≤ (x11_3 : Int) := od_
              have q845 : x11_3 < (t826.length : Int) := od_
              obtain ⟨ad845, e845, hx845_0, hx845_1, hx845_2, hx845_3, hx845_4, hx845_5, hx845_6, hx845_7, hx845_8, hx845_9⟩ := at_T35 (Kd.R_reads' HO_3.out).2.2 x11_3 p845 q845
              cases e845
              replace p845 := eq_true p845
              replace q845 := eq_true q845
              have p846 : 0 ≤ (x11_3 : Int) := od_
              have q846 : x11_3 < (t826.length : Int) := od_
              obtain ⟨ad846, e846, hx846_0, hx846_1, hx846_2, hx846_3, hx846_4, hx846_5, hx846_6, hx846_7, hx846_8, hx846_9⟩ := at_T35 (Kd.R_reads' HO_3.out).2.2 x11_3 p846 q846
              obtain rfl : ad845 = ad846 := (by injection e846)
              replace p846 := eq_true p846
              replace q846 := eq_true q846
              refine start_ (n := 30) (S := fun w' => w'.cell? ⟨gb836, 0, none⟩ = some (.int .i64 ((rd_T47 t829 x6_1).f0.f0.f0)) ∧ w'.cell? ⟨gb836, 1, none⟩ = some (.int .i64 ((rd_T47 t829 x6_1).f0.f0.f1)) ∧ w'.cell? ⟨gb836, 2, none⟩ = some (.int .i64 ((rd_T47 t829 x6_1).f0.f1)) ∧ w'.cell? (ad845.add ((x11_3).toNat * 10)) = some (.int .i64 ((rd_T35 t826 x11_3).f0)) ∧ w'.cell? ⟨(ad845.add ((x11_3).toNat * 10)).block, (ad845.add ((x11_3).toNat * 10)).off + 1, none⟩ = some (.int .i64 ((rd_T35 t826 x11_3).f1.f0)) ∧ w'.cell? ⟨(ad845.add ((x11_3).toNat * 10)).block, (ad845.add ((x11_3).toNat * 10)).off + 2, none⟩ = some (.int .i64 ((rd_T35 t826 x11_3).f1.f1)) ∧ w'.cell? ⟨(ad845.add ((x11_3).toNat * 10)).block, (ad845.add ((x11_3).toNat * 10)).off + 3, none⟩ = some (.int .i64 ((rd_T35 t826 x11_3).f2)) ∧ w'.cell? ⟨(ad845.add ((x11_3).toNat * 10)).block, (ad845.add ((x11_3).toNat * 10)).off + 4, none⟩ = some (.int .i64 ((rd_T35 t826 x11_3).f3.f0)) ∧ w'.cell? ⟨(ad845.add ((x11_3).toNat * 10)).block, (ad845.add ((x11_3).toNat * 10)).off + 5, none⟩ = some (.int .i64 ((rd_T35 t826 x11_3).f3.f1)) ∧ w'.cell? ⟨(ad845.add ((x11_3).toNat * 10)).block, (ad845.add ((x11_3).toNat * 10)).off + 6, none⟩ = some (.int .i64 ((rd_T35 t826 x11_3).f4.f0)) ∧ w'.cell? ⟨(ad845.add ((x11_3).toNat * 10)).block, (ad845.add ((x11_3).toNat * 10)).off + 7, none⟩ = some (.int .i64 ((rd_T35 t826 x11_3).f4.f1)) ∧ w'.cell? ⟨(ad845.add ((x11_3).toNat * 10)).block, (ad845.add ((x11_3).toNat * 10)).off + 8, none⟩ = some (.int .i64 ((rd_T35 t826 x11_3).f5)) ∧ w'.cell? ⟨(ad845.add ((x11_3).toNat * 10)).block, (ad845.add ((x11_3).toNat * 10)).off + 9, none⟩ = some (.int .i64 ((rd_T35 t826 x11_3).f6)) ∧ w'.cell? (ad845.add ((x11_3).toNat * 10)) = some (.int .i64 ((rd_T35 t826 x11_3).f0)) ∧ w'.cell? ⟨(ad845.add ((x11_3).toNat * 10)).block, (ad845.add ((x11_3).toNat * 10)).off + 1, none⟩ = some (.int .i64 ((rd_T35 t826 x11_3).f1.f0)) ∧ w'.cell? ⟨(ad845.add ((x11_3).toNat * 10)).block, (ad845.add ((x11_3).toNat * 10)).off + 2, none⟩ = some (.int .i64 ((rd_T35 t826 x11_3).f1.f1)) ∧ w'.cell? ⟨(ad845.add ((x11_3).toNat * 10)).block, (ad845.add ((x11_3).toNat * 10)).off + 3, none⟩ = some (.int .i64 ((rd_T35 t826 x11_3).f2)) ∧ w'.cell? ⟨(ad845.add ((x11_3).toNat * 10)).block, (ad845.add ((x11_3).toNat * 10)).off + 4, none⟩ = some (.int .i64 ((rd_T35 t826 x11_3).f3.f0)) ∧ w'.cell? ⟨(ad845.add ((x11_3).toNat * 10)).block, (ad845.add ((x11_3).toNat * 10)).off + 5, none⟩ = some (.int .i64 ((rd_T35 t826 x11_3).f3.f1)) ∧ w'.cell? ⟨(ad845.add ((x11_3).toNat * 10)).block, (ad845.add ((x11_3).toNat * 10)).off + 6, none⟩ = some (.int .i64 ((rd_T35 t826 x11_3).f4.f0)) ∧ w'.cell? ⟨(ad845.add ((x11_3).toNat * 10)).block, (ad845.add ((x11_3).toNat * 10)).off + 7, none⟩ = some (.int .i64 ((rd_T35 t826 x11_3).f4.f1)) ∧ w'.cell? ⟨(ad845.add ((x11_3).toNat * 10)).block, (ad845.add ((x11_3).toNat * 10)).off + 8, none⟩ = some (.int .i64 ((rd_T35 t826 x11_3).f5)) ∧ w'.cell? ⟨(ad845.add ((x11_3).toNat * 10)).block, (ad845.add ((x11_3).toNat * 10)).off + 9, none⟩ = some (.int .i64 ((rd_T35 t826 x11_3).f6))) (ds := []) (ba_ 30 0) (by kernel_rfl) rfl rfl ⟨(blk_cell BK836.out 0).trans rfl, (blk_cell BK836.out 1).trans rfl, (blk_cell BK836.out 2).trans rfl, hx845_0, hx845_1, hx845_2, hx845_3, hx845_4, hx845_5, hx845_6, hx845_7, hx845_8, hx845_9, hx846_0, hx846_1, hx846_2, hx846_3, hx846_4, hx846_5, hx846_6, hx846_7, hx846_8, hx846_9⟩ (fun hHeld => ?_); refine with_tabW laws_FnLeastEach.tab17 laws_FnLeastEach.bits17 (fun HT_ HW_ => ?_)
              generalize wr.drew = w44 at HO_3 HO_4 HO_5 BK836 HB hx845_0 hx845_1 hx845_2 hx845_3 hx845_4 hx845_5 hx845_6 hx845_7 hx845_8 hx845_9 hx846_0 hx846_1 hx846_2 hx846_3 hx846_4 hx846_5 hx846_6 hx846_7 hx846_8 hx846_9 hHeld ⊢
              refine pz_ 0 79 (ba_ 30 1) (ao_ HT_) ?_
              refine pz_ 1 80 (ba_ 30 3) (ao_ HT_) ?_
              refine pz_ 2 81 (ba_ 30 7) (ao_ HT_) ?_
              refine pz_ 3 82 (ba_ 30 15) (ao_ HT_) ?_
              refine pz_ 4 83 (ba_ 30 31) (ao_ HT_) ?_
              refine pz_ 5 84 (ba_ 30 63) (ao_ HT_) ?_
              refine tz_ 6 85 (ba_ 30 127) (take_ofW HT_.out HW_.out (by kernel_rfl)) hHeld ?_
              refine pz_ 7 86 (ba_ 30 255) (ao_ HT_) ?_
              refine pz_ 8 87 (ba_ 30 511) (ao_ HT_) ?_
              refine pz_ 9 88 (ba_ 30 1023) (ao_ HT_) ?_
              refine pz_ 10 89 (ba_ 30 2047) (ao_ HT_) ?_
              refine pz_ 11 90 (ba_ 30 4095) (ao_ HT_) ?_
              refine pz_ 12 91 (ba_ 30 8191) (ao_ HT_) ?_
              refine pz_ 14 93 (ba_ 30 24575) (ao_ HT_) ?_
              refine tz_ 13 92 (ba_ 30 32767) (take_ofW HT_.out HW_.out (by kernel_rfl)) hHeld ?_
              refine tz_ 15 94 (ba_ 30 65535) (take_ofW HT_.out HW_.out (by kernel_rfl)) hHeld ?_
              refine pz_ 16 95 (ba_ 30 131071) (ao_ HT_) ?_
              refine pz_ 17 96 (ba_ 30 262143) (ao_ HT_) ?_
              refine pz_ 18 97 (ba_ 30 524287) (ao_ HT_) ?_
              refine pv_ 19 98 (a' := ?_) (ba_ 30 1048575) (ao_ HT_) ?_ ?_
              rotate_left
              ·simp only [Act.put, sb_, sz_, ss_, i64_w, i32_w]
               rfl
              refine pv_ 20 99 (a' := ?_) (ba_ 30 2097151) (ao_ HT_) ?_ ?_
              rotate_left
              ·simp only [Act.put, sb_, sz_, ss_, i64_w, i32_w]
               rfl
              refine pv_ 21 100 (a' := ?_) (ba_ 30 4194303) (ao_ HT_) ?_ ?_
              rotate_left
              ·simp only [Act.put, sb_, sz_, ss_, i64_w, i32_w]
               rfl
              refine pv_ 22 101 (a' := ?_) (ba_ 30 8388607) (ao_ HT_) ?_ ?_
              rotate_left
              ·simp only [Act.put, sb_, sz_, ss_, i64_w, i32_w]
               rfl
              refine pv_ 23 102 (a' := ?_) (ba_ 30 16777215) (ao_ HT_) ?_ ?_
              rotate_left
              ·simp only [Act.put, sb_, sz_, ss_, i64_w, i32_w]
               rfl
              refine pv_ 24 103 (a' := ?_) (ba_ 30 33554431) (ao_ HT_) ?_ ?_
              rotate_left
              ·simp only [Act.put, sb_, sz_, ss_, i64_w, i32_w]
               rfl
              refine pv_ 25 104 (a' := ?_) (ba_ 30 67108863) (ao_ HT_) ?_ ?_
              rotate_left
              ·simp only [Act.put, sb_, sz_, ss_, i64_w, i32_w]
               rfl
              refine pv_ 26 105 (a' := ?_) (ba_ 30 134217727) (ao_ HT_) ?_ ?_
              rotate_left
              ·simp only [Act.put, sb_, sz_, ss_, i64_w, i32_w]
               rfl
              refine pz_ 27 106 (ba_ 30 268435455) (ao_ HT_) ?_
              refine pz_ 28 107 (ba_ 30 536870911) (ao_ HT_) ?_
              refine pz_ 29 10 (ba_ 30 1073741823) (ao_ HT_) ?_
              refine done_ (done_of HT_.out (by kernel_rfl)) ?_
              try go_wp2
              go_roundg k3
              case measure => have := HK1.out; have := HJ14.out; have := HK3.out; omega
              case rel => exact ⟨(false), (wrap64 (x11_3 + 1)), rf_, rf_, H', ⟨by have := HK1.out; have := HJ14.out; have := HK3.out; omega⟩, ⟨rr_ HO_3⟩, ⟨rr_ HO_4⟩, ⟨rr_ HO_5⟩, ⟨bk_ BK836⟩, ⟨bl_⟩⟩
            ·rw [if_neg c41] at H
             have c41b0 : (((rd_T35 t826 x11_3).f0) == 1) = false := beq_eq_false_iff_ne.mpr c41
             have c41b1 : (((rd_T35 t826 x11_3).f0) != 1) = true := bne_iff_ne.mpr c41
             have H' := aa_ H
             clear H
             try go_wp2
             replace HO_3 := aa_ (Kd.R_drew HO_3.out)
             replace HO_4 := aa_ (Kd.R_drew HO_4.out)
             replace HO_5 := aa_ (Kd.R_drew HO_5.out)
             replace BK836 := aa_ (blk_drew BK836.out)
             replace HB := aa_ (below_drew1 HB.out)
             have p845 : 0 ≤ (x11_3 : Int) := od_
             have q845 : x11_3 < (t826.length : Int) := od_
             obtain ⟨ad845, e845, hx845_0, hx845_1, hx845_2, hx845_3, hx845_4, hx845_5, hx845_6, hx845_7, hx845_8, hx845_9⟩ := at_T35 (Kd.R_reads' HO_3.out).2.2 x11_3 p845 q845
             cases e845
             replace p845 := eq_true p845
             replace q845 := eq_true q845
             refine start_ (n := 30) (S := fun w' => w'.cell? (ad845.add ((x11_3).toNat * 10)) = some (.int .i64 ((rd_T35 t826 x11_3).f0)) ∧ w'.cell? ⟨(ad845.add ((x11_3).toNat * 10)).block, (ad845.add ((x11_3).toNat * 10)).off + 1, none⟩ = some (.int .i64 ((rd_T35 t826 x11_3).f1.f0)) ∧ w'.cell? ⟨(ad845.add ((x11_3).toNat * 10)).block, (ad845.add ((x11_3).toNat * 10)).off + 2, none⟩ = some (.int .i64 ((rd_T35 t826 x11_3).f1.f1)) ∧ w'.cell? ⟨(ad845.add ((x11_3).toNat * 10)).block, (ad845.add ((x11_3).toNat * 10)).off + 3, none⟩ = some (.int .i64 ((rd_T35 t826 x11_3).f2)) ∧ w'.cell? ⟨(ad845.add ((x11_3).toNat * 10)).block, (ad845.add ((x11_3).toNat * 10)).off + 4, none⟩ = some (.int .i64 ((rd_T35 t826 x11_3).f3.f0)) ∧ w'.cell? ⟨(ad845.add ((x11_3).toNat * 10)).block, (ad845.add ((x11_3).toNat * 10)).off + 5, none⟩ = some (.int .i64 ((rd_T35 t826 x11_3).f3.f1)) ∧ w'.cell? ⟨(ad845.add ((x11_3).toNat * 10)).block, (ad845.add ((x11_3).toNat * 10)).off + 6, none⟩ = some (.int .i64 ((rd_T35 t826 x11_3).f4.f0)) ∧ w'.cell? ⟨(ad845.add ((x11_3).toNat * 10)).block, (ad845.add ((x11_3).toNat * 10)).off + 7, none⟩ = some (.int .i64 ((rd_T35 t826 x11_3).f4.f1)) ∧ w'.cell? ⟨(ad845.add ((x11_3).toNat * 10)).block, (ad845.add ((x11_3).toNat * 10)).off + 8, none⟩ = some (.int .i64 ((rd_T35 t826 x11_3).f5)) ∧ w'.cell? ⟨(ad845.add ((x11_3).toNat * 10)).block, (ad845.add ((x11_3).toNat * 10)).off + 9, none⟩ = some (.int .i64 ((rd_T35 t826 x11_3).f6))) (ds := []) (ba_ 30 0) (by kernel_rfl) rfl rfl ⟨hx845_0, hx845_1, hx845_2, hx845_3, hx845_4, hx845_5, hx845_6, hx845_7, hx845_8, hx845_9⟩ (fun hHeld => ?_); refine with_tabW laws_FnLeastEach.tab17 laws_FnLeastEach.bits17 (fun HT_ HW_ => ?_)
             generalize wr.drew = w45 at HO_3 HO_4 HO_5 BK836 HB hx845_0 hx845_1 hx845_2 hx845_3 hx845_4 hx845_5 hx845_6 hx845_7 hx845_8 hx845_9 hHeld ⊢
             refine pz_ 0 79 (ba_ 30 1) (ao_ HT_) ?_
             refine pz_ 1 80 (ba_ 30 3) (ao_ HT_) ?_
             refine pz_ 2 81 (ba_ 30 7) (ao_ HT_) ?_
             refine pz_ 3 82 (ba_ 30 15) (ao_ HT_) ?_
             refine pz_ 4 83 (ba_ 30 31) (ao_ HT_) ?_
             refine pz_ 5 84 (ba_ 30 63) (ao_ HT_) ?_
             refine tz_ 6 85 (ba_ 30 127) (take_ofW HT_.out HW_.out (by kernel_rfl)) hHeld ?_
             refine pz_ 7 86 (ba_ 30 255) (ao_ HT_) ?_
             refine pz_ 8 87 (ba_ 30 511) (ao_ HT_) ?_
             refine pv_ 9 88 (a' := ?_) (ba_ 30 1023) (ao_ HT_) ?_ ?_
             rotate_left
             ·simp only [Act.put, sb_, sz_, ss_, i64_w, i32_w]
              rfl
             refine pv_ 10 89 (a' := ?_) (ba_ 30 2047) (ao_ HT_) ?_ ?_
             rotate_left
             ·simp only [Act.put, sb_, sz_, ss_, i64_w, i32_w]
              rfl
             refine pv_ 11 90 (a' := ?_) (ba_ 30 4095) (ao_ HT_) ?_ ?_
             rotate_left
             ·simp only [Act.put, sb_, sz_, ss_, i64_w, i32_w]
              rfl
             refine pv_ 12 91 (a' := ?_) (ba_ 30 8191) (ao_ HT_) ?_ ?_
             rotate_left
             ·simp only [Act.put, sb_, sz_, ss_, i64_w, i32_w]
              rfl
             refine pv_ 13 92 (a' := ?_) (ba_ 30 16383) (ao_ HT_) ?_ ?_
             rotate_left
             ·simp only [Act.put, sb_, sz_, ss_, i64_w, i32_w]
              rfl
             refine pv_ 14 93 (a' := ?_) (ba_ 30 32767) (ao_ HT_) ?_ ?_
             rotate_left
             ·simp only [Act.put, sb_, sz_, ss_, i64_w, i32_w]
              rfl
             refine pv_ 15 94 (a' := ?_) (ba_ 30 65535) (ao_ HT_) ?_ ?_
             rotate_left
             ·simp only [Act.put, sb_, sz_, ss_, i64_w, i32_w]
              rfl
             refine pv_ 16 95 (a' := ?_) (ba_ 30 131071) (ao_ HT_) ?_ ?_
             rotate_left
             ·simp only [Act.put, sb_, sz_, ss_, i64_w, i32_w]
              rfl
             refine pz_ 17 96 (ba_ 30 262143) (ao_ HT_) ?_
             refine pz_ 18 97 (ba_ 30 524287) (ao_ HT_) ?_
             refine pv_ 19 98 (a' := ?_) (ba_ 30 1048575) (ao_ HT_) ?_ ?_
             rotate_left
             ·simp only [Act.put, sb_, sz_, ss_, i64_w, i32_w]
              rfl
             refine pv_ 20 99 (a' := ?_) (ba_ 30 2097151) (ao_ HT_) ?_ ?_
             rotate_left
             ·simp only [Act.put, sb_, sz_, ss_, i64_w, i32_w]
              rfl
             refine pv_ 21 100 (a' := ?_) (ba_ 30 4194303) (ao_ HT_) ?_ ?_
             rotate_left
             ·simp only [Act.put, sb_, sz_, ss_, i64_w, i32_w]
              rfl
             refine pv_ 22 101 (a' := ?_) (ba_ 30 8388607) (ao_ HT_) ?_ ?_
             rotate_left
             ·simp only [Act.put, sb_, sz_, ss_, i64_w, i32_w]
              rfl
             refine pv_ 23 102 (a' := ?_) (ba_ 30 16777215) (ao_ HT_) ?_ ?_
             rotate_left
             ·simp only [Act.put, sb_, sz_, ss_, i64_w, i32_w]
              rfl
             refine pv_ 24 103 (a' := ?_) (ba_ 30 33554431) (ao_ HT_) ?_ ?_
             rotate_left
             ·simp only [Act.put, sb_, sz_, ss_, i64_w, i32_w]
              rfl
             refine pv_ 25 104 (a' := ?_) (ba_ 30 67108863) (ao_ HT_) ?_ ?_
             rotate_left
             ·simp only [Act.put, sb_, sz_, ss_, i64_w, i32_w]
              rfl
             refine pv_ 26 105 (a' := ?_) (ba_ 30 134217727) (ao_ HT_) ?_ ?_
             rotate_left
             ·simp only [Act.put, sb_, sz_, ss_, i64_w, i32_w]
              rfl
             refine pz_ 27 106 (ba_ 30 268435455) (ao_ HT_) ?_
             refine pz_ 28 107 (ba_ 30 536870911) (ao_ HT_) ?_
             refine pz_ 29 10 (ba_ 30 1073741823) (ao_ HT_) ?_
             refine done_ (done_of HT_.out (by kernel_rfl)) ?_
             try go_wp2
             go_roundg k3
             case measure => have := HK1.out; have := HJ14.out; have := HK3.out; omega
             case rel => exact ⟨(false), (wrap64 (x11_3 + 1)), rf_, rf_, H', ⟨by have := HK1.out; have := HJ14.out; have := HK3.out; omega⟩, ⟨rr_ HO_3⟩, ⟨rr_ HO_4⟩, ⟨rr_ HO_5⟩, ⟨bk_ BK836⟩, ⟨bl_⟩⟩
          ·rw [if_neg c37] at H
           have c37b0 : decide (x11_3 < (t826.length : Int)) = false := decide_eq_false c37
           clear c37
           obtain ⟨c46b0, H⟩ := ifd_ H
           obtain ⟨c47b0, H⟩ := ifd_ H
           have HC48 := aa_ H
           clear H
           have p848 : 0 ≤ (x6_1 : Int) := od_
           have q848 : x6_1 < (t829.length : Int) := od_
           obtain ⟨ad848, e848, hx848_0, hx848_1, hx848_2, hx848_3⟩ := at_T47 (Kd.R_reads' HO_4.out).2.2 x6_1 p848 q848
           obtain rfl : ad835 = ad848 := (by injection e848)
           replace p848 := eq_true p848
           replace q848 := eq_true q848
           go_upto_if 115 with (fail)
           have H := HC48.out
           clear HC48
           by_cases c49 : (x10_3 != (((rd_T47 t829 x6_1).f1) == 1)) = true
           ·rw [if_pos c49] at H
            have c49b0 : (x10_3 != (((rd_T47 t829 x6_1).f1) == 1)) = true := c49
            (try (have c49b1 : decide (x10_3 = (((rd_T47 t829 x6_1).f1) == 1)) = false := by simpa using c49))
            (try (have c49b2 : (x10_3 == (((rd_T47 t829 x6_1).f1) == 1)) = false := by simpa using c49))
            (try (have c49b3 : ¬ (x10_3 = (((rd_T47 t829 x6_1).f1) == 1)) := by simpa using c49))
            clear c49
            (first | rw [c49b0] | (simp only [i64_w, i32_w]; rw [c49b0]) | skip)
            exact absurd (Option.some.inj (H.trans (congrArg some hr_))) (by decide)
           ·rw [if_neg c49] at H
            have c49b0 : (x10_3 != (((rd_T47 t829 x6_1).f1) == 1)) = false := by simpa using c49
            (try (have c49b1 : decide (x10_3 = (((rd_T47 t829 x6_1).f1) == 1)) = true := by simpa using c49))
            (try (have c49b2 : (x10_3 == (((rd_T47 t829 x6_1).f1) == 1)) = true := by simpa using c49))
            (try (have c49b5 : (!(x10_3 == (((rd_T47 t829 x6_1).f1) == 1))) = false := by rw [c49b2]; rfl))
            clear c49
            (first | rw [c49b5] | rw [c49b0] | (simp only [i64_w, i32_w]; rw [c49b0]) | skip)
            have H' := aa_ H
            clear H
            go_wp2
            go_roundg k3
            case measure => have := HK1.out; have := HJ14.out; have := HK3.out; omega
            case rel => exact ⟨(wrap64 (x6_1 + 1)), rf_, H', ⟨by have := HK1.out; have := HJ14.out; have := HK3.out; omega⟩, ⟨rr_ HO_3⟩, ⟨rr_ HO_4⟩, ⟨by (with_reducible repeat (first | apply Kd.R_alloc | apply Kd.R_drewN | apply Kd.R_drew)); exact Kd.R_mono HO_5.out (fun _ hk => trivial)⟩, ⟨bl_⟩⟩
    ·rw [if_neg c12] at H
     have c12b0 : decide (x6_1 < (t829.length : Int)) = false := decide_eq_false c12
     clear c12
     (first | rw [c12b0] | (simp only [i64_w, i32_w]; rw [c12b0]) | (have cz_ := c12b0; simp only [Int.ofNat_lt, Int.ofNat_le, gt_iff_lt, ge_iff_le] at cz_; rw [cz_]; clear cz_) | skip)
     obtain rfl := Option.some.inj H
     obtain ⟨Ao50, co50, eo50⟩ := Kd.R_slice HO_4.out
     subst eo50
     obtain ⟨Ao51, co51, eo51⟩ := Kd.R_slice HO_5.out
     subst eo51
     go_wp2
     go_ret
     exact ⟨eq_, bl_⟩
end Go.Proofs.Ytljhfomkakhflaa.PA
