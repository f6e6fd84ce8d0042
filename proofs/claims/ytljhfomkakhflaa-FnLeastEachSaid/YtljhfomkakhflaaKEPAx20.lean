import Derived.Test.YtljhfomkakhflaaKEPAx10
-- printed by wip/tools
namespace Go.Proofs.Ytljhfomkakhflaa.PA
open Go.RowKit Go.Proofs.YtljhfomkakhflaaW.PrintWords Go.Proofs.YtljhfomkakhflaaW.PrintLast Go.Proofs.YtljhfomkakhflaaW.PrintMore
attribute [local go_sem] max2_int min2_int max_two min_two max_three min_three max_four min_four
set_option linter.unusedVariables false
set_option linter.unusedSimpArgs false
attribute [local go_sem high] eqA28
def impl_CostsOf.l0 : Nat → List Int → List (S47) → List (S28) → Int → Int → Option ((List (S47)))
 | 0, _, _, _, _, _ => none
 | k + 1, x4, x5, x14, x15, x16 => if x16 < x15 then (if 0 ≤ x16 then (if x16 < (x14.length : Int) then (if x16 < (x4.length : Int) then (if x5.length < 4398046511104 then (impl_CostsOf.l0 k x4 (x5 ++ [(⟨(⟨(⟨(rd_T28 x14 x16).f0.f0, (rd_T28 x14 x16).f0.f1⟩ : S26), (rd_T28 x14 x16).f1⟩ : S28), rd x4 x16⟩ : S47)]) x14 x15 (wrap64 (x16 + 1))) else (none)) else (none)) else (none)) else (none)) else (some x5)
def impl_CostsOf.f (k : Nat) (l0 : List (S35)) : Option ((List (S47))) := (impl_FactsOf.f k l0).bind fun t646 => ((impl_costs.f k l0 t646).bind fun t649 => (impl_CostsOf.l0 k t649 (([] : List (S47))) t646 (t646.length : Int) 0))
def impl_CostsOf.T7 : Bool × List (List Nat × List Nat) := (true, [([], []), ([], []), ([], []), ([], []), ([2, 3], [2, 3]), ([4], [4]), ([1, 5], [1, 5]), ([6], [6]), ([0, 7], [0, 7]), ([8, 8, 0, 1, 2, 3, 4, 5, 6, 7, 8], [0, 8])])
def impl_CostsOf.B7 : List Nat := [0, 0, 0, 0, 12, 28, 62, 126, 255, 511]
theorem impl_CostsOf.tab7 : rtab .any (opsOf Try.f11 7) = impl_CostsOf.T7 := by kernel_rfl
theorem impl_CostsOf.bits7 : waitsOk impl_CostsOf.T7.2 impl_CostsOf.B7 = true := by kernel_rfl
set_option maxHeartbeats 8000000 in
set_option maxRecDepth 100000 in
theorem impl_CostsOf.calls (k : Nat) (A0 : Option Addr) (c0 : Nat) (l0 : List (S35)) (r : List (S47)) (w : World) (hr0 : Kd.C k35 w A0 l0.length l0) (hc0 : l0.length ≤ c0) (h : impl_CostsOf.f k l0 = some r) :
  Calls Try.prog 11 #[.slice A0 l0.length c0] w fun e w' => ∃ v0_ : Value, e = .returned (v0_) ∧ Kd.R k47 47 w' w.heap.size (fun _ => True) v0_ r ∧ Below w.heap.size w w' := by
 have hu28 := Try.underlying28
 have hu47 := Try.underlying47
 have HR0 := aa_ hr0
 have HC0 := aa_ hc0
 clear hr0 hc0
 have HB := aa_ (Below.refl w.heap.size w)
 have H : ((impl_FactsOf.f k l0).bind fun t646 => ((impl_costs.f k l0 t646).bind fun t649 => (impl_CostsOf.l0 k t649 (([] : List (S47))) t646 (t646.length : Int) 0))) = some r := h
 clear h
 obtain ⟨t646, A2, H⟩ := bindE_ H
 obtain ⟨t649, A3, H⟩ := bindE_ H
 obtain ⟨y652, hy652⟩ : ∃ y_ : List (S47), y_ = (([] : List (S47))) := ⟨_, rfl⟩
 replace H : (impl_CostsOf.l0 k t649 y652 t646 (t646.length : Int) 0) = some r := rh_ hy652 H
 have Ny652 := aa_ hy652
 clear hy652
 have H' := aa_ H
 clear H
 go_enter Try.func11, Try.ntmps11
 go_wp2_with (first | ((with_reducible refine gC_ 21 rfl ?_); refine goesC_ (some 9) Try.func21 #[.slice A0 l0.length c0] ?_; (with_reducible refine (impl_FactsOf.calls k _ _ l0 t646 _ ?side1 ?side2 A2.out).mono ?_); (case side1 => exact cc_ HR0); (case side2 => exact HC0.out); rintro e w4 ⟨v647, rfl, ho0, hb⟩; refine ⟨_, rfl, ?_⟩; have HO648 := aa_ (Kd.R_lower ho0 bls_); replace HB := hbs_ hb; (try clear hb ho0); obtain ⟨Ao5, co5, eo5⟩ := Kd.R_slice HO648.out; subst eo5) | ((with_reducible refine gC_ 23 rfl ?_); refine goesC_ (some 12) Try.func23 #[.slice A0 l0.length c0, .slice Ao5 t646.length co5] ?_; (with_reducible refine (impl_costs.calls k _ _ l0 _ _ t646 t649 _ ?side1 ?side2 ?side3 ?side4 A3.out).mono ?_); (case side1 => repeat (first | exact (Kd.C_below HR0.out HB.out) | (with_reducible refine Kd.C_alloc ?_ _) | (with_reducible refine Kd.C_drewN ?_ _) | (with_reducible refine Kd.C_drew ?_))); (case side2 => exact HC0.out); (case side3 => repeat (first | exact (Kd.R_reads' HO648.out).2.2 | (with_reducible refine Kd.C_alloc ?_ _) | (with_reducible refine Kd.C_drewN ?_ _) | (with_reducible refine Kd.C_drew ?_))); (case side4 => exact (Kd.R_reads' HO648.out).2.1); rintro e w6 ⟨v650, rfl, ho0, hb⟩; refine ⟨_, rfl, ?_⟩; replace HO648 := hob_ HO648 hb; have HO651 := aa_ (Kd.R_lower ho0 bls_); replace HB := hbs_ hb; (try clear hb ho0)) | ((with_reducible refine gD_ 13 rfl ?_); refine Kd.R_lit k47 _ 47 ?hg (N := 13) ?hd (xs := ([] : List (S47))) (inner := []) (ok := fun _ => True) (okp := fun _ => True) ?hr ?hp (fun _ hk => hk) trivial (Below.refl _ _) (Nat.le_refl _) (by simp) ?_; (case hd => rfl); (case hg => rfl); (case hr => first | (go_simp; done) | (go_simp; rfl)); (case hp => exact (Reps.none _ _)); intro v653 w7 ho8 hb hg_ hnew_; clear hg_ hnew_; (first | rw [← Ny652.out] at ho8 | (simp only [Int.reduceToNat] at ho8; rw [← Ny652.out] at ho8)); replace HO648 := hob_ HO648 hb; replace HO651 := hob_ HO651 hb; have HO654 := aa_ (Kd.R_lower ho8 bls_); replace HB := hbs_ hb; clear hb ho8))
 go_loopg [5, 16] k (fun kq v5 v16 w' => ∃ (x5_1 : List (S47)) (x16_1 : Int), v16 = .int .i64 x16_1 ∧ Aside0 (impl_CostsOf.l0 kq t649 x5_1 t646 (t646.length : Int) x16_1 = some r) ∧ Aside0 (kq ≤ k) ∧ Aside0 (Kd.R (Kd.int .i64) 3 w' w.heap.size (fun _ => True) v650 t649) ∧ Aside0 (Kd.R k47 47 w' w.heap.size (fun _ => True) v5 x5_1) ∧ Aside0 (Kd.R k28 28 w' w.heap.size (fun _ => True) (.slice Ao5 t646.length co5) t646) ∧ Aside0 (Below w.heap.size w w'))
 case atStart => exact ⟨(y652), (0), rf_, H', ⟨Nat.le_refl _⟩, ⟨rr_ HO651⟩, ⟨rr_ HO654⟩, ⟨rr_ HO648⟩, ⟨bl_⟩⟩
 case round =>
  clear H'
  try clear p2
  obtain ⟨x5_1, x16_1, rfl, HA, HK1, HO_4, HO_5, HO_14, HB⟩ := hrel
  cases gk with
  | zero => exact absurd HA.out (by simp [impl_CostsOf.l0])
  | succ k1 =>
   have H := HA.out
   clear HA
   simp only [impl_CostsOf.l0] at H
   by_cases c9 : x16_1 < (t646.length : Int)
   ·rw [if_pos c9] at H
    have c9b0 : decide (x16_1 < (t646.length : Int)) = true := decide_eq_true c9
    clear c9
    obtain ⟨c10b0, H⟩ := ifd_ H
    obtain ⟨c11b0, H⟩ := ifd_ H
    obtain ⟨c12b0, H⟩ := ifd_ H
    obtain ⟨c13, H⟩ := ifn_ H
    have LMc13 := aa_ c13
    clear c13
    obtain ⟨y658, hy658⟩ : ∃ y_ : List (S47), y_ = (x5_1 ++ [(⟨(⟨(⟨(rd_T28 t646 x16_1).f0.f0, (rd_T28 t646 x16_1).f0.f1⟩ : S26), (rd_T28 t646 x16_1).f1⟩ : S28), rd t649 x16_1⟩ : S47)]) := ⟨_, rfl⟩
    replace H : (impl_CostsOf.l0 k1 t649 y658 t646 (t646.length : Int) (wrap64 (x16_1 + 1))) = some r := rh_ hy658 H
    have Ny658 := aa_ hy658
    clear hy658
    have H' := aa_ H
    clear H
    have p655 : 0 ≤ (x16_1 : Int) := od_
    have q655 : x16_1 < (t646.length : Int) := od_
    obtain ⟨ad655, e655, hx655_0, hx655_1, hx655_2⟩ := at_T28 (Kd.R_reads' HO_14.out).2.2 x16_1 p655 q655
    cases e655
    replace p655 := eq_true p655
    replace q655 := eq_true q655
    try go_wp2_with (first | ((with_reducible refine gD_ 7 rfl ?_); refine bx_ (N := 7) (cs := #[.int .i64 0, .int .i64 0, .int .i64 0]) (t := 28) ?_; intro gb656 hg w14 hbox hb; replace HO_4 := hob_ HO_4 hb; replace HO_5 := hob_ HO_5 hb; replace HO_14 := aa_ (Kd.R_below (Kd.R_elderB (rr_ HO_14) gb656 (Nat.le_of_eq hg.symm)) hb); have BK656 := aa_ (hbox); have GW656 := gs_ hg; have GE656 := gs_ hg; replace HB := hbs_ hb; clear hb hbox hg; obtain ⟨hcz15, hfz15⟩ := bcf_ BK656))
    have n0_ : Aside0 (Kd.R (Kd.int .i64) 3 (((w14.setCell ⟨gb656, 0, none⟩ (.int .i64 ((rd_T28 t646 x16_1).f0.f0))).setCell ⟨gb656, 1, none⟩ (.int .i64 ((rd_T28 t646 x16_1).f0.f1))).setCell ⟨gb656, 2, none⟩ (.int .i64 ((rd_T28 t646 x16_1).f1))) w.heap.size (fun _ => True) v650 t649) := ⟨by (with_reducible repeat (first | apply Kd.R_alloc | apply Kd.R_drewN | apply Kd.R_drew)); exact Kd.R_mono (fr3_ (Kd.R_types HO_4.out BK656.out (by decide)) (fun _ hk => hk.2)) (fun _ hk => trivial)⟩
    have n1_ : Aside0 (Kd.R k47 47 (((w14.setCell ⟨gb656, 0, none⟩ (.int .i64 ((rd_T28 t646 x16_1).f0.f0))).setCell ⟨gb656, 1, none⟩ (.int .i64 ((rd_T28 t646 x16_1).f0.f1))).setCell ⟨gb656, 2, none⟩ (.int .i64 ((rd_T28 t646 x16_1).f1))) w.heap.size (fun _ => True) u5 x5_1) := ⟨by (with_reducible repeat (first | apply Kd.R_alloc | apply Kd.R_drewN | apply Kd.R_drew)); exact Kd.R_mono (fr3_ (Kd.R_types HO_5.out BK656.out (by decide)) (fun _ hk => hk.2)) (fun _ hk => trivial)⟩
    have n2_ : Aside0 (Kd.R k28 28 (((w14.setCell ⟨gb656, 0, none⟩ (.int .i64 ((rd_T28 t646 x16_1).f0.f0))).setCell ⟨gb656, 1, none⟩ (.int .i64 ((rd_T28 t646 x16_1).f0.f1))).setCell ⟨gb656, 2, none⟩ (.int .i64 ((rd_T28 t646 x16_1).f1))) w.heap.size (fun k_ => k_ ≠ gb656) (.slice (some ad655) t646.length co5) t646) := ⟨by (with_reducible repeat (first | apply Kd.R_alloc | apply Kd.R_drewN | apply Kd.R_drew)); exact Kd.R_mono (fr3_ (Kd.R_mono HO_14.out (fun k_ hk => (⟨hk, hk.2⟩ : _ ∧ k_ ≠ gb656))) (fun _ hk => hk.2)) (fun _ hk => hk.1.2)⟩
    have n3_ : Aside0 ((((w14.setCell ⟨gb656, 0, none⟩ (.int .i64 ((rd_T28 t646 x16_1).f0.f0))).setCell ⟨gb656, 1, none⟩ (.int .i64 ((rd_T28 t646 x16_1).f0.f1))).setCell ⟨gb656, 2, none⟩ (.int .i64 ((rd_T28 t646 x16_1).f1))).heap[gb656]? = some (.cells #[.int .i64 ((rd_T28 t646 x16_1).f0.f0), .int .i64 ((rd_T28 t646 x16_1).f0.f1), .int .i64 ((rd_T28 t646 x16_1).f1)] 28 (0, 0))) := ⟨bk_ BK656⟩
    have n4_ : Aside0 (Below w.heap.size w (((w14.setCell ⟨gb656, 0, none⟩ (.int .i64 ((rd_T28 t646 x16_1).f0.f0))).setCell ⟨gb656, 1, none⟩ (.int .i64 ((rd_T28 t646 x16_1).f0.f1))).setCell ⟨gb656, 2, none⟩ (.int .i64 ((rd_T28 t646 x16_1).f1)))) := ⟨bl_⟩
    (try clear HO_4)
    (try clear HO_5)
    (try clear HO_14)
    (try clear BK656)
    (try clear HB)
    generalize (((w14.setCell ⟨gb656, 0, none⟩ (.int .i64 ((rd_T28 t646 x16_1).f0.f0))).setCell ⟨gb656, 1, none⟩ (.int .i64 ((rd_T28 t646 x16_1).f0.f1))).setCell ⟨gb656, 2, none⟩ (.int .i64 ((rd_T28 t646 x16_1).f1))) = w16 at n0_ n1_ n2_ n3_ n4_ ⊢
    have HO_4 := n0_
    have HO_5 := n1_
    have HO_14 := n2_
    have BK656 := n3_
    have HB := n4_
    clear n0_ n1_ n2_ n3_ n4_
    replace HO_4 := aa_ (Kd.R_drew HO_4.out)
    replace HO_5 := aa_ (Kd.R_drew HO_5.out)
    replace HO_14 := aa_ (Kd.R_drew HO_14.out)
    replace BK656 := aa_ (blk_drew BK656.out)
    replace HB := aa_ (below_drew1 HB.out)
    obtain ⟨Ao18, co18, eo18⟩ := Kd.R_slice HO_4.out
    (first | subst eo18 | (injection eo18 with f1_ f2_ f3_; have f4_ := f1_.symm; have f5_ := f3_.symm; clear f1_ f2_ f3_; subst f4_; subst f5_))
    have p657 : 0 ≤ (x16_1 : Int) := od_
    have q657 : x16_1 < (t649.length : Int) := od_
    obtain ⟨ad657, e657, hx657_0⟩ := Kd.at_int (Kd.R_reads' HO_4.out).2.2 x16_1 p657 q657
    cases e657
    replace p657 := eq_true p657
    replace q657 := eq_true q657
    refine start_ (n := 10) (S := fun w' => w'.cell? ⟨gb656, 0, none⟩ = some (.int .i64 ((rd_T28 t646 x16_1).f0.f0)) ∧ w'.cell? ⟨gb656, 1, none⟩ = some (.int .i64 ((rd_T28 t646 x16_1).f0.f1)) ∧ w'.cell? ⟨gb656, 2, none⟩ = some (.int .i64 ((rd_T28 t646 x16_1).f1)) ∧ w'.cell? (ad657.add (x16_1).toNat) = some (.int .i64 (rd t649 x16_1))) (ds := [7, 8]) (ba_ 10 0) (by kernel_rfl) rfl rfl ⟨(blk_cell BK656.out 0).trans rfl, (blk_cell BK656.out 1).trans rfl, (blk_cell BK656.out 2).trans rfl, hx657_0⟩ (fun hHeld => ?_); refine with_tabW impl_CostsOf.tab7 impl_CostsOf.bits7 (fun HT_ HW_ => ?_)
    generalize w16.drew = w17 at HO_4 HO_5 HO_14 BK656 HB hx657_0 hHeld ⊢
    refine pz_ 0 21 (ba_ 10 1) (ao_ HT_) ?_
    refine pz_ 2 23 (ba_ 10 5) (ao_ HT_) ?_
    refine pz_ 3 24 (ba_ 10 13) (ao_ HT_) ?_
    refine pz_ 4 25 (ba_ 10 29) (ao_ HT_) ?_
    refine tz_ 1 22 (ba_ 10 31) (take_ofW HT_.out HW_.out (by kernel_rfl)) hHeld ?_
    refine tz_ 5 26 (ba_ 10 63) (take_ofW HT_.out HW_.out (by kernel_rfl)) hHeld ?_
    refine pz_ 6 27 (ba_ 10 127) (ao_ HT_) ?_
    refine last_ (i := 7) (N := some 28) (ba_ 10 255) rfl rfl (one_of HT_.out (by kernel_rfl)) (by decide) (fun K hK => ?_)
    refine value_ (w1 := ?_) (v := ?_) (by rfl) rfl ?_ ?_
    rotate_left 2
    ·go_simp
     constructor
     ·rfl
     ·rfl
    refine hK.out _ _ ?_
    clear hK K
    refine norm_ (a' := ?_) ?_ ?_
    rotate_left
    ·show Act.put _ (some 28) _ = _
     simp only [Act.put, sb_, sz_, ss_, i64_w, i32_w]
     rfl
    refine last_ (i := 8) (N := some 29) (ba_ 10 511) rfl rfl (one_of HT_.out (by kernel_rfl)) (by decide) (fun K hK => ?_)
    refine Kd.R_append_step k47 (w0 := w) w.heap.size (by rfl) (.tmp 21) (.tmp 28) 38 47 (.agg #[(.int .i64 0), (.int .i64 0), (.int .i64 0), (.int .i64 0)]) 32 rfl Try.underlying38 info47 rfl (by decide) (by omega) u5 x5_1 (⟨(⟨(⟨(rd_T28 t646 x16_1).f0.f0, (rd_T28 t646 x16_1).f0.f1⟩ : S26), (rd_T28 t646 x16_1).f1⟩ : S28), rd t649 x16_1⟩ : S47) [.int .i64 ((rd_T28 t646 x16_1).f0.f0), .int .i64 ((rd_T28 t646 x16_1).f0.f1), .int .i64 ((rd_T28 t646 x16_1).f1), .int .i64 (rd t649 x16_1)] (fun _ => True) (fun _ => False) rfl rfl ?aP (fun _ hk => hk.elim) ?aF ?aO ?aB ?aS ?aL ?_
    (case aP => exact k47_mkM _ _ _ (⟨(⟨(⟨(rd_T28 t646 x16_1).f0.f0, (rd_T28 t646 x16_1).f0.f1⟩ : S26), (rd_T28 t646 x16_1).f1⟩ : S28), rd t649 x16_1⟩ : S47))
    (case aB => exact bl_)
    (case aF => exact (fun _ _ => trivial))
    (case aO => exact (rr_ HO_5))
    (case aS => exact bls_)
    (case aL => have := LMc13.out; omega)
    intro v659 w19 ho hb hg hat
    rw [← Ny658.out] at ho
    replace HO_4 := aa_ (Kd.R_over' (rr_ HO_4) (Kd.R_typed (rr_ HO_5)) (by decide) hg)
    replace HO_14 := aa_ (Kd.R_over' (rr_ HO_14) (Kd.R_typed (rr_ HO_5)) (by decide) hg)
    replace BK656 := aa_ (blk_grown (g := gb656) (o := .cells #[.int .i64 ((rd_T28 t646 x16_1).f0.f0), .int .i64 ((rd_T28 t646 x16_1).f0.f1), .int .i64 ((rd_T28 t646 x16_1).f1)] 28 (0, 0)) (bk_ BK656) hg (Kd.R_ne HO_5.out BK656.out (by decide)))
    replace HB := aa_ (hb)
    have HO660 := aa_ (ho)
    clear HO_5
    clear ho hb hg hat
    refine hK.out _ _ ?_
    clear hK K
    refine norm_ (a' := ?_) ?_ ?_
    rotate_left
    ·show Act.put _ (some 29) _ = _
     simp only [Act.put, sb_, sz_, ss_, i64_w, i32_w]
     rfl
    refine pz_ 9 5 (ba_ 10 1023) (ao_ HT_) ?_
    refine done_ (done_of HT_.out (by kernel_rfl)) ?_
    try go_wp2
    go_roundg k1
    case measure => have := HK1.out; omega
    case rel => exact ⟨(y658), (wrap64 (x16_1 + 1)), rf_, H', ⟨by have := HK1.out; omega⟩, ⟨rr_ HO_4⟩, ⟨rr_ HO660⟩, ⟨by (with_reducible repeat (first | apply Kd.R_alloc | apply Kd.R_drewN | apply Kd.R_drew)); exact Kd.R_mono HO_14.out (fun _ hk => trivial)⟩, ⟨bl_⟩⟩
   ·rw [if_neg c9] at H
    have c9b0 : decide (x16_1 < (t646.length : Int)) = false := decide_eq_false c9
    clear c9
    obtain rfl := Option.some.inj H
    go_wp2
    go_ret
    exact ⟨_, eq_, by (with_reducible repeat (first | apply Kd.R_alloc | apply Kd.R_drewN | apply Kd.R_drew)); exact HO_5.out, bl_⟩
def spec_l07Shown.l0 : Nat → List (S58) → Int → Int → Int → Int → Int → Option (Bool)
 | 0, _, _, _, _, _, _ => none
 | k + 1, x0, x1, x7, x668000, x668001, x668002 => if 0 ≤ x1 then (if x1 < (x0.length : Int) then (if x7 < (((rd_T58 x0 x1).f2).length : Int) then (if 0 ≤ x7 then ((spec_l01In.f (rd ((rd_T58 x0 x1).f2) x7) 0 (wrap64 (x1 - 1))).bind fun t671 => (if t671 = true then (if 0 ≤ (rd ((rd_T58 x0 x1).f2) x7) then (if (rd ((rd_T58 x0 x1).f2) x7) < (x0.length : Int) then (if ((((rd_T58 x0 (rd ((rd_T58 x0 x1).f2) x7)).f1.f0.f0) == x668000 && (((rd_T58 x0 (rd ((rd_T58 x0 x1).f2) x7)).f1.f0.f1) == x668001)) && (((rd_T58 x0 (rd ((rd_T58 x0 x1).f2) x7)).f1.f1) == x668002)) = true then (some true) else (spec_l07Shown.l0 k x0 x1 (wrap64 (x7 + 1)) x668000 x668001 x668002)) else (none)) else (none)) else (spec_l07Shown.l0 k x0 x1 (wrap64 (x7 + 1)) x668000 x668001 x668002))) else (none)) else (some false)) else (none)) else (none)
def spec_l07Shown.f (k : Nat) (l0 : List (S58)) (a1 : Int) (a2_0 : Int) (a2_1 : Int) (a2_2 : Int) : Option (Bool) := spec_l07Shown.l0 k l0 a1 0 a2_0 a2_1 a2_2
set_option maxHeartbeats 8000000 in
set_option maxRecDepth 100000 in
theorem spec_l07Shown.calls (k : Nat) (A0 : Option Addr) (c0 : Nat) (l0 : List (S58)) (a1 : Int) (a2_0 : Int) (a2_1 : Int) (a2_2 : Int) (r : Bool) (w : World) (hr0 : Kd.C k58 w A0 l0.length l0) (hc0 : l0.length ≤ c0) (h : spec_l07Shown.f k l0 a1 a2_0 a2_1 a2_2 = some r) :
  Calls Try.prog 48 #[.slice A0 l0.length c0, .int .i64 a1, .agg #[.int .i64 a2_0, .int .i64 a2_1, .int .i64 a2_2]] w fun e w' => e = .returned (.bool r) ∧ Below w.heap.size w w' := by
 have hu28 := Try.underlying28
 have HR0 := aa_ hr0
 have HC0 := aa_ hc0
 clear hr0 hc0
 have HB := aa_ (Below.refl w.heap.size w)
 have H : (spec_l07Shown.l0 k l0 a1 0 a2_0 a2_1 a2_2) = some r := h
 clear h
 have H' := aa_ H
 clear H
 go_enter Try.func48, Try.ntmps48
 go_wp2_with (first | ((with_reducible refine gD_ 5 rfl ?_); refine bx_ (N := 5) (cs := #[.int .i64 a2_0, .int .i64 a2_1, .int .i64 a2_2]) (t := 28) ?_; intro gb667 hg w4 hbox hb; have BK667 := aa_ (hbox); have GW667 := gs_ hg; have GE667 := gs_ hg; replace HB := hbs_ hb; clear hb hbox hg))
 repeat (go_quiet (first | ((with_reducible refine gD_ 5 rfl ?_); refine bx_ (N := 5) (cs := #[.int .i64 a2_0, .int .i64 a2_1, .int .i64 a2_2]) (t := 28) ?_; intro gb667 hg w4 hbox hb; have BK667 := aa_ (hbox); have GW667 := gs_ hg; have GE667 := gs_ hg; replace HB := hbs_ hb; clear hb hbox hg)); try go_wp2_with (first | ((with_reducible refine gD_ 5 rfl ?_); refine bx_ (N := 5) (cs := #[.int .i64 a2_0, .int .i64 a2_1, .int .i64 a2_2]) (t := 28) ?_; intro gb667 hg w4 hbox hb; have BK667 := aa_ (hbox); have GW667 := gs_ hg; have GE667 := gs_ hg; replace HB := hbs_ hb; clear hb hbox hg)))
 go_loopg [7] k (fun kq v7 w' => ∃ (x7_1 : Int), v7 = .int .i64 x7_1 ∧ Aside0 (spec_l07Shown.l0 kq l0 a1 x7_1 a2_0 a2_1 a2_2 = some r) ∧ Aside0 (kq ≤ k) ∧ Aside0 (w'.heap[gb667]? = some (.cells #[.int .i64 a2_0, .int .i64 a2_1, .int .i64 a2_2] 28 (0, 0))) ∧ Aside0 (Below w.heap.size w w'))
 case atStart => exact ⟨(0), rf_, H', ⟨Nat.le_refl _⟩, ⟨bk_ BK667⟩, ⟨bl_⟩⟩
 case round =>
  clear H'
  try clear p2
  obtain ⟨x7_1, rfl, HA, HK1, BK667, HB⟩ := hrel
  cases gk with
  | zero => exact absurd HA.out (by simp [spec_l07Shown.l0])
  | succ k1 =>
   have H := HA.out
   clear HA
   simp only [spec_l07Shown.l0] at H
   obtain ⟨c5b0, H⟩ := ifd_ H
   obtain ⟨c6b0, H⟩ := ifd_ H
   by_cases c7 : x7_1 < (((rd_T58 l0 a1).f2).length : Int)
   ·rw [if_pos c7] at H
    have c7b0 : decide (x7_1 < (((rd_T58 l0 a1).f2).length : Int)) = true := decide_eq_true c7
    clear c7
    obtain ⟨c8b0, H⟩ := ifd_ H
    obtain ⟨t671, A9, H⟩ := bindE_ H
    by_cases c10 : t671 = true
    ·subst c10
     replace H := ite_t_ H
     obtain ⟨c11b0, H⟩ := ifd_ H
     obtain ⟨c12b0, H⟩ := ifd_ H
     by_cases c13 : ((((rd_T58 l0 (rd ((rd_T58 l0 a1).f2) x7_1)).f1.f0.f0) == a2_0 && (((rd_T58 l0 (rd ((rd_T58 l0 a1).f2) x7_1)).f1.f0.f1) == a2_1)) && (((rd_T58 l0 (rd ((rd_T58 l0 a1).f2) x7_1)).f1.f1) == a2_2)) = true
     ·rw [if_pos c13] at H
      have c13b0 : ((((rd_T58 l0 (rd ((rd_T58 l0 a1).f2) x7_1)).f1.f0.f0) == a2_0 && (((rd_T58 l0 (rd ((rd_T58 l0 a1).f2) x7_1)).f1.f0.f1) == a2_1)) && (((rd_T58 l0 (rd ((rd_T58 l0 a1).f2) x7_1)).f1.f1) == a2_2)) = true := c13
      clear c13
      obtain rfl := Option.some.inj H
      have p668 : 0 ≤ (a1 : Int) := od_
      have q668 : a1 < (l0.length : Int) := od_
      obtain ⟨ad668, A668_13, c668_13, e668, hx668_0, hx668_1, hx668_2, hx668_3, hx668_4, hx668_5, hx668_6, hx668_7, hx668_8, hx668_9, hx668_10, hx668_11, hx668_12, hx668_13, hl668_13, hi668_13⟩ := at_T58 HR0.out a1 p668 q668
      cases e668
      replace hx668_0 := cb_ HB hx668_0
      replace hx668_1 := cb_ HB hx668_1
      replace hx668_2 := cb_ HB hx668_2
      replace hx668_3 := cb_ HB hx668_3
      replace hx668_4 := cb_ HB hx668_4
      replace hx668_5 := cb_ HB hx668_5
      replace hx668_6 := cb_ HB hx668_6
      replace hx668_7 := cb_ HB hx668_7
      replace hx668_8 := cb_ HB hx668_8
      replace hx668_9 := cb_ HB hx668_9
      replace hx668_10 := cb_ HB hx668_10
      replace hx668_11 := cb_ HB hx668_11
      replace hx668_12 := cb_ HB hx668_12
      replace hx668_13 := cb_ HB hx668_13
      have HR668_13 := aa_ hi668_13
      have HC668_13 := aa_ hl668_13
      clear hi668_13 hl668_13
      replace p668 := eq_true p668
      replace q668 := eq_true q668
      have p669 : 0 ≤ (a1 : Int) := od_
      have q669 : a1 < (l0.length : Int) := od_
      obtain ⟨ad669, A669_13, c669_13, e669, hx669_0, hx669_1, hx669_2, hx669_3, hx669_4, hx669_5, hx669_6, hx669_7, hx669_8, hx669_9, hx669_10, hx669_11, hx669_12, hx669_13, hl669_13, hi669_13⟩ := at_T58 HR0.out a1 p669 q669
      obtain rfl : ad668 = ad669 := (by injection e669)
      replace hx669_0 := cb_ HB hx669_0
      replace hx669_1 := cb_ HB hx669_1
      replace hx669_2 := cb_ HB hx669_2
      replace hx669_3 := cb_ HB hx669_3
      replace hx669_4 := cb_ HB hx669_4
      replace hx669_5 := cb_ HB hx669_5
      replace hx669_6 := cb_ HB hx669_6
      replace hx669_7 := cb_ HB hx669_7
      replace hx669_8 := cb_ HB hx669_8
      replace hx669_9 := cb_ HB hx669_9
      replace hx669_10 := cb_ HB hx669_10
      replace hx669_11 := cb_ HB hx669_11
      replace hx669_12 := cb_ HB hx669_12
      replace hx669_13 := cb_ HB hx669_13
      have HR669_13 := aa_ hi669_13
      have HC669_13 := aa_ hl669_13
      clear hi669_13 hl669_13
      replace p669 := eq_true p669
      replace q669 := eq_true q669
      have ea_ := Option.some.inj (hx668_13.symm.trans hx669_13)
      injection ea_ with ea_ en_ ec_
      subst ea_
      subst ec_
      clear en_
      have p670 : 0 ≤ (x7_1 : Int) := od_
      have q670 : x7_1 < (((rd_T58 l0 a1).f2).length : Int) := od_
      obtain ⟨ad670, e670, hx670_0⟩ := Kd.at_int (Kd.C_below HR669_13.out HB.out) x7_1 p670 q670
      cases e670
      replace p670 := eq_true p670
      replace q670 := eq_true q670
      have p672 : 0 ≤ ((rd ((rd_T58 l0 a1).f2) x7_1) : Int) := od_
      have q672 : (rd ((rd_T58 l0 a1).f2) x7_1) < (l0.length : Int) := od_
      obtain ⟨ad672, A672_13, c672_13, e672, hx672_0, hx672_1, hx672_2, hx672_3, hx672_4, hx672_5, hx672_6, hx672_7, hx672_8, hx672_9, hx672_10, hx672_11, hx672_12, hx672_13, hl672_13, hi672_13⟩ := at_T58 HR0.out (rd ((rd_T58 l0 a1).f2) x7_1) p672 q672
      obtain rfl : ad668 = ad672 := (by injection e672)
      replace hx672_0 := cb_ HB hx672_0
      replace hx672_1 := cb_ HB hx672_1
      replace hx672_2 := cb_ HB hx672_2
      replace hx672_3 := cb_ HB hx672_3
      replace hx672_4 := cb_ HB hx672_4
      replace hx672_5 := cb_ HB hx672_5
      replace hx672_6 := cb_ HB hx672_6
      replace hx672_7 := cb_ HB hx672_7
      replace hx672_8 := cb_ HB hx672_8
      replace hx672_9 := cb_ HB hx672_9
      replace hx672_10 := cb_ HB hx672_10
      replace hx672_11 := cb_ HB hx672_11
      replace hx672_12 := cb_ HB hx672_12
      replace hx672_13 := cb_ HB hx672_13
      have HR672_13 := aa_ hi672_13
      have HC672_13 := aa_ hl672_13
      clear hi672_13 hl672_13
      replace p672 := eq_true p672
      replace q672 := eq_true q672
      have hcz14 := blk_cell BK667.out
      have hfz14 := blk_frozen BK667.out
      go_wp2_with (first | (go_at_call 31; (with_reducible refine (spec_l01In.calls (rd ((rd_T58 l0 a1).f2) x7_1) 0 (wrap64 (a1 - 1)) true _ A9.out).mono ?_); rintro e w' ⟨rfl, ⟨nd, rfl⟩⟩; (try first | exact ⟨rfl, _, World.drewN_drewN _ _ _⟩ | exact ⟨rfl, _, Eq.trans (World.drewN_drewN _ _ _) (congrArg (World.drewN _) (Nat.add_assoc _ _ _))⟩)))
      repeat (go_quiet (first | (go_at_call 31; (with_reducible refine (spec_l01In.calls (rd ((rd_T58 l0 a1).f2) x7_1) 0 (wrap64 (a1 - 1)) true _ A9.out).mono ?_); rintro e w' ⟨rfl, ⟨nd, rfl⟩⟩; (try first | exact ⟨rfl, _, World.drewN_drewN _ _ _⟩ | exact ⟨rfl, _, Eq.trans (World.drewN_drewN _ _ _) (congrArg (World.drewN _) (Nat.add_assoc _ _ _))⟩))); try go_wp2_with (first | (go_at_call 31; (with_reducible refine (spec_l01In.calls (rd ((rd_T58 l0 a1).f2) x7_1) 0 (wrap64 (a1 - 1)) true _ A9.out).mono ?_); rintro e w' ⟨rfl, ⟨nd, rfl⟩⟩; (try first | exact ⟨rfl, _, World.drewN_drewN _ _ _⟩ | exact ⟨rfl, _, Eq.trans (World.drewN_drewN _ _ _) (congrArg (World.drewN _) (Nat.add_assoc _ _ _))⟩))))
      go_ret
      exact ⟨eq_, bl_⟩
     ·rw [if_neg c13] at H
      have c13b0 : ((((rd_T58 l0 (rd ((rd_T58 l0 a1).f2) x7_1)).f1.f0.f0) == a2_0 && (((rd_T58 l0 (rd ((rd_T58 l0 a1).f2) x7_1)).f1.f0.f1) == a2_1)) && (((rd_T58 l0 (rd ((rd_T58 l0 a1).f2) x7_1)).f1.f1) == a2_2)) = false := by simpa using c13
      clear c13
      have H' := aa_ H
      clear H
      have p668 : 0 ≤ (a1 : Int) := od_
      have q668 : a1 < (l0.length : Int) := od_
      obtain ⟨ad668, A668_13, c668_13, e668, hx668_0, hx668_1, hx668_2, hx668_3, hx668_4, hx668_5, hx668_6, hx668_7, hx668_8, hx668_9, hx668_10, hx668_11, hx668_12, hx668_13, hl668_13, hi668_13⟩ := at_T58 HR0.out a1 p668 q668
      cases e668
      replace hx668_0 := cb_ HB hx668_0
      replace hx668_1 := cb_ HB hx668_1
      replace hx668_2 := cb_ HB hx668_2
      replace hx668_3 := cb_ HB hx668_3
      replace hx668_4 := cb_ HB hx668_4
      replace hx668_5 := cb_ HB hx668_5
      replace hx668_6 := cb_ HB hx668_6
      replace hx668_7 := cb_ HB hx668_7
      replace hx668_8 := cb_ HB hx668_8
      replace hx668_9 := cb_ HB hx668_9
      replace hx668_10 := cb_ HB hx668_10
      replace hx668_11 := cb_ HB hx668_11
      replace hx668_12 := cb_ HB hx668_12
      replace hx668_13 := cb_ HB hx668_13
      have HR668_13 := aa_ hi668_13
      have HC668_13 := aa_ hl668_13
      clear hi668_13 hl668_13
      replace p668 := eq_true p668
      replace q668 := eq_true q668
      have p669 : 0 ≤ (a1 : Int) := od_
      have q669 : a1 < (l0.length : Int) := od_
      obtain ⟨ad669, A669_13, c669_13, e669, hx669_0, hx669_1, hx669_2, hx669_3, hx669_4, hx669_5, hx669_6, hx669_7, hx669_8, hx669_9, hx669_10, hx669_11, hx669_12, hx669_13, hl669_13, hi669_13⟩ := at_T58 HR0.out a1 p669 q669
      obtain rfl : ad668 = ad669 := (by injection e669)
      replace hx669_0 := cb_ HB hx669_0
      replace hx669_1 := cb_ HB hx669_1
      replace hx669_2 := cb_ HB hx669_2
      replace hx669_3 := cb_ HB hx669_3
      replace hx669_4 := cb_ HB hx669_4
      replace hx669_5 := cb_ HB hx669_5
      replace hx669_6 := cb_ HB hx669_6
      replace hx669_7 := cb_ HB hx669_7
      replace hx669_8 := cb_ HB hx669_8
      replace hx669_9 := cb_ HB hx669_9
      replace hx669_10 := cb_ HB hx669_10
      replace hx669_11 := cb_ HB hx669_11
      replace hx669_12 := cb_ HB hx669_12
      replace hx669_13 := cb_ HB hx669_13
      have HR669_13 := aa_ hi669_13
      have HC669_13 := aa_ hl669_13
      clear hi669_13 hl669_13
      replace p669 := eq_true p669
      replace q669 := eq_true q669
      have ea_ := Option.some.inj (hx668_13.symm.trans hx669_13)
      injection ea_ with ea_ en_ ec_
      subst ea_
      subst ec_
      clear en_
      have p670 : 0 ≤ (x7_1 : Int) := od_
      have q670 : x7_1 < (((rd_T58 l0 a1).f2).length : Int) := od_
      obtain ⟨ad670, e670, hx670_0⟩ := Kd.at_int (Kd.C_below HR669_13.out HB.out) x7_1 p670 q670
      cases e670
      replace p670 := eq_true p670
      replace q670 := eq_true q670
      have p672 : 0 ≤ ((rd ((rd_T58 l0 a1).f2) x7_1) : Int) := od_
      have q672 : (rd ((rd_T58 l0 a1).f2) x7_1) < (l0.length : Int) := od_
      obtain ⟨ad672, A672_13, c672_13, e672, hx672_0, hx672_1, hx672_2, hx672_3, hx672_4, hx672_5, hx672_6, hx672_7, hx672_8, hx672_9, hx672_10, hx672_11, hx672_12, hx672_13, hl672_13, hi672_13⟩ := at_T58 HR0.out (rd ((rd_T58 l0 a1).f2) x7_1) p672 q672
      obtain rfl : ad668 = ad672 := (by injection e672)
      replace hx672_0 := cb_ HB hx672_0
      replace hx672_1 := cb_ HB hx672_1
      replace hx672_2 := cb_ HB hx672_2
      replace hx672_3 := cb_ HB hx672_3
      replace hx672_4 := cb_ HB hx672_4
      replace hx672_5 := cb_ HB hx672_5
      replace hx672_6 := cb_ HB hx672_6
      replace hx672_7 := cb_ HB hx672_7
      replace hx672_8 := cb_ HB hx672_8
      replace hx672_9 := cb_ HB hx672_9
      replace hx672_10 := cb_ HB hx672_10
      replace hx672_11 := cb_ HB hx672_11
      replace hx672_12 := cb_ HB hx672_12
      replace hx672_13 := cb_ HB hx672_13
      have HR672_13 := aa_ hi672_13
      have HC672_13 := aa_ hl672_13
      clear hi672_13 hl672_13
      replace p672 := eq_true p672
      replace q672 := eq_true q672
      have hcz15 := blk_cell BK667.out
      have hfz15 := blk_frozen BK667.out
      go_wp2_with (first | (go_at_call 31; (with_reducible refine (spec_l01In.calls (rd ((rd_T58 l0 a1).f2) x7_1) 0 (wrap64 (a1 - 1)) true _ A9.out).mono ?_); rintro e w' ⟨rfl, ⟨nd, rfl⟩⟩; (try first | exact ⟨rfl, _, World.drewN_drewN _ _ _⟩ | exact ⟨rfl, _, Eq.trans (World.drewN_drewN _ _ _) (congrArg (World.drewN _) (Nat.add_assoc _ _ _))⟩)))
      repeat (go_quiet (first | (go_at_call 31; (with_reducible refine (spec_l01In.calls (rd ((rd_T58 l0 a1).f2) x7_1) 0 (wrap64 (a1 - 1)) true _ A9.out).mono ?_); rintro e w' ⟨rfl, ⟨nd, rfl⟩⟩; (try first | exact ⟨rfl, _, World.drewN_drewN _ _ _⟩ | exact ⟨rfl, _, Eq.trans (World.drewN_drewN _ _ _) (congrArg (World.drewN _) (Nat.add_assoc _ _ _))⟩))); try go_wp2_with (first | (go_at_call 31; (with_reducible refine (spec_l01In.calls (rd ((rd_T58 l0 a1).f2) x7_1) 0 (wrap64 (a1 - 1)) true _ A9.out).mono ?_); rintro e w' ⟨rfl, ⟨nd, rfl⟩⟩; (try first | exact ⟨rfl, _, World.drewN_drewN _ _ _⟩ | exact ⟨rfl, _, Eq.trans (World.drewN_drewN _ _ _) (congrArg (World.drewN _) (Nat.add_assoc _ _ _))⟩))))
      go_roundg k1
      case measure => have := HK1.out; omega
      case rel => exact ⟨(wrap64 (x7_1 + 1)), rf_, H', ⟨by have := HK1.out; omega⟩, ⟨bk_ BK667⟩, ⟨bl_⟩⟩
    ·replace c10 := Bool.eq_false_iff.mpr c10
     subst c10
     replace H := ite_f_ H
     have H' := aa_ H
     clear H
     have p668 : 0 ≤ (a1 : Int) := od_
     have q668 : a1 < (l0.length : Int) := od_
     obtain ⟨ad668, A668_13, c668_13, e668, hx668_0, hx668_1, hx668_2, hx668_3, hx668_4, hx668_5, hx668_6, hx668_7, hx668_8, hx668_9, hx668_10, hx668_11, hx668_12, hx668_13, hl668_13, hi668_13⟩ := at_T58 HR0.out a1 p668 q668
     cases e668
     replace hx668_0 := cb_ HB hx668_0
     replace hx668_1 := cb_ HB hx668_1
     replace hx668_2 := cb_ HB hx668_2
     replace hx668_3 := cb_ HB hx668_3
     replace hx668_4 := cb_ HB hx668_4
     replace hx668_5 := cb_ HB hx668_5
     replace hx668_6 := cb_ HB hx668_6
     replace hx668_7 := cb_ HB hx668_7
     replace hx668_8 := cb_ HB hx668_8
     replace hx668_9 := cb_ HB hx668_9
     replace hx668_10 := cb_ HB hx668_10
     replace hx668_11 := cb_ HB hx668_11
     replace hx668_12 := cb_ HB hx668_12
     replace hx668_13 := cb_ HB hx668_13
     have HR668_13 := aa_ hi668_13
     have HC668_13 := aa_ hl668_13
     clear hi668_13 hl668_13
     replace p668 := eq_true p668
     replace q668 := eq_true q668
     have p669 : 0 ≤ (a1 : Int) := od_
     have q669 : a1 < (l0.length : Int) := od_
     obtain ⟨ad669, A669_13, c669_13, e669, hx669_0, hx669_1, hx669_2, hx669_3, hx669_4, hx669_5, hx669_6, hx669_7, hx669_8, hx669_9, hx669_10, hx669_11, hx669_12, hx669_13, hl669_13, hi669_13⟩ := at_T58 HR0.out a1 p669 q669
     obtain rfl : ad668 = ad669 := (by injection e669)
     replace hx669_0 := cb_ HB hx669_0
     replace hx669_1 := cb_ HB hx669_1
     replace hx669_2 := cb_ HB hx669_2
     replace hx669_3 := cb_ HB hx669_3
     replace hx669_4 := cb_ HB hx669_4
     replace hx669_5 := cb_ HB hx669_5
     replace hx669_6 := cb_ HB hx669_6
     replace hx669_7 := cb_ HB hx669_7
     replace hx669_8 := cb_ HB hx669_8
     replace hx669_9 := cb_ HB hx669_9
     replace hx669_10 := cb_ HB hx669_10
     replace hx669_11 := cb_ HB hx669_11
     replace hx669_12 := cb_ HB hx669_12
     replace hx669_13 := cb_ HB hx669_13
     have HR669_13 := aa_ hi669_13
     have HC669_13 := aa_ hl669_13
     clear hi669_13 hl669_13
     replace p669 := eq_true p669
     replace q669 := eq_true q669
     have ea_ := Option.some.inj (hx668_13.symm.trans hx669_13)
     injection ea_ with ea_ en_ ec_
     subst ea_
     subst ec_
     clear en_
     have p670 : 0 ≤ (x7_1 : Int) := od_
     have q670 : x7_1 < (((rd_T58 l0 a1).f2).length : Int) := od_
     obtain ⟨ad670, e670, hx670_0⟩ := Kd.at_int (Kd.C_below HR669_13.out HB.out) x7_1 p670 q670
     cases e670
     replace p670 := eq_true p670
     replace q670 := eq_true q670
     go_wp2_with (first | (go_at_call 31; (with_reducible refine (spec_l01In.calls (rd ((rd_T58 l0 a1).f2) x7_1) 0 (wrap64 (a1 - 1)) false _ A9.out).mono ?_); rintro e w' ⟨rfl, ⟨nd, rfl⟩⟩; (try first | exact ⟨rfl, _, World.drewN_drewN _ _ _⟩ | exact ⟨rfl, _, Eq.trans (World.drewN_drewN _ _ _) (congrArg (World.drewN _) (Nat.add_assoc _ _ _))⟩)))
     repeat (go_quiet (first | (go_at_call 31; (with_reducible refine (spec_l01In.calls (rd ((rd_T58 l0 a1).f2) x7_1) 0 (wrap64 (a1 - 1)) false _ A9.out).mono ?_); rintro e w' ⟨rfl, ⟨nd, rfl⟩⟩; (try first | exact ⟨rfl, _, World.drewN_drewN _ _ _⟩ | exact ⟨rfl, _, Eq.trans (World.drewN_drewN _ _ _) (congrArg (World.drewN _) (Nat.add_assoc _ _ _))⟩))); try go_wp2_with (first | (go_at_call 31; (with_reducible refine (spec_l01In.calls (rd ((rd_T58 l0 a1).f2) x7_1) 0 (wrap64 (a1 - 1)) false _ A9.out).mono ?_); rintro e w' ⟨rfl, ⟨nd, rfl⟩⟩; (try first | exact ⟨rfl, _, World.drewN_drewN _ _ _⟩ | exact ⟨rfl, _, Eq.trans (World.drewN_drewN _ _ _) (congrArg (World.drewN _) (Nat.add_assoc _ _ _))⟩))))
     go_roundg k1
     case measure => have := HK1.out; omega
     case rel => exact ⟨(wrap64 (x7_1 + 1)), rf_, H', ⟨by have := HK1.out; omega⟩, ⟨bk_ BK667⟩, ⟨bl_⟩⟩
   ·rw [if_neg c7] at H
    have c7b0 : decide (x7_1 < (((rd_T58 l0 a1).f2).length : Int)) = false := decide_eq_false c7
    clear c7
    obtain rfl := Option.some.inj H
    have p668 : 0 ≤ (a1 : Int) := od_
    have q668 : a1 < (l0.length : Int) := od_
    obtain ⟨ad668, A668_13, c668_13, e668, hx668_0, hx668_1, hx668_2, hx668_3, hx668_4, hx668_5, hx668_6, hx668_7, hx668_8, hx668_9, hx668_10, hx668_11, hx668_12, hx668_13, hl668_13, hi668_13⟩ := at_T58 HR0.out a1 p668 q668
    cases e668
    replace hx668_0 := cb_ HB hx668_0
    replace hx668_1 := cb_ HB hx668_1
    replace hx668_2 := cb_ HB hx668_2
    replace hx668_3 := cb_ HB hx668_3
    replace hx668_4 := cb_ HB hx668_4
    replace hx668_5 := cb_ HB hx668_5
    replace hx668_6 := cb_ HB hx668_6
    replace hx668_7 := cb_ HB hx668_7
    replace hx668_8 := cb_ HB hx668_8
    replace hx668_9 := cb_ HB hx668_9
    replace hx668_10 := cb_ HB hx668_10
    replace hx668_11 := cb_ HB hx668_11
    replace hx668_12 := cb_ HB hx668_12
    replace hx668_13 := cb_ HB hx668_13
    have HR668_13 := aa_ hi668_13
    have HC668_13 := aa_ hl668_13
    clear hi668_13 hl668_13
    replace p668 := eq_true p668
    replace q668 := eq_true q668
    go_wp2
    repeat (go_quiet (fail); try go_wp2)
    go_ret
    exact ⟨eq_, bl_⟩
end Go.Proofs.Ytljhfomkakhflaa.PA
