import Derived.Test.YtkimdmdkldlhpaaKCPAx3
-- printed by wip/tools
namespace Go.Proofs.Ytkimdmdkldlhpaa.PA
open Go.RowKit Go.Proofs.YtkimdmdkldlhpaaW.PrintWords Go.Proofs.YtkimdmdkldlhpaaW.PrintLast Go.Proofs.YtkimdmdkldlhpaaW.PrintMore
attribute [local go_sem] max2_int min2_int max_two min_two max_three min_three max_four min_four
set_option linter.unusedVariables false
set_option linter.unusedSimpArgs false
def spec_l12One.l0 : Nat → List (S52) → List (S52) → Bool → Int → ByteArray → Bool → Option ((List (S52)))
 | 0, _, _, _, _, _, _ => none
 | k + 1, x0, x5, x6, x7, x177000, x177001 => if x7 < (x0.length : Int) then (if 0 ≤ x7 then (if ((rd_T52 x0 x7).f0).toList = x177000.toList then (if (rd_T52 x0 x7).f1 = true then (if x5.length < 5864062014805 then (spec_l12One.l0 k x0 (x5 ++ [(⟨(rd_T52 x0 x7).f0, true⟩ : S52)]) true (wrap64 (x7 + 1)) x177000 x177001) else (none)) else (if x5.length < 5864062014805 then (spec_l12One.l0 k x0 (x5 ++ [(⟨(rd_T52 x0 x7).f0, x177001⟩ : S52)]) true (wrap64 (x7 + 1)) x177000 x177001) else (none))) else (if x6 = true then (if x5.length < 5864062014805 then (spec_l12One.l0 k x0 (x5 ++ [(⟨(rd_T52 x0 x7).f0, (rd_T52 x0 x7).f1⟩ : S52)]) x6 (wrap64 (x7 + 1)) x177000 x177001) else (none)) else (if (Op.bytesLess x177000.toList (((rd_T52 x0 x7).f0).toList)) = true then (if x5.length < 5864062014805 then ((some (x5 ++ [(⟨x177000, x177001⟩ : S52)] : List (S52))).bind fun y194 => (if y194.length < 5864062014805 then (spec_l12One.l0 k x0 (y194 ++ [(⟨(rd_T52 x0 x7).f0, (rd_T52 x0 x7).f1⟩ : S52)]) true (wrap64 (x7 + 1)) x177000 x177001) else (none))) else (none)) else (if x5.length < 5864062014805 then (spec_l12One.l0 k x0 (x5 ++ [(⟨(rd_T52 x0 x7).f0, (rd_T52 x0 x7).f1⟩ : S52)]) x6 (wrap64 (x7 + 1)) x177000 x177001) else (none))))) else (none)) else (if x6 = true then (some x5) else (if x5.length < 5864062014805 then (some (x5 ++ [(⟨x177000, x177001⟩ : S52)])) else (none)))
def spec_l12One.f (k : Nat) (l0 : List (S52)) (a1_0 : ByteArray) (a1_1 : Bool) : Option ((List (S52))) := spec_l12One.l0 k l0 (([] : List (S52))) false 0 a1_0 a1_1
set_option maxHeartbeats 8000000 in
set_option maxRecDepth 100000 in
theorem spec_l12One.calls (k : Nat) (A0 : Option Addr) (c0 : Nat) (l0 : List (S52)) (a1_0 : ByteArray) (a1_1 : Bool) (r : List (S52)) (w : World) (hr0 : Kd.C k52 w A0 l0.length l0) (hc0 : l0.length ≤ c0) (h : spec_l12One.f k l0 a1_0 a1_1 = some r) :
  Calls Try.prog 46 #[.slice A0 l0.length c0, .agg #[.string a1_0, .bool a1_1]] w fun e w' => ∃ v0_ : Value, e = .returned (v0_) ∧ Kd.R k52 52 w' w.heap.size (fun _ => True) v0_ r ∧ Below w.heap.size w w' := by
 have hu52 := Try.underlying52
 have HR0 := aa_ hr0
 have HC0 := aa_ hc0
 clear hr0 hc0
 have HB := aa_ (Below.refl w.heap.size w)
 have H : (spec_l12One.l0 k l0 (([] : List (S52))) false 0 a1_0 a1_1) = some r := h
 clear h
 obtain ⟨y177, hy177⟩ : ∃ y_ : List (S52), y_ = (([] : List (S52))) := ⟨_, rfl⟩
 replace H : (spec_l12One.l0 k l0 y177 false 0 a1_0 a1_1) = some r := rh_ hy177 H
 have Ny177 := aa_ hy177
 clear hy177
 have H' := aa_ H
 clear H
 go_enter Try.func46, Try.ntmps46
 go_wp2_with (first | ((with_reducible refine gD_ 3 rfl ?_); refine bx_ (N := 3) (cs := #[.string a1_0, .bool a1_1]) (t := 52) ?_; intro gb176 hg w3 hbox hb; have BK176 := aa_ (hbox); have GW176 := gs_ hg; have GE176 := gs_ hg; replace HB := hbs_ hb; clear hb hbox hg) | ((with_reducible refine gD_ 9 rfl ?_); refine Kd.R_lit k52 _ 52 ?hg (N := 9) ?hd (xs := ([] : List (S52))) (inner := []) (ok := fun _ => True) (okp := fun _ => True) ?hr ?hp (fun _ hk => hk) trivial (Below.refl _ _) (Nat.le_refl _) (by simp) ?_; (case hd => rfl); (case hg => rfl); (case hr => first | (go_simp; done) | (go_simp; rfl)); (case hp => exact (Reps.none _ _)); intro v178 w4 ho5 hb hg_ hnew_; clear hg_ hnew_; (first | rw [← Ny177.out] at ho5 | (simp only [Int.reduceToNat] at ho5; rw [← Ny177.out] at ho5)); have HO179 := aa_ (Kd.R_lower (Kd.R_newB ho5 (g := gb176) (o := .cells #[.string a1_0, .bool a1_1] 52 (0, 0)) (bk_ BK176)) bls_); replace BK176 := bkb_ BK176 hb; replace HB := hbs_ hb; clear hb ho5))
 go_loopg [5, 6, 7] k (fun kq v5 v6 v7 w' => ∃ (x5_1 : List (S52)) (x6_1 : Bool) (x7_1 : Int), v6 = .bool x6_1 ∧ v7 = .int .i64 x7_1 ∧ Aside0 (spec_l12One.l0 kq l0 x5_1 x6_1 x7_1 a1_0 a1_1 = some r) ∧ Aside0 (kq ≤ k) ∧ Aside0 (Kd.R k52 52 w' w.heap.size (fun k_ => k_ ≠ gb176) v5 x5_1) ∧ Aside0 (w'.heap[gb176]? = some (.cells #[.string a1_0, .bool a1_1] 52 (0, 0))) ∧ Aside0 (Below w.heap.size w w'))
 case atStart => exact ⟨(y177), (false), (0), rf_, rf_, H', ⟨Nat.le_refl _⟩, ⟨by (with_reducible repeat (first | apply Kd.R_alloc | apply Kd.R_drewN | apply Kd.R_drew)); exact Kd.R_mono HO179.out (fun _ hk => hk.2)⟩, ⟨bk_ BK176⟩, ⟨bl_⟩⟩
 case round =>
  clear H'
  try clear p2
  try clear c4
  obtain ⟨x5_1, x6_1, x7_1, rfl, rfl, HA, HK1, HO_5, BK176, HB⟩ := hrel
  cases gk with
  | zero => exact absurd HA.out (by simp [spec_l12One.l0])
  | succ k1 =>
   have H := HA.out
   clear HA
   simp only [spec_l12One.l0] at H
   by_cases c6 : x7_1 < (l0.length : Int)
   ·rw [if_pos c6] at H
    have c6b0 : decide (x7_1 < (l0.length : Int)) = true := decide_eq_true c6
    clear c6
    obtain ⟨c7b0, H⟩ := ifd_ H
    by_cases c8 : ((rd_T52 l0 x7_1).f0).toList = a1_0.toList
    ·rw [if_pos c8] at H
     have c8b0 : (((rd_T52 l0 x7_1).f0).toList == a1_0.toList) = true := beq_iff_eq.mpr c8
     have c8b1 : (((rd_T52 l0 x7_1).f0).toList != a1_0.toList) = false := bne_eq_false_iff_eq.mpr c8
     clear c8
     obtain ⟨bq9, hbq9⟩ : ∃ b_ : Bool, b_ = ((rd_T52 l0 x7_1).f1) := ⟨_, rfl⟩
     replace H : (if bq9 = true then (if x5_1.length < 5864062014805 then (spec_l12One.l0 k1 l0 (x5_1 ++ [(⟨(rd_T52 l0 x7_1).f0, true⟩ : S52)]) true (wrap64 (x7_1 + 1)) a1_0 a1_1) else (none)) else (if x5_1.length < 5864062014805 then (spec_l12One.l0 k1 l0 (x5_1 ++ [(⟨(rd_T52 l0 x7_1).f0, a1_1⟩ : S52)]) true (wrap64 (x7_1 + 1)) a1_0 a1_1) else (none))) = some r := by rw [← hbq9] at H; exact H
     have Nbq9 := aa_ hbq9
     clear hbq9
     by_cases c10 : bq9 = true
     ·subst c10
      replace H := ite_t_ H
      obtain ⟨c11, H⟩ := ifn_ H
      have LMc11 := aa_ c11
      clear c11
      obtain ⟨y185, hy185⟩ : ∃ y_ : List (S52), y_ = (x5_1 ++ [(⟨(rd_T52 l0 x7_1).f0, true⟩ : S52)]) := ⟨_, rfl⟩
      replace H : (spec_l12One.l0 k1 l0 y185 true (wrap64 (x7_1 + 1)) a1_0 a1_1) = some r := rh_ hy185 H
      have Ny185 := aa_ hy185
      clear hy185
      have H' := aa_ H
      clear H
      have p183 : 0 ≤ (x7_1 : Int) := od_
      have q183 : x7_1 < (l0.length : Int) := od_
      obtain ⟨ad183, e183, hx183_0, hx183_1⟩ := at_T52 HR0.out x7_1 p183 q183
      (try rw [← Nbq9.out] at hx183_1)
      cases e183
      replace hx183_0 := cb_ HB hx183_0
      replace hx183_1 := cb_ HB hx183_1
      replace p183 := eq_true p183
      replace q183 := eq_true q183
      go_wp2_with (first | ((with_reducible refine gD_ 8 rfl ?_); refine box_event ?hg (N := 8) ?hd (cs := #[.string (⟨#[]⟩ : ByteArray), .bool false]) (t := 52) ?hr ?_; (case hd => rfl); (case hg => rfl); (case hr => first | (go_simp; done) | (go_simp; rfl)); intro gb184 hg w12 hbox hb; replace HO_5 := aa_ (Kd.R_below (Kd.R_elderB (rr_ HO_5) gb184 (Nat.le_of_eq hg.symm)) hb); have BK184 := aa_ (hbox); have GW184 := gs_ hg; have GE184 := gs_ hg; replace HB := hbs_ hb; have NB176_184 := nl_ hg BK176; have NB184_176 := nr_ hg BK176; replace BK176 := bkb_ BK176 hb; clear hb hbox hg; have hnb13 := NB184_176.out; have hnc13 := NB176_184.out; have hcz14 := blk_cell BK184.out; have hcz14t := cell_two_ BK184.out; have hfz14 := blk_frozen BK184.out; obtain ⟨hcz15, hfz15⟩ := bcf_ BK176) | ((with_reducible refine gate_builtin (b := .append) (xs := #[.tmp 45, .tmp 47]) rfl ?_); at_builtin; refine Kd.R_append k52 (w0 := w) w.heap.size rfl (.tmp 45) (.tmp 47) 36 52 (.agg #[(.string ⟨#[]⟩), (.bool false)]) 24 rfl Try.underlying36 info52 rfl (by decide) (by omega) u5 x5_1 (⟨(rd_T52 l0 x7_1).f0, true⟩ : S52) [.string ((rd_T52 l0 x7_1).f0), .bool true] (fun k_ => k_ ≠ gb176 ∧ k_ ≠ gb184) (fun _ => False) rfl (by first | (go_simp; done) | (go_simp; rfl)) ?aP (fun _ hk => hk.elim) ?aF ?aO ?aB ?aS ?aL ?_; (case aP => exact k52_mkM _ _ _ (⟨(rd_T52 l0 x7_1).f0, true⟩ : S52)); (case aB => exact bl_); (case aF => exact (fun k_ hk => ⟨Kd.freshB (g := gb176) (o := .cells #[.string a1_0, .bool a1_1] 52 (0, 0)) (bk_ BK176) k_ hk, Kd.freshB (g := gb184) (o := .cells #[.string ((rd_T52 l0 x7_1).f0), .bool true] 52 (0, 0)) (bk_ BK184) k_ hk⟩)); (case aO => exact (by (with_reducible repeat (first | apply Kd.R_alloc | apply Kd.R_drewN | apply Kd.R_drew)); exact Kd.R_mono (Kd.R_far (p := ⟨gb184, 1, none⟩) (Kd.R_far (p := ⟨gb184, 1, none⟩) (Kd.R_far (p := ⟨gb184, 0, none⟩) (Kd.R_mono HO_5.out (fun k_ hk => (⟨hk, hk.2⟩ : _ ∧ k_ ≠ gb184))) (fun _ hk => hk.2) (.string ((rd_T52 l0 x7_1).f0))) (fun _ hk => hk.2) (.bool true)) (fun _ hk => hk.2) (.bool true)) (fun _ hk => ⟨hk.1.1, hk.1.2⟩))); (case aS => exact bls_); (case aL => have := LMc11.out; omega); intro v186 w16 ho hb hg hat; rw [← Ny185.out] at ho; replace BK176 := aa_ (blk_grown (g := gb176) (o := .cells #[.string a1_0, .bool a1_1] 52 (0, 0)) (bk_ BK176) hg (Kd.R_away HO_5.out (fun _ hk => hk.1))); replace BK184 := aa_ (blk_grown (g := gb184) (o := .cells #[.string ((rd_T52 l0 x7_1).f0), .bool true] 52 (0, 0)) (bk_ BK184) hg (Kd.R_away HO_5.out (fun _ hk => hk.2))); replace HB := aa_ (hb); have HO187 := aa_ (ho); clear HO_5; clear ho hb hg hat))
      go_roundg k1
      case measure => have := HK1.out; omega
      case rel => exact ⟨(y185), (true), (wrap64 (x7_1 + 1)), rf_, rf_, H', ⟨by have := HK1.out; omega⟩, ⟨by (with_reducible repeat (first | apply Kd.R_alloc | apply Kd.R_drewN | apply Kd.R_drew)); exact Kd.R_mono HO187.out (fun _ hk => hk.1)⟩, ⟨bk_ BK176⟩, ⟨bl_⟩⟩
     ·replace c10 := Bool.eq_false_iff.mpr c10
      subst c10
      replace H := ite_f_ H
      obtain ⟨c17, H⟩ := ifn_ H
      have LMc17 := aa_ c17
      clear c17
      obtain ⟨y188, hy188⟩ : ∃ y_ : List (S52), y_ = (x5_1 ++ [(⟨(rd_T52 l0 x7_1).f0, a1_1⟩ : S52)]) := ⟨_, rfl⟩
      replace H : (spec_l12One.l0 k1 l0 y188 true (wrap64 (x7_1 + 1)) a1_0 a1_1) = some r := rh_ hy188 H
      have Ny188 := aa_ hy188
      clear hy188
      have H' := aa_ H
      clear H
      have p183 : 0 ≤ (x7_1 : Int) := od_
      have q183 : x7_1 < (l0.length : Int) := od_
      obtain ⟨ad183, e183, hx183_0, hx183_1⟩ := at_T52 HR0.out x7_1 p183 q183
      (try rw [← Nbq9.out] at hx183_1)
      cases e183
      replace hx183_0 := cb_ HB hx183_0
      replace hx183_1 := cb_ HB hx183_1
      replace p183 := eq_true p183
      replace q183 := eq_true q183
      go_wp2_with (first | ((with_reducible refine gD_ 8 rfl ?_); refine box_event ?hg (N := 8) ?hd (cs := #[.string (⟨#[]⟩ : ByteArray), .bool false]) (t := 52) ?hr ?_; (case hd => rfl); (case hg => rfl); (case hr => first | (go_simp; done) | (go_simp; rfl)); intro gb184 hg w18 hbox hb; replace HO_5 := aa_ (Kd.R_below (Kd.R_elderB (rr_ HO_5) gb184 (Nat.le_of_eq hg.symm)) hb); have BK184 := aa_ (hbox); have GW184 := gs_ hg; have GE184 := gs_ hg; replace HB := hbs_ hb; have NB176_184 := nl_ hg BK176; have NB184_176 := nr_ hg BK176; replace BK176 := bkb_ BK176 hb; clear hb hbox hg; have hnb19 := NB184_176.out; have hnc19 := NB176_184.out; have hcz20 := blk_cell BK184.out; have hcz20t := cell_two_ BK184.out; have hfz20 := blk_frozen BK184.out; obtain ⟨hcz21, hfz21⟩ := bcf_ BK176) | ((with_reducible refine gate_builtin (b := .append) (xs := #[.tmp 45, .tmp 47]) rfl ?_); at_builtin; refine Kd.R_append k52 (w0 := w) w.heap.size rfl (.tmp 45) (.tmp 47) 36 52 (.agg #[(.string ⟨#[]⟩), (.bool false)]) 24 rfl Try.underlying36 info52 rfl (by decide) (by omega) u5 x5_1 (⟨(rd_T52 l0 x7_1).f0, a1_1⟩ : S52) [.string ((rd_T52 l0 x7_1).f0), .bool a1_1] (fun k_ => k_ ≠ gb176 ∧ k_ ≠ gb184) (fun _ => False) rfl (by first | (go_simp; done) | (go_simp; rfl)) ?aP (fun _ hk => hk.elim) ?aF ?aO ?aB ?aS ?aL ?_; (case aP => exact k52_mkM _ _ _ (⟨(rd_T52 l0 x7_1).f0, a1_1⟩ : S52)); (case aB => exact bl_); (case aF => exact (fun k_ hk => ⟨Kd.freshB (g := gb176) (o := .cells #[.string a1_0, .bool a1_1] 52 (0, 0)) (bk_ BK176) k_ hk, Kd.freshB (g := gb184) (o := .cells #[.string ((rd_T52 l0 x7_1).f0), .bool a1_1] 52 (0, 0)) (bk_ BK184) k_ hk⟩)); (case aO => exact (by (with_reducible repeat (first | apply Kd.R_alloc | apply Kd.R_drewN | apply Kd.R_drew)); exact Kd.R_mono (Kd.R_far (p := ⟨gb184, 1, none⟩) (Kd.R_far (p := ⟨gb184, 1, none⟩) (Kd.R_far (p := ⟨gb184, 0, none⟩) (Kd.R_mono HO_5.out (fun k_ hk => (⟨hk, hk.2⟩ : _ ∧ k_ ≠ gb184))) (fun _ hk => hk.2) (.string ((rd_T52 l0 x7_1).f0))) (fun _ hk => hk.2) (.bool false)) (fun _ hk => hk.2) (.bool a1_1)) (fun _ hk => ⟨hk.1.1, hk.1.2⟩))); (case aS => exact bls_); (case aL => have := LMc17.out; omega); intro v189 w22 ho hb hg hat; rw [← Ny188.out] at ho; replace BK176 := aa_ (blk_grown (g := gb176) (o := .cells #[.string a1_0, .bool a1_1] 52 (0, 0)) (bk_ BK176) hg (Kd.R_away HO_5.out (fun _ hk => hk.1))); replace BK184 := aa_ (blk_grown (g := gb184) (o := .cells #[.string ((rd_T52 l0 x7_1).f0), .bool a1_1] 52 (0, 0)) (bk_ BK184) hg (Kd.R_away HO_5.out (fun _ hk => hk.2))); replace HB := aa_ (hb); have HO190 := aa_ (ho); clear HO_5; clear ho hb hg hat))
      go_roundg k1
      case measure => have := HK1.out; omega
      case rel => exact ⟨(y188), (true), (wrap64 (x7_1 + 1)), rf_, rf_, H', ⟨by have := HK1.out; omega⟩, ⟨by (with_reducible repeat (first | apply Kd.R_alloc | apply Kd.R_drewN | apply Kd.R_drew)); exact Kd.R_mono HO190.out (fun _ hk => hk.1)⟩, ⟨bk_ BK176⟩, ⟨bl_⟩⟩
    ·rw [if_neg c8] at H
     have c8b0 : (((rd_T52 l0 x7_1).f0).toList == a1_0.toList) = false := beq_eq_false_iff_ne.mpr c8
     have c8b1 : (((rd_T52 l0 x7_1).f0).toList != a1_0.toList) = true := bne_iff_ne.mpr c8
     by_cases c23 : x6_1 = true
     ·subst c23
      replace H := ite_t_ H
      obtain ⟨c24, H⟩ := ifn_ H
      have LMc24 := aa_ c24
      clear c24
      obtain ⟨y191, hy191⟩ : ∃ y_ : List (S52), y_ = (x5_1 ++ [(⟨(rd_T52 l0 x7_1).f0, (rd_T52 l0 x7_1).f1⟩ : S52)]) := ⟨_, rfl⟩
      replace H : (spec_l12One.l0 k1 l0 y191 true (wrap64 (x7_1 + 1)) a1_0 a1_1) = some r := rh_ hy191 H
      have Ny191 := aa_ hy191
      clear hy191
      have H' := aa_ H
      clear H
      have p183 : 0 ≤ (x7_1 : Int) := od_
      have q183 : x7_1 < (l0.length : Int) := od_
      obtain ⟨ad183, e183, hx183_0, hx183_1⟩ := at_T52 (Kd.C_below HR0.out HB.out) x7_1 p183 q183
      cases e183
      replace p183 := eq_true p183
      replace q183 := eq_true q183
      go_wp2_with (first | ((with_reducible refine gD_ 8 rfl ?_); refine box_event ?hg (N := 8) ?hd (cs := #[.string (⟨#[]⟩ : ByteArray), .bool false]) (t := 52) ?hr ?_; (case hd => rfl); (case hg => rfl); (case hr => first | (go_simp; done) | (go_simp; rfl)); intro gb184 hg w25 hbox hb; replace HO_5 := aa_ (Kd.R_below (Kd.R_elderB (rr_ HO_5) gb184 (Nat.le_of_eq hg.symm)) hb); have BK184 := aa_ (hbox); have GW184 := gs_ hg; have GE184 := gs_ hg; replace HB := hbs_ hb; have NB176_184 := nl_ hg BK176; have NB184_176 := nr_ hg BK176; replace BK176 := bkb_ BK176 hb; clear hb hbox hg; have hnb26 := NB184_176.out; have hnc26 := NB176_184.out; have hcz27 := blk_cell BK184.out; have hcz27t := cell_two_ BK184.out; have hfz27 := blk_frozen BK184.out; obtain ⟨hcz28, hfz28⟩ := bcf_ BK176) | ((with_reducible refine gate_builtin (b := .append) (xs := #[.tmp 45, .tmp 47]) rfl ?_); at_builtin; refine Kd.R_append k52 (w0 := w) w.heap.size rfl (.tmp 45) (.tmp 47) 36 52 (.agg #[(.string ⟨#[]⟩), (.bool false)]) 24 rfl Try.underlying36 info52 rfl (by decide) (by omega) u5 x5_1 (⟨(rd_T52 l0 x7_1).f0, (rd_T52 l0 x7_1).f1⟩ : S52) [.string ((rd_T52 l0 x7_1).f0), .bool ((rd_T52 l0 x7_1).f1)] (fun k_ => k_ ≠ gb176 ∧ k_ ≠ gb184) (fun _ => False) rfl (by first | (go_simp; done) | (go_simp; rfl)) ?aP (fun _ hk => hk.elim) ?aF ?aO ?aB ?aS ?aL ?_; (case aP => exact k52_mkM _ _ _ (⟨(rd_T52 l0 x7_1).f0, (rd_T52 l0 x7_1).f1⟩ : S52)); (case aB => exact bl_); (case aF => exact (fun k_ hk => ⟨Kd.freshB (g := gb176) (o := .cells #[.string a1_0, .bool a1_1] 52 (0, 0)) (bk_ BK176) k_ hk, Kd.freshB (g := gb184) (o := .cells #[.string ((rd_T52 l0 x7_1).f0), .bool ((rd_T52 l0 x7_1).f1)] 52 (0, 0)) (bk_ BK184) k_ hk⟩)); (case aO => exact (by (with_reducible repeat (first | apply Kd.R_alloc | apply Kd.R_drewN | apply Kd.R_drew)); exact Kd.R_mono (fr2_ (Kd.R_mono HO_5.out (fun k_ hk => (⟨hk, hk.2⟩ : _ ∧ k_ ≠ gb184))) (fun _ hk => hk.2)) (fun _ hk => ⟨hk.1.1, hk.1.2⟩))); (case aS => exact bls_); (case aL => have := LMc24.out; omega); intro v192 w29 ho hb hg hat; rw [← Ny191.out] at ho; replace BK176 := aa_ (blk_grown (g := gb176) (o := .cells #[.string a1_0, .bool a1_1] 52 (0, 0)) (bk_ BK176) hg (Kd.R_away HO_5.out (fun _ hk => hk.1))); replace BK184 := aa_ (blk_grown (g := gb184) (o := .cells #[.string ((rd_T52 l0 x7_1).f0), .bool ((rd_T52 l0 x7_1).f1)] 52 (0, 0)) (bk_ BK184) hg (Kd.R_away HO_5.out (fun _ hk => hk.2))); replace HB := aa_ (hb); have HO193 := aa_ (ho); clear HO_5; clear ho hb hg hat))
      go_roundg k1
      case measure => have := HK1.out; omega
      case rel => exact ⟨(y191), (true), (wrap64 (x7_1 + 1)), rf_, rf_, H', ⟨by have := HK1.out; omega⟩, ⟨by (with_reducible repeat (first | apply Kd.R_alloc | apply Kd.R_drewN | apply Kd.R_drew)); exact Kd.R_mono HO193.out (fun _ hk => hk.1)⟩, ⟨bk_ BK176⟩, ⟨bl_⟩⟩
     ·replace c23 := Bool.eq_false_iff.mpr c23
      subst c23
      replace H := ite_f_ H
      by_cases c30 : (Op.bytesLess a1_0.toList (((rd_T52 l0 x7_1).f0).toList)) = true
      ·rw [if_pos c30] at H
       have c30b0 : (Op.bytesLess a1_0.toList (((rd_T52 l0 x7_1).f0).toList)) = true := c30
       clear c30
       (first | have hgt_ := gtrT_ c30b0 | have hgt_ := gtrF_ c30b0 (by assumption))
       obtain ⟨c31, H⟩ := ifn_ H
       have LMc31 := aa_ c31
       clear c31
       obtain ⟨y194, hy194⟩ : ∃ y_ : List (S52), y_ = (x5_1 ++ [(⟨a1_0, a1_1⟩ : S52)]) := ⟨_, rfl⟩
       replace H : (if y194.length < 5864062014805 then (spec_l12One.l0 k1 l0 (y194 ++ [(⟨(rd_T52 l0 x7_1).f0, (rd_T52 l0 x7_1).f1⟩ : S52)]) true (wrap64 (x7_1 + 1)) a1_0 a1_1) else (none)) = some r := rh_ hy194 H
       have Ny194 := aa_ hy194
       clear hy194
       obtain ⟨c32, H⟩ := ifn_ H
       have LMc32 := aa_ c32
       clear c32
       obtain ⟨y197, hy197⟩ : ∃ y_ : List (S52), y_ = (y194 ++ [(⟨(rd_T52 l0 x7_1).f0, (rd_T52 l0 x7_1).f1⟩ : S52)]) := ⟨_, rfl⟩
       replace H : (spec_l12One.l0 k1 l0 y197 true (wrap64 (x7_1 + 1)) a1_0 a1_1) = some r := rh_ hy197 H
       have Ny197 := aa_ hy197
       clear hy197
       have H' := aa_ H
       clear H
       have p183 : 0 ≤ (x7_1 : Int) := od_
       have q183 : x7_1 < (l0.length : Int) := od_
       obtain ⟨ad183, e183, hx183_0, hx183_1⟩ := at_T52 (Kd.C_below HR0.out HB.out) x7_1 p183 q183
       cases e183
       replace p183 := eq_true p183
       replace q183 := eq_true q183
       go_wp2_with (first | ((with_reducible refine gD_ 8 rfl ?_); refine box_event ?hg (N := 8) ?hd (cs := #[.string (⟨#[]⟩ : ByteArray), .bool false]) (t := 52) ?hr ?_; (case hd => rfl); (case hg => rfl); (case hr => first | (go_simp; done) | (go_simp; rfl)); intro gb184 hg w33 hbox hb; replace HO_5 := aa_ (Kd.R_below (Kd.R_elderB (rr_ HO_5) gb184 (Nat.le_of_eq hg.symm)) hb); have BK184 := aa_ (hbox); have GW184 := gs_ hg; have GE184 := gs_ hg; replace HB := hbs_ hb; have NB176_184 := nl_ hg BK176; have NB184_176 := nr_ hg BK176; replace BK176 := bkb_ BK176 hb; clear hb hbox hg; have hnb34 := NB184_176.out; have hnc34 := NB176_184.out; have hcz35 := blk_cell BK184.out; have hcz35t := cell_two_ BK184.out; have hfz35 := blk_frozen BK184.out; obtain ⟨hcz36, hfz36⟩ := bcf_ BK176) | ((with_reducible refine gate_builtin (b := .append) (xs := #[.tmp 41, .tmp 43]) rfl ?_); at_builtin; refine Kd.R_append k52 (w0 := w) w.heap.size rfl (.tmp 41) (.tmp 43) 36 52 (.agg #[(.string ⟨#[]⟩), (.bool false)]) 24 rfl Try.underlying36 info52 rfl (by decide) (by omega) u5 x5_1 (⟨a1_0, a1_1⟩ : S52) [.string a1_0, .bool a1_1] (fun k_ => k_ ≠ gb176 ∧ k_ ≠ gb184) (fun _ => False) rfl (by first | (go_simp; done) | (go_simp; rfl)) ?aP (fun _ hk => hk.elim) ?aF ?aO ?aB ?aS ?aL ?_; (case aP => exact k52_mkM _ _ _ (⟨a1_0, a1_1⟩ : S52)); (case aB => exact bl_); (case aF => exact (fun k_ hk => ⟨Kd.freshB (g := gb176) (o := .cells #[.string a1_0, .bool a1_1] 52 (0, 0)) (bk_ BK176) k_ hk, Kd.freshB (g := gb184) (o := .cells #[.string ((rd_T52 l0 x7_1).f0), .bool ((rd_T52 l0 x7_1).f1)] 52 (0, 0)) (bk_ BK184) k_ hk⟩)); (case aO => exact (by (with_reducible repeat (first | apply Kd.R_alloc | apply Kd.R_drewN | apply Kd.R_drew)); exact Kd.R_mono (fr2_ (Kd.R_mono HO_5.out (fun k_ hk => (⟨hk, hk.2⟩ : _ ∧ k_ ≠ gb184))) (fun _ hk => hk.2)) (fun _ hk => ⟨hk.1.1, hk.1.2⟩))); (case aS => exact bls_); (case aL => have := LMc31.out; omega); intro v195 w37 ho hb hg hat; rw [← Ny194.out] at ho; replace BK176 := aa_ (blk_grown (g := gb176) (o := .cells #[.string a1_0, .bool a1_1] 52 (0, 0)) (bk_ BK176) hg (Kd.R_away HO_5.out (fun _ hk => hk.1))); replace BK184 := aa_ (blk_grown (g := gb184) (o := .cells #[.string ((rd_T52 l0 x7_1).f0), .bool ((rd_T52 l0 x7_1).f1)] 52 (0, 0)) (bk_ BK184) hg (Kd.R_away HO_5.out (fun _ hk => hk.2))); replace HB := aa_ (hb); have HO196 := aa_ (ho); clear HO_5; clear ho hb hg hat; have hcz38 := blk_cell BK184.out; have hcz38t := cell_two_ BK184.out; have hfz38 := blk_frozen BK184.out) | ((with_reducible refine gate_builtin (b := .append) (xs := #[.tmp 45, .tmp 47]) rfl ?_); at_builtin; refine Kd.R_append k52 (w0 := w) w.heap.size rfl (.tmp 45) (.tmp 47) 36 52 (.agg #[(.string ⟨#[]⟩), (.bool false)]) 24 rfl Try.underlying36 info52 rfl (by decide) (by omega) v195 y194 (⟨(rd_T52 l0 x7_1).f0, (rd_T52 l0 x7_1).f1⟩ : S52) [.string ((rd_T52 l0 x7_1).f0), .bool ((rd_T52 l0 x7_1).f1)] (fun k_ => k_ ≠ gb176 ∧ k_ ≠ gb184) (fun _ => False) rfl rfl ?aP (fun _ hk => hk.elim) ?aF ?aO ?aB ?aS ?aL ?_; (case aP => exact k52_mkM _ _ _ (⟨(rd_T52 l0 x7_1).f0, (rd_T52 l0 x7_1).f1⟩ : S52)); (case aB => exact bl_); (case aF => exact (fun k_ hk => ⟨Kd.freshB (g := gb176) (o := .cells #[.string a1_0, .bool a1_1] 52 (0, 0)) (bk_ BK176) k_ hk, Kd.freshB (g := gb184) (o := .cells #[.string ((rd_T52 l0 x7_1).f0), .bool ((rd_T52 l0 x7_1).f1)] 52 (0, 0)) (bk_ BK184) k_ hk⟩)); (case aO => exact (rr_ HO196)); (case aS => exact bls_); (case aL => have := LMc32.out; omega); intro v198 w39 ho hb hg hat; rw [← Ny197.out] at ho; replace BK176 := aa_ (blk_grown (g := gb176) (o := .cells #[.string a1_0, .bool a1_1] 52 (0, 0)) (bk_ BK176) hg (Kd.R_away HO196.out (fun _ hk => hk.1))); replace BK184 := aa_ (blk_grown (g := gb184) (o := .cells #[.string ((rd_T52 l0 x7_1).f0), .bool ((rd_T52 l0 x7_1).f1)] 52 (0, 0)) (bk_ BK184) hg (Kd.R_away HO196.out (fun _ hk => hk.2))); replace HB := aa_ (hb); have HO199 := aa_ (ho); clear HO196; clear ho hb hg hat))
       go_roundg k1
       case measure => have := HK1.out; omega
       case rel => exact ⟨(y197), (true), (wrap64 (x7_1 + 1)), rf_, rf_, H', ⟨by have := HK1.out; omega⟩, ⟨by (with_reducible repeat (first | apply Kd.R_alloc | apply Kd.R_drewN | apply Kd.R_drew)); exact Kd.R_mono HO199.out (fun _ hk => hk.1)⟩, ⟨bk_ BK176⟩, ⟨bl_⟩⟩
      ·rw [if_neg c30] at H
       have c30b0 : (Op.bytesLess a1_0.toList (((rd_T52 l0 x7_1).f0).toList)) = false := by simpa using c30
       clear c30
       (first | have hgt_ := gtrT_ c30b0 | have hgt_ := gtrF_ c30b0 (by assumption))
       obtain ⟨c40, H⟩ := ifn_ H
       have LMc40 := aa_ c40
       clear c40
       obtain ⟨y200, hy200⟩ : ∃ y_ : List (S52), y_ = (x5_1 ++ [(⟨(rd_T52 l0 x7_1).f0, (rd_T52 l0 x7_1).f1⟩ : S52)]) := ⟨_, rfl⟩
       replace H : (spec_l12One.l0 k1 l0 y200 false (wrap64 (x7_1 + 1)) a1_0 a1_1) = some r := rh_ hy200 H
       have Ny200 := aa_ hy200
       clear hy200
       have H' := aa_ H
       clear H
       have p183 : 0 ≤ (x7_1 : Int) := od_
       have q183 : x7_1 < (l0.length : Int) := od_
       obtain ⟨ad183, e183, hx183_0, hx183_1⟩ := at_T52 (Kd.C_below HR0.out HB.out) x7_1 p183 q183
       cases e183
       replace p183 := eq_true p183
       replace q183 := eq_true q183
       go_wp2_with (first | ((with_reducible refine gD_ 8 rfl ?_); refine box_event ?hg (N := 8) ?hd (cs := #[.string (⟨#[]⟩ : ByteArray), .bool false]) (t := 52) ?hr ?_; (case hd => rfl); (case hg => rfl); (case hr => first | (go_simp; done) | (go_simp; rfl)); intro gb184 hg w41 hbox hb; replace HO_5 := aa_ (Kd.R_below (Kd.R_elderB (rr_ HO_5) gb184 (Nat.le_of_eq hg.symm)) hb); have BK184 := aa_ (hbox); have GW184 := gs_ hg; have GE184 := gs_ hg; replace HB := hbs_ hb; have NB176_184 := nl_ hg BK176; have NB184_176 := nr_ hg BK176; replace BK176 := bkb_ BK176 hb; clear hb hbox hg; have hnb42 := NB184_176.out; have hnc42 := NB176_184.out; have hcz43 := blk_cell BK184.out; have hcz43t := cell_two_ BK184.out; have hfz43 := blk_frozen BK184.out; obtain ⟨hcz44, hfz44⟩ := bcf_ BK176) | ((with_reducible refine gate_builtin (b := .append) (xs := #[.tmp 45, .tmp 47]) rfl ?_); at_builtin; refine Kd.R_append k52 (w0 := w) w.heap.size rfl (.tmp 45) (.tmp 47) 36 52 (.agg #[(.string ⟨#[]⟩), (.bool false)]) 24 rfl Try.underlying36 info52 rfl (by decide) (by omega) u5 x5_1 (⟨(rd_T52 l0 x7_1).f0, (rd_T52 l0 x7_1).f1⟩ : S52) [.string ((rd_T52 l0 x7_1).f0), .bool ((rd_T52 l0 x7_1).f1)] (fun k_ => k_ ≠ gb176 ∧ k_ ≠ gb184) (fun _ => False) rfl (by first | (go_simp; done) | (go_simp; rfl)) ?aP (fun _ hk => hk.elim) ?aF ?aO ?aB ?aS ?aL ?_; (case aP => exact k52_mkM _ _ _ (⟨(rd_T52 l0 x7_1).f0, (rd_T52 l0 x7_1).f1⟩ : S52)); (case aB => exact bl_); (case aF => exact (fun k_ hk => ⟨Kd.freshB (g := gb176) (o := .cells #[.string a1_0, .bool a1_1] 52 (0, 0)) (bk_ BK176) k_ hk, Kd.freshB (g := gb184) (o := .cells #[.string ((rd_T52 l0 x7_1).f0), .bool ((rd_T52 l0 x7_1).f1)] 52 (0, 0)) (bk_ BK184) k_ hk⟩)); (case aO => exact (by (with_reducible repeat (first | apply Kd.R_alloc | apply Kd.R_drewN | apply Kd.R_drew)); exact Kd.R_mono (fr2_ (Kd.R_mono HO_5.out (fun k_ hk => (⟨hk, hk.2⟩ : _ ∧ k_ ≠ gb184))) (fun _ hk => hk.2)) (fun _ hk => ⟨hk.1.1, hk.1.2⟩))); (case aS => exact bls_); (case aL => have := LMc40.out; omega); intro v201 w45 ho hb hg hat; rw [← Ny200.out] at ho; replace BK176 := aa_ (blk_grown (g := gb176) (o := .cells #[.string a1_0, .bool a1_1] 52 (0, 0)) (bk_ BK176) hg (Kd.R_away HO_5.out (fun _ hk => hk.1))); replace BK184 := aa_ (blk_grown (g := gb184) (o := .cells #[.string ((rd_T52 l0 x7_1).f0), .bool ((rd_T52 l0 x7_1).f1)] 52 (0, 0)) (bk_ BK184) hg (Kd.R_away HO_5.out (fun _ hk => hk.2))); replace HB := aa_ (hb); have HO202 := aa_ (ho); clear HO_5; clear ho hb hg hat))
       go_roundg k1
       case measure => have := HK1.out; omega
       case rel => exact ⟨(y200), (false), (wrap64 (x7_1 + 1)), rf_, rf_, H', ⟨by have := HK1.out; omega⟩, ⟨by (with_reducible repeat (first | apply Kd.R_alloc | apply Kd.R_drewN | apply Kd.R_drew)); exact Kd.R_mono HO202.out (fun _ hk => hk.1)⟩, ⟨bk_ BK176⟩, ⟨bl_⟩⟩
   ·rw [if_neg c6] at H
    have c6b0 : decide (x7_1 < (l0.length : Int)) = false := decide_eq_false c6
    clear c6
    by_cases c46 : x6_1 = true
    ·subst c46
     replace H := ite_t_ H
     obtain rfl := Option.some.inj H
     go_wp2
     go_ret
     exact ⟨_, eq_, by (with_reducible repeat (first | apply Kd.R_alloc | apply Kd.R_drewN | apply Kd.R_drew)); exact Kd.R_mono HO_5.out (fun _ hk => trivial), bl_⟩
    ·replace c46 := Bool.eq_false_iff.mpr c46
     subst c46
     replace H := ite_f_ H
     obtain ⟨c47, H⟩ := ifn_ H
     have LMc47 := aa_ c47
     clear c47
     obtain ⟨y180, hy180⟩ : ∃ y_ : List (S52), y_ = (x5_1 ++ [(⟨a1_0, a1_1⟩ : S52)]) := ⟨_, rfl⟩
     replace H : (some y180) = some r := rh_ hy180 H
     have Ny180 := aa_ hy180
     clear hy180
     obtain rfl := Option.some.inj H
     have hcz48 := blk_cell BK176.out
     have hfz48 := blk_frozen BK176.out
     go_wp2_with (first | ((with_reducible refine gate_builtin (b := .append) (xs := #[.tmp 51, .tmp 53]) rfl ?_); at_builtin; refine Kd.R_append k52 (w0 := w) w.heap.size rfl (.tmp 51) (.tmp 53) 36 52 (.agg #[(.string ⟨#[]⟩), (.bool false)]) 24 rfl Try.underlying36 info52 rfl (by decide) (by omega) u5 x5_1 (⟨a1_0, a1_1⟩ : S52) [.string a1_0, .bool a1_1] (fun k_ => k_ ≠ gb176) (fun _ => False) rfl rfl ?aP (fun _ hk => hk.elim) ?aF ?aO ?aB ?aS ?aL ?_; (case aP => exact k52_mkM _ _ _ (⟨a1_0, a1_1⟩ : S52)); (case aB => exact bl_); (case aF => exact (fun k_ hk => Kd.freshB (g := gb176) (o := .cells #[.string a1_0, .bool a1_1] 52 (0, 0)) (bk_ BK176) k_ hk)); (case aO => exact (rr_ HO_5)); (case aS => exact bls_); (case aL => have := LMc47.out; omega); intro v181 w49 ho hb hg hat; rw [← Ny180.out] at ho; replace BK176 := aa_ (blk_grown (g := gb176) (o := .cells #[.string a1_0, .bool a1_1] 52 (0, 0)) (bk_ BK176) hg (Kd.R_away HO_5.out (fun _ hk => hk))); replace HB := aa_ (hb); have HO182 := aa_ (ho); clear HO_5; clear ho hb hg hat))
     go_ret
     exact ⟨_, eq_, by (with_reducible repeat (first | apply Kd.R_alloc | apply Kd.R_drewN | apply Kd.R_drew)); exact Kd.R_mono HO182.out (fun _ hk => trivial), bl_⟩
mutual
def spec_Merged.l0 : Nat → List (S52) → List (S52) → List (S52) → Int → Option ((List (S52)))
 | 0, _, _, _, _ => none
 | k + 1, x0, x1, x5, x6 => if x6 < (x0.length : Int) then (if 0 ≤ x6 then ((spec_l12One.f k x5 ((rd_T52 x0 x6).f0) ((rd_T52 x0 x6).f1)).bind fun t207 => (spec_Merged.l0 k x0 x1 t207 (wrap64 (x6 + 1)))) else (none)) else (spec_Merged.l1 k x1 x5 0)
def spec_Merged.l1 : Nat → List (S52) → List (S52) → Int → Option ((List (S52)))
 | 0, _, _, _ => none
 | k + 1, x1, x5, x7 => if x7 < (x1.length : Int) then (if 0 ≤ x7 then ((spec_l12One.f k x5 ((rd_T52 x1 x7).f0) ((rd_T52 x1 x7).f1)).bind fun t211 => (spec_Merged.l1 k x1 t211 (wrap64 (x7 + 1)))) else (none)) else (some x5)
end
def spec_Merged.f (k : Nat) (l0 : List (S52)) (l1 : List (S52)) : Option ((List (S52))) := spec_Merged.l0 k l0 l1 (([] : List (S52))) 0
set_option maxHeartbeats 8000000 in
set_option maxRecDepth 100000 in
theorem spec_Merged.calls (k : Nat) (A0 : Option Addr) (c0 : Nat) (l0 : List (S52)) (A1 : Option Addr) (c1 : Nat) (l1 : List (S52)) (r : List (S52)) (w : World) (hr0 : Kd.C k52 w A0 l0.length l0) (hc0 : l0.length ≤ c0) (hr1 : Kd.C k52 w A1 l1.length l1) (hc1 : l1.length ≤ c1) (h : spec_Merged.f k l0 l1 = some r) :
  Calls Try.prog 31 #[.slice A0 l0.length c0, .slice A1 l1.length c1] w fun e w' => ∃ v0_ : Value, e = .returned (v0_) ∧ Kd.R k52 52 w' w.heap.size (fun _ => True) v0_ r ∧ Below w.heap.size w w' := by
 have hu52 := Try.underlying52
 have HR0 := aa_ hr0
 have HC0 := aa_ hc0
 clear hr0 hc0
 have HR1 := aa_ hr1
 have HC1 := aa_ hc1
 clear hr1 hc1
 have HB := aa_ (Below.refl w.heap.size w)
 have H : (spec_Merged.l0 k l0 l1 (([] : List (S52))) 0) = some r := h
 clear h
 obtain ⟨y203, hy203⟩ : ∃ y_ : List (S52), y_ = (([] : List (S52))) := ⟨_, rfl⟩
 replace H : (spec_Merged.l0 k l0 l1 y203 0) = some r := rh_ hy203 H
 have Ny203 := aa_ hy203
 clear hy203
 have H' := aa_ H
 clear H
 go_enter Try.func31, Try.ntmps31
 go_wp2_with (first | ((with_reducible refine gD_ 8 rfl ?_); refine Kd.R_lit k52 _ 52 ?hg (N := 8) ?hd (xs := ([] : List (S52))) (inner := []) (ok := fun _ => True) (okp := fun _ => True) ?hr ?hp (fun _ hk => hk) trivial (Below.refl _ _) (Nat.le_refl _) (by simp) ?_; (case hd => rfl); (case hg => rfl); (case hr => first | (go_simp; done) | (go_simp; rfl)); (case hp => exact (Reps.none _ _)); intro v204 w3 ho4 hb hg_ hnew_; clear hg_ hnew_; (first | rw [← Ny203.out] at ho4 | (simp only [Int.reduceToNat] at ho4; rw [← Ny203.out] at ho4)); have HO205 := aa_ (Kd.R_lower ho4 bls_); replace HB := hbs_ hb; clear hb ho4))
 go_loopg [5, 6] k (fun kq v5 v6 w' => ∃ (x5_1 : List (S52)) (x6_1 : Int), v6 = .int .i64 x6_1 ∧ Aside0 (spec_Merged.l0 kq l0 l1 x5_1 x6_1 = some r) ∧ Aside0 (kq ≤ k) ∧ Aside0 (Kd.R k52 52 w' w.heap.size (fun _ => True) v5 x5_1) ∧ Aside0 (Below w.heap.size w w'))
 case atStart => exact ⟨(y203), (0), rf_, H', ⟨Nat.le_refl _⟩, ⟨rr_ HO205⟩, ⟨bl_⟩⟩
 case round =>
  clear H'
  try clear c1
  try clear p2
  try clear c3
  obtain ⟨x5_1, x6_1, rfl, HA, HK1, HO_5, HB⟩ := hrel
  cases gk with
  | zero => exact absurd HA.out (by simp [spec_Merged.l0])
  | succ k1 =>
   have H := HA.out
   clear HA
   simp only [spec_Merged.l0] at H
   by_cases c5 : x6_1 < (l0.length : Int)
   ·rw [if_pos c5] at H
    have c5b0 : decide (x6_1 < (l0.length : Int)) = true := decide_eq_true c5
    clear c5
    obtain ⟨c6b0, H⟩ := ifd_ H
    obtain ⟨t207, A7, H⟩ := bindE_ H
    have H' := aa_ H
    clear H
    have p206 : 0 ≤ (x6_1 : Int) := od_
    have q206 : x6_1 < (l0.length : Int) := od_
    obtain ⟨ad206, e206, hx206_0, hx206_1⟩ := at_T52 (Kd.C_below HR0.out HB.out) x6_1 p206 q206
    cases e206
    replace p206 := eq_true p206
    replace q206 := eq_true q206
    obtain ⟨Ao8, co8, eo8⟩ := Kd.R_slice HO_5.out
    subst eo8
    go_wp2_with (first | ((with_reducible refine gC_ 46 rfl ?_); refine goesC_ (some 20) Try.func46 #[.slice Ao8 x5_1.length co8, .agg #[.string ((rd_T52 l0 x6_1).f0), .bool ((rd_T52 l0 x6_1).f1)]] ?_; (with_reducible refine (spec_l12One.calls k1 _ _ x5_1 ((rd_T52 l0 x6_1).f0) ((rd_T52 l0 x6_1).f1) t207 _ ?side1 ?side2 A7.out).mono ?_); (case side1 => repeat (first | exact (Kd.R_reads' HO_5.out).2.2 | (with_reducible refine Kd.C_alloc ?_ _) | (with_reducible refine Kd.C_drewN ?_ _) | (with_reducible refine Kd.C_drew ?_))); (case side2 => exact (Kd.R_reads' HO_5.out).2.1); rintro e w9 ⟨v208, rfl, ho0, hb⟩; refine ⟨_, rfl, ?_⟩; have HO209 := aa_ (Kd.R_lower (Kd.R_new' ho0 (Kd.R_lt (rr_ HO_5))) bls_); replace HO_5 := aa_ (Kd.R_elder' (rr_ HO_5) (Kd.R_base ho0) hb); replace HB := hbs_ hb; (try clear hb ho0)))
    go_roundg k1
    case measure => have := HK1.out; omega
    case rel => exact ⟨(t207), (wrap64 (x6_1 + 1)), rf_, H', ⟨by have := HK1.out; omega⟩, ⟨by (with_reducible repeat (first | apply Kd.R_alloc | apply Kd.R_drewN | apply Kd.R_drew)); exact Kd.R_mono HO209.out (fun _ hk => trivial)⟩, ⟨bl_⟩⟩
   ·rw [if_neg c5] at H
    have c5b0 : decide (x6_1 < (l0.length : Int)) = false := decide_eq_false c5
    clear c5
    have H' := aa_ H
    clear H
    go_wp2
    go_loopg [5, 7] k1 (fun kq v5 v7 w' => ∃ (x5_2 : List (S52)) (x7_2 : Int), v7 = .int .i64 x7_2 ∧ Aside0 (spec_Merged.l1 kq l1 x5_2 x7_2 = some r) ∧ Aside0 (kq ≤ k1) ∧ Aside0 (Kd.R k52 52 w' w.heap.size (fun _ => True) v5 x5_2) ∧ Aside0 (Below w.heap.size w w'))
    case atStart => exact ⟨(x5_1), (0), rf_, H', ⟨Nat.le_refl _⟩, ⟨rr_ HO_5⟩, ⟨bl_⟩⟩
    case round =>
     clear H'
     try clear c1
     try clear p2
     try clear q2
     try clear hx2
     try clear c3
     try clear c4
     try clear c5
     try clear c5b0
     try clear c6
     try clear c6b0
     try clear p6
     try clear hx206_0
     try clear hx206_1
     try clear p2
     try clear p206
     try clear q206
     obtain ⟨x5_2, x7_2, rfl, HA, HK2, HO_5, HB⟩ := hrel
     cases gk with
     | zero => exact absurd HA.out (by simp [spec_Merged.l1])
     | succ k2 =>
      have H := HA.out
      clear HA
      simp only [spec_Merged.l1] at H
      by_cases c10 : x7_2 < (l1.length : Int)
      ·rw [if_pos c10] at H
       have c10b0 : decide (x7_2 < (l1.length : Int)) = true := decide_eq_true c10
       clear c10
       obtain ⟨c11b0, H⟩ := ifd_ H
       obtain ⟨t211, A12, H⟩ := bindE_ H
       have H' := aa_ H
       clear H
       have p210 : 0 ≤ (x7_2 : Int) := od_
       have q210 : x7_2 < (l1.length : Int) := od_
       obtain ⟨ad210, e210, hx210_0, hx210_1⟩ := at_T52 (Kd.C_below HR1.out HB.out) x7_2 p210 q210
       cases e210
       replace p210 := eq_true p210
       replace q210 := eq_true q210
       obtain ⟨Ao13, co13, eo13⟩ := Kd.R_slice HO_5.out
       subst eo13
       go_wp2_with (first | ((with_reducible refine gC_ 46 rfl ?_); refine goesC_ (some 32) Try.func46 #[.slice Ao13 x5_2.length co13, .agg #[.string ((rd_T52 l1 x7_2).f0), .bool ((rd_T52 l1 x7_2).f1)]] ?_; (with_reducible refine (spec_l12One.calls k2 _ _ x5_2 ((rd_T52 l1 x7_2).f0) ((rd_T52 l1 x7_2).f1) t211 _ ?side1 ?side2 A12.out).mono ?_); (case side1 => repeat (first | exact (Kd.R_reads' HO_5.out).2.2 | (with_reducible refine Kd.C_alloc ?_ _) | (with_reducible refine Kd.C_drewN ?_ _) | (with_reducible refine Kd.C_drew ?_))); (case side2 => exact (Kd.R_reads' HO_5.out).2.1); rintro e w14 ⟨v212, rfl, ho0, hb⟩; refine ⟨_, rfl, ?_⟩; have HO213 := aa_ (Kd.R_lower (Kd.R_new' ho0 (Kd.R_lt (rr_ HO_5))) bls_); replace HO_5 := aa_ (Kd.R_elder' (rr_ HO_5) (Kd.R_base ho0) hb); replace HB := hbs_ hb; (try clear hb ho0)))
       go_roundg k2
       case measure => have := HK1.out; have := HK2.out; omega
       case rel => exact ⟨(t211), (wrap64 (x7_2 + 1)), rf_, H', ⟨by have := HK1.out; have := HK2.out; omega⟩, ⟨by (with_reducible repeat (first | apply Kd.R_alloc | apply Kd.R_drewN | apply Kd.R_drew)); exact Kd.R_mono HO213.out (fun _ hk => trivial)⟩, ⟨bl_⟩⟩
      ·rw [if_neg c10] at H
       have c10b0 : decide (x7_2 < (l1.length : Int)) = false := decide_eq_false c10
       clear c10
       obtain rfl := Option.some.inj H
       go_wp2
       go_ret
       exact ⟨_, eq_, by (with_reducible repeat (first | apply Kd.R_alloc | apply Kd.R_drewN | apply Kd.R_drew)); exact HO_5.out, bl_⟩
def spec_l15All.l0 : Nat → Int → List (S52) → Int → List (S42) → Option ((List (S52)))
 | 0, _, _, _, _ => none
 | k + 1, x1, x5, x6, x215000 => if x6 < (x215000.length : Int) then (if 0 ≤ x6 then ((spec_ShelfOf.f k ((rd_T42 x215000 x6).f0) ((rd_T42 x215000 x6).f1) ((rd_T42 x215000 x6).f2) ((rd_T42 x215000 x6).f3) ((rd_T42 x215000 x6).f4) ((rd_T42 x215000 x6).f5) x1).bind fun t219 => ((spec_Merged.f k x5 t219).bind fun t222 => (spec_l15All.l0 k x1 t222 (wrap64 (x6 + 1)) x215000))) else (none)) else (some x5)
def spec_l15All.f (k : Nat) (l0_0 : List (S42)) (a1 : Int) : Option ((List (S52))) := spec_l15All.l0 k a1 (([] : List (S52))) 0 l0_0
set_option maxHeartbeats 8000000 in
set_option maxRecDepth 100000 in
theorem spec_l15All.calls (k : Nat) (A0_0 : Option Addr) (c0_0 : Nat) (l0_0 : List (S42)) (a1 : Int) (r : List (S52)) (w : World) (hr0_0 : Kd.C k42 w A0_0 l0_0.length l0_0) (hc0_0 : l0_0.length ≤ c0_0) (h : spec_l15All.f k l0_0 a1 = some r) :
  Calls Try.prog 12 #[.agg #[.slice A0_0 l0_0.length c0_0], .int .i64 a1] w fun e w' => ∃ v0_ : Value, e = .returned (v0_) ∧ Kd.R k52 52 w' w.heap.size (fun _ => True) v0_ r ∧ Below w.heap.size w w' := by
 have hu29 := Try.underlying29
 have hu42 := Try.underlying42
 have HR0_0 := aa_ hr0_0
 have HC0_0 := aa_ hc0_0
 clear hr0_0 hc0_0
 have HB := aa_ (Below.refl w.heap.size w)
 have H : (spec_l15All.l0 k a1 (([] : List (S52))) 0 l0_0) = some r := h
 clear h
 obtain ⟨y215, hy215⟩ : ∃ y_ : List (S52), y_ = (([] : List (S52))) := ⟨_, rfl⟩
 replace H : (spec_l15All.l0 k a1 y215 0 l0_0) = some r := rh_ hy215 H
 have Ny215 := aa_ hy215
 clear hy215
 have H' := aa_ H
 clear H
 go_enter Try.func12, Try.ntmps12
 go_wp2_with (first | ((with_reducible refine gD_ 2 rfl ?_); refine bx_ (N := 2) (cs := #[.slice A0_0 l0_0.length c0_0]) (t := 29) ?_; intro gb214 hg w3 hbox hb; have BK214 := aa_ (hbox); have GW214 := gs_ hg; have GE214 := gs_ hg; replace HB := hbs_ hb; clear hb hbox hg) | ((with_reducible refine gD_ 7 rfl ?_); refine Kd.R_lit k52 _ 52 ?hg (N := 7) ?hd (xs := ([] : List (S52))) (inner := []) (ok := fun _ => True) (okp := fun _ => True) ?hr ?hp (fun _ hk => hk) trivial (Below.refl _ _) (Nat.le_refl _) (by simp) ?_; (case hd => rfl); (case hg => rfl); (case hr => first | (go_simp; done) | (go_simp; rfl)); (case hp => exact (Reps.none _ _)); intro v216 w4 ho5 hb hg_ hnew_; clear hg_ hnew_; (first | rw [← Ny215.out] at ho5 | (simp only [Int.reduceToNat] at ho5; rw [← Ny215.out] at ho5)); have HO217 := aa_ (Kd.R_lower ho5 bls_); replace BK214 := bkb_ BK214 hb; replace HB := hbs_ hb; clear hb ho5))
 go_loopg [5, 6] k (fun kq v5 v6 w' => ∃ (x5_1 : List (S52)) (x6_1 : Int), v6 = .int .i64 x6_1 ∧ Aside0 (spec_l15All.l0 kq a1 x5_1 x6_1 l0_0 = some r) ∧ Aside0 (kq ≤ k) ∧ Aside0 (Kd.R k52 52 w' w.heap.size (fun _ => True) v5 x5_1) ∧ Aside0 (w'.heap[gb214]? = some (.cells #[(.slice A0_0 l0_0.length c0_0)] 29 (0, 0))) ∧ Aside0 (Below w.heap.size w w'))
 case atStart => exact ⟨(y215), (0), rf_, H', ⟨Nat.le_refl _⟩, ⟨rr_ HO217⟩, ⟨bk_ BK214⟩, ⟨bl_⟩⟩
 case round =>
  clear H'
  try clear c1
  try clear p2
  obtain ⟨x5_1, x6_1, rfl, HA, HK1, HO_5, BK214, HB⟩ := hrel
  cases gk with
  | zero => exact absurd HA.out (by simp [spec_l15All.l0])
  | succ k1 =>
   have H := HA.out
   clear HA
   simp only [spec_l15All.l0] at H
   by_cases c6 : x6_1 < (l0_0.length : Int)
   ·rw [if_pos c6] at H
    have c6b0 : decide (x6_1 < (l0_0.length : Int)) = true := decide_eq_true c6
    clear c6
    obtain ⟨c7b0, H⟩ := ifd_ H
    obtain ⟨t219, A8, H⟩ := bindE_ H
    obtain ⟨t222, A9, H⟩ := bindE_ H
    have H' := aa_ H
    clear H
    have hcz10 := blk_cell BK214.out
    have hfz10 := blk_frozen BK214.out
    have p218 : 0 ≤ (x6_1 : Int) := od_
    have q218 : x6_1 < (l0_0.length : Int) := od_
    obtain ⟨ad218, A218_3, c218_3, A218_4, c218_4, A218_5, c218_5, e218, hx218_0, hx218_1, hx218_2, hx218_3, hx218_4, hx218_5, hl218_3, hi218_3, hl218_4, hi218_4, hl218_5, hi218_5⟩ := at_T42 HR0_0.out x6_1 p218 q218
    cases e218
    replace hx218_0 := cb_ HB hx218_0
    replace hx218_1 := cb_ HB hx218_1
    replace hx218_2 := cb_ HB hx218_2
    replace hx218_3 := cb_ HB hx218_3
    replace hx218_4 := cb_ HB hx218_4
    replace hx218_5 := cb_ HB hx218_5
    have HR218_3 := aa_ hi218_3
    have HC218_3 := aa_ hl218_3
    clear hi218_3 hl218_3
    have HR218_4 := aa_ hi218_4
    have HC218_4 := aa_ hl218_4
    clear hi218_4 hl218_4
    have HR218_5 := aa_ hi218_5
    have HC218_5 := aa_ hl218_5
    clear hi218_5 hl218_5
    replace p218 := eq_true p218
    replace q218 := eq_true q218
    go_wp2_with (first | ((with_reducible refine gC_ 17 rfl ?_); refine goesC_ (some 22) Try.func17 #[.agg #[.int .i64 ((rd_T42 l0_0 x6_1).f0), .bool ((rd_T42 l0_0 x6_1).f1), .int .i64 ((rd_T42 l0_0 x6_1).f2), .slice A218_3 ((rd_T42 l0_0 x6_1).f3).length c218_3, .slice A218_4 ((rd_T42 l0_0 x6_1).f4).length c218_4, .slice A218_5 ((rd_T42 l0_0 x6_1).f5).length c218_5], .int .i64 a1] ?_; (with_reducible refine (spec_ShelfOf.calls k1 ((rd_T42 l0_0 x6_1).f0) ((rd_T42 l0_0 x6_1).f1) ((rd_T42 l0_0 x6_1).f2) _ _ ((rd_T42 l0_0 x6_1).f3) _ _ ((rd_T42 l0_0 x6_1).f4) _ _ ((rd_T42 l0_0 x6_1).f5) a1 t219 _ ?side1 ?side2 ?side3 ?side4 ?side5 ?side6 A8.out).mono ?_); (case side1 => repeat (first | exact (Kd.C_below HR218_3.out HB.out) | (with_reducible refine Kd.C_alloc ?_ _) | (with_reducible refine Kd.C_drewN ?_ _) | (with_reducible refine Kd.C_drew ?_))); (case side2 => exact HC218_3.out); (case side3 => repeat (first | exact (Kd.C_below HR218_4.out HB.out) | (with_reducible refine Kd.C_alloc ?_ _) | (with_reducible refine Kd.C_drewN ?_ _) | (with_reducible refine Kd.C_drew ?_))); (case side4 => exact HC218_4.out); (case side5 => repeat (first | exact (Kd.C_below HR218_5.out HB.out) | (with_reducible refine Kd.C_alloc ?_ _) | (with_reducible refine Kd.C_drewN ?_ _) | (with_reducible refine Kd.C_drew ?_))); (case side6 => exact HC218_5.out); rintro e w11 ⟨v220, rfl, ho0, hb⟩; refine ⟨_, rfl, ?_⟩; have HO221 := aa_ (Kd.R_lower (Kd.R_new' ho0 (Kd.R_lt (rr_ HO_5))) bls_); replace HO_5 := aa_ (Kd.R_elder' (rr_ HO_5) (Kd.R_base ho0) hb); replace BK214 := bkb_ BK214 hb; replace HB := hbs_ hb; (try clear hb ho0); obtain ⟨Ao12, co12, eo12⟩ := Kd.R_slice HO_5.out; subst eo12; obtain ⟨Ao13, co13, eo13⟩ := Kd.R_slice HO221.out; subst eo13) | ((with_reducible refine gC_ 31 rfl ?_); refine goesC_ (some 23) Try.func31 #[.slice Ao12 x5_1.length co12, .slice Ao13 t219.length co13] ?_; (with_reducible refine (spec_Merged.calls k1 _ _ x5_1 _ _ t219 t222 _ ?side1 ?side2 ?side3 ?side4 A9.out).mono ?_); (case side1 => repeat (first | exact (Kd.R_reads' HO_5.out).2.2 | (with_reducible refine Kd.C_alloc ?_ _) | (with_reducible refine Kd.C_drewN ?_ _) | (with_reducible refine Kd.C_drew ?_))); (case side2 => exact (Kd.R_reads' HO_5.out).2.1); (case side3 => repeat (first | exact (Kd.R_reads' HO221.out).2.2 | (with_reducible refine Kd.C_alloc ?_ _) | (with_reducible refine Kd.C_drewN ?_ _) | (with_reducible refine Kd.C_drew ?_))); (case side4 => exact (Kd.R_reads' HO221.out).2.1); rintro e w14 ⟨v223, rfl, ho0, hb⟩; refine ⟨_, rfl, ?_⟩; have HO224 := aa_ (Kd.R_lower (Kd.R_new' (Kd.R_new' ho0 (Kd.R_lt (rr_ HO_5))) (Kd.R_lt (rr_ HO221))) bls_); replace HO_5 := aa_ (Kd.R_elder' (rr_ HO_5) (Kd.R_base ho0) hb); replace HO221 := aa_ (Kd.R_elder' (rr_ HO221) (Kd.R_base ho0) hb); replace BK214 := bkb_ BK214 hb; replace HB := hbs_ hb; (try clear hb ho0)))
    go_roundg k1
    case measure => have := HK1.out; omega
    case rel => exact ⟨(t222), (wrap64 (x6_1 + 1)), rf_, H', ⟨by have := HK1.out; omega⟩, ⟨by (with_reducible repeat (first | apply Kd.R_alloc | apply Kd.R_drewN | apply Kd.R_drew)); exact Kd.R_mono HO224.out (fun _ hk => trivial)⟩, ⟨bk_ BK214⟩, ⟨bl_⟩⟩
   ·rw [if_neg c6] at H
    have c6b0 : decide (x6_1 < (l0_0.length : Int)) = false := decide_eq_false c6
    clear c6
    obtain rfl := Option.some.inj H
    have hcz15 := blk_cell BK214.out
    have hfz15 := blk_frozen BK214.out
    go_wp2
    go_ret
    exact ⟨_, eq_, by (with_reducible repeat (first | apply Kd.R_alloc | apply Kd.R_drewN | apply Kd.R_drew)); exact HO_5.out, bl_⟩
def spec_l08Has.l0 : Nat → List Int → Int → Int → Option (Bool)
 | 0, _, _, _ => none
 | k + 1, x0, x1, x5 => if x5 < (x0.length : Int) then (if 0 ≤ x5 then (if (rd x0 x5) = x1 then (some true) else (spec_l08Has.l0 k x0 x1 (wrap64 (x5 + 1)))) else (none)) else (some false)
def spec_l08Has.f (k : Nat) (l0 : List Int) (a1 : Int) : Option (Bool) := spec_l08Has.l0 k l0 a1 0
set_option maxHeartbeats 8000000 in
set_option maxRecDepth 100000 in
theorem spec_l08Has.calls (k : Nat) (A0 : Option Addr) (c0 : Nat) (l0 : List Int) (a1 : Int) (r : Bool) (w : World) (hr0 : Kd.C (Kd.int .i64) w A0 l0.length l0) (hc0 : l0.length ≤ c0) (h : spec_l08Has.f k l0 a1 = some r) :
  Calls Try.prog 15 #[.slice A0 l0.length c0, .int .i64 a1] w fun e w' => e = .returned (.bool r) ∧ Drawn0 w w' := by
 have HR0 := aa_ hr0
 have HC0 := aa_ hc0
 clear hr0 hc0
 have H : (spec_l08Has.l0 k l0 a1 0) = some r := h
 clear h
 have H' := aa_ H
 clear H
 go_enter Try.func15, Try.ntmps15
 go_wp2
 go_loopg [5] k (fun kq v5 w' => ∃ (x5_1 : Int), v5 = .int .i64 x5_1 ∧ Aside0 (spec_l08Has.l0 kq l0 a1 x5_1 = some r) ∧ Aside0 (kq ≤ k) ∧ Drawn0 w w')
 case atStart => exact ⟨(0), rf_, H', ⟨Nat.le_refl _⟩, by repeat (first | exact Drawn0.refl _ | apply Drawn0.step)⟩
 case round =>
  clear H'
  try clear c1
  try clear p2
  obtain ⟨x5_1, rfl, HA, HK1, ⟨m1, rfl⟩⟩ := hrel
  cases gk with
  | zero => exact absurd HA.out (by simp [spec_l08Has.l0])
  | succ k1 =>
   have H := HA.out
   clear HA
   simp only [spec_l08Has.l0] at H
   by_cases c3 : x5_1 < (l0.length : Int)
   ·rw [if_pos c3] at H
    have c3b0 : decide (x5_1 < (l0.length : Int)) = true := decide_eq_true c3
    clear c3
    obtain ⟨c4b0, H⟩ := ifd_ H
    have HC5 := aa_ H
    clear H
    have p225 : 0 ≤ (x5_1 : Int) := od_
    have q225 : x5_1 < (l0.length : Int) := od_
    obtain ⟨ad225, e225, hx225_0⟩ := Kd.at_int HR0.out x5_1 p225 q225
    cases e225
    replace p225 := eq_true p225
    replace q225 := eq_true q225
    go_upto_if 17 with (fail)
    have H := HC5.out
    clear HC5
    by_cases c6 : (rd l0 x5_1) = a1
    ·rw [if_pos c6] at H
     have c6b0 : ((rd l0 x5_1) == a1) = true := beq_iff_eq.mpr c6
     have c6b1 : ((rd l0 x5_1) != a1) = false := bne_eq_false_iff_eq.mpr c6
     clear c6
     (first | rw [c6b0] | (simp only [i64_w, i32_w]; rw [c6b0]) | skip)
     obtain rfl := Option.some.inj H
     go_wp2
     go_ret
     exact ⟨by first | rfl | (simp; done) | (simp [*]; done), by repeat (first | exact Drawn0.refl _ | apply Drawn0.step)⟩
    ·rw [if_neg c6] at H
     have c6b0 : ((rd l0 x5_1) == a1) = false := beq_eq_false_iff_ne.mpr c6
     have c6b1 : ((rd l0 x5_1) != a1) = true := bne_iff_ne.mpr c6
     (first | rw [c6b0] | (simp only [i64_w, i32_w]; rw [c6b0]) | skip)
     have H' := aa_ H
     clear H
     go_wp2
     go_roundg k1
     case measure => have := HK1.out; omega
     case rel => exact ⟨(wrap64 (x5_1 + 1)), rf_, H', ⟨by have := HK1.out; omega⟩, by repeat (first | exact Drawn0.refl _ | apply Drawn0.step)⟩
   ·rw [if_neg c3] at H
    have c3b0 : decide (x5_1 < (l0.length : Int)) = false := decide_eq_false c3
    clear c3
    obtain rfl := Option.some.inj H
    go_wp2
    go_ret
    exact ⟨by first | rfl | (simp; done) | (simp [*]; done), by repeat (first | exact Drawn0.refl _ | apply Drawn0.step)⟩
def spec_PeerAt.l0 : Nat → Int → Int → List (S42) → Option (Int)
 | 0, _, _, _ => none
 | k + 1, x1, x5, x227000 => if x5 < (x227000.length : Int) then (if 0 ≤ x5 then (if (rd_T42 x227000 x5).f1 = true then (if ((rd_T42 x227000 x5).f0) = x1 then (some x5) else (spec_PeerAt.l0 k x1 (wrap64 (x5 + 1)) x227000)) else (spec_PeerAt.l0 k x1 (wrap64 (x5 + 1)) x227000)) else (none)) else (some (-1))
def spec_PeerAt.f (k : Nat) (l0_0 : List (S42)) (a1 : Int) : Option (Int) := spec_PeerAt.l0 k a1 0 l0_0
set_option maxHeartbeats 8000000 in
set_option maxRecDepth 100000 in
theorem spec_PeerAt.calls (k : Nat) (A0_0 : Option Addr) (c0_0 : Nat) (l0_0 : List (S42)) (a1 : Int) (r : Int) (w : World) (hr0_0 : Kd.C k42 w A0_0 l0_0.length l0_0) (hc0_0 : l0_0.length ≤ c0_0) (h : spec_PeerAt.f k l0_0 a1 = some r) :
  Calls Try.prog 32 #[.agg #[.slice A0_0 l0_0.length c0_0], .int .i64 a1] w fun e w' => e = .returned (.int .i64 r) ∧ Below w.heap.size w w' := by
 have hu29 := Try.underlying29
 have HR0_0 := aa_ hr0_0
 have HC0_0 := aa_ hc0_0
 clear hr0_0 hc0_0
 have HB := aa_ (Below.refl w.heap.size w)
 have H : (spec_PeerAt.l0 k a1 0 l0_0) = some r := h
 clear h
 have H' := aa_ H
 clear H
 go_enter Try.func32, Try.ntmps32
 go_wp2_with (first | ((with_reducible refine gD_ 2 rfl ?_); refine bx_ (N := 2) (cs := #[.slice A0_0 l0_0.length c0_0]) (t := 29) ?_; intro gb226 hg w3 hbox hb; have BK226 := aa_ (hbox); have GW226 := gs_ hg; have GE226 := gs_ hg; replace HB := hbs_ hb; clear hb hbox hg))
 go_loopg [5] k (fun kq v5 w' => ∃ (x5_1 : Int), v5 = .int .i64 x5_1 ∧ Aside0 (spec_PeerAt.l0 kq a1 x5_1 l0_0 = some r) ∧ Aside0 (kq ≤ k) ∧ Aside0 (w'.heap[gb226]? = some (.cells #[(.slice A0_0 l0_0.length c0_0)] 29 (0, 0))) ∧ Aside0 (Below w.heap.size w w'))
 case atStart => exact ⟨(0), rf_, H', ⟨Nat.le_refl _⟩, ⟨bk_ BK226⟩, ⟨bl_⟩⟩
 case round =>
  clear H'
  try clear p2
  try clear c3
  obtain ⟨x5_1, rfl, HA, HK1, BK226, HB⟩ := hrel
  cases gk with
  | zero => exact absurd HA.out (by simp [spec_PeerAt.l0])
  | succ k1 =>
   have H := HA.out
   clear HA
   simp only [spec_PeerAt.l0] at H
   by_cases c4 : x5_1 < (l0_0.length : Int)
   ·rw [if_pos c4] at H
    have c4b0 : decide (x5_1 < (l0_0.length : Int)) = true := decide_eq_true c4
    clear c4
    obtain ⟨c5b0, H⟩ := ifd_ H
    obtain ⟨bq6, hbq6⟩ : ∃ b_ : Bool, b_ = ((rd_T42 l0_0 x5_1).f1) := ⟨_, rfl⟩
    replace H : (if bq6 = true then (if ((rd_T42 l0_0 x5_1).f0) = a1 then (some x5_1) else (spec_PeerAt.l0 k1 a1 (wrap64 (x5_1 + 1)) l0_0)) else (spec_PeerAt.l0 k1 a1 (wrap64 (x5_1 + 1)) l0_0)) = some r := by rw [← hbq6] at H; exact H
    have Nbq6 := aa_ hbq6
    clear hbq6
    by_cases c7 : bq6 = true
    ·subst c7
     replace H := ite_t_ H
     have HC8 := aa_ H
     clear H
     have hcz9 := blk_cell BK226.out
     have hfz9 := blk_frozen BK226.out
     have p227 : 0 ≤ (x5_1 : Int) := od_
     have q227 : x5_1 < (l0_0.length : Int) := od_
     obtain ⟨ad227, A227_3, c227_3, A227_4, c227_4, A227_5, c227_5, e227, hx227_0, hx227_1, hx227_2, hx227_3, hx227_4, hx227_5, hl227_3, hi227_3, hl227_4, hi227_4, hl227_5, hi227_5⟩ := at_T42 HR0_0.out x5_1 p227 q227
     (try rw [← Nbq6.out] at hx227_1)
     cases e227
     replace hx227_0 := cb_ HB hx227_0
     replace hx227_1 := cb_ HB hx227_1
     replace hx227_2 := cb_ HB hx227_2
     replace hx227_3 := cb_ HB hx227_3
     replace hx227_4 := cb_ HB hx227_4
     replace hx227_5 := cb_ HB hx227_5
     have HR227_3 := aa_ hi227_3
     have HC227_3 := aa_ hl227_3
     clear hi227_3 hl227_3
     have HR227_4 := aa_ hi227_4
     have HC227_4 := aa_ hl227_4
     clear hi227_4 hl227_4
     have HR227_5 := aa_ hi227_5
     have HC227_5 := aa_ hl227_5
     clear hi227_5 hl227_5
     replace p227 := eq_true p227
     replace q227 := eq_true q227
     have p228 : 0 ≤ (x5_1 : Int) := od_
     have q228 : x5_1 < (l0_0.length : Int) := od_
     obtain ⟨ad228, A228_3, c228_3, A228_4, c228_4, A228_5, c228_5, e228, hx228_0, hx228_1, hx228_2, hx228_3, hx228_4, hx228_5, hl228_3, hi228_3, hl228_4, hi228_4, hl228_5, hi228_5⟩ := at_T42 HR0_0.out x5_1 p228 q228
     (try rw [← Nbq6.out] at hx228_1)
     obtain rfl : ad227 = ad228 := (by injection e228)
     replace hx228_0 := cb_ HB hx228_0
     replace hx228_1 := cb_ HB hx228_1
     replace hx228_2 := cb_ HB hx228_2
     replace hx228_3 := cb_ HB hx228_3
     replace hx228_4 := cb_ HB hx228_4
     replace hx228_5 := cb_ HB hx228_5
     have HR228_3 := aa_ hi228_3
     have HC228_3 := aa_ hl228_3
     clear hi228_3 hl228_3
     have HR228_4 := aa_ hi228_4
     have HC228_4 := aa_ hl228_4
     clear hi228_4 hl228_4
     have HR228_5 := aa_ hi228_5
     have HC228_5 := aa_ hl228_5
     clear hi228_5 hl228_5
     replace p228 := eq_true p228
     replace q228 := eq_true q228
     have ea_ := Option.some.inj (hx227_3.symm.trans hx228_3)
     injection ea_ with ea_ en_ ec_
     subst ea_
     subst ec_
     clear en_
     have ea_ := Option.some.inj (hx227_4.symm.trans hx228_4)
     injection ea_ with ea_ en_ ec_
     subst ea_
     subst ec_
     clear en_
     have ea_ := Option.some.inj (hx227_5.symm.trans hx228_5)
     injection ea_ with ea_ en_ ec_
     subst ea_
     subst ec_
     clear en_
     go_upto_if 28 with (fail)
     have H := HC8.out
     clear HC8
     by_cases c10 : ((rd_T42 l0_0 x5_1).f0) = a1
     ·rw [if_pos c10] at H
      have c10b0 : (((rd_T42 l0_0 x5_1).f0) == a1) = true := beq_iff_eq.mpr c10
      have c10b1 : (((rd_T42 l0_0 x5_1).f0) != a1) = false := bne_eq_false_iff_eq.mpr c10
      clear c10
      (first | rw [c10b0] | (simp only [i64_w, i32_w]; rw [c10b0]) | skip)
      obtain rfl := Option.some.inj H
      go_wp2
      go_ret
      exact ⟨eq_, bl_⟩
     ·rw [if_neg c10] at H
      have c10b0 : (((rd_T42 l0_0 x5_1).f0) == a1) = false := beq_eq_false_iff_ne.mpr c10
      have c10b1 : (((rd_T42 l0_0 x5_1).f0) != a1) = true := bne_iff_ne.mpr c10
      (first | rw [c10b0] | (simp only [i64_w, i32_w]; rw [c10b0]) | skip)
      have H' := aa_ H
      clear H
      go_wp2
      go_roundg k1
      case measure => have := HK1.out; omega
      case rel => exact ⟨(wrap64 (x5_1 + 1)), rf_, H', ⟨by have := HK1.out; omega⟩, ⟨bk_ BK226⟩, ⟨bl_⟩⟩
    ·replace c7 := Bool.eq_false_iff.mpr c7
     subst c7
     replace H := ite_f_ H
     have H' := aa_ H
     clear H
     have hcz11 := blk_cell BK226.out
     have hfz11 := blk_frozen BK226.out
     have p227 : 0 ≤ (x5_1 : Int) := od_
     have q227 : x5_1 < (l0_0.length : Int) := od_
     obtain ⟨ad227, A227_3, c227_3, A227_4, c227_4, A227_5, c227_5, e227, hx227_0, hx227_1, hx227_2, hx227_3, hx227_4, hx227_5, hl227_3, hi227_3, hl227_4, hi227_4, hl227_5, hi227_5⟩ := at_T42 HR0_0.out x5_1 p227 q227
     (try rw [← Nbq6.out] at hx227_1)
     cases e227
     replace hx227_0 := cb_ HB hx227_0
     replace hx227_1 := cb_ HB hx227_1
     replace hx227_2 := cb_ HB hx227_2
     replace hx227_3 := cb_ HB hx227_3
     replace hx227_4 := cb_ HB hx227_4
     replace hx227_5 := cb_ HB hx227_5
     have HR227_3 := aa_ hi227_3
     have HC227_3 := aa_ hl227_3
     clear hi227_3 hl227_3
     have HR227_4 := aa_ hi227_4
     have HC227_4 := aa_ hl227_4
     clear hi227_4 hl227_4
     have HR227_5 := aa_ hi227_5
     have HC227_5 := aa_ hl227_5
     clear hi227_5 hl227_5
     replace p227 := eq_true p227
     replace q227 := eq_true q227
     go_wp2
     go_roundg k1
     case measure => have := HK1.out; omega
     case rel => exact ⟨(wrap64 (x5_1 + 1)), rf_, H', ⟨by have := HK1.out; omega⟩, ⟨bk_ BK226⟩, ⟨bl_⟩⟩
   ·rw [if_neg c4] at H
    have c4b0 : decide (x5_1 < (l0_0.length : Int)) = false := decide_eq_false c4
    clear c4
    obtain rfl := Option.some.inj H
    have hcz12 := blk_cell BK226.out
    have hfz12 := blk_frozen BK226.out
    go_wp2
    go_ret
    exact ⟨eq_, bl_⟩
end Go.Proofs.Ytkimdmdkldlhpaa.PA
