import Derived.Test.YtamhfnedknjjbaaKTPBx8
-- printed by wip/tools
namespace Go.Proofs.Ytamhfnedknjjbaa.PB
open Go.RowKit Go.Proofs.YtamhfnedknjjbaaW.PrintWords Go.Proofs.YtamhfnedknjjbaaW.PrintLast Go.Proofs.YtamhfnedknjjbaaW.PrintMore
attribute [local go_sem] max2_int min2_int max_two min_two max_three min_three max_four min_four
set_option linter.unusedVariables false
set_option linter.unusedSimpArgs false
mutual
def impl_derive.l0 : Nat → List (S58) → List Int → Int → Int → Int → Int → Int → Int → Int → Int → Int → Int → Int → Int → List (S89) → Option ((List (S89)))
 | 0, _, _, _, _, _, _, _, _, _, _, _, _, _, _, _ => none
 | k + 1, x0, x31, x32, x33, x364000, x364001, x364002, x364003, x364004, x364005, x364006, x364007, x364008, x364009, x368000 => if x33 < x32 then (if 0 ≤ x33 then (if x33 < (x31.length : Int) then (if 0 ≤ (rd x31 x33) then (if (rd x31 x33) < (x0.length : Int) then (if x368000.length < 2932031007402 then (impl_derive.l0 k x0 x31 x32 (wrap64 (x33 + 1)) x364000 x364001 x364002 x364003 x364004 x364005 x364006 x364007 x364008 x364009 (x368000 ++ [(⟨(⟨(⟨x364001, x364002⟩ : S26), (rd_T58 x0 (rd x31 x33)).f1⟩ : S58), (([rd x31 x33] : List Int))⟩ : S89)])) else (none)) else (none)) else (none)) else (none)) else (none)) else (some x368000)
def impl_derive.l1 : Nat → List (S58) → List Int → Int → Int → Int → Int → Int → Int → Int → Int → Int → Int → Int → Int → List (S89) → Option ((List (S89)))
 | 0, _, _, _, _, _, _, _, _, _, _, _, _, _, _, _ => none
 | k + 1, x0, x52, x53, x54, x364000, x364001, x364002, x364003, x364004, x364005, x364006, x364007, x364008, x364009, x368000 => if x54 < x53 then (if 0 ≤ x54 then (if x54 < (x52.length : Int) then (if 0 ≤ (rd x52 x54) then (if (rd x52 x54) < (x0.length : Int) then ((impl_whoOf.f k x0 ((rd_T58 x0 (rd x52 x54)).f1) x364007).bind fun t387 => (impl_derive.l2 k x0 (rd x52 x54) x52 x53 x54 t387 (t387.length : Int) 0 x364000 x364001 x364002 x364003 x364004 x364005 x364006 x364007 x364008 x364009 x368000)) else (none)) else (none)) else (none)) else (none)) else (some x368000)
def impl_derive.l2 : Nat → List (S58) → Int → List Int → Int → Int → List Int → Int → Int → Int → Int → Int → Int → Int → Int → Int → Int → Int → Int → List (S89) → Option ((List (S89)))
 | 0, _, _, _, _, _, _, _, _, _, _, _, _, _, _, _, _, _, _, _ => none
 | k + 1, x0, x10, x52, x53, x54, x68, x69, x70, x364000, x364001, x364002, x364003, x364004, x364005, x364006, x364007, x364008, x364009, x368000 => if x70 < x69 then (if 0 ≤ x70 then (if x70 < (x68.length : Int) then (if 0 ≤ (rd x68 x70) then (if (rd x68 x70) < (x0.length : Int) then (if x368000.length < 2932031007402 then (impl_derive.l2 k x0 x10 x52 x53 x54 x68 x69 (wrap64 (x70 + 1)) x364000 x364001 x364002 x364003 x364004 x364005 x364006 x364007 x364008 x364009 (x368000 ++ [(⟨(⟨(⟨x364001, x364002⟩ : S26), (rd_T58 x0 (rd x68 x70)).f1⟩ : S58), (([x10, rd x68 x70] : List Int))⟩ : S89)])) else (none)) else (none)) else (none)) else (none)) else (none)) else (impl_derive.l1 k x0 x52 x53 (wrap64 (x54 + 1)) x364000 x364001 x364002 x364003 x364004 x364005 x364006 x364007 x364008 x364009 x368000)
def impl_derive.l3 : Nat → List (S58) → List Int → Int → Int → Int → Int → Int → Int → Int → Int → Int → Int → Int → Int → List (S89) → Option ((List (S89)))
 | 0, _, _, _, _, _, _, _, _, _, _, _, _, _, _, _ => none
 | k + 1, x0, x91, x92, x93, x364000, x364001, x364002, x364003, x364004, x364005, x364006, x364007, x364008, x364009, x368000 => if x93 < x92 then (if 0 ≤ x93 then (if x93 < (x91.length : Int) then (if 0 ≤ (rd x91 x93) then (if (rd x91 x93) < (x0.length : Int) then ((impl_Fact_62.f k x0 x364006 x364007 ((rd_T58 x0 (rd x91 x93)).f1)).bind fun t403 => (if t403 ≥ 0 then (if x368000.length < 2932031007402 then (impl_derive.l3 k x0 x91 x92 (wrap64 (x93 + 1)) x364000 x364001 x364002 x364003 x364004 x364005 x364006 x364007 x364008 x364009 (x368000 ++ [(⟨(⟨(⟨x364001, x364002⟩ : S26), (rd_T58 x0 (rd x91 x93)).f1⟩ : S58), (([rd x91 x93, t403] : List Int))⟩ : S89)])) else (none)) else (impl_derive.l3 k x0 x91 x92 (wrap64 (x93 + 1)) x364000 x364001 x364002 x364003 x364004 x364005 x364006 x364007 x364008 x364009 x368000))) else (none)) else (none)) else (none)) else (none)) else (some x368000)
end
def impl_derive.f (k : Nat) (l0 : List (S58)) (a1_0 : Int) (a1_1 : Int) (a1_2 : Int) (a1_3 : Int) (a1_4 : Int) (a1_5 : Int) (a1_6 : Int) (a1_7 : Int) (a1_8 : Int) (a1_9 : Int) : Option ((List (S89))) := (some (([] : List (S89)) : List (S89))).bind fun y364 => (if a1_0 = 1 then (if y364.length < 2932031007402 then (some (y364 ++ [(⟨(⟨(⟨a1_1, a1_2⟩ : S26), a1_3⟩ : S58), ([] : List Int)⟩ : S89)])) else (none)) else (if a1_0 = 2 then ((impl_whoOf.f k l0 a1_4 a1_5).bind fun t371 => (impl_derive.l0 k l0 t371 (t371.length : Int) 0 a1_0 a1_1 a1_2 a1_3 a1_4 a1_5 a1_6 a1_7 a1_8 a1_9 y364)) else (if a1_0 = 3 then ((impl_whoOf.f k l0 a1_4 a1_5).bind fun t382 => (impl_derive.l1 k l0 t382 (t382.length : Int) 0 a1_0 a1_1 a1_2 a1_3 a1_4 a1_5 a1_6 a1_7 a1_8 a1_9 y364)) else (if a1_0 = 4 then ((impl_whoOf.f k l0 a1_4 a1_5).bind fun t398 => (impl_derive.l3 k l0 t398 (t398.length : Int) 0 a1_0 a1_1 a1_2 a1_3 a1_4 a1_5 a1_6 a1_7 a1_8 a1_9 y364)) else (some y364)))))
def impl_derive.T16 : Bool × List (List Nat × List Nat) := (true, [([], []), ([], []), ([], []), ([1, 2], [1, 2]), ([3], [3]), ([4], [4]), ([], []), ([6], [6]), ([7], [7]), ([5, 8], [5, 8]), ([0, 9], [0, 9]), ([10], [10]), ([], [])])
def impl_derive.B16 : List Nat := [0, 0, 0, 6, 14, 30, 0, 64, 192, 510, 1023, 2047, 0]
theorem impl_derive.tab16 : rtab .any (opsOf Try.f66 16) = impl_derive.T16 := by kernel_rfl
theorem impl_derive.bits16 : waitsOk impl_derive.T16.2 impl_derive.B16 = true := by kernel_rfl
def impl_derive.T26 : Bool × List (List Nat × List Nat) := (true, [([], []), ([], []), ([1], [1]), ([], []), ([], []), ([3, 4], [3, 4]), ([5], [5]), ([6], [6]), ([2, 7], [2, 7]), ([0, 8], [0, 8]), ([9, 9, 0, 1, 2, 3, 4, 5, 6, 7, 8, 9], [9])])
def impl_derive.B26 : List Nat := [0, 0, 2, 0, 0, 24, 56, 120, 254, 511, 1023]
theorem impl_derive.tab26 : rtab .any (opsOf Try.f66 26) = impl_derive.T26 := by kernel_rfl
theorem impl_derive.bits26 : waitsOk impl_derive.T26.2 impl_derive.B26 = true := by kernel_rfl
set_option maxHeartbeats 8000000 in
set_option maxRecDepth 100000 in
theorem impl_derive.calls (k : Nat) (A0 : Option Addr) (c0 : Nat) (l0 : List (S58)) (a1_0 : Int) (a1_1 : Int) (a1_2 : Int) (a1_3 : Int) (a1_4 : Int) (a1_5 : Int) (a1_6 : Int) (a1_7 : Int) (a1_8 : Int) (a1_9 : Int) (r : List (S89)) (w : World) (hr0 : Kd.C k58 w A0 l0.length l0) (hc0 : l0.length ≤ c0) (h : impl_derive.f k l0 a1_0 a1_1 a1_2 a1_3 a1_4 a1_5 a1_6 a1_7 a1_8 a1_9 = some r) :
  Calls Try.prog 66 #[.slice A0 l0.length c0, .agg #[.int .i64 a1_0, .int .i64 a1_1, .int .i64 a1_2, .int .i64 a1_3, .int .i64 a1_4, .int .i64 a1_5, .int .i64 a1_6, .int .i64 a1_7, .int .i64 a1_8, .int .i64 a1_9]] w fun e w' => ∃ v0_ : Value, e = .returned (v0_) ∧ Kd.S k89 89 w' w.heap.size (fun _ => True) v0_ r ∧ Below w.heap.size w w' := by
 have hu49 := Try.underlying49
 have hu26 := Try.underlying26
 have hu58 := Try.underlying58
 have hmf : ∀ (fn : Fn) (first cap : Array Value) (w : World), (Instr.makeFunc fn first cap).run Try.prog w = .ok (.func fn first cap) w := fun _ _ _ _ => rfl
 have hu85 := Try.underlying85
 have HR0 := Aside0.mk hr0
 have HC0 := Aside0.mk hc0
 clear hr0 hc0
 have HB := Aside0.mk (Below.refl w.heap.size w)
 have H : ((some (([] : List (S89)) : List (S89))).bind fun y364 => (if a1_0 = 1 then (if y364.length < 2932031007402 then (some (y364 ++ [(⟨(⟨(⟨a1_1, a1_2⟩ : S26), a1_3⟩ : S58), ([] : List Int)⟩ : S89)])) else (none)) else (if a1_0 = 2 then ((impl_whoOf.f k l0 a1_4 a1_5).bind fun t371 => (impl_derive.l0 k l0 t371 (t371.length : Int) 0 a1_0 a1_1 a1_2 a1_3 a1_4 a1_5 a1_6 a1_7 a1_8 a1_9 y364)) else (if a1_0 = 3 then ((impl_whoOf.f k l0 a1_4 a1_5).bind fun t382 => (impl_derive.l1 k l0 t382 (t382.length : Int) 0 a1_0 a1_1 a1_2 a1_3 a1_4 a1_5 a1_6 a1_7 a1_8 a1_9 y364)) else (if a1_0 = 4 then ((impl_whoOf.f k l0 a1_4 a1_5).bind fun t398 => (impl_derive.l3 k l0 t398 (t398.length : Int) 0 a1_0 a1_1 a1_2 a1_3 a1_4 a1_5 a1_6 a1_7 a1_8 a1_9 y364)) else (some y364)))))) = some r := h
 clear h
 obtain ⟨y364, hy364⟩ : ∃ y_ : List (S89), y_ = (([] : List (S89))) := ⟨_, rfl⟩
 replace H : (if a1_0 = 1 then (if y364.length < 2932031007402 then (some (y364 ++ [(⟨(⟨(⟨a1_1, a1_2⟩ : S26), a1_3⟩ : S58), ([] : List Int)⟩ : S89)])) else (none)) else (if a1_0 = 2 then ((impl_whoOf.f k l0 a1_4 a1_5).bind fun t371 => (impl_derive.l0 k l0 t371 (t371.length : Int) 0 a1_0 a1_1 a1_2 a1_3 a1_4 a1_5 a1_6 a1_7 a1_8 a1_9 y364)) else (if a1_0 = 3 then ((impl_whoOf.f k l0 a1_4 a1_5).bind fun t382 => (impl_derive.l1 k l0 t382 (t382.length : Int) 0 a1_0 a1_1 a1_2 a1_3 a1_4 a1_5 a1_6 a1_7 a1_8 a1_9 y364)) else (if a1_0 = 4 then ((impl_whoOf.f k l0 a1_4 a1_5).bind fun t398 => (impl_derive.l3 k l0 t398 (t398.length : Int) 0 a1_0 a1_1 a1_2 a1_3 a1_4 a1_5 a1_6 a1_7 a1_8 a1_9 y364)) else (some y364))))) = some r := rh_ hy364 H
 have Ny364 := Aside0.mk hy364
 clear hy364
 have HC3 := Aside0.mk H
 clear H
 go_enter Try.func66, Try.ntmps66
 go_upto_if 20 with (first | (go_at_call 79; go_in) | (go_end0; simp only []; go_at_K) | ((with_reducible refine gate_dst (N := 3) rfl ?_); refine box_event ?hg (N := 3) ?hd (cs := #[.int .i64 a1_0, .int .i64 a1_1, .int .i64 a1_2, .int .i64 a1_3, .int .i64 a1_4, .int .i64 a1_5, .int .i64 a1_6, .int .i64 a1_7, .int .i64 a1_8, .int .i64 a1_9]) (t := 49) ?hr ?_; (case hd => rfl); (case hg => rfl); (case hr => first | (go_simp; done) | (go_simp; rfl)); intro gb363 hg w4 hbox hb; have BK363 := Aside0.mk (hbox); have GW363 := gs_ hg; have GE363 := gs_ hg; replace HB := hbs_ hb; clear hb hbox hg) | ((with_reducible refine gate_dst (N := 16) rfl ?_); refine Kd.S_lit k89 _ 89 ?hg (N := 16) ?hd (xs := ([] : List (S89))) (inner := []) (ok := fun _ => True) (okp := fun _ => True) ?hr ?hp (fun _ hk => hk) trivial (Below.refl _ _) (Nat.le_refl _) (by simp) ?_; (case hd => rfl); (case hg => rfl); (case hr => first | (go_simp; done) | (go_simp; rfl)); (case hp => exact (Reps.none _ _)); intro v365 w5 ho6 hb hg_ hnew_; clear hg_ hnew_; (first | rw [← Ny364.out] at ho6 | (simp only [Int.reduceToNat] at ho6; rw [← Ny364.out] at ho6)); have HO366 := Aside0.mk (Kd.S_lower ho6 bls_); replace BK363 := bkb_ BK363 hb; replace HB := hbs_ hb; clear hb ho6) | ((with_reducible refine gate_dst (N := 5) rfl ?_); refine box_event ?hg (N := 5) ?hd (cs := #[.slice none 0 0]) (t := 85) ?hr ?_; (case hd => rfl); (case hg => rfl); (case hr => first | (go_simp; done) | (go_simp; rfl)); intro gb367 hg w7 hbox hb; replace HO366 := Aside0.mk (Kd.S_below (rs_ HO366) hb); have BK367 := Aside0.mk (hbox); have GW367 := gs_ hg; have GE367 := gs_ hg; replace HB := hbs_ hb; have NB363_367 := nl_ hg BK363; have NB367_363 := nr_ hg BK363; replace BK363 := bkb_ BK363 hb; clear hb hbox hg; obtain ⟨Ao8, co8, eo8⟩ := Kd.S_slice HO366.out; subst eo8; have hnb9 := NB367_363.out; have hnc9 := NB363_367.out; obtain ⟨hcz10, hfz10⟩ := bcf_ BK367; obtain ⟨hcz11, hfz11⟩ := bcf_ BK363))
 have n0_ : Aside0 (Kd.S k89 89 (w7.setCell ⟨gb367, 0, none⟩ (.slice Ao8 y364.length co8)) w.heap.size (fun _ => True) (.slice Ao8 y364.length co8) y364) := ⟨by (with_reducible repeat (first | apply Kd.S_alloc | apply Kd.S_drewN | apply Kd.S_drew)); exact Kd.S_mono (Kd.S_far (p := ⟨gb367, 0, none⟩) (Kd.S_types HO366.out BK367.out (by decide)) (fun _ hk => hk.2) (.slice Ao8 y364.length co8)) (fun _ hk => trivial)⟩
 have n1_ : Aside0 ((w7.setCell ⟨gb367, 0, none⟩ (.slice Ao8 y364.length co8)).heap[gb363]? = some (.cells #[.int .i64 a1_0, .int .i64 a1_1, .int .i64 a1_2, .int .i64 a1_3, .int .i64 a1_4, .int .i64 a1_5, .int .i64 a1_6, .int .i64 a1_7, .int .i64 a1_8, .int .i64 a1_9] 49 (0, 0))) := ⟨bk_ BK363⟩
 have n2_ : Aside0 ((w7.setCell ⟨gb367, 0, none⟩ (.slice Ao8 y364.length co8)).heap[gb367]? = some (.cells #[.slice Ao8 y364.length co8] 85 (0, 0))) := ⟨bk_ BK367⟩
 have n3_ : Aside0 (Below w.heap.size w (w7.setCell ⟨gb367, 0, none⟩ (.slice Ao8 y364.length co8))) := ⟨bl_⟩
 (try clear HO366)
 (try clear BK363)
 (try clear BK367)
 (try clear HB)
 generalize (w7.setCell ⟨gb367, 0, none⟩ (.slice Ao8 y364.length co8)) = w12 at n0_ n1_ n2_ n3_ ⊢
 have HO366 := n0_
 have BK363 := n1_
 have BK367 := n2_
 have HB := n3_
 clear n0_ n1_ n2_ n3_
 (try simp only [Act.put, List.setIfInBounds_toArray, List.set_cons_zero, List.set_cons_succ])
 have H := HC3.out
 clear HC3
 by_cases c13 : a1_0 = 1
 ·rw [if_pos c13] at H
  have c13b0 : (a1_0 == 1) = true := beq_iff_eq.mpr c13
  have c13b1 : (a1_0 != 1) = false := bne_eq_false_iff_eq.mpr c13
  clear c13
  (first | rw [c13b0] | (simp only [i64_w, i32_w]; rw [c13b0]) | skip)
  obtain ⟨c14, H⟩ := ifn_ H
  have LMc14 := Aside0.mk c14
  clear c14
  obtain ⟨y368, hy368⟩ : ∃ y_ : List (S89), y_ = (y364 ++ [(⟨(⟨(⟨a1_1, a1_2⟩ : S26), a1_3⟩ : S58), ([] : List Int)⟩ : S89)]) := ⟨_, rfl⟩
  replace H : (some y368) = some r := rh_ hy368 H
  have Ny368 := Aside0.mk hy368
  clear hy368
  obtain rfl := Option.some.inj H
  have hnb15 := NB363_367.out
  have hnc15 := NB367_363.out
  have hcz16 := blk_cell BK363.out
  have hfz16 := blk_frozen BK363.out
  have hcz17 := blk_cell BK367.out
  have hfz17 := blk_frozen BK367.out
  go_wp2_with (first | (go_at_call 79; go_in) | (go_end0; simp only []; go_at_K) | ((with_reducible refine gate_builtin (b := .append) (xs := #[.tmp 6, .tmp 13]) rfl ?_); at_builtin; refine Kd.S_append k89 (w0 := w) w.heap.size rfl (.tmp 6) (.tmp 13) 85 89 (.agg #[(.int .i64 0), (.int .i64 0), (.int .i64 0), (.slice none 0 0)]) 48 rfl Try.underlying85 info89 rfl (by decide) (by omega) (.slice Ao8 y364.length co8) y364 (⟨(⟨(⟨a1_1, a1_2⟩ : S26), a1_3⟩ : S58), ([] : List Int)⟩ : S89) [.int .i64 a1_1, .int .i64 a1_2, .int .i64 a1_3, .slice none 0 0] (fun _ => True) (fun _ => False) rfl rfl ?aP (fun k_ hk_ => hk_.elim) ?aF ?aO ?aB ?aS ?aL ?_; (case aP => exact k89_mkM _ _ _ (⟨(⟨(⟨a1_1, a1_2⟩ : S26), a1_3⟩ : S58), ([] : List Int)⟩ : S89) (Kd.R_nil _ _ _ _ _)); (case aB => exact bl_); (case aF => exact (fun _ _ => trivial)); (case aO => exact (by (with_reducible repeat (first | apply Kd.S_alloc | apply Kd.S_drewN | apply Kd.S_drew)); exact Kd.S_mono HO366.out (fun k_ hk => ⟨trivial, fun e_ => e_⟩))); (case aS => exact bls_); (case aL => have := LMc14.out; omega); intro v369 w18 ho hb hg hat; rw [← Ny368.out] at ho; replace BK363 := Aside0.mk (blk_grown (g := gb363) (o := .cells #[.int .i64 a1_0, .int .i64 a1_1, .int .i64 a1_2, .int .i64 a1_3, .int .i64 a1_4, .int .i64 a1_5, .int .i64 a1_6, .int .i64 a1_7, .int .i64 a1_8, .int .i64 a1_9] 49 (0, 0)) (bk_ BK363) hg (Kd.S_ne HO366.out BK363.out (by decide))); replace BK367 := Aside0.mk (blk_grown (g := gb367) (o := .cells #[.slice Ao8 y364.length co8] 85 (0, 0)) (bk_ BK367) hg (Kd.S_ne HO366.out BK367.out (by decide))); replace HB := Aside0.mk (hb); have HO370 := Aside0.mk (ho); clear HO366; clear ho hb hg hat; obtain ⟨Ao19, co19, eo19⟩ := Kd.S_slice HO370.out; subst eo19; obtain ⟨hcz20, hfz20⟩ := bcf_ BK367))
  go_ret
  exact ⟨_, eq_, by (with_reducible repeat (first | apply Kd.S_alloc | apply Kd.S_drewN | apply Kd.S_drew)); exact Kd.S_mono (Kd.S_far (p := ⟨gb367, 0, none⟩) (Kd.S_types HO370.out BK367.out (by decide)) (fun _ hk => hk.2) (.slice Ao19 y368.length co19)) (fun _ hk => trivial), bl_⟩
 ·rw [if_neg c13] at H
  have c13b0 : (a1_0 == 1) = false := beq_eq_false_iff_ne.mpr c13
  have c13b1 : (a1_0 != 1) = true := bne_iff_ne.mpr c13
  (first | rw [c13b0] | (simp only [i64_w, i32_w]; rw [c13b0]) | skip)
  by_cases c21 : a1_0 = 2
  ·rw [if_pos c21] at H
   have c21b0 : (a1_0 == 2) = true := beq_iff_eq.mpr c21
   have c21b1 : (a1_0 != 2) = false := bne_eq_false_iff_eq.mpr c21
   clear c21
   obtain ⟨t371, A22, H⟩ := bindE_ H
   have H' := Aside0.mk H
   clear H
   have hnb23 := NB363_367.out
   have hnc23 := NB367_363.out
   have hcz24 := blk_cell BK363.out
   have hfz24 := blk_frozen BK363.out
   go_wp2_with (first | (go_at_call 79; go_in) | (go_end0; simp only []; go_at_K) | ((with_reducible refine gate_callee (f := 80) rfl ?_); refine goesC_ (some 31) Try.func80 #[.slice A0 l0.length c0, .agg #[.int .i64 a1_4, .int .i64 a1_5]] ?_; (with_reducible refine (impl_whoOf.calls k _ _ l0 a1_4 a1_5 t371 _ ?side1 ?side2 A22.out).mono ?_); (case side1 => repeat (first | exact (Kd.C_below HR0.out HB.out) | (with_reducible refine Kd.C_alloc ?_ _) | (with_reducible refine Kd.C_drewN ?_ _) | (with_reducible refine Kd.C_drew ?_))); (case side2 => exact HC0.out); rintro e w25 ⟨v372, rfl, ho0, hb⟩; refine ⟨_, rfl, ?_⟩; replace HO366 := Aside0.mk (Kd.S_elder' (rs_ HO366) (Kd.R_base ho0) hb); have HO373 := Aside0.mk (Kd.R_lower ho0 bls_); replace BK363 := bkb_ BK363 hb; replace BK367 := bkb_ BK367 hb; replace HB := hbs_ hb; (try clear hb ho0); obtain ⟨Ao26, co26, eo26⟩ := Kd.R_slice HO373.out; subst eo26))
   go_loopg [33] k (fun kq v33 w' => ∃ (x33_1 : Int) (x368000_1 : List (S89)) (u368000 : Value), v33 = .int .i64 x33_1 ∧ Aside0 (impl_derive.l0 kq l0 t371 (t371.length : Int) x33_1 a1_0 a1_1 a1_2 a1_3 a1_4 a1_5 a1_6 a1_7 a1_8 a1_9 x368000_1 = some r) ∧ Aside0 (kq ≤ k) ∧ Aside0 (Kd.R (Kd.int .i64) 3 w' w.heap.size (fun _ => True) (.slice Ao26 t371.length co26) t371) ∧ Aside0 (Kd.S k89 89 w' w.heap.size (fun k_ => some k_ ≠ ((.slice Ao26 t371.length co26) : Value).ownBlock) u368000 x368000_1) ∧ Aside0 (w'.heap[gb363]? = some (.cells #[.int .i64 a1_0, .int .i64 a1_1, .int .i64 a1_2, .int .i64 a1_3, .int .i64 a1_4, .int .i64 a1_5, .int .i64 a1_6, .int .i64 a1_7, .int .i64 a1_8, .int .i64 a1_9] 49 (0, 0))) ∧ Aside0 (w'.heap[gb367]? = some (.cells #[u368000] 85 (0, 0))) ∧ Aside0 (Below w.heap.size w w'))
   case atStart => exact ⟨(0), (y364), (.slice Ao8 y364.length co8), rf_, H', ⟨Nat.le_refl _⟩, ⟨rr_ HO373⟩, ⟨by (with_reducible repeat (first | apply Kd.S_alloc | apply Kd.S_drewN | apply Kd.S_drew)); exact Kd.S_mono HO366.out (fun _ hk => hk.2)⟩, ⟨bk_ BK363⟩, ⟨bk_ BK367⟩, ⟨bl_⟩⟩
   case round =>
    clear H'
    try clear c1
    try clear c2
    try clear p2
    try clear c6
    try clear c8
    try clear c9
    try clear c13
    try clear c13b0
    try clear c13b1
    try clear c14
    try clear c15
    try clear c21
    try clear c21b0
    try clear c21b1
    try clear c23
    try clear hcz10
    try clear hcz11
    try clear hcz16
    try clear hcz17
    try clear hcz20
    try clear hcz24
    try clear hfz10
    try clear hfz11
    try clear hfz16
    try clear hfz17
    try clear hfz20
    try clear hfz24
    obtain ⟨x33_1, x368000_1, u368000, rfl, HA, HK1, HO_31, HO_368000, BK363, BK367, HB⟩ := hrel
    cases gk with
    | zero => exact absurd HA.out (by simp [impl_derive.l0])
    | succ k1 =>
     have H := HA.out
     clear HA
     simp only [impl_derive.l0] at H
     by_cases c27 : x33_1 < (t371.length : Int)
     ·rw [if_pos c27] at H
      have c27b0 : decide (x33_1 < (t371.length : Int)) = true := decide_eq_true c27
      clear c27
      obtain ⟨c28b0, H⟩ := ifd_ H
      obtain ⟨c29b0, H⟩ := ifd_ H
      obtain ⟨c30b0, H⟩ := ifd_ H
      obtain ⟨c31b0, H⟩ := ifd_ H
      obtain ⟨y376, hy376⟩ : ∃ y_ : List Int, y_ = (([rd t371 x33_1] : List Int)) := ⟨_, rfl⟩
      replace H : (if x368000_1.length < 2932031007402 then (impl_derive.l0 k1 l0 t371 (t371.length : Int) (wrap64 (x33_1 + 1)) a1_0 a1_1 a1_2 a1_3 a1_4 a1_5 a1_6 a1_7 a1_8 a1_9 (x368000_1 ++ [(⟨(⟨(⟨a1_1, a1_2⟩ : S26), (rd_T58 l0 (rd t371 x33_1)).f1⟩ : S58), y376⟩ : S89)])) else (none)) = some r := rh_ hy376 H
      have Ny376 := Aside0.mk hy376
      clear hy376
      obtain ⟨c32, H⟩ := ifn_ H
      have LMc32 := Aside0.mk c32
      clear c32
      obtain ⟨y379, hy379⟩ : ∃ y_ : List (S89), y_ = (x368000_1 ++ [(⟨(⟨(⟨a1_1, a1_2⟩ : S26), (rd_T58 l0 (rd t371 x33_1)).f1⟩ : S58), y376⟩ : S89)]) := ⟨_, rfl⟩
      replace H : (impl_derive.l0 k1 l0 t371 (t371.length : Int) (wrap64 (x33_1 + 1)) a1_0 a1_1 a1_2 a1_3 a1_4 a1_5 a1_6 a1_7 a1_8 a1_9 y379) = some r := rh_ hy379 H
      have Ny379 := Aside0.mk hy379
      clear hy379
      have H' := Aside0.mk H
      clear H
      have p374 : 0 ≤ (x33_1 : Int) := od_
      have q374 : x33_1 < (t371.length : Int) := od_
      obtain ⟨ad374, e374, hx374_0⟩ := Kd.at_int (Kd.R_reads' HO_31.out).2.2 x33_1 p374 q374
      cases e374
      replace p374 := eq_true p374
      replace q374 := eq_true q374
      have p375 : 0 ≤ ((rd t371 x33_1) : Int) := od_
      have q375 : (rd t371 x33_1) < (l0.length : Int) := od_
      obtain ⟨ad375, e375, hx375_0, hx375_1, hx375_2⟩ := at_T58 (Kd.C_below HR0.out HB.out) (rd t371 x33_1) p375 q375
      cases e375
      replace p375 := eq_true p375
      replace q375 := eq_true q375
      go_wp2_with (first | (go_at_call 79; go_in) | (go_end0; simp only []; go_at_K) | ((with_reducible refine gate_dst (N := 44) rfl ?_); refine Kd.R_lit (Kd.int .i64) _ 3 ?hg (N := 44) ?hd (xs := ([rd t371 x33_1] : List Int)) (inner := [.int .i64 (rd t371 x33_1)]) (ok := fun _ => True) (okp := fun _ => True) ?hr ?hp (fun _ hk => hk) trivial (Below.refl _ _) (Nat.le_refl _) (by simp) ?_; (case hd => rfl); (case hg => rfl); (case hr => first | (go_simp; done) | (go_simp; rfl)); (case hp => exact (Reps.one (show Kd.M (Kd.int .i64) _ _ _ (rd t371 x33_1) [.int .i64 (rd t371 x33_1)] from rfl) (Reps.none _ _))); intro v377 w33 ho34 hb hg_ hnew_; clear hg_ hnew_; (first | rw [← Ny376.out] at ho34 | (simp only [Int.reduceToNat] at ho34; rw [← Ny376.out] at ho34)); replace HO_368000 := Aside0.mk (Kd.S_elder' (rs_ HO_368000) (Kd.R_base ho34) hb); have HO378 := Aside0.mk (Kd.R_lower (Kd.R_new' ho34 (Kd.R_lt (rr_ HO_31))) bls_); replace HO_31 := Aside0.mk (Kd.R_elder' (rr_ HO_31) (Kd.R_base ho34) hb); replace BK363 := bkb_ BK363 hb; replace BK367 := bkb_ BK367 hb; replace HB := hbs_ hb; clear hb ho34; have hnb35 := NB367_363.out; have hnc35 := NB363_367.out; obtain ⟨hcz36, hfz36⟩ := bcf_ BK367; obtain ⟨hcz37, hfz37⟩ := bcf_ BK363; obtain ⟨Ao38, co38, eo38⟩ := Kd.R_slice HO378.out; subst eo38) | ((with_reducible refine gate_builtin (b := .append) (xs := #[.tmp 6, .tmp 13]) rfl ?_); at_builtin; refine Kd.S_append k89 (w0 := w) w.heap.size rfl (.tmp 6) (.tmp 13) 85 89 (.agg #[(.int .i64 0), (.int .i64 0), (.int .i64 0), (.slice none 0 0)]) 48 rfl Try.underlying85 info89 rfl (by decide) (by omega) u368000 x368000_1 (⟨(⟨(⟨a1_1, a1_2⟩ : S26), (rd_T58 l0 (rd t371 x33_1)).f1⟩ : S58), y376⟩ : S89) [.int .i64 a1_1, .int .i64 a1_2, .int .i64 ((rd_T58 l0 (rd t371 x33_1)).f1), .slice Ao38 y376.length co38] (fun k_ => some k_ ≠ (.slice (some ad374) t371.length co26 : Value).ownBlock) (fun k_ => some k_ = (.slice Ao38 y376.length co38 : Value).ownBlock) rfl rfl ?aP (fun k_ hk_ => ((Kd.R_mono (ok' := fun k_ => ((fun k_ => some k_ ≠ (.slice (some ad374) t371.length co26 : Value).ownBlock)) k_ ∧ some k_ ≠ (u368000 : Value).ownBlock) (Kd.R_apart' (HO378.out) (Kd.S_typed HO_368000.out) (by decide)) (fun k_ hk => ⟨hk.1.2, hk.2⟩))).1 k_ hk_.symm) ?aF ?aO ?aB ?aS ?aL ?_; (case aP => exact k89_mkM _ _ _ (⟨(⟨(⟨a1_1, a1_2⟩ : S26), (rd_T58 l0 (rd t371 x33_1)).f1⟩ : S58), y376⟩ : S89) (Kd.R_mono (Kd.R_tight rfl (Kd.R_mono (ok' := fun k_ => ((fun k_ => some k_ ≠ (.slice (some ad374) t371.length co26 : Value).ownBlock)) k_ ∧ some k_ ≠ (u368000 : Value).ownBlock) (Kd.R_apart' (HO378.out) (Kd.S_typed HO_368000.out) (by decide)) (fun k_ hk => ⟨hk.1.2, hk.2⟩))) (fun _ h_ => h_))); (case aB => exact bl_); (case aF => exact (fun k_ hk => Kd.fresh' (Kd.R_lt (rr_ HO_31)) k_ hk)); (case aO => exact (by (with_reducible repeat (first | apply Kd.S_alloc | apply Kd.S_drewN | apply Kd.S_drew)); exact Kd.S_mono HO_368000.out (fun k_ hk => ⟨hk.1, fun e_ => hk.2 e_⟩))); (case aS => exact bls_); (case aL => have := LMc32.out; omega); intro v380 w39 ho hb hg hat; rw [← Ny379.out] at ho; replace HO_31 := Aside0.mk (Kd.R_over' (rr_ HO_31) (Kd.S_typed (rs_ HO_368000)) (by decide) hg); replace BK363 := Aside0.mk (blk_grown (g := gb363) (o := .cells #[.int .i64 a1_0, .int .i64 a1_1, .int .i64 a1_2, .int .i64 a1_3, .int .i64 a1_4, .int .i64 a1_5, .int .i64 a1_6, .int .i64 a1_7, .int .i64 a1_8, .int .i64 a1_9] 49 (0, 0)) (bk_ BK363) hg (Kd.S_ne HO_368000.out BK363.out (by decide))); replace BK367 := Aside0.mk (blk_grown (g := gb367) (o := .cells #[u368000] 85 (0, 0)) (bk_ BK367) hg (Kd.S_ne HO_368000.out BK367.out (by decide))); replace HB := Aside0.mk (hb); have HO381 := Aside0.mk (ho); clear HO_368000; clear HO378; clear ho hb hg hat; obtain ⟨Ao40, co40, eo40⟩ := Kd.S_slice HO381.out; subst eo40; obtain ⟨hcz41, hfz41⟩ := bcf_ BK367))
      go_roundg k1
      case measure => have := HK1.out; omega
      case rel => exact ⟨(wrap64 (x33_1 + 1)), (y379), (.slice Ao40 y379.length co40), rf_, H', ⟨by have := HK1.out; omega⟩, ⟨by (with_reducible repeat (first | apply Kd.R_alloc | apply Kd.R_drewN | apply Kd.R_drew)); exact Kd.R_mono (Kd.R_far (p := ⟨gb367, 0, none⟩) (Kd.R_types HO_31.out BK367.out (by decide)) (fun _ hk => hk.2) (.slice Ao40 y379.length co40)) (fun _ hk => trivial)⟩, ⟨by (with_reducible repeat (first | apply Kd.S_alloc | apply Kd.S_drewN | apply Kd.S_drew)); exact Kd.S_mono (Kd.S_far (p := ⟨gb367, 0, none⟩) (Kd.S_types HO381.out BK367.out (by decide)) (fun _ hk => hk.2) (.slice Ao40 y379.length co40)) (fun _ hk => hk.1)⟩, ⟨bk_ BK363⟩, ⟨bk_ BK367⟩, ⟨bl_⟩⟩
     ·rw [if_neg c27] at H
      have c27b0 : decide (x33_1 < (t371.length : Int)) = false := decide_eq_false c27
      clear c27
      obtain rfl := Option.some.inj H
      have hnb42 := NB367_363.out
      have hnc42 := NB363_367.out
      have hcz43 := blk_cell BK367.out
      have hfz43 := blk_frozen BK367.out
      go_wp2
      go_ret
      exact ⟨_, eq_, by (with_reducible repeat (first | apply Kd.S_alloc | apply Kd.S_drewN | apply Kd.S_drew)); exact Kd.S_mono HO_368000.out (fun _ hk => trivial), bl_⟩
  ·rw [if_neg c21] at H
   have c21b0 : (a1_0 == 2) = false := beq_eq_false_iff_ne.mpr c21
   have c21b1 : (a1_0 != 2) = true := bne_iff_ne.mpr c21
   by_cases c44 : a1_0 = 3
   ·rw [if_pos c44] at H
    have c44b0 : (a1_0 == 3) = true := beq_iff_eq.mpr c44
    have c44b1 : (a1_0 != 3) = false := bne_eq_false_iff_eq.mpr c44
    clear c44
    obtain ⟨t382, A45, H⟩ := bindE_ H
    have H' := Aside0.mk H
    clear H
    have hnb46 := NB363_367.out
    have hnc46 := NB367_363.out
    have hcz47 := blk_cell BK363.out
    have hfz47 := blk_frozen BK363.out
    go_wp2_with (first | (go_at_call 79; go_in) | (go_end0; simp only []; go_at_K) | ((with_reducible refine gate_callee (f := 80) rfl ?_); refine goesC_ (some 52) Try.func80 #[.slice A0 l0.length c0, .agg #[.int .i64 a1_4, .int .i64 a1_5]] ?_; (with_reducible refine (impl_whoOf.calls k _ _ l0 a1_4 a1_5 t382 _ ?side1 ?side2 A45.out).mono ?_); (case side1 => repeat (first | exact (Kd.C_below HR0.out HB.out) | (with_reducible refine Kd.C_alloc ?_ _) | (with_reducible refine Kd.C_drewN ?_ _) | (with_reducible refine Kd.C_drew ?_))); (case side2 => exact HC0.out); rintro e w48 ⟨v383, rfl, ho0, hb⟩; refine ⟨_, rfl, ?_⟩; replace HO366 := Aside0.mk (Kd.S_elder' (rs_ HO366) (Kd.R_base ho0) hb); have HO384 := Aside0.mk (Kd.R_lower ho0 bls_); replace BK363 := bkb_ BK363 hb; replace BK367 := bkb_ BK367 hb; replace HB := hbs_ hb; (try clear hb ho0); obtain ⟨Ao49, co49, eo49⟩ := Kd.R_slice HO384.out; subst eo49))
    go_loopg [54] k (fun kq v54 w' => ∃ (x54_1 : Int) (x368000_1 : List (S89)) (u368000 : Value), v54 = .int .i64 x54_1 ∧ Aside0 (impl_derive.l1 kq l0 t382 (t382.length : Int) x54_1 a1_0 a1_1 a1_2 a1_3 a1_4 a1_5 a1_6 a1_7 a1_8 a1_9 x368000_1 = some r) ∧ Aside0 (kq ≤ k) ∧ Aside0 (Kd.R (Kd.int .i64) 3 w' w.heap.size (fun _ => True) (.slice Ao49 t382.length co49) t382) ∧ Aside0 (Kd.S k89 89 w' w.heap.size (fun k_ => some k_ ≠ ((.slice Ao49 t382.length co49) : Value).ownBlock) u368000 x368000_1) ∧ Aside0 (w'.heap[gb363]? = some (.cells #[.int .i64 a1_0, .int .i64 a1_1, .int .i64 a1_2, .int .i64 a1_3, .int .i64 a1_4, .int .i64 a1_5, .int .i64 a1_6, .int .i64 a1_7, .int .i64 a1_8, .int .i64 a1_9] 49 (0, 0))) ∧ Aside0 (w'.heap[gb367]? = some (.cells #[u368000] 85 (0, 0))) ∧ Aside0 (Below w.heap.size w w'))
    case atStart => exact ⟨(0), (y364), (.slice Ao8 y364.length co8), rf_, H', ⟨Nat.le_refl _⟩, ⟨rr_ HO384⟩, ⟨by (with_reducible repeat (first | apply Kd.S_alloc | apply Kd.S_drewN | apply Kd.S_drew)); exact Kd.S_mono HO366.out (fun _ hk => hk.2)⟩, ⟨bk_ BK363⟩, ⟨bk_ BK367⟩, ⟨bl_⟩⟩
    case round =>
     clear H'
     try clear c1
     try clear c2
     try clear p2
     try clear c3
     try clear p3
     try clear q3
     try clear hx3
     try clear c4
     try clear c6
     try clear p6
     try clear c8
     try clear c9
     try clear c13
     try clear c13b0
     try clear c13b1
     try clear c14
     try clear c15
     try clear c21
     try clear c21b0
     try clear c21b1
     try clear c23
     try clear c27
     try clear c27b0
     try clear c28
     try clear c28b0
     try clear c29
     try clear c29b0
     try clear c30
     try clear c30b0
     try clear c31
     try clear c31b0
     try clear c32
     try clear c35
     try clear p37
     try clear q37
     try clear hx37
     try clear c42
     try clear c44
     try clear c44b0
     try clear c44b1
     try clear c46
     try clear hcz10
     try clear hcz11
     try clear hcz16
     try clear hcz17
     try clear hcz20
     try clear hcz24
     try clear hcz36
     try clear hcz37
     try clear hcz41
     try clear hcz43
     try clear hcz47
     try clear hfz10
     try clear hfz11
     try clear hfz16
     try clear hfz17
     try clear hfz20
     try clear hfz24
     try clear hfz36
     try clear hfz37
     try clear hfz41
     try clear hfz43
     try clear hfz47
     try clear hx374_0
     try clear hx375_0
     try clear hx375_1
     try clear hx375_2
     try clear p2
     try clear p374
     try clear p375
     try clear q374
     try clear q375
     obtain ⟨x54_1, x368000_1, u368000, rfl, HA, HK1, HO_52, HO_368000, BK363, BK367, HB⟩ := hrel
     cases gk with
     | zero => exact absurd HA.out (by simp [impl_derive.l1])
     | succ k1 =>
      have H := HA.out
      clear HA
      simp only [impl_derive.l1] at H
      by_cases c50 : x54_1 < (t382.length : Int)
      ·rw [if_pos c50] at H
       have c50b0 : decide (x54_1 < (t382.length : Int)) = true := decide_eq_true c50
       clear c50
       obtain ⟨c51b0, H⟩ := ifd_ H
       obtain ⟨c52b0, H⟩ := ifd_ H
       obtain ⟨c53b0, H⟩ := ifd_ H
       obtain ⟨c54b0, H⟩ := ifd_ H
       obtain ⟨t387, A55, H⟩ := bindE_ H
       have H' := Aside0.mk H
       clear H
       have p385 : 0 ≤ (x54_1 : Int) := od_
       have q385 : x54_1 < (t382.length : Int) := od_
       obtain ⟨ad385, e385, hx385_0⟩ := Kd.at_int (Kd.R_reads' HO_52.out).2.2 x54_1 p385 q385
       cases e385
       replace p385 := eq_true p385
       replace q385 := eq_true q385
       try go_wp2
       replace HO_52 := Aside0.mk (Kd.R_drew HO_52.out)
       replace HO_368000 := Aside0.mk (Kd.S_drew HO_368000.out)
       replace BK363 := Aside0.mk (blk_drew BK363.out)
       replace BK367 := Aside0.mk (blk_drew BK367.out)
       replace HB := Aside0.mk (below_drew1 HB.out)
       have p386 : 0 ≤ ((rd t382 x54_1) : Int) := od_
       have q386 : (rd t382 x54_1) < (l0.length : Int) := od_
       obtain ⟨ad386, e386, hx386_0, hx386_1, hx386_2⟩ := at_T58 HR0.out (rd t382 x54_1) p386 q386
       have hw386_2 := hx386_2
       have hw386_1 := hx386_1
       have hw386_0 := hx386_0
       cases e386
       replace hx386_0 := cb_ HB hx386_0
       replace hx386_1 := cb_ HB hx386_1
       replace hx386_2 := cb_ HB hx386_2
       replace p386 := eq_true p386
       replace q386 := eq_true q386
       refine start_ (n := 13) (S := fun w' => w'.cell? ⟨gb363, 0, none⟩ = some (.int .i64 a1_0) ∧ w'.cell? ⟨gb363, 1, none⟩ = some (.int .i64 a1_1) ∧ w'.cell? ⟨gb363, 2, none⟩ = some (.int .i64 a1_2) ∧ w'.cell? ⟨gb363, 3, none⟩ = some (.int .i64 a1_3) ∧ w'.cell? ⟨gb363, 4, none⟩ = some (.int .i64 a1_4) ∧ w'.cell? ⟨gb363, 5, none⟩ = some (.int .i64 a1_5) ∧ w'.cell? ⟨gb363, 6, none⟩ = some (.int .i64 a1_6) ∧ w'.cell? ⟨gb363, 7, none⟩ = some (.int .i64 a1_7) ∧ w'.cell? ⟨gb363, 8, none⟩ = some (.int .i64 a1_8) ∧ w'.cell? ⟨gb363, 9, none⟩ = some (.int .i64 a1_9) ∧ w'.cell? (ad386.add (((rd t382 x54_1)).toNat * 3)) = some (.int .i64 ((rd_T58 l0 (rd t382 x54_1)).f0.f0)) ∧ w'.cell? ⟨(ad386.add (((rd t382 x54_1)).toNat * 3)).block, (ad386.add (((rd t382 x54_1)).toNat * 3)).off + 1, none⟩ = some (.int .i64 ((rd_T58 l0 (rd t382 x54_1)).f0.f1)) ∧ w'.cell? ⟨(ad386.add (((rd t382 x54_1)).toNat * 3)).block, (ad386.add (((rd t382 x54_1)).toNat * 3)).off + 2, none⟩ = some (.int .i64 ((rd_T58 l0 (rd t382 x54_1)).f1))) (ds := []) #[false, false, false, false, false, false, false, false, false, false, false, false, false] (by kernel_rfl) rfl rfl ⟨(blk_cell BK363.out 0).trans rfl, (blk_cell BK363.out 1).trans rfl, (blk_cell BK363.out 2).trans rfl, (blk_cell BK363.out 3).trans rfl, (blk_cell BK363.out 4).trans rfl, (blk_cell BK363.out 5).trans rfl, (blk_cell BK363.out 6).trans rfl, (blk_cell BK363.out 7).trans rfl, (blk_cell BK363.out 8).trans rfl, (blk_cell BK363.out 9).trans rfl, (cb_ HB hw386_0 :), (cb_ HB hw386_1 :), (cb_ HB hw386_2 :)⟩ (fun hHeld => ?_); refine with_tabW impl_derive.tab16 impl_derive.bits16 (fun HT_ HW_ => ?_)
       generalize wr.drew = w56 at HO_52 HO_368000 BK363 BK367 HB hx386_0 hx386_1 hx386_2 hHeld ⊢
       refine pureZ_ (i := 0) (some 58) #[true, false, false, false, false, false, false, false, false, false, false, false, false] (ao_ HT_) ?_
       refine pureZ_ (i := 1) (some 59) #[true, true, false, false, false, false, false, false, false, false, false, false, false] (ao_ HT_) ?_
       refine pureZ_ (i := 2) (some 60) #[true, true, true, false, false, false, false, false, false, false, false, false, false] (ao_ HT_) ?_
       refine pureZ_ (i := 3) (some 61) #[true, true, true, true, false, false, false, false, false, false, false, false, false] (ao_ HT_) ?_
       refine pureZ_ (i := 4) (some 62) #[true, true, true, true, true, false, false, false, false, false, false, false, false] (ao_ HT_) ?_
       refine pureZ_ (i := 6) (some 64) #[true, true, true, true, true, false, true, false, false, false, false, false, false] (ao_ HT_) ?_
       refine pureZ_ (i := 7) (some 65) #[true, true, true, true, true, false, true, true, false, false, false, false, false] (ao_ HT_) ?_
       refine pureZ_ (i := 12) (some 70) #[true, true, true, true, true, false, true, true, false, false, false, false, true] (ao_ HT_) ?_
       refine takeZ_ (i := 5) (some 63) #[true, true, true, true, true, true, true, true, false, false, false, false, true] (take_ofW HT_.out HW_.out (by kernel_rfl)) hHeld ?_
       refine takeZ_ (i := 8) (some 66) #[true, true, true, true, true, true, true, true, true, false, false, false, true] (take_ofW HT_.out HW_.out (by kernel_rfl)) hHeld ?_
       refine pureZ_ (i := 9) (some 67) #[true, true, true, true, true, true, true, true, true, true, false, false, true] (ao_ HT_) ?_
       refine one_ (i := 10) (N := some 68) #[true, true, true, true, true, true, true, true, true, true, true, false, true] rfl rfl (one_of HT_.out (by kernel_rfl)) (by decide) (fun K hK => ?_)
       refine goes_ Try.func80 (by kernel_rfl) rfl #[.slice (some ad386) l0.length c0, .agg #[.int .i64 ((rd_T58 l0 (rd t382 x54_1)).f1), .int .i64 a1_7]] (by rfl) rfl rfl (by (try simp only [List.map_toArray, List.map_cons, List.map_nil]); first | done | rfl | (simp only [List.length_drop, List.length_take]; rfl)) ?_
       with_reducible refine (impl_whoOf.calls k1 _ _ l0 ((rd_T58 l0 (rd t382 x54_1)).f1) a1_7 t387 _ ?side1 ?side2 A55.out).mono ?_
       (case side1 => repeat (first | exact (Kd.C_below HR0.out HB.out) | (with_reducible refine Kd.C_alloc ?_ _) | (with_reducible refine Kd.C_drewN ?_ _) | (with_reducible refine Kd.C_drew ?_)))
       (case side2 => exact HC0.out)
       rintro e w57 ⟨v388, rfl, ho0, hb⟩
       refine ⟨_, rfl, ?_⟩
       replace HO_368000 := Aside0.mk (Kd.S_elder' (rs_ HO_368000) (Kd.R_base ho0) hb)
       have HO389 := Aside0.mk (Kd.R_lower (Kd.R_new' ho0 (Kd.R_lt (rr_ HO_52))) bls_)
       replace HO_52 := Aside0.mk (Kd.R_elder' (rr_ HO_52) (Kd.R_base ho0) hb)
       replace BK363 := bkb_ BK363 hb
       replace BK367 := bkb_ BK367 hb
       replace HB := hbs_ hb
       (try clear hb)
       (try clear hb2)
       (try clear hk)
       (try clear hi)
       (try clear ho0)
       obtain ⟨Ao58, co58, eo58⟩ := Kd.R_slice HO389.out
       (first | subst eo58 | (injection eo58 with f1_ f2_ f3_; have f4_ := f1_.symm; have f5_ := f3_.symm; clear f1_ f2_ f3_; subst f4_; subst f5_))
       refine hK.out _ _ ⟨(blk_cell BK363.out 0).trans rfl, (blk_cell BK363.out 1).trans rfl, (blk_cell BK363.out 2).trans rfl, (blk_cell BK363.out 3).trans rfl, (blk_cell BK363.out 4).trans rfl, (blk_cell BK363.out 5).trans rfl, (blk_cell BK363.out 6).trans rfl, (blk_cell BK363.out 7).trans rfl, (blk_cell BK363.out 8).trans rfl, (blk_cell BK363.out 9).trans rfl, (cb_ HB hw386_0 :), (cb_ HB hw386_1 :), (cb_ HB hw386_2 :)⟩ (fun hHeld => ?_)
       clear hK K
       refine norm_ (a' := ?_) ?_ ?_
       rotate_left
       ·show Act.put _ (some 68) _ = _
        simp only [Act.put, List.setIfInBounds_toArray, List.set_cons_zero, List.set_cons_succ, i64_w, i32_w]
        rfl
       refine pureZ_ (i := 11) (some 69) #[true, true, true, true, true, true, true, true, true, true, true, true, true] (ao_ HT_) ?_
       refine done_ (done_of HT_.out (by kernel_rfl)) ?_
       try go_wp2
       go_loopg [70] k1 (fun kq v70 w' => ∃ (x70_2 : Int) (x368000_2 : List (S89)) (u368000 : Value), v70 = .int .i64 x70_2 ∧ Aside0 (impl_derive.l2 kq l0 (rd t382 x54_1) t382 (t382.length : Int) x54_1 t387 (t387.length : Int) x70_2 a1_0 a1_1 a1_2 a1_3 a1_4 a1_5 a1_6 a1_7 a1_8 a1_9 x368000_2 = some r) ∧ Aside0 (kq ≤ k1) ∧ Aside0 (Kd.R (Kd.int .i64) 3 w' w.heap.size (fun k_ => some k_ ≠ ((.slice Ao58 t387.length co58) : Value).ownBlock) (.slice (some ad385) t382.length co49) t382) ∧ Aside0 (Kd.R (Kd.int .i64) 3 w' w.heap.size (fun k_ => some k_ ≠ ((.slice (some ad385) t382.length co49) : Value).ownBlock) (.slice Ao58 t387.length co58) t387) ∧ Aside0 (Kd.S k89 89 w' w.heap.size (fun k_ => some k_ ≠ ((.slice (some ad385) t382.length co49) : Value).ownBlock ∧ some k_ ≠ ((.slice Ao58 t387.length co58) : Value).ownBlock) u368000 x368000_2) ∧ Aside0 (w'.heap[gb363]? = some (.cells #[.int .i64 a1_0, .int .i64 a1_1, .int .i64 a1_2, .int .i64 a1_3, .int .i64 a1_4, .int .i64 a1_5, .int .i64 a1_6, .int .i64 a1_7, .int .i64 a1_8, .int .i64 a1_9] 49 (0, 0))) ∧ Aside0 (w'.heap[gb367]? = some (.cells #[u368000] 85 (0, 0))) ∧ Aside0 (Below w.heap.size w w'))
       case atStart => exact ⟨(0), (x368000_1), (u368000), rf_, H', ⟨Nat.le_refl _⟩, ⟨by (with_reducible repeat (first | apply Kd.R_alloc | apply Kd.R_drewN | apply Kd.R_drew)); exact Kd.R_mono HO_52.out (fun _ hk => hk.2)⟩, ⟨by (with_reducible repeat (first | apply Kd.R_alloc | apply Kd.R_drewN | apply Kd.R_drew)); exact Kd.R_mono HO389.out (fun _ hk => hk.2)⟩, ⟨rs_ HO_368000⟩, ⟨bk_ BK363⟩, ⟨bk_ BK367⟩, ⟨bl_⟩⟩
       case round =>
        clear H'
        try clear c1
        try clear c2
        try clear p2
        try clear c3
        try clear p3
        try clear q3
        try clear hx3
        try clear c4
        try clear c5
        try clear c6
        try clear p6
        try clear c8
        try clear c9
        try clear c13
        try clear c13b0
        try clear c13b1
        try clear c14
        try clear c15
        try clear c21
        try clear c21b0
        try clear c21b1
        try clear c23
        try clear c27
        try clear c27b0
        try clear c28
        try clear c28b0
        try clear c29
        try clear c29b0
        try clear c30
        try clear c30b0
        try clear c31
        try clear c31b0
        try clear c32
        try clear c35
        try clear p37
        try clear q37
        try clear hx37
        try clear p38
        try clear q38
        try clear hx38
        try clear c42
        try clear c44
        try clear c44b0
        try clear c44b1
        try clear c46
        try clear c50
        try clear c50b0
        try clear c51
        try clear c51b0
        try clear c52
        try clear c52b0
        try clear c53
        try clear c53b0
        try clear c54
        try clear c54b0
        try clear hcz10
        try clear hcz11
        try clear hcz16
        try clear hcz17
        try clear hcz20
        try clear hcz24
        try clear hcz36
        try clear hcz37
        try clear hcz41
        try clear hcz43
        try clear hcz47
        try clear hfz10
        try clear hfz11
        try clear hfz16
        try clear hfz17
        try clear hfz20
        try clear hfz24
        try clear hfz36
        try clear hfz37
        try clear hfz41
        try clear hfz43
        try clear hfz47
        try clear hx374_0
        try clear hx375_0
        try clear hx375_1
        try clear hx375_2
        try clear hx385_0
        try clear hx386_0
        try clear hx386_1
        try clear hx386_2
        try clear p2
        try clear p3
        try clear p37
        try clear p374
        try clear p375
        try clear p385
        try clear p386
        try clear p6
        try clear q3
        try clear q37
        try clear q374
        try clear q375
        try clear q385
        try clear q386
        obtain ⟨x70_2, x368000_2, u368000, rfl, HA, HK2, HO_52, HO_68, HO_368000, BK363, BK367, HB⟩ := hrel
        cases gk with
        | zero => exact absurd HA.out (by simp [impl_derive.l2])
        | succ k2 =>
         have H := HA.out
         clear HA
         simp only [impl_derive.l2] at H
         by_cases c59 : x70_2 < (t387.length : Int)
         ·rw [if_pos c59] at H
          have c59b0 : decide (x70_2 < (t387.length : Int)) = true := decide_eq_true c59
          clear c59
          obtain ⟨c60b0, H⟩ := ifd_ H
          obtain ⟨c61b0, H⟩ := ifd_ H
          obtain ⟨c62b0, H⟩ := ifd_ H
          obtain ⟨c63b0, H⟩ := ifd_ H
          obtain ⟨y392, hy392⟩ : ∃ y_ : List Int, y_ = (([(rd t382 x54_1), rd t387 x70_2] : List Int)) := ⟨_, rfl⟩
          replace H : (if x368000_2.length < 2932031007402 then (impl_derive.l2 k2 l0 (rd t382 x54_1) t382 (t382.length : Int) x54_1 t387 (t387.length : Int) (wrap64 (x70_2 + 1)) a1_0 a1_1 a1_2 a1_3 a1_4 a1_5 a1_6 a1_7 a1_8 a1_9 (x368000_2 ++ [(⟨(⟨(⟨a1_1, a1_2⟩ : S26), (rd_T58 l0 (rd t387 x70_2)).f1⟩ : S58), y392⟩ : S89)])) else (none)) = some r := rh_ hy392 H
          have Ny392 := Aside0.mk hy392
          clear hy392
          obtain ⟨c64, H⟩ := ifn_ H
          have LMc64 := Aside0.mk c64
          clear c64
          obtain ⟨y395, hy395⟩ : ∃ y_ : List (S89), y_ = (x368000_2 ++ [(⟨(⟨(⟨a1_1, a1_2⟩ : S26), (rd_T58 l0 (rd t387 x70_2)).f1⟩ : S58), y392⟩ : S89)]) := ⟨_, rfl⟩
          replace H : (impl_derive.l2 k2 l0 (rd t382 x54_1) t382 (t382.length : Int) x54_1 t387 (t387.length : Int) (wrap64 (x70_2 + 1)) a1_0 a1_1 a1_2 a1_3 a1_4 a1_5 a1_6 a1_7 a1_8 a1_9 y395) = some r := rh_ hy395 H
          have Ny395 := Aside0.mk hy395
          clear hy395
          have H' := Aside0.mk H
          clear H
          have p390 : 0 ≤ (x70_2 : Int) := od_
          have q390 : x70_2 < (t387.length : Int) := od_
          obtain ⟨ad390, e390, hx390_0⟩ := Kd.at_int (Kd.R_reads' HO_68.out).2.2 x70_2 p390 q390
          cases e390
          replace p390 := eq_true p390
          replace q390 := eq_true q390
          have p391 : 0 ≤ ((rd t387 x70_2) : Int) := od_
          have q391 : (rd t387 x70_2) < (l0.length : Int) := od_
          obtain ⟨ad391, e391, hx391_0, hx391_1, hx391_2⟩ := at_T58 HR0.out (rd t387 x70_2) p391 q391
          obtain rfl : ad386 = ad391 := (by injection e391)
          replace hx391_0 := cb_ HB hx391_0
          replace hx391_1 := cb_ HB hx391_1
          replace hx391_2 := cb_ HB hx391_2
          replace p391 := eq_true p391
          replace q391 := eq_true q391
          go_wp2_with (first | (go_at_call 79; go_in) | (go_end0; simp only []; go_at_K) | ((with_reducible refine gate_dst (N := 82) rfl ?_); refine Kd.R_lit (Kd.int .i64) _ 3 ?hg (N := 82) ?hd (xs := ([(rd t382 x54_1), rd t387 x70_2] : List Int)) (inner := [.int .i64 (rd t382 x54_1), .int .i64 (rd t387 x70_2)]) (ok := fun _ => True) (okp := fun _ => True) ?hr ?hp (fun _ hk => hk) trivial (Below.refl _ _) (Nat.le_refl _) (by simp) ?_; (case hd => rfl); (case hg => rfl); (case hr => first | (go_simp; done) | (go_simp; rfl)); (case hp => exact (Reps.one (show Kd.M (Kd.int .i64) _ _ _ (rd t382 x54_1) [.int .i64 (rd t382 x54_1)] from rfl) (Reps.one (show Kd.M (Kd.int .i64) _ _ _ (rd t387 x70_2) [.int .i64 (rd t387 x70_2)] from rfl) (Reps.none _ _)))); intro v393 w65 ho66 hb hg_ hnew_; clear hg_ hnew_; (first | rw [← Ny392.out] at ho66 | (simp only [Int.reduceToNat] at ho66; rw [← Ny392.out] at ho66)); replace HO_368000 := Aside0.mk (Kd.S_elder' (rs_ HO_368000) (Kd.R_base ho66) hb); have HO394 := Aside0.mk (Kd.R_lower (Kd.R_new' (Kd.R_new' ho66 (Kd.R_lt (rr_ HO_52))) (Kd.R_lt (rr_ HO_68))) bls_); replace HO_52 := Aside0.mk (Kd.R_elder' (rr_ HO_52) (Kd.R_base ho66) hb); replace HO_68 := Aside0.mk (Kd.R_elder' (rr_ HO_68) (Kd.R_base ho66) hb); replace BK363 := bkb_ BK363 hb; replace BK367 := bkb_ BK367 hb; replace HB := hbs_ hb; clear hb ho66; have hnb67 := NB367_363.out; have hnc67 := NB363_367.out; obtain ⟨hcz68, hfz68⟩ := bcf_ BK367; obtain ⟨hcz69, hfz69⟩ := bcf_ BK363; obtain ⟨Ao70, co70, eo70⟩ := Kd.R_slice HO394.out; subst eo70) | ((with_reducible refine gate_builtin (b := .append) (xs := #[.tmp 6, .tmp 13]) rfl ?_); at_builtin; refine Kd.S_append k89 (w0 := w) w.heap.size rfl (.tmp 6) (.tmp 13) 85 89 (.agg #[(.int .i64 0), (.int .i64 0), (.int .i64 0), (.slice none 0 0)]) 48 rfl Try.underlying85 info89 rfl (by decide) (by omega) u368000 x368000_2 (⟨(⟨(⟨a1_1, a1_2⟩ : S26), (rd_T58 l0 (rd t387 x70_2)).f1⟩ : S58), y392⟩ : S89) [.int .i64 a1_1, .int .i64 a1_2, .int .i64 ((rd_T58 l0 (rd t387 x70_2)).f1), .slice Ao70 y392.length co70] (fun k_ => some k_ ≠ (.slice (some ad385) t382.length co49 : Value).ownBlock ∧ some k_ ≠ (.slice (some ad390) t387.length co58 : Value).ownBlock) (fun k_ => some k_ = (.slice Ao70 y392.length co70 : Value).ownBlock) rfl rfl ?aP (fun k_ hk_ => ((Kd.R_mono (ok' := fun k_ => ((fun k_ => some k_ ≠ (.slice (some ad385) t382.length co49 : Value).ownBlock ∧ some k_ ≠ (.slice (some ad390) t387.length co58 : Value).ownBlock)) k_ ∧ some k_ ≠ (u368000 : Value).ownBlock) (Kd.R_apart' (HO394.out) (Kd.S_typed HO_368000.out) (by decide)) (fun k_ hk => ⟨⟨hk.1.1.2, hk.1.2⟩, hk.2⟩))).1 k_ hk_.symm) ?aF ?aO ?aB ?aS ?aL ?_; (case aP => exact k89_mkM _ _ _ (⟨(⟨(⟨a1_1, a1_2⟩ : S26), (rd_T58 l0 (rd t387 x70_2)).f1⟩ : S58), y392⟩ : S89) (Kd.R_mono (Kd.R_tight rfl (Kd.R_mono (ok' := fun k_ => ((fun k_ => some k_ ≠ (.slice (some ad385) t382.length co49 : Value).ownBlock ∧ some k_ ≠ (.slice (some ad390) t387.length co58 : Value).ownBlock)) k_ ∧ some k_ ≠ (u368000 : Value).ownBlock) (Kd.R_apart' (HO394.out) (Kd.S_typed HO_368000.out) (by decide)) (fun k_ hk => ⟨⟨hk.1.1.2, hk.1.2⟩, hk.2⟩))) (fun _ h_ => h_))); (case aB => exact bl_); (case aF => exact (fun k_ hk => ⟨Kd.fresh' (Kd.R_lt (rr_ HO_52)) k_ hk, Kd.fresh' (Kd.R_lt (rr_ HO_68)) k_ hk⟩)); (case aO => exact (by (with_reducible repeat (first | apply Kd.S_alloc | apply Kd.S_drewN | apply Kd.S_drew)); exact Kd.S_mono HO_368000.out (fun k_ hk => ⟨⟨hk.1.1, hk.1.2⟩, fun e_ => hk.2 e_⟩))); (case aS => exact bls_); (case aL => have := LMc64.out; omega); intro v396 w71 ho hb hg hat; rw [← Ny395.out] at ho; replace HO_52 := Aside0.mk (Kd.R_over' (rr_ HO_52) (Kd.S_typed (rs_ HO_368000)) (by decide) hg); replace HO_68 := Aside0.mk (Kd.R_over' (rr_ HO_68) (Kd.S_typed (rs_ HO_368000)) (by decide) hg); replace BK363 := Aside0.mk (blk_grown (g := gb363) (o := .cells #[.int .i64 a1_0, .int .i64 a1_1, .int .i64 a1_2, .int .i64 a1_3, .int .i64 a1_4, .int .i64 a1_5, .int .i64 a1_6, .int .i64 a1_7, .int .i64 a1_8, .int .i64 a1_9] 49 (0, 0)) (bk_ BK363) hg (Kd.S_ne HO_368000.out BK363.out (by decide))); replace BK367 := Aside0.mk (blk_grown (g := gb367) (o := .cells #[u368000] 85 (0, 0)) (bk_ BK367) hg (Kd.S_ne HO_368000.out BK367.out (by decide))); replace HB := Aside0.mk (hb); have HO397 := Aside0.mk (ho); clear HO_368000; clear HO394; clear ho hb hg hat; obtain ⟨Ao72, co72, eo72⟩ := Kd.S_slice HO397.out; subst eo72; obtain ⟨hcz73, hfz73⟩ := bcf_ BK367))
          go_roundg k2
          case measure => have := HK1.out; have := HK2.out; omega
          case rel => exact ⟨(wrap64 (x70_2 + 1)), (y395), (.slice Ao72 y395.length co72), rf_, H', ⟨by have := HK1.out; have := HK2.out; omega⟩, ⟨by (with_reducible repeat (first | apply Kd.R_alloc | apply Kd.R_drewN | apply Kd.R_drew)); exact Kd.R_mono (Kd.R_far (p := ⟨gb367, 0, none⟩) (Kd.R_types HO_52.out BK367.out (by decide)) (fun _ hk => hk.2) (.slice Ao72 y395.length co72)) (fun _ hk => hk.1.1)⟩, ⟨by (with_reducible repeat (first | apply Kd.R_alloc | apply Kd.R_drewN | apply Kd.R_drew)); exact Kd.R_mono (Kd.R_far (p := ⟨gb367, 0, none⟩) (Kd.R_types HO_68.out BK367.out (by decide)) (fun _ hk => hk.2) (.slice Ao72 y395.length co72)) (fun _ hk => hk.1.1)⟩, ⟨by (with_reducible repeat (first | apply Kd.S_alloc | apply Kd.S_drewN | apply Kd.S_drew)); exact Kd.S_mono (Kd.S_far (p := ⟨gb367, 0, none⟩) (Kd.S_types HO397.out BK367.out (by decide)) (fun _ hk => hk.2) (.slice Ao72 y395.length co72)) (fun _ hk => ⟨hk.1.1, hk.1.2⟩)⟩, ⟨bk_ BK363⟩, ⟨bk_ BK367⟩, ⟨bl_⟩⟩
         ·rw [if_neg c59] at H
          have c59b0 : decide (x70_2 < (t387.length : Int)) = false := decide_eq_false c59
          clear c59
          have H' := Aside0.mk H
          clear H
          go_wp2
          go_roundg k2
          case measure => have := HK1.out; have := HK2.out; omega
          case rel => exact ⟨(wrap64 (x54_1 + 1)), (x368000_2), (u368000), rf_, H', ⟨by have := HK1.out; have := HK2.out; omega⟩, ⟨by (with_reducible repeat (first | apply Kd.R_alloc | apply Kd.R_drewN | apply Kd.R_drew)); exact Kd.R_mono HO_52.out (fun _ hk => trivial)⟩, ⟨by (with_reducible repeat (first | apply Kd.S_alloc | apply Kd.S_drewN | apply Kd.S_drew)); exact Kd.S_mono HO_368000.out (fun _ hk => hk.1)⟩, ⟨bk_ BK363⟩, ⟨bk_ BK367⟩, ⟨bl_⟩⟩
      ·rw [if_neg c50] at H
       have c50b0 : decide (x54_1 < (t382.length : Int)) = false := decide_eq_false c50
       clear c50
       obtain rfl := Option.some.inj H
       have hnb74 := NB367_363.out
       have hnc74 := NB363_367.out
       have hcz75 := blk_cell BK367.out
       have hfz75 := blk_frozen BK367.out
       go_wp2
       go_ret
       exact ⟨_, eq_, by (with_reducible repeat (first | apply Kd.S_alloc | apply Kd.S_drewN | apply Kd.S_drew)); exact Kd.S_mono HO_368000.out (fun _ hk => trivial), bl_⟩
   ·rw [if_neg c44] at H
    have c44b0 : (a1_0 == 3) = false := beq_eq_false_iff_ne.mpr c44
    have c44b1 : (a1_0 != 3) = true := bne_iff_ne.mpr c44
    by_cases c76 : a1_0 = 4
    ·rw [if_pos c76] at H
     have c76b0 : (a1_0 == 4) = true := beq_iff_eq.mpr c76
     have c76b1 : (a1_0 != 4) = false := bne_eq_false_iff_eq.mpr c76
     clear c76
     obtain ⟨t398, A77, H⟩ := bindE_ H
     have H' := Aside0.mk H
     clear H
     have hnb78 := NB363_367.out
     have hnc78 := NB367_363.out
     have hcz79 := blk_cell BK363.out
     have hfz79 := blk_frozen BK363.out
     go_wp2_with (first | (go_at_call 79; go_in) | (go_end0; simp only []; go_at_K) | ((with_reducible refine gate_callee (f := 80) rfl ?_); refine goesC_ (some 91) Try.func80 #[.slice A0 l0.length c0, .agg #[.int .i64 a1_4, .int .i64 a1_5]] ?_; (with_reducible refine (impl_whoOf.calls k _ _ l0 a1_4 a1_5 t398 _ ?side1 ?side2 A77.out).mono ?_); (case side1 => repeat (first | exact (Kd.C_below HR0.out HB.out) | (with_reducible refine Kd.C_alloc ?_ _) | (with_reducible refine Kd.C_drewN ?_ _) | (with_reducible refine Kd.C_drew ?_))); (case side2 => exact HC0.out); rintro e w80 ⟨v399, rfl, ho0, hb⟩; refine ⟨_, rfl, ?_⟩; replace HO366 := Aside0.mk (Kd.S_elder' (rs_ HO366) (Kd.R_base ho0) hb); have HO400 := Aside0.mk (Kd.R_lower ho0 bls_); replace BK363 := bkb_ BK363 hb; replace BK367 := bkb_ BK367 hb; replace HB := hbs_ hb; (try clear hb ho0); obtain ⟨Ao81, co81, eo81⟩ := Kd.R_slice HO400.out; subst eo81))
     go_loopg [93] k (fun kq v93 w' => ∃ (x93_1 : Int) (x368000_1 : List (S89)) (u368000 : Value), v93 = .int .i64 x93_1 ∧ Aside0 (impl_derive.l3 kq l0 t398 (t398.length : Int) x93_1 a1_0 a1_1 a1_2 a1_3 a1_4 a1_5 a1_6 a1_7 a1_8 a1_9 x368000_1 = some r) ∧ Aside0 (kq ≤ k) ∧ Aside0 (Kd.R (Kd.int .i64) 3 w' w.heap.size (fun _ => True) (.slice Ao81 t398.length co81) t398) ∧ Aside0 (Kd.S k89 89 w' w.heap.size (fun k_ => some k_ ≠ ((.slice Ao81 t398.length co81) : Value).ownBlock) u368000 x368000_1) ∧ Aside0 (w'.heap[gb363]? = some (.cells #[.int .i64 a1_0, .int .i64 a1_1, .int .i64 a1_2, .int .i64 a1_3, .int .i64 a1_4, .int .i64 a1_5, .int .i64 a1_6, .int .i64 a1_7, .int .i64 a1_8, .int .i64 a1_9] 49 (0, 0))) ∧ Aside0 (w'.heap[gb367]? = some (.cells #[u368000] 85 (0, 0))) ∧ Aside0 (Below w.heap.size w w'))
     case atStart => exact ⟨(0), (y364), (.slice Ao8 y364.length co8), rf_, H', ⟨Nat.le_refl _⟩, ⟨rr_ HO400⟩, ⟨by (with_reducible repeat (first | apply Kd.S_alloc | apply Kd.S_drewN | apply Kd.S_drew)); exact Kd.S_mono HO366.out (fun _ hk => hk.2)⟩, ⟨bk_ BK363⟩, ⟨bk_ BK367⟩, ⟨bl_⟩⟩
     case round =>
      clear H'
      try clear c1
      try clear c2
      try clear p2
      try clear c3
      try clear p3
      try clear q3
      try clear hx3
      try clear c4
      try clear c5
      try clear c6
      try clear p6
      try clear c7
      try clear c8
      try clear c9
      try clear c13
      try clear c13b0
      try clear c13b1
      try clear c14
      try clear c15
      try clear c21
      try clear c21b0
      try clear c21b1
      try clear c23
      try clear c27
      try clear c27b0
      try clear c28
      try clear c28b0
      try clear c29
      try clear c29b0
      try clear c30
      try clear c30b0
      try clear c31
      try clear c31b0
      try clear c32
      try clear c35
      try clear p37
      try clear q37
      try clear hx37
      try clear p38
      try clear q38
      try clear hx38
      try clear p39
      try clear q39
      try clear hx39
      try clear c42
      try clear c44
      try clear c44b0
      try clear c44b1
      try clear c46
      try clear c50
      try clear c50b0
      try clear c51
      try clear c51b0
      try clear c52
      try clear c52b0
      try clear c53
      try clear c53b0
      try clear c54
      try clear c54b0
      try clear c59
      try clear c59b0
      try clear c60
      try clear c60b0
      try clear c61
      try clear c61b0
      try clear c62
      try clear c62b0
      try clear c63
      try clear c63b0
      try clear c64
      try clear p64
      try clear c67
      try clear c74
      try clear c76
      try clear c76b0
      try clear c76b1
      try clear c78
      try clear c80
      try clear hcz10
      try clear hcz11
      try clear hcz16
      try clear hcz17
      try clear hcz20
      try clear hcz24
      try clear hcz36
      try clear hcz37
      try clear hcz41
      try clear hcz43
      try clear hcz47
      try clear hcz68
      try clear hcz69
      try clear hcz73
      try clear hcz75
      try clear hcz79
      try clear hfz10
      try clear hfz11
      try clear hfz16
      try clear hfz17
      try clear hfz20
      try clear hfz24
      try clear hfz36
      try clear hfz37
      try clear hfz41
      try clear hfz43
      try clear hfz47
      try clear hfz68
      try clear hfz69
      try clear hfz73
      try clear hfz75
      try clear hfz79
      try clear hx374_0
      try clear hx375_0
      try clear hx375_1
      try clear hx375_2
      try clear hx385_0
      try clear hx386_0
      try clear hx386_1
      try clear hx386_2
      try clear hx390_0
      try clear hx391_0
      try clear hx391_1
      try clear hx391_2
      try clear p2
      try clear p3
      try clear p37
      try clear p374
      try clear p375
      try clear p38
      try clear p385
      try clear p386
      try clear p390
      try clear p391
      try clear p6
      try clear q3
      try clear q37
      try clear q374
      try clear q375
      try clear q38
      try clear q385
      try clear q386
      try clear q390
      try clear q391
      obtain ⟨x93_1, x368000_1, u368000, rfl, HA, HK1, HO_91, HO_368000, BK363, BK367, HB⟩ := hrel
      cases gk with
      | zero => exact absurd HA.out (by simp [impl_derive.l3])
      | succ k1 =>
       have H := HA.out
       clear HA
       simp only [impl_derive.l3] at H
       by_cases c82 : x93_1 < (t398.length : Int)
       ·rw [if_pos c82] at H
        have c82b0 : decide (x93_1 < (t398.length : Int)) = true := decide_eq_true c82
        clear c82
        obtain ⟨c83b0, H⟩ := ifd_ H
        obtain ⟨c84b0, H⟩ := ifd_ H
        obtain ⟨c85b0, H⟩ := ifd_ H
        obtain ⟨c86b0, H⟩ := ifd_ H
        obtain ⟨t403, A87, H⟩ := bindE_ H
        have HC88 := Aside0.mk H
        clear H
        have p401 : 0 ≤ (x93_1 : Int) := od_
        have q401 : x93_1 < (t398.length : Int) := od_
        obtain ⟨ad401, e401, hx401_0⟩ := Kd.at_int (Kd.R_reads' HO_91.out).2.2 x93_1 p401 q401
        cases e401
        replace p401 := eq_true p401
        replace q401 := eq_true q401
        try go_wp2
        replace HO_91 := Aside0.mk (Kd.R_drew HO_91.out)
        replace HO_368000 := Aside0.mk (Kd.S_drew HO_368000.out)
        replace BK363 := Aside0.mk (blk_drew BK363.out)
        replace BK367 := Aside0.mk (blk_drew BK367.out)
        replace HB := Aside0.mk (below_drew1 HB.out)
        have p402 : 0 ≤ ((rd t398 x93_1) : Int) := od_
        have q402 : (rd t398 x93_1) < (l0.length : Int) := od_
        obtain ⟨ad402, e402, hx402_0, hx402_1, hx402_2⟩ := at_T58 HR0.out (rd t398 x93_1) p402 q402
        have hw402_2 := hx402_2
        have hw402_1 := hx402_1
        have hw402_0 := hx402_0
        cases e402
        replace hx402_0 := cb_ HB hx402_0
        replace hx402_1 := cb_ HB hx402_1
        replace hx402_2 := cb_ HB hx402_2
        replace p402 := eq_true p402
        replace q402 := eq_true q402
        refine start_ (n := 11) (S := fun w' => w'.cell? ⟨gb363, 0, none⟩ = some (.int .i64 a1_0) ∧ w'.cell? ⟨gb363, 1, none⟩ = some (.int .i64 a1_1) ∧ w'.cell? ⟨gb363, 2, none⟩ = some (.int .i64 a1_2) ∧ w'.cell? ⟨gb363, 3, none⟩ = some (.int .i64 a1_3) ∧ w'.cell? ⟨gb363, 4, none⟩ = some (.int .i64 a1_4) ∧ w'.cell? ⟨gb363, 5, none⟩ = some (.int .i64 a1_5) ∧ w'.cell? ⟨gb363, 6, none⟩ = some (.int .i64 a1_6) ∧ w'.cell? ⟨gb363, 7, none⟩ = some (.int .i64 a1_7) ∧ w'.cell? ⟨gb363, 8, none⟩ = some (.int .i64 a1_8) ∧ w'.cell? ⟨gb363, 9, none⟩ = some (.int .i64 a1_9) ∧ w'.cell? (ad402.add (((rd t398 x93_1)).toNat * 3)) = some (.int .i64 ((rd_T58 l0 (rd t398 x93_1)).f0.f0)) ∧ w'.cell? ⟨(ad402.add (((rd t398 x93_1)).toNat * 3)).block, (ad402.add (((rd t398 x93_1)).toNat * 3)).off + 1, none⟩ = some (.int .i64 ((rd_T58 l0 (rd t398 x93_1)).f0.f1)) ∧ w'.cell? ⟨(ad402.add (((rd t398 x93_1)).toNat * 3)).block, (ad402.add (((rd t398 x93_1)).toNat * 3)).off + 2, none⟩ = some (.int .i64 ((rd_T58 l0 (rd t398 x93_1)).f1))) (ds := []) #[false, false, false, false, false, false, false, false, false, false, false] (by kernel_rfl) rfl rfl ⟨(blk_cell BK363.out 0).trans rfl, (blk_cell BK363.out 1).trans rfl, (blk_cell BK363.out 2).trans rfl, (blk_cell BK363.out 3).trans rfl, (blk_cell BK363.out 4).trans rfl, (blk_cell BK363.out 5).trans rfl, (blk_cell BK363.out 6).trans rfl, (blk_cell BK363.out 7).trans rfl, (blk_cell BK363.out 8).trans rfl, (blk_cell BK363.out 9).trans rfl, (cb_ HB hw402_0 :), (cb_ HB hw402_1 :), (cb_ HB hw402_2 :)⟩ (fun hHeld => ?_); refine with_tabW impl_derive.tab26 impl_derive.bits26 (fun HT_ HW_ => ?_)
        generalize wr.drew = w89 at HO_91 HO_368000 BK363 BK367 HB hx402_0 hx402_1 hx402_2 hHeld ⊢
        refine pureZ_ (i := 0) (some 97) #[true, false, false, false, false, false, false, false, false, false, false] (ao_ HT_) ?_
        refine pureZ_ (i := 1) (some 98) #[true, true, false, false, false, false, false, false, false, false, false] (ao_ HT_) ?_
        refine pureZ_ (i := 3) (some 100) #[true, true, false, true, false, false, false, false, false, false, false] (ao_ HT_) ?_
        refine pureZ_ (i := 4) (some 101) #[true, true, false, true, true, false, false, false, false, false, false] (ao_ HT_) ?_
        refine pureZ_ (i := 5) (some 102) #[true, true, false, true, true, true, false, false, false, false, false] (ao_ HT_) ?_
        refine pureZ_ (i := 6) (some 103) #[true, true, false, true, true, true, true, false, false, false, false] (ao_ HT_) ?_
        refine takeZ_ (i := 2) (some 99) #[true, true, true, true, true, true, true, false, false, false, false] (take_ofW HT_.out HW_.out (by kernel_rfl)) hHeld ?_
        refine takeZ_ (i := 7) (some 104) #[true, true, true, true, true, true, true, true, false, false, false] (take_ofW HT_.out HW_.out (by kernel_rfl)) hHeld ?_
        refine pureZ_ (i := 8) (some 105) #[true, true, true, true, true, true, true, true, true, false, false] (ao_ HT_) ?_
        refine one_ (i := 9) (N := some 106) #[true, true, true, true, true, true, true, true, true, true, false] rfl rfl (one_of HT_.out (by kernel_rfl)) (by decide) (fun K hK => ?_)
        refine goes_ Try.func62 (by kernel_rfl) rfl #[.slice (some ad402) l0.length c0, .agg #[.int .i64 a1_6, .int .i64 a1_7, .int .i64 ((rd_T58 l0 (rd t398 x93_1)).f1)]] (by rfl) rfl rfl (by (try simp only [List.map_toArray, List.map_cons, List.map_nil]); first | done | rfl | (simp only [List.length_drop, List.length_take]; rfl)) ?_
        with_reducible refine (impl_Fact_62.calls k1 _ _ l0 a1_6 a1_7 ((rd_T58 l0 (rd t398 x93_1)).f1) t403 _ ?side1 ?side2 A87.out).mono ?_
        (case side1 => repeat (first | exact (Kd.C_below HR0.out HB.out) | (with_reducible refine Kd.C_alloc ?_ _) | (with_reducible refine Kd.C_drewN ?_ _) | (with_reducible refine Kd.C_drew ?_)))
        (case side2 => exact HC0.out)
        rintro e w90 ⟨rfl, hb⟩
        refine ⟨_, rfl, ?_⟩
        replace HO_91 := hob_ HO_91 hb
        replace HO_368000 := Aside0.mk (Kd.S_below (rs_ HO_368000) hb)
        replace BK363 := bkb_ BK363 hb
        replace BK367 := bkb_ BK367 hb
        replace HB := hbs_ hb
        (try clear hb)
        (try clear hb2)
        (try clear hk)
        (try clear hi)
        refine hK.out _ _ ⟨(blk_cell BK363.out 0).trans rfl, (blk_cell BK363.out 1).trans rfl, (blk_cell BK363.out 2).trans rfl, (blk_cell BK363.out 3).trans rfl, (blk_cell BK363.out 4).trans rfl, (blk_cell BK363.out 5).trans rfl, (blk_cell BK363.out 6).trans rfl, (blk_cell BK363.out 7).trans rfl, (blk_cell BK363.out 8).trans rfl, (blk_cell BK363.out 9).trans rfl, (cb_ HB hw402_0 :), (cb_ HB hw402_1 :), (cb_ HB hw402_2 :)⟩ (fun hHeld => ?_)
        clear hK K
        refine norm_ (a' := ?_) ?_ ?_
        rotate_left
        ·show Act.put _ (some 106) _ = _
         simp only [Act.put, List.setIfInBounds_toArray, List.set_cons_zero, List.set_cons_succ, i64_w, i32_w]
         rfl
        refine pureZ_ (i := 10) (some 15) #[true, true, true, true, true, true, true, true, true, true, true] (ao_ HT_) ?_
        refine done_ (done_of HT_.out (by kernel_rfl)) ?_
        go_upto_if 108 with (fail)
        have H := HC88.out
        clear HC88
        by_cases c91 : t403 ≥ 0
        ·rw [if_pos c91] at H
         have c91b0 : decide (0 ≤ t403) = true := decide_eq_true c91
         clear c91
         (first | rw [c91b0] | (simp only [i64_w, i32_w]; rw [c91b0]) | skip)
         obtain ⟨y405, hy405⟩ : ∃ y_ : List Int, y_ = (([rd t398 x93_1, t403] : List Int)) := ⟨_, rfl⟩
         replace H : (if x368000_1.length < 2932031007402 then (impl_derive.l3 k1 l0 t398 (t398.length : Int) (wrap64 (x93_1 + 1)) a1_0 a1_1 a1_2 a1_3 a1_4 a1_5 a1_6 a1_7 a1_8 a1_9 (x368000_1 ++ [(⟨(⟨(⟨a1_1, a1_2⟩ : S26), (rd_T58 l0 (rd t398 x93_1)).f1⟩ : S58), y405⟩ : S89)])) else (none)) = some r := rh_ hy405 H
         have Ny405 := Aside0.mk hy405
         clear hy405
         obtain ⟨c92, H⟩ := ifn_ H
         have LMc92 := Aside0.mk c92
         clear c92
         obtain ⟨y408, hy408⟩ : ∃ y_ : List (S89), y_ = (x368000_1 ++ [(⟨(⟨(⟨a1_1, a1_2⟩ : S26), (rd_T58 l0 (rd t398 x93_1)).f1⟩ : S58), y405⟩ : S89)]) := ⟨_, rfl⟩
         replace H : (impl_derive.l3 k1 l0 t398 (t398.length : Int) (wrap64 (x93_1 + 1)) a1_0 a1_1 a1_2 a1_3 a1_4 a1_5 a1_6 a1_7 a1_8 a1_9 y408) = some r := rh_ hy408 H
         have Ny408 := Aside0.mk hy408
         clear hy408
         have H' := Aside0.mk H
         clear H
         have p404 : 0 ≤ ((rd t398 x93_1) : Int) := od_
         have q404 : (rd t398 x93_1) < (l0.length : Int) := od_
         obtain ⟨ad404, e404, hx404_0, hx404_1, hx404_2⟩ := at_T58 HR0.out (rd t398 x93_1) p404 q404
         obtain rfl : ad402 = ad404 := (by injection e404)
         replace hx404_0 := cb_ HB hx404_0
         replace hx404_1 := cb_ HB hx404_1
         replace hx404_2 := cb_ HB hx404_2
         replace p404 := eq_true p404
         replace q404 := eq_true q404
         go_wp2_with (first | (go_at_call 79; go_in) | (go_end0; simp only []; go_at_K) | ((with_reducible refine gate_dst (N := 117) rfl ?_); refine Kd.R_lit (Kd.int .i64) _ 3 ?hg (N := 117) ?hd (xs := ([rd t398 x93_1, t403] : List Int)) (inner := [.int .i64 (rd t398 x93_1), .int .i64 t403]) (ok := fun _ => True) (okp := fun _ => True) ?hr ?hp (fun _ hk => hk) trivial (Below.refl _ _) (Nat.le_refl _) (by simp) ?_; (case hd => rfl); (case hg => rfl); (case hr => first | (go_simp; done) | (go_simp; rfl)); (case hp => exact (Reps.one (show Kd.M (Kd.int .i64) _ _ _ (rd t398 x93_1) [.int .i64 (rd t398 x93_1)] from rfl) (Reps.one (show Kd.M (Kd.int .i64) _ _ _ t403 [.int .i64 t403] from rfl) (Reps.none _ _)))); intro v406 w93 ho94 hb hg_ hnew_; clear hg_ hnew_; (first | rw [← Ny405.out] at ho94 | (simp only [Int.reduceToNat] at ho94; rw [← Ny405.out] at ho94)); replace HO_368000 := Aside0.mk (Kd.S_elder' (rs_ HO_368000) (Kd.R_base ho94) hb); have HO407 := Aside0.mk (Kd.R_lower (Kd.R_new' ho94 (Kd.R_lt (rr_ HO_91))) bls_); replace HO_91 := Aside0.mk (Kd.R_elder' (rr_ HO_91) (Kd.R_base ho94) hb); replace BK363 := bkb_ BK363 hb; replace BK367 := bkb_ BK367 hb; replace HB := hbs_ hb; clear hb ho94; have hnb95 := NB367_363.out; have hnc95 := NB363_367.out; obtain ⟨hcz96, hfz96⟩ := bcf_ BK367; obtain ⟨hcz97, hfz97⟩ := bcf_ BK363; obtain ⟨Ao98, co98, eo98⟩ := Kd.R_slice HO407.out; subst eo98) | ((with_reducible refine gate_builtin (b := .append) (xs := #[.tmp 6, .tmp 13]) rfl ?_); at_builtin; refine Kd.S_append k89 (w0 := w) w.heap.size rfl (.tmp 6) (.tmp 13) 85 89 (.agg #[(.int .i64 0), (.int .i64 0), (.int .i64 0), (.slice none 0 0)]) 48 rfl Try.underlying85 info89 rfl (by decide) (by omega) u368000 x368000_1 (⟨(⟨(⟨a1_1, a1_2⟩ : S26), (rd_T58 l0 (rd t398 x93_1)).f1⟩ : S58), y405⟩ : S89) [.int .i64 a1_1, .int .i64 a1_2, .int .i64 ((rd_T58 l0 (rd t398 x93_1)).f1), .slice Ao98 y405.length co98] (fun k_ => some k_ ≠ (.slice (some ad401) t398.length co81 : Value).ownBlock) (fun k_ => some k_ = (.slice Ao98 y405.length co98 : Value).ownBlock) rfl rfl ?aP (fun k_ hk_ => ((Kd.R_mono (ok' := fun k_ => ((fun k_ => some k_ ≠ (.slice (some ad401) t398.length co81 : Value).ownBlock)) k_ ∧ some k_ ≠ (u368000 : Value).ownBlock) (Kd.R_apart' (HO407.out) (Kd.S_typed HO_368000.out) (by decide)) (fun k_ hk => ⟨hk.1.2, hk.2⟩))).1 k_ hk_.symm) ?aF ?aO ?aB ?aS ?aL ?_; (case aP => exact k89_mkM _ _ _ (⟨(⟨(⟨a1_1, a1_2⟩ : S26), (rd_T58 l0 (rd t398 x93_1)).f1⟩ : S58), y405⟩ : S89) (Kd.R_mono (Kd.R_tight rfl (Kd.R_mono (ok' := fun k_ => ((fun k_ => some k_ ≠ (.slice (some ad401) t398.length co81 : Value).ownBlock)) k_ ∧ some k_ ≠ (u368000 : Value).ownBlock) (Kd.R_apart' (HO407.out) (Kd.S_typed HO_368000.out) (by decide)) (fun k_ hk => ⟨hk.1.2, hk.2⟩))) (fun _ h_ => h_))); (case aB => exact bl_); (case aF => exact (fun k_ hk => Kd.fresh' (Kd.R_lt (rr_ HO_91)) k_ hk)); (case aO => exact (by (with_reducible repeat (first | apply Kd.S_alloc | apply Kd.S_drewN | apply Kd.S_drew)); exact Kd.S_mono HO_368000.out (fun k_ hk => ⟨hk.1, fun e_ => hk.2 e_⟩))); (case aS => exact bls_); (case aL => have := LMc92.out; omega); intro v409 w99 ho hb hg hat; rw [← Ny408.out] at ho; replace HO_91 := Aside0.mk (Kd.R_over' (rr_ HO_91) (Kd.S_typed (rs_ HO_368000)) (by decide) hg); replace BK363 := Aside0.mk (blk_grown (g := gb363) (o := .cells #[.int .i64 a1_0, .int .i64 a1_1, .int .i64 a1_2, .int .i64 a1_3, .int .i64 a1_4, .int .i64 a1_5, .int .i64 a1_6, .int .i64 a1_7, .int .i64 a1_8, .int .i64 a1_9] 49 (0, 0)) (bk_ BK363) hg (Kd.S_ne HO_368000.out BK363.out (by decide))); replace BK367 := Aside0.mk (blk_grown (g := gb367) (o := .cells #[u368000] 85 (0, 0)) (bk_ BK367) hg (Kd.S_ne HO_368000.out BK367.out (by decide))); replace HB := Aside0.mk (hb); have HO410 := Aside0.mk (ho); clear HO_368000; clear HO407; clear ho hb hg hat; obtain ⟨Ao100, co100, eo100⟩ := Kd.S_slice HO410.out; subst eo100; obtain ⟨hcz101, hfz101⟩ := bcf_ BK367))
         go_roundg k1
         case measure => have := HK1.out; omega
         case rel => exact ⟨(wrap64 (x93_1 + 1)), (y408), (.slice Ao100 y408.length co100), rf_, H', ⟨by have := HK1.out; omega⟩, ⟨by (with_reducible repeat (first | apply Kd.R_alloc | apply Kd.R_drewN | apply Kd.R_drew)); exact Kd.R_mono (Kd.R_far (p := ⟨gb367, 0, none⟩) (Kd.R_types HO_91.out BK367.out (by decide)) (fun _ hk => hk.2) (.slice Ao100 y408.length co100)) (fun _ hk => trivial)⟩, ⟨by (with_reducible repeat (first | apply Kd.S_alloc | apply Kd.S_drewN | apply Kd.S_drew)); exact Kd.S_mono (Kd.S_far (p := ⟨gb367, 0, none⟩) (Kd.S_types HO410.out BK367.out (by decide)) (fun _ hk => hk.2) (.slice Ao100 y408.length co100)) (fun _ hk => hk.1)⟩, ⟨bk_ BK363⟩, ⟨bk_ BK367⟩, ⟨bl_⟩⟩
        ·rw [if_neg c91] at H
         have c91b0 : decide (0 ≤ t403) = false := decide_eq_false c91
         clear c91
         (first | rw [c91b0] | (simp only [i64_w, i32_w]; rw [c91b0]) | skip)
         have H' := Aside0.mk H
         clear H
         go_wp2
         go_roundg k1
         case measure => have := HK1.out; omega
         case rel => exact ⟨(wrap64 (x93_1 + 1)), (x368000_1), (u368000), rf_, H', ⟨by have := HK1.out; omega⟩, ⟨rr_ HO_91⟩, ⟨rs_ HO_368000⟩, ⟨bk_ BK363⟩, ⟨bk_ BK367⟩, ⟨bl_⟩⟩
       ·rw [if_neg c82] at H
        have c82b0 : decide (x93_1 < (t398.length : Int)) = false := decide_eq_false c82
        clear c82
        obtain rfl := Option.some.inj H
        have hnb102 := NB367_363.out
        have hnc102 := NB363_367.out
        have hcz103 := blk_cell BK367.out
        have hfz103 := blk_frozen BK367.out
        go_wp2
        go_ret
        exact ⟨_, eq_, by (with_reducible repeat (first | apply Kd.S_alloc | apply Kd.S_drewN | apply Kd.S_drew)); exact Kd.S_mono HO_368000.out (fun _ hk => trivial), bl_⟩
    ·rw [if_neg c76] at H
     have c76b0 : (a1_0 == 4) = false := beq_eq_false_iff_ne.mpr c76
     have c76b1 : (a1_0 != 4) = true := bne_iff_ne.mpr c76
     obtain rfl := Option.some.inj H
     have hnb104 := NB367_363.out
     have hnc104 := NB363_367.out
     have hcz105 := blk_cell BK367.out
     have hfz105 := blk_frozen BK367.out
     go_wp2
     go_ret
     exact ⟨_, eq_, by (with_reducible repeat (first | apply Kd.S_alloc | apply Kd.S_drewN | apply Kd.S_drew)); exact HO366.out, bl_⟩
end Go.Proofs.Ytamhfnedknjjbaa.PB
