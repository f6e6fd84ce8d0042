import Derived.Test.YtljhfomkakhflaaKEPAx7
-- printed by wip/tools
namespace Go.Proofs.Ytljhfomkakhflaa.PA
open Go.RowKit Go.Proofs.YtljhfomkakhflaaW.PrintWords Go.Proofs.YtljhfomkakhflaaW.PrintLast Go.Proofs.YtljhfomkakhflaaW.PrintMore
attribute [local go_sem] max2_int min2_int max_two min_two max_three min_three max_four min_four
set_option linter.unusedVariables false
set_option linter.unusedSimpArgs false
mutual
def impl_derive.l0 : Nat → List (S28) → List Int → Int → Int → Int → Int → Int → Int → Int → Int → Int → Int → Int → Int → List (S81) → Option ((List (S81)))
 | 0, _, _, _, _, _, _, _, _, _, _, _, _, _, _, _ => none
 | k + 1, x0, x31, x32, x33, x299000, x299001, x299002, x299003, x299004, x299005, x299006, x299007, x299008, x299009, x303000 => if x33 < x32 then (if 0 ≤ x33 then (if x33 < (x31.length : Int) then (if 0 ≤ (rd x31 x33) then (if (rd x31 x33) < (x0.length : Int) then (if x303000.length < 2932031007402 then (impl_derive.l0 k x0 x31 x32 (wrap64 (x33 + 1)) x299000 x299001 x299002 x299003 x299004 x299005 x299006 x299007 x299008 x299009 (x303000 ++ [(⟨(⟨(⟨x299001, x299002⟩ : S26), (rd_T28 x0 (rd x31 x33)).f1⟩ : S28), (([rd x31 x33] : List Int))⟩ : S81)])) else (none)) else (none)) else (none)) else (none)) else (none)) else (some x303000)
def impl_derive.l1 : Nat → List (S28) → List Int → Int → Int → Int → Int → Int → Int → Int → Int → Int → Int → Int → Int → List (S81) → Option ((List (S81)))
 | 0, _, _, _, _, _, _, _, _, _, _, _, _, _, _, _ => none
 | k + 1, x0, x52, x53, x54, x299000, x299001, x299002, x299003, x299004, x299005, x299006, x299007, x299008, x299009, x303000 => if x54 < x53 then (if 0 ≤ x54 then (if x54 < (x52.length : Int) then (if 0 ≤ (rd x52 x54) then (if (rd x52 x54) < (x0.length : Int) then ((impl_whoOf.f k x0 ((rd_T28 x0 (rd x52 x54)).f1) x299007).bind fun t322 => (impl_derive.l2 k x0 (rd x52 x54) x52 x53 x54 t322 (t322.length : Int) 0 x299000 x299001 x299002 x299003 x299004 x299005 x299006 x299007 x299008 x299009 x303000)) else (none)) else (none)) else (none)) else (none)) else (some x303000)
def impl_derive.l2 : Nat → List (S28) → Int → List Int → Int → Int → List Int → Int → Int → Int → Int → Int → Int → Int → Int → Int → Int → Int → Int → List (S81) → Option ((List (S81)))
 | 0, _, _, _, _, _, _, _, _, _, _, _, _, _, _, _, _, _, _, _ => none
 | k + 1, x0, x10, x52, x53, x54, x68, x69, x70, x299000, x299001, x299002, x299003, x299004, x299005, x299006, x299007, x299008, x299009, x303000 => if x70 < x69 then (if 0 ≤ x70 then (if x70 < (x68.length : Int) then (if 0 ≤ (rd x68 x70) then (if (rd x68 x70) < (x0.length : Int) then (if x303000.length < 2932031007402 then (impl_derive.l2 k x0 x10 x52 x53 x54 x68 x69 (wrap64 (x70 + 1)) x299000 x299001 x299002 x299003 x299004 x299005 x299006 x299007 x299008 x299009 (x303000 ++ [(⟨(⟨(⟨x299001, x299002⟩ : S26), (rd_T28 x0 (rd x68 x70)).f1⟩ : S28), (([x10, rd x68 x70] : List Int))⟩ : S81)])) else (none)) else (none)) else (none)) else (none)) else (none)) else (impl_derive.l1 k x0 x52 x53 (wrap64 (x54 + 1)) x299000 x299001 x299002 x299003 x299004 x299005 x299006 x299007 x299008 x299009 x303000)
def impl_derive.l3 : Nat → List (S28) → List Int → Int → Int → Int → Int → Int → Int → Int → Int → Int → Int → Int → Int → List (S81) → Option ((List (S81)))
 | 0, _, _, _, _, _, _, _, _, _, _, _, _, _, _, _ => none
 | k + 1, x0, x91, x92, x93, x299000, x299001, x299002, x299003, x299004, x299005, x299006, x299007, x299008, x299009, x303000 => if x93 < x92 then (if 0 ≤ x93 then (if x93 < (x91.length : Int) then (if 0 ≤ (rd x91 x93) then (if (rd x91 x93) < (x0.length : Int) then ((impl_Fact_22.f k x0 x299006 x299007 ((rd_T28 x0 (rd x91 x93)).f1)).bind fun t338 => (if t338 ≥ 0 then (if x303000.length < 2932031007402 then (impl_derive.l3 k x0 x91 x92 (wrap64 (x93 + 1)) x299000 x299001 x299002 x299003 x299004 x299005 x299006 x299007 x299008 x299009 (x303000 ++ [(⟨(⟨(⟨x299001, x299002⟩ : S26), (rd_T28 x0 (rd x91 x93)).f1⟩ : S28), (([rd x91 x93, t338] : List Int))⟩ : S81)])) else (none)) else (impl_derive.l3 k x0 x91 x92 (wrap64 (x93 + 1)) x299000 x299001 x299002 x299003 x299004 x299005 x299006 x299007 x299008 x299009 x303000))) else (none)) else (none)) else (none)) else (none)) else (some x303000)
end
def impl_derive.f (k : Nat) (l0 : List (S28)) (a1_0 : Int) (a1_1 : Int) (a1_2 : Int) (a1_3 : Int) (a1_4 : Int) (a1_5 : Int) (a1_6 : Int) (a1_7 : Int) (a1_8 : Int) (a1_9 : Int) : Option ((List (S81))) := (some (([] : List (S81)) : List (S81))).bind fun y299 => (if a1_0 = 1 then (if y299.length < 2932031007402 then (some (y299 ++ [(⟨(⟨(⟨a1_1, a1_2⟩ : S26), a1_3⟩ : S28), ([] : List Int)⟩ : S81)])) else (none)) else (if a1_0 = 2 then ((impl_whoOf.f k l0 a1_4 a1_5).bind fun t306 => (impl_derive.l0 k l0 t306 (t306.length : Int) 0 a1_0 a1_1 a1_2 a1_3 a1_4 a1_5 a1_6 a1_7 a1_8 a1_9 y299)) else (if a1_0 = 3 then ((impl_whoOf.f k l0 a1_4 a1_5).bind fun t317 => (impl_derive.l1 k l0 t317 (t317.length : Int) 0 a1_0 a1_1 a1_2 a1_3 a1_4 a1_5 a1_6 a1_7 a1_8 a1_9 y299)) else (if a1_0 = 4 then ((impl_whoOf.f k l0 a1_4 a1_5).bind fun t333 => (impl_derive.l3 k l0 t333 (t333.length : Int) 0 a1_0 a1_1 a1_2 a1_3 a1_4 a1_5 a1_6 a1_7 a1_8 a1_9 y299)) else (some y299)))))
def impl_derive.T16 : Bool × List (List Nat × List Nat) := (true, [([], []), ([], []), ([], []), ([1, 2], [1, 2]), ([3], [3]), ([4], [4]), ([], []), ([6], [6]), ([7], [7]), ([5, 8], [5, 8]), ([0, 9], [0, 9]), ([10], [10]), ([], [])])
def impl_derive.B16 : List Nat := [0, 0, 0, 6, 14, 30, 0, 64, 192, 510, 1023, 2047, 0]
theorem impl_derive.tab16 : rtab .any (opsOf Try.f41 16) = impl_derive.T16 := by kernel_rfl
theorem impl_derive.bits16 : waitsOk impl_derive.T16.2 impl_derive.B16 = true := by kernel_rfl
def impl_derive.T26 : Bool × List (List Nat × List Nat) := (true, [([], []), ([], []), ([1], [1]), ([], []), ([], []), ([3, 4], [3, 4]), ([5], [5]), ([6], [6]), ([2, 7], [2, 7]), ([0, 8], [0, 8]), ([9, 9, 0, 1, 2, 3, 4, 5, 6, 7, 8, 9], [9])])
def impl_derive.B26 : List Nat := [0, 0, 2, 0, 0, 24, 56, 120, 254, 511, 1023]
theorem impl_derive.tab26 : rtab .any (opsOf Try.f41 26) = impl_derive.T26 := by kernel_rfl
theorem impl_derive.bits26 : waitsOk impl_derive.T26.2 impl_derive.B26 = true := by kernel_rfl
set_option maxHeartbeats 8000000 in
set_option maxRecDepth 100000 in
theorem impl_derive.calls (k : Nat) (A0 : Option Addr) (c0 : Nat) (l0 : List (S28)) (a1_0 : Int) (a1_1 : Int) (a1_2 : Int) (a1_3 : Int) (a1_4 : Int) (a1_5 : Int) (a1_6 : Int) (a1_7 : Int) (a1_8 : Int) (a1_9 : Int) (r : List (S81)) (w : World) (hr0 : Kd.C k28 w A0 l0.length l0) (hc0 : l0.length ≤ c0) (h : impl_derive.f k l0 a1_0 a1_1 a1_2 a1_3 a1_4 a1_5 a1_6 a1_7 a1_8 a1_9 = some r) :
  Calls Try.prog 41 #[.slice A0 l0.length c0, .agg #[.int .i64 a1_0, .int .i64 a1_1, .int .i64 a1_2, .int .i64 a1_3, .int .i64 a1_4, .int .i64 a1_5, .int .i64 a1_6, .int .i64 a1_7, .int .i64 a1_8, .int .i64 a1_9]] w fun e w' => ∃ v0_ : Value, e = .returned (v0_) ∧ Kd.S k81 81 w' w.heap.size (fun _ => True) v0_ r ∧ Below w.heap.size w w' := by
 have hu35 := Try.underlying35
 have hu26 := Try.underlying26
 have hu28 := Try.underlying28
 have hmf : ∀ (fn : Fn) (first cap : Array Value) (w : World), (Instr.makeFunc fn first cap).run Try.prog w = .ok (.func fn first cap) w := fun _ _ _ _ => rfl
 have hu78 := Try.underlying78
 have HR0 := aa_ hr0
 have HC0 := aa_ hc0
 clear hr0 hc0
 have HB := aa_ (Below.refl w.heap.size w)
 have H : ((some (([] : List (S81)) : List (S81))).bind fun y299 => (if a1_0 = 1 then (if y299.length < 2932031007402 then (some (y299 ++ [(⟨(⟨(⟨a1_1, a1_2⟩ : S26), a1_3⟩ : S28), ([] : List Int)⟩ : S81)])) else (none)) else (if a1_0 = 2 then ((impl_whoOf.f k l0 a1_4 a1_5).bind fun t306 => (impl_derive.l0 k l0 t306 (t306.length : Int) 0 a1_0 a1_1 a1_2 a1_3 a1_4 a1_5 a1_6 a1_7 a1_8 a1_9 y299)) else (if a1_0 = 3 then ((impl_whoOf.f k l0 a1_4 a1_5).bind fun t317 => (impl_derive.l1 k l0 t317 (t317.length : Int) 0 a1_0 a1_1 a1_2 a1_3 a1_4 a1_5 a1_6 a1_7 a1_8 a1_9 y299)) else (if a1_0 = 4 then ((impl_whoOf.f k l0 a1_4 a1_5).bind fun t333 => (impl_derive.l3 k l0 t333 (t333.length : Int) 0 a1_0 a1_1 a1_2 a1_3 a1_4 a1_5 a1_6 a1_7 a1_8 a1_9 y299)) else (some y299)))))) = some r := h
 clear h
 obtain ⟨y299, hy299⟩ : ∃ y_ : List (S81), y_ = (([] : List (S81))) := ⟨_, rfl⟩
 replace H : (if a1_0 = 1 then (if y299.length < 2932031007402 then (some (y299 ++ [(⟨(⟨(⟨a1_1, a1_2⟩ : S26), a1_3⟩ : S28), ([] : List Int)⟩ : S81)])) else (none)) else (if a1_0 = 2 then ((impl_whoOf.f k l0 a1_4 a1_5).bind fun t306 => (impl_derive.l0 k l0 t306 (t306.length : Int) 0 a1_0 a1_1 a1_2 a1_3 a1_4 a1_5 a1_6 a1_7 a1_8 a1_9 y299)) else (if a1_0 = 3 then ((impl_whoOf.f k l0 a1_4 a1_5).bind fun t317 => (impl_derive.l1 k l0 t317 (t317.length : Int) 0 a1_0 a1_1 a1_2 a1_3 a1_4 a1_5 a1_6 a1_7 a1_8 a1_9 y299)) else (if a1_0 = 4 then ((impl_whoOf.f k l0 a1_4 a1_5).bind fun t333 => (impl_derive.l3 k l0 t333 (t333.length : Int) 0 a1_0 a1_1 a1_2 a1_3 a1_4 a1_5 a1_6 a1_7 a1_8 a1_9 y299)) else (some y299))))) = some r := rh_ hy299 H
 have Ny299 := aa_ hy299
 clear hy299
 have HC3 := aa_ H
 clear H
 go_enter Try.func41, Try.ntmps41
 go_upto_if 20 with (first | (go_at_call 57; go_in) | (go_end0; simp only []; go_at_K) | ((with_reducible refine gD_ 3 rfl ?_); refine bx_ (N := 3) (cs := #[.int .i64 a1_0, .int .i64 a1_1, .int .i64 a1_2, .int .i64 a1_3, .int .i64 a1_4, .int .i64 a1_5, .int .i64 a1_6, .int .i64 a1_7, .int .i64 a1_8, .int .i64 a1_9]) (t := 35) ?_; intro gb298 hg w4 hbox hb; have BK298 := aa_ (hbox); have GW298 := gs_ hg; have GE298 := gs_ hg; replace HB := hbs_ hb; clear hb hbox hg) | ((with_reducible refine gD_ 16 rfl ?_); refine Kd.S_lit k81 _ 81 ?hg (N := 16) ?hd (xs := ([] : List (S81))) (inner := []) (ok := fun _ => True) (okp := fun _ => True) ?hr ?hp (fun _ hk => hk) trivial (Below.refl _ _) (Nat.le_refl _) (by simp) ?_; (case hd => rfl); (case hg => rfl); (case hr => first | (go_simp; done) | (go_simp; rfl)); (case hp => exact (Reps.none _ _)); intro v300 w5 ho6 hb hg_ hnew_; clear hg_ hnew_; (first | rw [← Ny299.out] at ho6 | (simp only [Int.reduceToNat] at ho6; rw [← Ny299.out] at ho6)); have HO301 := aa_ (Kd.S_lower ho6 bls_); replace BK298 := bkb_ BK298 hb; replace HB := hbs_ hb; clear hb ho6) | ((with_reducible refine gD_ 5 rfl ?_); refine bx_ (N := 5) (cs := #[.slice none 0 0]) (t := 78) ?_; intro gb302 hg w7 hbox hb; replace HO301 := aa_ (Kd.S_below (rs_ HO301) hb); have BK302 := aa_ (hbox); have GW302 := gs_ hg; have GE302 := gs_ hg; replace HB := hbs_ hb; have NB298_302 := nl_ hg BK298; have NB302_298 := nr_ hg BK298; replace BK298 := bkb_ BK298 hb; clear hb hbox hg; obtain ⟨Ao8, co8, eo8⟩ := Kd.S_slice HO301.out; subst eo8; have hnb9 := NB302_298.out; have hnc9 := NB298_302.out; obtain ⟨hcz10, hfz10⟩ := bcf_ BK302; obtain ⟨hcz11, hfz11⟩ := bcf_ BK298))
 have n0_ : Aside0 (Kd.S k81 81 (w7.setCell ⟨gb302, 0, none⟩ (.slice Ao8 y299.length co8)) w.heap.size (fun _ => True) (.slice Ao8 y299.length co8) y299) := ⟨by (with_reducible repeat (first | apply Kd.S_alloc | apply Kd.S_drewN | apply Kd.S_drew)); exact Kd.S_mono (Kd.S_far (p := ⟨gb302, 0, none⟩) (Kd.S_types HO301.out BK302.out (by decide)) (fun _ hk => hk.2) (.slice Ao8 y299.length co8)) (fun _ hk => trivial)⟩
 have n1_ : Aside0 ((w7.setCell ⟨gb302, 0, none⟩ (.slice Ao8 y299.length co8)).heap[gb298]? = some (.cells #[.int .i64 a1_0, .int .i64 a1_1, .int .i64 a1_2, .int .i64 a1_3, .int .i64 a1_4, .int .i64 a1_5, .int .i64 a1_6, .int .i64 a1_7, .int .i64 a1_8, .int .i64 a1_9] 35 (0, 0))) := ⟨bk_ BK298⟩
 have n2_ : Aside0 ((w7.setCell ⟨gb302, 0, none⟩ (.slice Ao8 y299.length co8)).heap[gb302]? = some (.cells #[.slice Ao8 y299.length co8] 78 (0, 0))) := ⟨bk_ BK302⟩
 have n3_ : Aside0 (Below w.heap.size w (w7.setCell ⟨gb302, 0, none⟩ (.slice Ao8 y299.length co8))) := ⟨bl_⟩
 (try clear HO301)
 (try clear BK298)
 (try clear BK302)
 (try clear HB)
 generalize (w7.setCell ⟨gb302, 0, none⟩ (.slice Ao8 y299.length co8)) = w12 at n0_ n1_ n2_ n3_ ⊢
 have HO301 := n0_
 have BK298 := n1_
 have BK302 := n2_
 have HB := n3_
 clear n0_ n1_ n2_ n3_
 (try simp only [Act.put, sb_, sz_, ss_])
 have H := HC3.out
 clear HC3
 by_cases c13 : a1_0 = 1
 ·rw [if_pos c13] at H
  have c13b0 : (a1_0 == 1) = true := beq_iff_eq.mpr c13
  have c13b1 : (a1_0 != 1) = false := bne_eq_false_iff_eq.mpr c13
  clear c13
  (first | rw [c13b0] | (simp only [i64_w, i32_w]; rw [c13b0]) | skip)
  obtain ⟨c14, H⟩ := ifn_ H
  have LMc14 := aa_ c14
  clear c14
  obtain ⟨y303, hy303⟩ : ∃ y_ : List (S81), y_ = (y299 ++ [(⟨(⟨(⟨a1_1, a1_2⟩ : S26), a1_3⟩ : S28), ([] : List Int)⟩ : S81)]) := ⟨_, rfl⟩
  replace H : (some y303) = some r := rh_ hy303 H
  have Ny303 := aa_ hy303
  clear hy303
  obtain rfl := Option.some.inj H
  have hnb15 := NB298_302.out
  have hnc15 := NB302_298.out
  have hcz16 := blk_cell BK298.out
  have hfz16 := blk_frozen BK298.out
  have hcz17 := blk_cell BK302.out
  have hfz17 := blk_frozen BK302.out
  go_wp2_with (first | (go_at_call 57; go_in) | (go_end0; simp only []; go_at_K) | ((with_reducible refine gate_builtin (b := .append) (xs := #[.tmp 6, .tmp 13]) rfl ?_); at_builtin; refine Kd.S_append k81 (w0 := w) w.heap.size rfl (.tmp 6) (.tmp 13) 78 81 (.agg #[(.int .i64 0), (.int .i64 0), (.int .i64 0), (.slice none 0 0)]) 48 rfl Try.underlying78 info81 rfl (by decide) (by omega) (.slice Ao8 y299.length co8) y299 (⟨(⟨(⟨a1_1, a1_2⟩ : S26), a1_3⟩ : S28), ([] : List Int)⟩ : S81) [.int .i64 a1_1, .int .i64 a1_2, .int .i64 a1_3, .slice none 0 0] (fun _ => True) (fun _ => False) rfl rfl ?aP (fun k_ hk_ => hk_.elim) ?aF ?aO ?aB ?aS ?aL ?_; (case aP => exact k81_mkM _ _ _ (⟨(⟨(⟨a1_1, a1_2⟩ : S26), a1_3⟩ : S28), ([] : List Int)⟩ : S81) (Kd.R_nil _ _ _ _ _)); (case aB => exact bl_); (case aF => exact (fun _ _ => trivial)); (case aO => exact (by (with_reducible repeat (first | apply Kd.S_alloc | apply Kd.S_drewN | apply Kd.S_drew)); exact Kd.S_mono HO301.out (fun k_ hk => ⟨trivial, fun e_ => e_⟩))); (case aS => exact bls_); (case aL => have := LMc14.out; omega); intro v304 w18 ho hb hg hat; rw [← Ny303.out] at ho; replace BK298 := aa_ (blk_grown (g := gb298) (o := .cells #[.int .i64 a1_0, .int .i64 a1_1, .int .i64 a1_2, .int .i64 a1_3, .int .i64 a1_4, .int .i64 a1_5, .int .i64 a1_6, .int .i64 a1_7, .int .i64 a1_8, .int .i64 a1_9] 35 (0, 0)) (bk_ BK298) hg (Kd.S_ne HO301.out BK298.out (by decide))); replace BK302 := aa_ (blk_grown (g := gb302) (o := .cells #[.slice Ao8 y299.length co8] 78 (0, 0)) (bk_ BK302) hg (Kd.S_ne HO301.out BK302.out (by decide))); replace HB := aa_ (hb); have HO305 := aa_ (ho); clear HO301; clear ho hb hg hat; obtain ⟨Ao19, co19, eo19⟩ := Kd.S_slice HO305.out; subst eo19; obtain ⟨hcz20, hfz20⟩ := bcf_ BK302))
  go_ret
  exact ⟨_, eq_, by (with_reducible repeat (first | apply Kd.S_alloc | apply Kd.S_drewN | apply Kd.S_drew)); exact Kd.S_mono (Kd.S_far (p := ⟨gb302, 0, none⟩) (Kd.S_types HO305.out BK302.out (by decide)) (fun _ hk => hk.2) (.slice Ao19 y303.length co19)) (fun _ hk => trivial), bl_⟩
 ·rw [if_neg c13] at H
  have c13b0 : (a1_0 == 1) = false := beq_eq_false_iff_ne.mpr c13
  have c13b1 : (a1_0 != 1) = true := bne_iff_ne.mpr c13
  (first | rw [c13b0] | (simp only [i64_w, i32_w]; rw [c13b0]) | skip)
  by_cases c21 : a1_0 = 2
  ·rw [if_pos c21] at H
   have c21b0 : (a1_0 == 2) = true := beq_iff_eq.mpr c21
   have c21b1 : (a1_0 != 2) = false := bne_eq_false_iff_eq.mpr c21
   clear c21
   obtain ⟨t306, A22, H⟩ := bindE_ H
   have H' := aa_ H
   clear H
   have hnb23 := NB298_302.out
   have hnc23 := NB302_298.out
   have hcz24 := blk_cell BK298.out
   have hfz24 := blk_frozen BK298.out
   go_wp2_with (first | (go_at_call 57; go_in) | (go_end0; simp only []; go_at_K) | ((with_reducible refine gC_ 58 rfl ?_); refine goesC_ (some 31) Try.func58 #[.slice A0 l0.length c0, .agg #[.int .i64 a1_4, .int .i64 a1_5]] ?_; (with_reducible refine (impl_whoOf.calls k _ _ l0 a1_4 a1_5 t306 _ ?side1 ?side2 A22.out).mono ?_); (case side1 => repeat (first | exact (Kd.C_below HR0.out HB.out) | (with_reducible refine Kd.C_alloc ?_ _) | (with_reducible refine Kd.C_drewN ?_ _) | (with_reducible refine Kd.C_drew ?_))); (case side2 => exact HC0.out); rintro e w25 ⟨v307, rfl, ho0, hb⟩; refine ⟨_, rfl, ?_⟩; replace HO301 := aa_ (Kd.S_elder' (rs_ HO301) (Kd.R_base ho0) hb); have HO308 := aa_ (Kd.R_lower ho0 bls_); replace BK298 := bkb_ BK298 hb; replace BK302 := bkb_ BK302 hb; replace HB := hbs_ hb; (try clear hb ho0); obtain ⟨Ao26, co26, eo26⟩ := Kd.R_slice HO308.out; subst eo26))
   go_loopg [33] k (fun kq v33 w' => ∃ (x33_1 : Int) (x303000_1 : List (S81)) (u303000 : Value), v33 = .int .i64 x33_1 ∧ Aside0 (impl_derive.l0 kq l0 t306 (t306.length : Int) x33_1 a1_0 a1_1 a1_2 a1_3 a1_4 a1_5 a1_6 a1_7 a1_8 a1_9 x303000_1 = some r) ∧ Aside0 (kq ≤ k) ∧ Aside0 (Kd.R (Kd.int .i64) 3 w' w.heap.size (fun _ => True) (.slice Ao26 t306.length co26) t306) ∧ Aside0 (Kd.S k81 81 w' w.heap.size (fun k_ => some k_ ≠ ((.slice Ao26 t306.length co26) : Value).ownBlock) u303000 x303000_1) ∧ Aside0 (w'.heap[gb298]? = some (.cells #[.int .i64 a1_0, .int .i64 a1_1, .int .i64 a1_2, .int .i64 a1_3, .int .i64 a1_4, .int .i64 a1_5, .int .i64 a1_6, .int .i64 a1_7, .int .i64 a1_8, .int .i64 a1_9] 35 (0, 0))) ∧ Aside0 (w'.heap[gb302]? = some (.cells #[u303000] 78 (0, 0))) ∧ Aside0 (Below w.heap.size w w'))
   case atStart => exact ⟨(0), (y299), (.slice Ao8 y299.length co8), rf_, H', ⟨Nat.le_refl _⟩, ⟨rr_ HO308⟩, ⟨by (with_reducible repeat (first | apply Kd.S_alloc | apply Kd.S_drewN | apply Kd.S_drew)); exact Kd.S_mono HO301.out (fun _ hk => hk.2)⟩, ⟨bk_ BK298⟩, ⟨bk_ BK302⟩, ⟨bl_⟩⟩
   case round =>
    clear H'
    try clear p2
    try clear c13b0
    try clear c13b1
    try clear c21b0
    try clear c21b1
    try clear hcz10
    try clear hcz11
    try clear hcz16
    try clear hcz17
    try clear hcz20
    try clear hcz24
    try clear hfz10
    try clear hfz11
    try clear hfz16
    try clear hfz17
    try clear hfz20
    try clear hfz24
    obtain ⟨x33_1, x303000_1, u303000, rfl, HA, HK1, HO_31, HO_303000, BK298, BK302, HB⟩ := hrel
    cases gk with
    | zero => exact absurd HA.out (by simp [impl_derive.l0])
    | succ k1 =>
     have H := HA.out
     clear HA
     simp only [impl_derive.l0] at H
     by_cases c27 : x33_1 < (t306.length : Int)
     ·rw [if_pos c27] at H
      have c27b0 : decide (x33_1 < (t306.length : Int)) = true := decide_eq_true c27
      clear c27
      obtain ⟨c28b0, H⟩ := ifd_ H
      obtain ⟨c29b0, H⟩ := ifd_ H
      obtain ⟨c30b0, H⟩ := ifd_ H
      obtain ⟨c31b0, H⟩ := ifd_ H
      obtain ⟨y311, hy311⟩ : ∃ y_ : List Int, y_ = (([rd t306 x33_1] : List Int)) := ⟨_, rfl⟩
      replace H : (if x303000_1.length < 2932031007402 then (impl_derive.l0 k1 l0 t306 (t306.length : Int) (wrap64 (x33_1 + 1)) a1_0 a1_1 a1_2 a1_3 a1_4 a1_5 a1_6 a1_7 a1_8 a1_9 (x303000_1 ++ [(⟨(⟨(⟨a1_1, a1_2⟩ : S26), (rd_T28 l0 (rd t306 x33_1)).f1⟩ : S28), y311⟩ : S81)])) else (none)) = some r := rh_ hy311 H
      have Ny311 := aa_ hy311
      clear hy311
      obtain ⟨c32, H⟩ := ifn_ H
      have LMc32 := aa_ c32
      clear c32
      obtain ⟨y314, hy314⟩ : ∃ y_ : List (S81), y_ = (x303000_1 ++ [(⟨(⟨(⟨a1_1, a1_2⟩ : S26), (rd_T28 l0 (rd t306 x33_1)).f1⟩ : S28), y311⟩ : S81)]) := ⟨_, rfl⟩
      replace H : (impl_derive.l0 k1 l0 t306 (t306.length : Int) (wrap64 (x33_1 + 1)) a1_0 a1_1 a1_2 a1_3 a1_4 a1_5 a1_6 a1_7 a1_8 a1_9 y314) = some r := rh_ hy314 H
      have Ny314 := aa_ hy314
      clear hy314
      have H' := aa_ H
      clear H
      have p309 : 0 ≤ (x33_1 : Int) := od_
      have q309 : x33_1 < (t306.length : Int) := od_
      obtain ⟨ad309, e309, hx309_0⟩ := Kd.at_int (Kd.R_reads' HO_31.out).2.2 x33_1 p309 q309
      cases e309
      replace p309 := eq_true p309
      replace q309 := eq_true q309
      have p310 : 0 ≤ ((rd t306 x33_1) : Int) := od_
      have q310 : (rd t306 x33_1) < (l0.length : Int) := od_
      obtain ⟨ad310, e310, hx310_0, hx310_1, hx310_2⟩ := at_T28 (Kd.C_below HR0.out HB.out) (rd t306 x33_1) p310 q310
      cases e310
      replace p310 := eq_true p310
      replace q310 := eq_true q310
      go_wp2_with (first | (go_at_call 57; go_in) | (go_end0; simp only []; go_at_K) | ((with_reducible refine gD_ 44 rfl ?_); refine Kd.R_lit (Kd.int .i64) _ 3 ?hg (N := 44) ?hd (xs := ([rd t306 x33_1] : List Int)) (inner := [.int .i64 (rd t306 x33_1)]) (ok := fun _ => True) (okp := fun _ => True) ?hr ?hp (fun _ hk => hk) trivial (Below.refl _ _) (Nat.le_refl _) (by simp) ?_; (case hd => rfl); (case hg => rfl); (case hr => first | (go_simp; done) | (go_simp; rfl)); (case hp => exact (Reps.one (show Kd.M (Kd.int .i64) _ _ _ (rd t306 x33_1) [.int .i64 (rd t306 x33_1)] from rfl) (Reps.none _ _))); intro v312 w33 ho34 hb hg_ hnew_; clear hg_ hnew_; (first | rw [← Ny311.out] at ho34 | (simp only [Int.reduceToNat] at ho34; rw [← Ny311.out] at ho34)); replace HO_303000 := aa_ (Kd.S_elder' (rs_ HO_303000) (Kd.R_base ho34) hb); have HO313 := aa_ (Kd.R_lower (Kd.R_new' ho34 (Kd.R_lt (rr_ HO_31))) bls_); replace HO_31 := aa_ (Kd.R_elder' (rr_ HO_31) (Kd.R_base ho34) hb); replace BK298 := bkb_ BK298 hb; replace BK302 := bkb_ BK302 hb; replace HB := hbs_ hb; clear hb ho34; have hnb35 := NB302_298.out; have hnc35 := NB298_302.out; obtain ⟨hcz36, hfz36⟩ := bcf_ BK302; obtain ⟨hcz37, hfz37⟩ := bcf_ BK298; obtain ⟨Ao38, co38, eo38⟩ := Kd.R_slice HO313.out; subst eo38) | ((with_reducible refine gate_builtin (b := .append) (xs := #[.tmp 6, .tmp 13]) rfl ?_); at_builtin; refine Kd.S_append k81 (w0 := w) w.heap.size rfl (.tmp 6) (.tmp 13) 78 81 (.agg #[(.int .i64 0), (.int .i64 0), (.int .i64 0), (.slice none 0 0)]) 48 rfl Try.underlying78 info81 rfl (by decide) (by omega) u303000 x303000_1 (⟨(⟨(⟨a1_1, a1_2⟩ : S26), (rd_T28 l0 (rd t306 x33_1)).f1⟩ : S28), y311⟩ : S81) [.int .i64 a1_1, .int .i64 a1_2, .int .i64 ((rd_T28 l0 (rd t306 x33_1)).f1), .slice Ao38 y311.length co38] (fun k_ => some k_ ≠ (.slice (some ad309) t306.length co26 : Value).ownBlock) (fun k_ => some k_ = (.slice Ao38 y311.length co38 : Value).ownBlock) rfl rfl ?aP (fun k_ hk_ => ((Kd.R_mono (ok' := fun k_ => ((fun k_ => some k_ ≠ (.slice (some ad309) t306.length co26 : Value).ownBlock)) k_ ∧ some k_ ≠ (u303000 : Value).ownBlock) (Kd.R_apart' (HO313.out) (Kd.S_typed HO_303000.out) (by decide)) (fun k_ hk => ⟨hk.1.2, hk.2⟩))).1 k_ hk_.symm) ?aF ?aO ?aB ?aS ?aL ?_; (case aP => exact k81_mkM _ _ _ (⟨(⟨(⟨a1_1, a1_2⟩ : S26), (rd_T28 l0 (rd t306 x33_1)).f1⟩ : S28), y311⟩ : S81) (Kd.R_mono (Kd.R_tight rfl (Kd.R_mono (ok' := fun k_ => ((fun k_ => some k_ ≠ (.slice (some ad309) t306.length co26 : Value).ownBlock)) k_ ∧ some k_ ≠ (u303000 : Value).ownBlock) (Kd.R_apart' (HO313.out) (Kd.S_typed HO_303000.out) (by decide)) (fun k_ hk => ⟨hk.1.2, hk.2⟩))) (fun _ h_ => h_))); (case aB => exact bl_); (case aF => exact (fun k_ hk => Kd.fresh' (Kd.R_lt (rr_ HO_31)) k_ hk)); (case aO => exact (by (with_reducible repeat (first | apply Kd.S_alloc | apply Kd.S_drewN | apply Kd.S_drew)); exact Kd.S_mono HO_303000.out (fun k_ hk => ⟨hk.1, fun e_ => hk.2 e_⟩))); (case aS => exact bls_); (case aL => have := LMc32.out; omega); intro v315 w39 ho hb hg hat; rw [← Ny314.out] at ho; replace HO_31 := aa_ (Kd.R_over' (rr_ HO_31) (Kd.S_typed (rs_ HO_303000)) (by decide) hg); replace BK298 := aa_ (blk_grown (g := gb298) (o := .cells #[.int .i64 a1_0, .int .i64 a1_1, .int .i64 a1_2, .int .i64 a1_3, .int .i64 a1_4, .int .i64 a1_5, .int .i64 a1_6, .int .i64 a1_7, .int .i64 a1_8, .int .i64 a1_9] 35 (0, 0)) (bk_ BK298) hg (Kd.S_ne HO_303000.out BK298.out (by decide))); replace BK302 := aa_ (blk_grown (g := gb302) (o := .cells #[u303000] 78 (0, 0)) (bk_ BK302) hg (Kd.S_ne HO_303000.out BK302.out (by decide))); replace HB := aa_ (hb); have HO316 := aa_ (ho); clear HO_303000; clear HO313; clear ho hb hg hat; obtain ⟨Ao40, co40, eo40⟩ := Kd.S_slice HO316.out; subst eo40; obtain ⟨hcz41, hfz41⟩ := bcf_ BK302))
      go_roundg k1
      case measure => have := HK1.out; omega
      case rel => exact ⟨(wrap64 (x33_1 + 1)), (y314), (.slice Ao40 y314.length co40), rf_, H', ⟨by have := HK1.out; omega⟩, ⟨by (with_reducible repeat (first | apply Kd.R_alloc | apply Kd.R_drewN | apply Kd.R_drew)); exact Kd.R_mono (Kd.R_far (p := ⟨gb302, 0, none⟩) (Kd.R_types HO_31.out BK302.out (by decide)) (fun _ hk => hk.2) (.slice Ao40 y314.length co40)) (fun _ hk => trivial)⟩, ⟨by (with_reducible repeat (first | apply Kd.S_alloc | apply Kd.S_drewN | apply Kd.S_drew)); exact Kd.S_mono (Kd.S_far (p := ⟨gb302, 0, none⟩) (Kd.S_types HO316.out BK302.out (by decide)) (fun _ hk => hk.2) (.slice Ao40 y314.length co40)) (fun _ hk => hk.1)⟩, ⟨bk_ BK298⟩, ⟨bk_ BK302⟩, ⟨bl_⟩⟩
     ·rw [if_neg c27] at H
      have c27b0 : decide (x33_1 < (t306.length : Int)) = false := decide_eq_false c27
      clear c27
      obtain rfl := Option.some.inj H
      have hnb42 := NB302_298.out
      have hnc42 := NB298_302.out
      have hcz43 := blk_cell BK302.out
      have hfz43 := blk_frozen BK302.out
      go_wp2
      go_ret
      exact ⟨_, eq_, by (with_reducible repeat (first | apply Kd.S_alloc | apply Kd.S_drewN | apply Kd.S_drew)); exact Kd.S_mono HO_303000.out (fun _ hk => trivial), bl_⟩
  ·rw [if_neg c21] at H
   have c21b0 : (a1_0 == 2) = false := beq_eq_false_iff_ne.mpr c21
   have c21b1 : (a1_0 != 2) = true := bne_iff_ne.mpr c21
   by_cases c44 : a1_0 = 3
   ·rw [if_pos c44] at H
    have c44b0 : (a1_0 == 3) = true := beq_iff_eq.mpr c44
    have c44b1 : (a1_0 != 3) = false := bne_eq_false_iff_eq.mpr c44
    clear c44
    obtain ⟨t317, A45, H⟩ := bindE_ H
    have H' := aa_ H
    clear H
    have hnb46 := NB298_302.out
    have hnc46 := NB302_298.out
    have hcz47 := blk_cell BK298.out
    have hfz47 := blk_frozen BK298.out
    go_wp2_with (first | (go_at_call 57; go_in) | (go_end0; simp only []; go_at_K) | ((with_reducible refine gC_ 58 rfl ?_); refine goesC_ (some 52) Try.func58 #[.slice A0 l0.length c0, .agg #[.int .i64 a1_4, .int .i64 a1_5]] ?_; (with_reducible refine (impl_whoOf.calls k _ _ l0 a1_4 a1_5 t317 _ ?side1 ?side2 A45.out).mono ?_); (case side1 => repeat (first | exact (Kd.C_below HR0.out HB.out) | (with_reducible refine Kd.C_alloc ?_ _) | (with_reducible refine Kd.C_drewN ?_ _) | (with_reducible refine Kd.C_drew ?_))); (case side2 => exact HC0.out); rintro e w48 ⟨v318, rfl, ho0, hb⟩; refine ⟨_, rfl, ?_⟩; replace HO301 := aa_ (Kd.S_elder' (rs_ HO301) (Kd.R_base ho0) hb); have HO319 := aa_ (Kd.R_lower ho0 bls_); replace BK298 := bkb_ BK298 hb; replace BK302 := bkb_ BK302 hb; replace HB := hbs_ hb; (try clear hb ho0); obtain ⟨Ao49, co49, eo49⟩ := Kd.R_slice HO319.out; subst eo49))
    go_loopg [54] k (fun kq v54 w' => ∃ (x54_1 : Int) (x303000_1 : List (S81)) (u303000 : Value), v54 = .int .i64 x54_1 ∧ Aside0 (impl_derive.l1 kq l0 t317 (t317.length : Int) x54_1 a1_0 a1_1 a1_2 a1_3 a1_4 a1_5 a1_6 a1_7 a1_8 a1_9 x303000_1 = some r) ∧ Aside0 (kq ≤ k) ∧ Aside0 (Kd.R (Kd.int .i64) 3 w' w.heap.size (fun _ => True) (.slice Ao49 t317.length co49) t317) ∧ Aside0 (Kd.S k81 81 w' w.heap.size (fun k_ => some k_ ≠ ((.slice Ao49 t317.length co49) : Value).ownBlock) u303000 x303000_1) ∧ Aside0 (w'.heap[gb298]? = some (.cells #[.int .i64 a1_0, .int .i64 a1_1, .int .i64 a1_2, .int .i64 a1_3, .int .i64 a1_4, .int .i64 a1_5, .int .i64 a1_6, .int .i64 a1_7, .int .i64 a1_8, .int .i64 a1_9] 35 (0, 0))) ∧ Aside0 (w'.heap[gb302]? = some (.cells #[u303000] 78 (0, 0))) ∧ Aside0 (Below w.heap.size w w'))
    case atStart => exact ⟨(0), (y299), (.slice Ao8 y299.length co8), rf_, H', ⟨Nat.le_refl _⟩, ⟨rr_ HO319⟩, ⟨by (with_reducible repeat (first | apply Kd.S_alloc | apply Kd.S_drewN | apply Kd.S_drew)); exact Kd.S_mono HO301.out (fun _ hk => hk.2)⟩, ⟨bk_ BK298⟩, ⟨bk_ BK302⟩, ⟨bl_⟩⟩
    case round =>
     clear H'
     try clear p2
     try clear p3
     try clear q3
     try clear hx3
     try clear p6
     try clear c13b0
     try clear c13b1
     try clear c21b0
     try clear c21b1
     try clear c27b0
     try clear c28b0
     try clear c29b0
     try clear c30b0
     try clear p30
     try clear q30
     try clear hx30
     try clear c31b0
     try clear p31
     try clear q31
     try clear hx31
     try clear c44b0
     try clear c44b1
     try clear hcz10
     try clear hcz11
     try clear hcz16
     try clear hcz17
     try clear hcz20
     try clear hcz24
     try clear hcz36
     try clear hcz37
     try clear hcz41
     try clear hcz43
     try clear hcz47
     try clear hfz10
     try clear hfz11
     try clear hfz16
     try clear hfz17
     try clear hfz20
     try clear hfz24
     try clear hfz36
     try clear hfz37
     try clear hfz41
     try clear hfz43
     try clear hfz47
     try clear hx309_0
     try clear hx310_0
     try clear hx310_1
     try clear hx310_2
     try clear p2
     try clear p309
     try clear p310
     try clear q309
     try clear q310
     obtain ⟨x54_1, x303000_1, u303000, rfl, HA, HK1, HO_52, HO_303000, BK298, BK302, HB⟩ := hrel
     cases gk with
     | zero => exact absurd HA.out (by simp [impl_derive.l1])
     | succ k1 =>
      have H := HA.out
      clear HA
      simp only [impl_derive.l1] at H
      by_cases c50 : x54_1 < (t317.length : Int)
      ·rw [if_pos c50] at H
       have c50b0 : decide (x54_1 < (t317.length : Int)) = true := decide_eq_true c50
       clear c50
       obtain ⟨c51b0, H⟩ := ifd_ H
       obtain ⟨c52b0, H⟩ := ifd_ H
       obtain ⟨c53b0, H⟩ := ifd_ H
       obtain ⟨c54b0, H⟩ := ifd_ H
       obtain ⟨t322, A55, H⟩ := bindE_ H
       have H' := aa_ H
       clear H
       have p320 : 0 ≤ (x54_1 : Int) := od_
       have q320 : x54_1 < (t317.length : Int) := od_
       obtain ⟨ad320, e320, hx320_0⟩ := Kd.at_int (Kd.R_reads' HO_52.out).2.2 x54_1 p320 q320
       cases e320
       replace p320 := eq_true p320
       replace q320 := eq_true q320
       try go_wp2
       replace HO_52 := aa_ (Kd.R_drew HO_52.out)
       replace HO_303000 := aa_ (Kd.S_drew HO_303000.out)
       replace BK298 := aa_ (blk_drew BK298.out)
       replace BK302 := aa_ (blk_drew BK302.out)
       replace HB := aa_ (below_drew1 HB.out)
       have p321 : 0 ≤ ((rd t317 x54_1) : Int) := od_
       have q321 : (rd t317 x54_1) < (l0.length : Int) := od_
       obtain ⟨ad321, e321, hx321_0, hx321_1, hx321_2⟩ := at_T28 HR0.out (rd t317 x54_1) p321 q321
       have hw321_2 := hx321_2
       have hw321_1 := hx321_1
       have hw321_0 := hx321_0
       cases e321
       replace hx321_0 := cb_ HB hx321_0
       replace hx321_1 := cb_ HB hx321_1
       replace hx321_2 := cb_ HB hx321_2
       replace p321 := eq_true p321
       replace q321 := eq_true q321
       refine start_ (n := 13) (S := fun w' => w'.cell? ⟨gb298, 0, none⟩ = some (.int .i64 a1_0) ∧ w'.cell? ⟨gb298, 1, none⟩ = some (.int .i64 a1_1) ∧ w'.cell? ⟨gb298, 2, none⟩ = some (.int .i64 a1_2) ∧ w'.cell? ⟨gb298, 3, none⟩ = some (.int .i64 a1_3) ∧ w'.cell? ⟨gb298, 4, none⟩ = some (.int .i64 a1_4) ∧ w'.cell? ⟨gb298, 5, none⟩ = some (.int .i64 a1_5) ∧ w'.cell? ⟨gb298, 6, none⟩ = some (.int .i64 a1_6) ∧ w'.cell? ⟨gb298, 7, none⟩ = some (.int .i64 a1_7) ∧ w'.cell? ⟨gb298, 8, none⟩ = some (.int .i64 a1_8) ∧ w'.cell? ⟨gb298, 9, none⟩ = some (.int .i64 a1_9) ∧ w'.cell? (ad321.add (((rd t317 x54_1)).toNat * 3)) = some (.int .i64 ((rd_T28 l0 (rd t317 x54_1)).f0.f0)) ∧ w'.cell? ⟨(ad321.add (((rd t317 x54_1)).toNat * 3)).block, (ad321.add (((rd t317 x54_1)).toNat * 3)).off + 1, none⟩ = some (.int .i64 ((rd_T28 l0 (rd t317 x54_1)).f0.f1)) ∧ w'.cell? ⟨(ad321.add (((rd t317 x54_1)).toNat * 3)).block, (ad321.add (((rd t317 x54_1)).toNat * 3)).off + 2, none⟩ = some (.int .i64 ((rd_T28 l0 (rd t317 x54_1)).f1))) (ds := []) (ba_ 13 0) (by kernel_rfl) rfl rfl ⟨(blk_cell BK298.out 0).trans rfl, (blk_cell BK298.out 1).trans rfl, (blk_cell BK298.out 2).trans rfl, (blk_cell BK298.out 3).trans rfl, (blk_cell BK298.out 4).trans rfl, (blk_cell BK298.out 5).trans rfl, (blk_cell BK298.out 6).trans rfl, (blk_cell BK298.out 7).trans rfl, (blk_cell BK298.out 8).trans rfl, (blk_cell BK298.out 9).trans rfl, (cb_ HB hw321_0 :), (cb_ HB hw321_1 :), (cb_ HB hw321_2 :)⟩ (fun hHeld => ?_); refine with_tabW impl_derive.tab16 impl_derive.bits16 (fun HT_ HW_ => ?_)
       generalize wr.drew = w56 at HO_52 HO_303000 BK298 BK302 HB hx321_0 hx321_1 hx321_2 hHeld ⊢
       refine pz_ 0 58 (ba_ 13 1) (ao_ HT_) ?_
       refine pz_ 1 59 (ba_ 13 3) (ao_ HT_) ?_
       refine pz_ 2 60 (ba_ 13 7) (ao_ HT_) ?_
       refine pz_ 3 61 (ba_ 13 15) (ao_ HT_) ?_
       refine pz_ 4 62 (ba_ 13 31) (ao_ HT_) ?_
       refine pz_ 6 64 (ba_ 13 95) (ao_ HT_) ?_
       refine pz_ 7 65 (ba_ 13 223) (ao_ HT_) ?_
       refine pz_ 12 70 (ba_ 13 4319) (ao_ HT_) ?_
       refine tz_ 5 63 (ba_ 13 4351) (take_ofW HT_.out HW_.out (by kernel_rfl)) hHeld ?_
       refine tz_ 8 66 (ba_ 13 4607) (take_ofW HT_.out HW_.out (by kernel_rfl)) hHeld ?_
       refine pz_ 9 67 (ba_ 13 5119) (ao_ HT_) ?_
       refine one_ (i := 10) (N := some 68) (ba_ 13 6143) rfl rfl (one_of HT_.out (by kernel_rfl)) (by decide) (fun K hK => ?_)
       refine goes_ Try.func58 (by kernel_rfl) rfl #[.slice (some ad321) l0.length c0, .agg #[.int .i64 ((rd_T28 l0 (rd t317 x54_1)).f1), .int .i64 a1_7]] (by rfl) rfl rfl (by (try simp only [List.map_toArray, List.map_cons, List.map_nil]); first | done | rfl | (simp only [List.length_drop, List.length_take]; rfl)) ?_
       with_reducible refine (impl_whoOf.calls k1 _ _ l0 ((rd_T28 l0 (rd t317 x54_1)).f1) a1_7 t322 _ ?side1 ?side2 A55.out).mono ?_
       (case side1 => repeat (first | exact (Kd.C_below HR0.out HB.out) | (with_reducible refine Kd.C_alloc ?_ _) | (with_reducible refine Kd.C_drewN ?_ _) | (with_reducible refine Kd.C_drew ?_)))
       (case side2 => exact HC0.out)
       rintro e w57 ⟨v323, rfl, ho0, hb⟩
       refine ⟨_, rfl, ?_⟩
       replace HO_303000 := aa_ (Kd.S_elder' (rs_ HO_303000) (Kd.R_base ho0) hb)
       have HO324 := aa_ (Kd.R_lower (Kd.R_new' ho0 (Kd.R_lt (rr_ HO_52))) bls_)
       replace HO_52 := aa_ (Kd.R_elder' (rr_ HO_52) (Kd.R_base ho0) hb)
       replace BK298 := bkb_ BK298 hb
       replace BK302 := bkb_ BK302 hb
       replace HB := hbs_ hb
       (try clear hb)
       (try clear hb2)
       (try clear hk)
       (try clear hi)
       (try clear ho0)
       obtain ⟨Ao58, co58, eo58⟩ := Kd.R_slice HO324.out
       (first | subst eo58 | (injection eo58 with f1_ f2_ f3_; have f4_ := f1_.symm; have f5_ := f3_.symm; clear f1_ f2_ f3_; subst f4_; subst f5_))
       refine hK.out _ _ ⟨(blk_cell BK298.out 0).trans rfl, (blk_cell BK298.out 1).trans rfl, (blk_cell BK298.out 2).trans rfl, (blk_cell BK298.out 3).trans rfl, (blk_cell BK298.out 4).trans rfl, (blk_cell BK298.out 5).trans rfl, (blk_cell BK298.out 6).trans rfl, (blk_cell BK298.out 7).trans rfl, (blk_cell BK298.out 8).trans rfl, (blk_cell BK298.out 9).trans rfl, (cb_ HB hw321_0 :), (cb_ HB hw321_1 :), (cb_ HB hw321_2 :)⟩ (fun hHeld => ?_)
       clear hK K
       refine norm_ (a' := ?_) ?_ ?_
       rotate_left
       ·show Act.put _ (some 68) _ = _
        simp only [Act.put, sb_, sz_, ss_, i64_w, i32_w]
        rfl
       refine pz_ 11 69 (ba_ 13 8191) (ao_ HT_) ?_
       refine done_ (done_of HT_.out (by kernel_rfl)) ?_
       try go_wp2
       go_loopg [70] k1 (fun kq v70 w' => ∃ (x70_2 : Int) (x303000_2 : List (S81)) (u303000 : Value), v70 = .int .i64 x70_2 ∧ Aside0 (impl_derive.l2 kq l0 (rd t317 x54_1) t317 (t317.length : Int) x54_1 t322 (t322.length : Int) x70_2 a1_0 a1_1 a1_2 a1_3 a1_4 a1_5 a1_6 a1_7 a1_8 a1_9 x303000_2 = some r) ∧ Aside0 (kq ≤ k1) ∧ Aside0 (Kd.R (Kd.int .i64) 3 w' w.heap.size (fun k_ => some k_ ≠ ((.slice Ao58 t322.length co58) : Value).ownBlock) (.slice (some ad320) t317.length co49) t317) ∧ Aside0 (Kd.R (Kd.int .i64) 3 w' w.heap.size (fun k_ => some k_ ≠ ((.slice (some ad320) t317.length co49) : Value).ownBlock) (.slice Ao58 t322.length co58) t322) ∧ Aside0 (Kd.S k81 81 w' w.heap.size (fun k_ => some k_ ≠ ((.slice (some ad320) t317.length co49) : Value).ownBlock ∧ some k_ ≠ ((.slice Ao58 t322.length co58) : Value).ownBlock) u303000 x303000_2) ∧ Aside0 (w'.heap[gb298]? = some (.cells #[.int .i64 a1_0, .int .i64 a1_1, .int .i64 a1_2, .int .i64 a1_3, .int .i64 a1_4, .int .i64 a1_5, .int .i64 a1_6, .int .i64 a1_7, .int .i64 a1_8, .int .i64 a1_9] 35 (0, 0))) ∧ Aside0 (w'.heap[gb302]? = some (.cells #[u303000] 78 (0, 0))) ∧ Aside0 (Below w.heap.size w w'))
       case atStart => exact ⟨(0), (x303000_1), (u303000), rf_, H', ⟨Nat.le_refl _⟩, ⟨by (with_reducible repeat (first | apply Kd.R_alloc | apply Kd.R_drewN | apply Kd.R_drew)); exact Kd.R_mono HO_52.out (fun _ hk => hk.2)⟩, ⟨by (with_reducible repeat (first | apply Kd.R_alloc | apply Kd.R_drewN | apply Kd.R_drew)); exact Kd.R_mono HO324.out (fun _ hk => hk.2)⟩, ⟨rs_ HO_303000⟩, ⟨bk_ BK298⟩, ⟨bk_ BK302⟩, ⟨bl_⟩⟩
       case round =>
        clear H'
        try clear p2
        try clear p3
        try clear q3
        try clear hx3
        try clear p6
        try clear c13b0
        try clear c13b1
        try clear c21b0
        try clear c21b1
        try clear c27b0
        try clear c28b0
        try clear c29b0
        try clear c30b0
        try clear p30
        try clear q30
        try clear hx30
        try clear c31b0
        try clear p31
        try clear q31
        try clear hx31
        try clear p32
        try clear q32
        try clear hx32
        try clear c44b0
        try clear c44b1
        try clear c50b0
        try clear c51b0
        try clear c52b0
        try clear c53b0
        try clear c54b0
        try clear hcz10
        try clear hcz11
        try clear hcz16
        try clear hcz17
        try clear hcz20
        try clear hcz24
        try clear hcz36
        try clear hcz37
        try clear hcz41
        try clear hcz43
        try clear hcz47
        try clear hfz10
        try clear hfz11
        try clear hfz16
        try clear hfz17
        try clear hfz20
        try clear hfz24
        try clear hfz36
        try clear hfz37
        try clear hfz41
        try clear hfz43
        try clear hfz47
        try clear hx309_0
        try clear hx310_0
        try clear hx310_1
        try clear hx310_2
        try clear hx320_0
        try clear hx321_0
        try clear hx321_1
        try clear hx321_2
        try clear p2
        try clear p3
        try clear p30
        try clear p309
        try clear p31
        try clear p310
        try clear p320
        try clear p321
        try clear p6
        try clear q3
        try clear q30
        try clear q309
        try clear q31
        try clear q310
        try clear q320
        try clear q321
        obtain ⟨x70_2, x303000_2, u303000, rfl, HA, HK2, HO_52, HO_68, HO_303000, BK298, BK302, HB⟩ := hrel
        cases gk with
        | zero => exact absurd HA.out (by simp [impl_derive.l2])
        | succ k2 =>
         have H := HA.out
         clear HA
         simp only [impl_derive.l2] at H
         by_cases c59 : x70_2 < (t322.length : Int)
         ·rw [if_pos c59] at H
          have c59b0 : decide (x70_2 < (t322.length : Int)) = true := decide_eq_true c59
          clear c59
          obtain ⟨c60b0, H⟩ := ifd_ H
          obtain ⟨c61b0, H⟩ := ifd_ H
          obtain ⟨c62b0, H⟩ := ifd_ H
          obtain ⟨c63b0, H⟩ := ifd_ H
          obtain ⟨y327, hy327⟩ : ∃ y_ : List Int, y_ = (([(rd t317 x54_1), rd t322 x70_2] : List Int)) := ⟨_, rfl⟩
          replace H : (if x303000_2.length < 2932031007402 then (impl_derive.l2 k2 l0 (rd t317 x54_1) t317 (t317.length : Int) x54_1 t322 (t322.length : Int) (wrap64 (x70_2 + 1)) a1_0 a1_1 a1_2 a1_3 a1_4 a1_5 a1_6 a1_7 a1_8 a1_9 (x303000_2 ++ [(⟨(⟨(⟨a1_1, a1_2⟩ : S26), (rd_T28 l0 (rd t322 x70_2)).f1⟩ : S28), y327⟩ : S81)])) else (none)) = some r := rh_ hy327 H
          have Ny327 := aa_ hy327
          clear hy327
          obtain ⟨c64, H⟩ := ifn_ H
          have LMc64 := aa_ c64
          clear c64
          obtain ⟨y330, hy330⟩ : ∃ y_ : List (S81), y_ = (x303000_2 ++ [(⟨(⟨(⟨a1_1, a1_2⟩ : S26), (rd_T28 l0 (rd t322 x70_2)).f1⟩ : S28), y327⟩ : S81)]) := ⟨_, rfl⟩
          replace H : (impl_derive.l2 k2 l0 (rd t317 x54_1) t317 (t317.length : Int) x54_1 t322 (t322.length : Int) (wrap64 (x70_2 + 1)) a1_0 a1_1 a1_2 a1_3 a1_4 a1_5 a1_6 a1_7 a1_8 a1_9 y330) = some r := rh_ hy330 H
          have Ny330 := aa_ hy330
          clear hy330
          have H' := aa_ H
          clear H
          have p325 : 0 ≤ (x70_2 : Int) := od_
          have q325 : x70_2 < (t322.length : Int) := od_
          obtain ⟨ad325, e325, hx325_0⟩ := Kd.at_int (Kd.R_reads' HO_68.out).2.2 x70_2 p325 q325
          cases e325
          replace p325 := eq_true p325
          replace q325 := eq_true q325
          have p326 : 0 ≤ ((rd t322 x70_2) : Int) := od_
          have q326 : (rd t322 x70_2) < (l0.length : Int) := od_
          obtain ⟨ad326, e326, hx326_0, hx326_1, hx326_2⟩ := at_T28 HR0.out (rd t322 x70_2) p326 q326
          obtain rfl : ad321 = ad326 := (by injection e326)
          replace hx326_0 := cb_ HB hx326_0
          replace hx326_1 := cb_ HB hx326_1
          replace hx326_2 := cb_ HB hx326_2
          replace p326 := eq_true p326
          replace q326 := eq_true q326
          go_wp2_with (first | (go_at_call 57; go_in) | (go_end0; simp only []; go_at_K) | ((with_reducible refine gD_ 82 rfl ?_); refine Kd.R_lit (Kd.int .i64) _ 3 ?hg (N := 82) ?hd (xs := ([(rd t317 x54_1), rd t322 x70_2] : List Int)) (inner := [.int .i64 (rd t317 x54_1), .int .i64 (rd t322 x70_2)]) (ok := fun _ => True) (okp := fun _ => True) ?hr ?hp (fun _ hk => hk) trivial (Below.refl _ _) (Nat.le_refl _) (by simp) ?_; (case hd => rfl); (case hg => rfl); (case hr => first | (go_simp; done) | (go_simp; rfl)); (case hp => exact (Reps.one (show Kd.M (Kd.int .i64) _ _ _ (rd t317 x54_1) [.int .i64 (rd t317 x54_1)] from rfl) (Reps.one (show Kd.M (Kd.int .i64) _ _ _ (rd t322 x70_2) [.int .i64 (rd t322 x70_2)] from rfl) (Reps.none _ _)))); intro v328 w65 ho66 hb hg_ hnew_; clear hg_ hnew_; (first | rw [← Ny327.out] at ho66 | (simp only [Int.reduceToNat] at ho66; rw [← Ny327.out] at ho66)); replace HO_303000 := aa_ (Kd.S_elder' (rs_ HO_303000) (Kd.R_base ho66) hb); have HO329 := aa_ (Kd.R_lower (Kd.R_new' (Kd.R_new' ho66 (Kd.R_lt (rr_ HO_52))) (Kd.R_lt (rr_ HO_68))) bls_); replace HO_52 := aa_ (Kd.R_elder' (rr_ HO_52) (Kd.R_base ho66) hb); replace HO_68 := aa_ (Kd.R_elder' (rr_ HO_68) (Kd.R_base ho66) hb); replace BK298 := bkb_ BK298 hb; replace BK302 := bkb_ BK302 hb; replace HB := hbs_ hb; clear hb ho66; have hnb67 := NB302_298.out; have hnc67 := NB298_302.out; obtain ⟨hcz68, hfz68⟩ := bcf_ BK302; obtain ⟨hcz69, hfz69⟩ := bcf_ BK298; obtain ⟨Ao70, co70, eo70⟩ := Kd.R_slice HO329.out; subst eo70) | ((with_reducible refine gate_builtin (b := .append) (xs := #[.tmp 6, .tmp 13]) rfl ?_); at_builtin; refine Kd.S_append k81 (w0 := w) w.heap.size rfl (.tmp 6) (.tmp 13) 78 81 (.agg #[(.int .i64 0), (.int .i64 0), (.int .i64 0), (.slice none 0 0)]) 48 rfl Try.underlying78 info81 rfl (by decide) (by omega) u303000 x303000_2 (⟨(⟨(⟨a1_1, a1_2⟩ : S26), (rd_T28 l0 (rd t322 x70_2)).f1⟩ : S28), y327⟩ : S81) [.int .i64 a1_1, .int .i64 a1_2, .int .i64 ((rd_T28 l0 (rd t322 x70_2)).f1), .slice Ao70 y327.length co70] (fun k_ => some k_ ≠ (.slice (some ad320) t317.length co49 : Value).ownBlock ∧ some k_ ≠ (.slice (some ad325) t322.length co58 : Value).ownBlock) (fun k_ => some k_ = (.slice Ao70 y327.length co70 : Value).ownBlock) rfl rfl ?aP (fun k_ hk_ => ((Kd.R_mono (ok' := fun k_ => ((fun k_ => some k_ ≠ (.slice (some ad320) t317.length co49 : Value).ownBlock ∧ some k_ ≠ (.slice (some ad325) t322.length co58 : Value).ownBlock)) k_ ∧ some k_ ≠ (u303000 : Value).ownBlock) (Kd.R_apart' (HO329.out) (Kd.S_typed HO_303000.out) (by decide)) (fun k_ hk => ⟨⟨hk.1.1.2, hk.1.2⟩, hk.2⟩))).1 k_ hk_.symm) ?aF ?aO ?aB ?aS ?aL ?_; (case aP => exact k81_mkM _ _ _ (⟨(⟨(⟨a1_1, a1_2⟩ : S26), (rd_T28 l0 (rd t322 x70_2)).f1⟩ : S28), y327⟩ : S81) (Kd.R_mono (Kd.R_tight rfl (Kd.R_mono (ok' := fun k_ => ((fun k_ => some k_ ≠ (.slice (some ad320) t317.length co49 : Value).ownBlock ∧ some k_ ≠ (.slice (some ad325) t322.length co58 : Value).ownBlock)) k_ ∧ some k_ ≠ (u303000 : Value).ownBlock) (Kd.R_apart' (HO329.out) (Kd.S_typed HO_303000.out) (by decide)) (fun k_ hk => ⟨⟨hk.1.1.2, hk.1.2⟩, hk.2⟩))) (fun _ h_ => h_))); (case aB => exact bl_); (case aF => exact (fun k_ hk => ⟨Kd.fresh' (Kd.R_lt (rr_ HO_52)) k_ hk, Kd.fresh' (Kd.R_lt (rr_ HO_68)) k_ hk⟩)); (case aO => exact (by (with_reducible repeat (first | apply Kd.S_alloc | apply Kd.S_drewN | apply Kd.S_drew)); exact Kd.S_mono HO_303000.out (fun k_ hk => ⟨⟨hk.1.1, hk.1.2⟩, fun e_ => hk.2 e_⟩))); (case aS => exact bls_); (case aL => have := LMc64.out; omega); intro v331 w71 ho hb hg hat; rw [← Ny330.out] at ho; replace HO_52 := aa_ (Kd.R_over' (rr_ HO_52) (Kd.S_typed (rs_ HO_303000)) (by decide) hg); replace HO_68 := aa_ (Kd.R_over' (rr_ HO_68) (Kd.S_typed (rs_ HO_303000)) (by decide) hg); replace BK298 := aa_ (blk_grown (g := gb298) (o := .cells #[.int .i64 a1_0, .int .i64 a1_1, .int .i64 a1_2, .int .i64 a1_3, .int .i64 a1_4, .int .i64 a1_5, .int .i64 a1_6, .int .i64 a1_7, .int .i64 a1_8, .int .i64 a1_9] 35 (0, 0)) (bk_ BK298) hg (Kd.S_ne HO_303000.out BK298.out (by decide))); replace BK302 := aa_ (blk_grown (g := gb302) (o := .cells #[u303000] 78 (0, 0)) (bk_ BK302) hg (Kd.S_ne HO_303000.out BK302.out (by decide))); replace HB := aa_ (hb); have HO332 := aa_ (ho); clear HO_303000; clear HO329; clear ho hb hg hat; obtain ⟨Ao72, co72, eo72⟩ := Kd.S_slice HO332.out; subst eo72; obtain ⟨hcz73, hfz73⟩ := bcf_ BK302))
          go_roundg k2
          case measure => have := HK1.out; have := HK2.out; omega
          case rel => exact ⟨(wrap64 (x70_2 + 1)), (y330), (.slice Ao72 y330.length co72), rf_, H', ⟨by have := HK1.out; have := HK2.out; omega⟩, ⟨by (with_reducible repeat (first | apply Kd.R_alloc | apply Kd.R_drewN | apply Kd.R_drew)); exact Kd.R_mono (Kd.R_far (p := ⟨gb302, 0, none⟩) (Kd.R_types HO_52.out BK302.out (by decide)) (fun _ hk => hk.2) (.slice Ao72 y330.length co72)) (fun _ hk => hk.1.1)⟩, ⟨by (with_reducible repeat (first | apply Kd.R_alloc | apply Kd.R_drewN | apply Kd.R_drew)); exact Kd.R_mono (Kd.R_far (p := ⟨gb302, 0, none⟩) (Kd.R_types HO_68.out BK302.out (by decide)) (fun _ hk => hk.2) (.slice Ao72 y330.length co72)) (fun _ hk => hk.1.1)⟩, ⟨by (with_reducible repeat (first | apply Kd.S_alloc | apply Kd.S_drewN | apply Kd.S_drew)); exact Kd.S_mono (Kd.S_far (p := ⟨gb302, 0, none⟩) (Kd.S_types HO332.out BK302.out (by decide)) (fun _ hk => hk.2) (.slice Ao72 y330.length co72)) (fun _ hk => ⟨hk.1.1, hk.1.2⟩)⟩, ⟨bk_ BK298⟩, ⟨bk_ BK302⟩, ⟨bl_⟩⟩
         ·rw [if_neg c59] at H
          have c59b0 : decide (x70_2 < (t322.length : Int)) = false := decide_eq_false c59
          clear c59
          have H' := aa_ H
          clear H
          go_wp2
          go_roundg k2
          case measure => have := HK1.out; have := HK2.out; omega
          case rel => exact ⟨(wrap64 (x54_1 + 1)), (x303000_2), (u303000), rf_, H', ⟨by have := HK1.out; have := HK2.out; omega⟩, ⟨by (with_reducible repeat (first | apply Kd.R_alloc | apply Kd.R_drewN | apply Kd.R_drew)); exact Kd.R_mono HO_52.out (fun _ hk => trivial)⟩, ⟨by (with_reducible repeat (first | apply Kd.S_alloc | apply Kd.S_drewN | apply Kd.S_drew)); exact Kd.S_mono HO_303000.out (fun _ hk => hk.1)⟩, ⟨bk_ BK298⟩, ⟨bk_ BK302⟩, ⟨bl_⟩⟩
      ·rw [if_neg c50] at H
       have c50b0 : decide (x54_1 < (t317.length : Int)) = false := decide_eq_false c50
       clear c50
       obtain rfl := Option.some.inj H
       have hnb74 := NB302_298.out
       have hnc74 := NB298_302.out
       have hcz75 := blk_cell BK302.out
       have hfz75 := blk_frozen BK302.out
       go_wp2
       go_ret
       exact ⟨_, eq_, by (with_reducible repeat (first | apply Kd.S_alloc | apply Kd.S_drewN | apply Kd.S_drew)); exact Kd.S_mono HO_303000.out (fun _ hk => trivial), bl_⟩
   ·rw [if_neg c44] at H
    have c44b0 : (a1_0 == 3) = false := beq_eq_false_iff_ne.mpr c44
    have c44b1 : (a1_0 != 3) = true := bne_iff_ne.mpr c44
    by_cases c76 : a1_0 = 4
    ·rw [if_pos c76] at H
     have c76b0 : (a1_0 == 4) = true := beq_iff_eq.mpr c76
     have c76b1 : (a1_0 != 4) = false := bne_eq_false_iff_eq.mpr c76
     clear c76
     obtain ⟨t333, A77, H⟩ := bindE_ H
     have H' := aa_ H
     clear H
     have hnb78 := NB298_302.out
     have hnc78 := NB302_298.out
     have hcz79 := blk_cell BK298.out
     have hfz79 := blk_frozen BK298.out
     go_wp2_with (first | (go_at_call 57; go_in) | (go_end0; simp only []; go_at_K) | ((with_reducible refine gC_ 58 rfl ?_); refine goesC_ (some 91) Try.func58 #[.slice A0 l0.length c0, .agg #[.int .i64 a1_4, .int .i64 a1_5]] ?_; (with_reducible refine (impl_whoOf.calls k _ _ l0 a1_4 a1_5 t333 _ ?side1 ?side2 A77.out).mono ?_); (case side1 => repeat (first | exact (Kd.C_below HR0.out HB.out) | (with_reducible refine Kd.C_alloc ?_ _) | (with_reducible refine Kd.C_drewN ?_ _) | (with_reducible refine Kd.C_drew ?_))); (case side2 => exact HC0.out); rintro e w80 ⟨v334, rfl, ho0, hb⟩; refine ⟨_, rfl, ?_⟩; replace HO301 := aa_ (Kd.S_elder' (rs_ HO301) (Kd.R_base ho0) hb); have HO335 := aa_ (Kd.R_lower ho0 bls_); replace BK298 := bkb_ BK298 hb; replace BK302 := bkb_ BK302 hb; replace HB := hbs_ hb; (try clear hb ho0); obtain ⟨Ao81, co81, eo81⟩ := Kd.R_slice HO335.out; subst eo81))
     go_loopg [93] k (fun kq v93 w' => ∃ (x93_1 : Int) (x303000_1 : List (S81)) (u303000 : Value), v93 = .int .i64 x93_1 ∧ Aside0 (impl_derive.l3 kq l0 t333 (t333.length : Int) x93_1 a1_0 a1_1 a1_2 a1_3 a1_4 a1_5 a1_6 a1_7 a1_8 a1_9 x303000_1 = some r) ∧ Aside0 (kq ≤ k) ∧ Aside0 (Kd.R (Kd.int .i64) 3 w' w.heap.size (fun _ => True) (.slice Ao81 t333.length co81) t333) ∧ Aside0 (Kd.S k81 81 w' w.heap.size (fun k_ => some k_ ≠ ((.slice Ao81 t333.length co81) : Value).ownBlock) u303000 x303000_1) ∧ Aside0 (w'.heap[gb298]? = some (.cells #[.int .i64 a1_0, .int .i64 a1_1, .int .i64 a1_2, .int .i64 a1_3, .int .i64 a1_4, .int .i64 a1_5, .int .i64 a1_6, .int .i64 a1_7, .int .i64 a1_8, .int .i64 a1_9] 35 (0, 0))) ∧ Aside0 (w'.heap[gb302]? = some (.cells #[u303000] 78 (0, 0))) ∧ Aside0 (Below w.heap.size w w'))
     case atStart => exact ⟨(0), (y299), (.slice Ao8 y299.length co8), rf_, H', ⟨Nat.le_refl _⟩, ⟨rr_ HO335⟩, ⟨by (with_reducible repeat (first | apply Kd.S_alloc | apply Kd.S_drewN | apply Kd.S_drew)); exact Kd.S_mono HO301.out (fun _ hk => hk.2)⟩, ⟨bk_ BK298⟩, ⟨bk_ BK302⟩, ⟨bl_⟩⟩
     case round =>
      clear H'
      try clear p2
      try clear p3
      try clear q3
      try clear hx3
      try clear p6
      try clear c13b0
      try clear c13b1
      try clear c21b0
      try clear c21b1
      try clear c27b0
      try clear c28b0
      try clear c29b0
      try clear c30b0
      try clear p30
      try clear q30
      try clear hx30
      try clear c31b0
      try clear p31
      try clear q31
      try clear hx31
      try clear p32
      try clear q32
      try clear hx32
      try clear c44b0
      try clear c44b1
      try clear c50b0
      try clear c51b0
      try clear c52b0
      try clear c53b0
      try clear c54b0
      try clear c59b0
      try clear c60b0
      try clear c61b0
      try clear c62b0
      try clear c63b0
      try clear p64
      try clear c76b0
      try clear c76b1
      try clear hcz10
      try clear hcz11
      try clear hcz16
      try clear hcz17
      try clear hcz20
      try clear hcz24
      try clear hcz36
      try clear hcz37
      try clear hcz41
      try clear hcz43
      try clear hcz47
      try clear hcz68
      try clear hcz69
      try clear hcz73
      try clear hcz75
      try clear hcz79
      try clear hfz10
      try clear hfz11
      try clear hfz16
      try clear hfz17
      try clear hfz20
      try clear hfz24
      try clear hfz36
      try clear hfz37
      try clear hfz41
      try clear hfz43
      try clear hfz47
      try clear hfz68
      try clear hfz69
      try clear hfz73
      try clear hfz75
      try clear hfz79
      try clear hx309_0
      try clear hx310_0
      try clear hx310_1
      try clear hx310_2
      try clear hx320_0
      try clear hx321_0
      try clear hx321_1
      try clear hx321_2
      try clear hx325_0
      try clear hx326_0
      try clear hx326_1
      try clear hx326_2
      try clear p2
      try clear p3
      try clear p30
      try clear p309
      try clear p31
      try clear p310
      try clear p32
      try clear p320
      try clear p321
      try clear p325
      try clear p326
      try clear p6
      try clear q3
      try clear q30
      try clear q309
      try clear q31
      try clear q310
      try clear q32
      try clear q320
      try clear q321
      try clear q325
      try clear q326
      obtain ⟨x93_1, x303000_1, u303000, rfl, HA, HK1, HO_91, HO_303000, BK298, BK302, HB⟩ := hrel
      cases gk with
      | zero => exact absurd HA.out (by simp [impl_derive.l3])
      | succ k1 =>
       have H := HA.out
       clear HA
       simp only [impl_derive.l3] at H
       by_cases c82 : x93_1 < (t333.length : Int)
       ·rw [if_pos c82] at H
        have c82b0 : decide (x93_1 < (t333.length : Int)) = true := decide_eq_true c82
        clear c82
        obtain ⟨c83b0, H⟩ := ifd_ H
        obtain ⟨c84b0, H⟩ := ifd_ H
        obtain ⟨c85b0, H⟩ := ifd_ H
        obtain ⟨c86b0, H⟩ := ifd_ H
        obtain ⟨t338, A87, H⟩ := bindE_ H
        have HC88 := aa_ H
        clear H
        have p336 : 0 ≤ (x93_1 : Int) := od_
        have q336 : x93_1 < (t333.length : Int) := od_
        obtain ⟨ad336, e336, hx336_0⟩ := Kd.at_int (Kd.R_reads' HO_91.out).2.2 x93_1 p336 q336
        cases e336
        replace p336 := eq_true p336
        replace q336 := eq_true q336
        try go_wp2
        replace HO_91 := aa_ (Kd.R_drew HO_91.out)
        replace HO_303000 := aa_ (Kd.S_drew HO_303000.out)
        replace BK298 := aa_ (blk_drew BK298.out)
        replace BK302 := aa_ (blk_drew BK302.out)
        replace HB := aa_ (below_drew1 HB.out)
        have p337 : 0 ≤ ((rd t333 x93_1) : Int) := od_
        have q337 : (rd t333 x93_1) < (l0.length : Int) := od_
        obtain ⟨ad337, e337, hx337_0, hx337_1, hx337_2⟩ := at_T28 HR0.out (rd t333 x93_1) p337 q337
        have hw337_2 := hx337_2
        have hw337_1 := hx337_1
        have hw337_0 := hx337_0
        cases e337
        replace hx337_0 := cb_ HB hx337_0
        replace hx337_1 := cb_ HB hx337_1
        replace hx337_2 := cb_ HB hx337_2
        replace p337 := eq_true p337
        replace q337 := eq_true q337
        refine start_ (n := 11) (S := fun w' => w'.cell? ⟨gb298, 0, none⟩ = some (.int .i64 a1_0) ∧ w'.cell? ⟨gb298, 1, none⟩ = some (.int .i64 a1_1) ∧ w'.cell? ⟨gb298, 2, none⟩ = some (.int .i64 a1_2) ∧ w'.cell? ⟨gb298, 3, none⟩ = some (.int .i64 a1_3) ∧ w'.cell? ⟨gb298, 4, none⟩ = some (.int .i64 a1_4) ∧ w'.cell? ⟨gb298, 5, none⟩ = some (.int .i64 a1_5) ∧ w'.cell? ⟨gb298, 6, none⟩ = some (.int .i64 a1_6) ∧ w'.cell? ⟨gb298, 7, none⟩ = some (.int .i64 a1_7) ∧ w'.cell? ⟨gb298, 8, none⟩ = some (.int .i64 a1_8) ∧ w'.cell? ⟨gb298, 9, none⟩ = some (.int .i64 a1_9) ∧ w'.cell? (ad337.add (((rd t333 x93_1)).toNat * 3)) = some (.int .i64 ((rd_T28 l0 (rd t333 x93_1)).f0.f0)) ∧ w'.cell? ⟨(ad337.add (((rd t333 x93_1)).toNat * 3)).block, (ad337.add (((rd t333 x93_1)).toNat * 3)).off + 1, none⟩ = some (.int .i64 ((rd_T28 l0 (rd t333 x93_1)).f0.f1)) ∧ w'.cell? ⟨(ad337.add (((rd t333 x93_1)).toNat * 3)).block, (ad337.add (((rd t333 x93_1)).toNat * 3)).off + 2, none⟩ = some (.int .i64 ((rd_T28 l0 (rd t333 x93_1)).f1))) (ds := []) (ba_ 11 0) (by kernel_rfl) rfl rfl ⟨(blk_cell BK298.out 0).trans rfl, (blk_cell BK298.out 1).trans rfl, (blk_cell BK298.out 2).trans rfl, (blk_cell BK298.out 3).trans rfl, (blk_cell BK298.out 4).trans rfl, (blk_cell BK298.out 5).trans rfl, (blk_cell BK298.out 6).trans rfl, (blk_cell BK298.out 7).trans rfl, (blk_cell BK298.out 8).trans rfl, (blk_cell BK298.out 9).trans rfl, (cb_ HB hw337_0 :), (cb_ HB hw337_1 :), (cb_ HB hw337_2 :)⟩ (fun hHeld => ?_); refine with_tabW impl_derive.tab26 impl_derive.bits26 (fun HT_ HW_ => ?_)
        generalize wr.drew = w89 at HO_91 HO_303000 BK298 BK302 HB hx337_0 hx337_1 hx337_2 hHeld ⊢
        refine pz_ 0 97 (ba_ 11 1) (ao_ HT_) ?_
        refine pz_ 1 98 (ba_ 11 3) (ao_ HT_) ?_
        refine pz_ 3 100 (ba_ 11 11) (ao_ HT_) ?_
        refine pz_ 4 101 (ba_ 11 27) (ao_ HT_) ?_
        refine pz_ 5 102 (ba_ 11 59) (ao_ HT_) ?_
        refine pz_ 6 103 (ba_ 11 123) (ao_ HT_) ?_
        refine tz_ 2 99 (ba_ 11 127) (take_ofW HT_.out HW_.out (by kernel_rfl)) hHeld ?_
        refine tz_ 7 104 (ba_ 11 255) (take_ofW HT_.out HW_.out (by kernel_rfl)) hHeld ?_
        refine pz_ 8 105 (ba_ 11 511) (ao_ HT_) ?_
        refine one_ (i := 9) (N := some 106) (ba_ 11 1023) rfl rfl (one_of HT_.out (by kernel_rfl)) (by decide) (fun K hK => ?_)
        refine goes_ Try.func22 (by kernel_rfl) rfl #[.slice (some ad337) l0.length c0, .agg #[.int .i64 a1_6, .int .i64 a1_7, .int .i64 ((rd_T28 l0 (rd t333 x93_1)).f1)]] (by rfl) rfl rfl (by (try simp only [List.map_toArray, List.map_cons, List.map_nil]); first | done | rfl | (simp only [List.length_drop, List.length_take]; rfl)) ?_
        with_reducible refine (impl_Fact_22.calls k1 _ _ l0 a1_6 a1_7 ((rd_T28 l0 (rd t333 x93_1)).f1) t338 _ ?side1 ?side2 A87.out).mono ?_
        (case side1 => repeat (first | exact (Kd.C_below HR0.out HB.out) | (with_reducible refine Kd.C_alloc ?_ _) | (with_reducible refine Kd.C_drewN ?_ _) | (with_reducible refine Kd.C_drew ?_)))
        (case side2 => exact HC0.out)
        rintro e w90 ⟨rfl, hb⟩
        refine ⟨_, rfl, ?_⟩
        replace HO_91 := hob_ HO_91 hb
        replace HO_303000 := aa_ (Kd.S_below (rs_ HO_303000) hb)
        replace BK298 := bkb_ BK298 hb
        replace BK302 := bkb_ BK302 hb
        replace HB := hbs_ hb
        (try clear hb)
        (try clear hb2)
        (try clear hk)
        (try clear hi)
        refine hK.out _ _ ⟨(blk_cell BK298.out 0).trans rfl, (blk_cell BK298.out 1).trans rfl, (blk_cell BK298.out 2).trans rfl, (blk_cell BK298.out 3).trans rfl, (blk_cell BK298.out 4).trans rfl, (blk_cell BK298.out 5).trans rfl, (blk_cell BK298.out 6).trans rfl, (blk_cell BK298.out 7).trans rfl, (blk_cell BK298.out 8).trans rfl, (blk_cell BK298.out 9).trans rfl, (cb_ HB hw337_0 :), (cb_ HB hw337_1 :), (cb_ HB hw337_2 :)⟩ (fun hHeld => ?_)
        clear hK K
        refine norm_ (a' := ?_) ?_ ?_
        rotate_left
        ·show Act.put _ (some 106) _ = _
         simp only [Act.put, sb_, sz_, ss_, i64_w, i32_w]
         rfl
        refine pz_ 10 15 (ba_ 11 2047) (ao_ HT_) ?_
        refine done_ (done_of HT_.out (by kernel_rfl)) ?_
        go_upto_if 108 with (fail)
        have H := HC88.out
        clear HC88
        by_cases c91 : t338 ≥ 0
        ·rw [if_pos c91] at H
         have c91b0 : decide (0 ≤ t338) = true := decide_eq_true c91
         clear c91
         (first | rw [c91b0] | (simp only [i64_w, i32_w]; rw [c91b0]) | skip)
         obtain ⟨y340, hy340⟩ : ∃ y_ : List Int, y_ = (([rd t333 x93_1, t338] : List Int)) := ⟨_, rfl⟩
         replace H : (if x303000_1.length < 2932031007402 then (impl_derive.l3 k1 l0 t333 (t333.length : Int) (wrap64 (x93_1 + 1)) a1_0 a1_1 a1_2 a1_3 a1_4 a1_5 a1_6 a1_7 a1_8 a1_9 (x303000_1 ++ [(⟨(⟨(⟨a1_1, a1_2⟩ : S26), (rd_T28 l0 (rd t333 x93_1)).f1⟩ : S28), y340⟩ : S81)])) else (none)) = some r := rh_ hy340 H
         have Ny340 := aa_ hy340
         clear hy340
         obtain ⟨c92, H⟩ := ifn_ H
         have LMc92 := aa_ c92
         clear c92
         obtain ⟨y343, hy343⟩ : ∃ y_ : List (S81), y_ = (x303000_1 ++ [(⟨(⟨(⟨a1_1, a1_2⟩ : S26), (rd_T28 l0 (rd t333 x93_1)).f1⟩ : S28), y340⟩ : S81)]) := ⟨_, rfl⟩
         replace H : (impl_derive.l3 k1 l0 t333 (t333.length : Int) (wrap64 (x93_1 + 1)) a1_0 a1_1 a1_2 a1_3 a1_4 a1_5 a1_6 a1_7 a1_8 a1_9 y343) = some r := rh_ hy343 H
         have Ny343 := aa_ hy343
         clear hy343
         have H' := aa_ H
         clear H
         have p339 : 0 ≤ ((rd t333 x93_1) : Int) := od_
         have q339 : (rd t333 x93_1) < (l0.length : Int) := od_
         obtain ⟨ad339, e339, hx339_0, hx339_1, hx339_2⟩ := at_T28 HR0.out (rd t333 x93_1) p339 q339
         obtain rfl : ad337 = ad339 := (by injection e339)
         replace hx339_0 := cb_ HB hx339_0
         replace hx339_1 := cb_ HB hx339_1
         replace hx339_2 := cb_ HB hx339_2
         replace p339 := eq_true p339
         replace q339 := eq_true q339
         go_wp2_with (first | (go_at_call 57; go_in) | (go_end0; simp only []; go_at_K) | ((with_reducible refine gD_ 117 rfl ?_); refine Kd.R_lit (Kd.int .i64) _ 3 ?hg (N := 117) ?hd (xs := ([rd t333 x93_1, t338] : List Int)) (inner := [.int .i64 (rd t333 x93_1), .int .i64 t338]) (ok := fun _ => True) (okp := fun _ => True) ?hr ?hp (fun _ hk => hk) trivial (Below.refl _ _) (Nat.le_refl _) (by simp) ?_; (case hd => rfl); (case hg => rfl); (case hr => first | (go_simp; done) | (go_simp; rfl)); (case hp => exact (Reps.one (show Kd.M (Kd.int .i64) _ _ _ (rd t333 x93_1) [.int .i64 (rd t333 x93_1)] from rfl) (Reps.one (show Kd.M (Kd.int .i64) _ _ _ t338 [.int .i64 t338] from rfl) (Reps.none _ _)))); intro v341 w93 ho94 hb hg_ hnew_; clear hg_ hnew_; (first | rw [← Ny340.out] at ho94 | (simp only [Int.reduceToNat] at ho94; rw [← Ny340.out] at ho94)); replace HO_303000 := aa_ (Kd.S_elder' (rs_ HO_303000) (Kd.R_base ho94) hb); have HO342 := aa_ (Kd.R_lower (Kd.R_new' ho94 (Kd.R_lt (rr_ HO_91))) bls_); replace HO_91 := aa_ (Kd.R_elder' (rr_ HO_91) (Kd.R_base ho94) hb); replace BK298 := bkb_ BK298 hb; replace BK302 := bkb_ BK302 hb; replace HB := hbs_ hb; clear hb ho94; have hnb95 := NB302_298.out; have hnc95 := NB298_302.out; obtain ⟨hcz96, hfz96⟩ := bcf_ BK302; obtain ⟨hcz97, hfz97⟩ := bcf_ BK298; obtain ⟨Ao98, co98, eo98⟩ := Kd.R_slice HO342.out; subst eo98) | ((with_reducible refine gate_builtin (b := .append) (xs := #[.tmp 6, .tmp 13]) rfl ?_); at_builtin; refine Kd.S_append k81 (w0 := w) w.heap.size rfl (.tmp 6) (.tmp 13) 78 81 (.agg #[(.int .i64 0), (.int .i64 0), (.int .i64 0), (.slice none 0 0)]) 48 rfl Try.underlying78 info81 rfl (by decide) (by omega) u303000 x303000_1 (⟨(⟨(⟨a1_1, a1_2⟩ : S26), (rd_T28 l0 (rd t333 x93_1)).f1⟩ : S28), y340⟩ : S81) [.int .i64 a1_1, .int .i64 a1_2, .int .i64 ((rd_T28 l0 (rd t333 x93_1)).f1), .slice Ao98 y340.length co98] (fun k_ => some k_ ≠ (.slice (some ad336) t333.length co81 : Value).ownBlock) (fun k_ => some k_ = (.slice Ao98 y340.length co98 : Value).ownBlock) rfl rfl ?aP (fun k_ hk_ => ((Kd.R_mono (ok' := fun k_ => ((fun k_ => some k_ ≠ (.slice (some ad336) t333.length co81 : Value).ownBlock)) k_ ∧ some k_ ≠ (u303000 : Value).ownBlock) (Kd.R_apart' (HO342.out) (Kd.S_typed HO_303000.out) (by decide)) (fun k_ hk => ⟨hk.1.2, hk.2⟩))).1 k_ hk_.symm) ?aF ?aO ?aB ?aS ?aL ?_; (case aP => exact k81_mkM _ _ _ (⟨(⟨(⟨a1_1, a1_2⟩ : S26), (rd_T28 l0 (rd t333 x93_1)).f1⟩ : S28), y340⟩ : S81) (Kd.R_mono (Kd.R_tight rfl (Kd.R_mono (ok' := fun k_ => ((fun k_ => some k_ ≠ (.slice (some ad336) t333.length co81 : Value).ownBlock)) k_ ∧ some k_ ≠ (u303000 : Value).ownBlock) (Kd.R_apart' (HO342.out) (Kd.S_typed HO_303000.out) (by decide)) (fun k_ hk => ⟨hk.1.2, hk.2⟩))) (fun _ h_ => h_))); (case aB => exact bl_); (case aF => exact (fun k_ hk => Kd.fresh' (Kd.R_lt (rr_ HO_91)) k_ hk)); (case aO => exact (by (with_reducible repeat (first | apply Kd.S_alloc | apply Kd.S_drewN | apply Kd.S_drew)); exact Kd.S_mono HO_303000.out (fun k_ hk => ⟨hk.1, fun e_ => hk.2 e_⟩))); (case aS => exact bls_); (case aL => have := LMc92.out; omega); intro v344 w99 ho hb hg hat; rw [← Ny343.out] at ho; replace HO_91 := aa_ (Kd.R_over' (rr_ HO_91) (Kd.S_typed (rs_ HO_303000)) (by decide) hg); replace BK298 := aa_ (blk_grown (g := gb298) (o := .cells #[.int .i64 a1_0, .int .i64 a1_1, .int .i64 a1_2, .int .i64 a1_3, .int .i64 a1_4, .int .i64 a1_5, .int .i64 a1_6, .int .i64 a1_7, .int .i64 a1_8, .int .i64 a1_9] 35 (0, 0)) (bk_ BK298) hg (Kd.S_ne HO_303000.out BK298.out (by decide))); replace BK302 := aa_ (blk_grown (g := gb302) (o := .cells #[u303000] 78 (0, 0)) (bk_ BK302) hg (Kd.S_ne HO_303000.out BK302.out (by decide))); replace HB := aa_ (hb); have HO345 := aa_ (ho); clear HO_303000; clear HO342; clear ho hb hg hat; obtain ⟨Ao100, co100, eo100⟩ := Kd.S_slice HO345.out; subst eo100; obtain ⟨hcz101, hfz101⟩ := bcf_ BK302))
         go_roundg k1
         case measure => have := HK1.out; omega
         case rel => exact ⟨(wrap64 (x93_1 + 1)), (y343), (.slice Ao100 y343.length co100), rf_, H', ⟨by have := HK1.out; omega⟩, ⟨by (with_reducible repeat (first | apply Kd.R_alloc | apply Kd.R_drewN | apply Kd.R_drew)); exact Kd.R_mono (Kd.R_far (p := ⟨gb302, 0, none⟩) (Kd.R_types HO_91.out BK302.out (by decide)) (fun _ hk => hk.2) (.slice Ao100 y343.length co100)) (fun _ hk => trivial)⟩, ⟨by (with_reducible repeat (first | apply Kd.S_alloc | apply Kd.S_drewN | apply Kd.S_drew)); exact Kd.S_mono (Kd.S_far (p := ⟨gb302, 0, none⟩) (Kd.S_types HO345.out BK302.out (by decide)) (fun _ hk => hk.2) (.slice Ao100 y343.length co100)) (fun _ hk => hk.1)⟩, ⟨bk_ BK298⟩, ⟨bk_ BK302⟩, ⟨bl_⟩⟩
        ·rw [if_neg c91] at H
         have c91b0 : decide (0 ≤ t338) = false := decide_eq_false c91
         clear c91
         (first | rw [c91b0] | (simp only [i64_w, i32_w]; rw [c91b0]) | skip)
         have H' := aa_ H
         clear H
         go_wp2
         go_roundg k1
         case measure => have := HK1.out; omega
         case rel => exact ⟨(wrap64 (x93_1 + 1)), (x303000_1), (u303000), rf_, H', ⟨by have := HK1.out; omega⟩, ⟨rr_ HO_91⟩, ⟨rs_ HO_303000⟩, ⟨bk_ BK298⟩, ⟨bk_ BK302⟩, ⟨bl_⟩⟩
       ·rw [if_neg c82] at H
        have c82b0 : decide (x93_1 < (t333.length : Int)) = false := decide_eq_false c82
        clear c82
        obtain rfl := Option.some.inj H
        have hnb102 := NB302_298.out
        have hnc102 := NB298_302.out
        have hcz103 := blk_cell BK302.out
        have hfz103 := blk_frozen BK302.out
        go_wp2
        go_ret
        exact ⟨_, eq_, by (with_reducible repeat (first | apply Kd.S_alloc | apply Kd.S_drewN | apply Kd.S_drew)); exact Kd.S_mono HO_303000.out (fun _ hk => trivial), bl_⟩
    ·rw [if_neg c76] at H
     have c76b0 : (a1_0 == 4) = false := beq_eq_false_iff_ne.mpr c76
     have c76b1 : (a1_0 != 4) = true := bne_iff_ne.mpr c76
     obtain rfl := Option.some.inj H
     have hnb104 := NB302_298.out
     have hnc104 := NB298_302.out
     have hcz105 := blk_cell BK302.out
     have hfz105 := blk_frozen BK302.out
     go_wp2
     go_ret
     exact ⟨_, eq_, by (with_reducible repeat (first | apply Kd.S_alloc | apply Kd.S_drewN | apply Kd.S_drew)); exact HO301.out, bl_⟩
end Go.Proofs.Ytljhfomkakhflaa.PA
