import Derived.Test.YtjpjidgfcljpcaaKDPDx9
-- A text of this claim: written by the session's own program out of the translation (wip/tools). Lean checks it.
namespace Go.Proofs.Ytjpjidgfcljpcaa.PD
open Go.RowKit Go.Proofs.YtjpjidgfcljpcaaW.PrintWords Go.Proofs.YtjpjidgfcljpcaaW.PrintLast Go.Proofs.YtjpjidgfcljpcaaW.PrintMore
attribute [local go_sem] max2_int min2_int max_two min_two max_three min_three max_four min_four   -- for this text's walks alone
set_option linter.unusedVariables false
set_option linter.unusedSimpArgs false
mutual
def impl_derive.l0 : Nat → List (S51) → List Int → Int → Int → Int → Int → Int → Int → Int → Int → Int → Int → Int → Int → List (S193) → Option ((List (S193)))
 | 0, _, _, _, _, _, _, _, _, _, _, _, _, _, _, _ => none
 | k + 1, x0, x31, x32, x33, x330000, x330001, x330002, x330003, x330004, x330005, x330006, x330007, x330008, x330009, x334000 => if x33 < x32 then (if 0 ≤ x33 then (if x33 < (x31.length : Int) then (if 0 ≤ (rd x31 x33) then (if (rd x31 x33) < (x0.length : Int) then (if x334000.length < 2932031007402 then (impl_derive.l0 k x0 x31 x32 (wrap64 (x33 + 1)) x330000 x330001 x330002 x330003 x330004 x330005 x330006 x330007 x330008 x330009 (x334000 ++ [(⟨(⟨(⟨x330001, x330002⟩ : S49), (rd_T51 x0 (rd x31 x33)).f1⟩ : S51), (([rd x31 x33] : List Int))⟩ : S193)])) else (none)) else (none)) else (none)) else (none)) else (none)) else (some x334000)
def impl_derive.l1 : Nat → List (S51) → List Int → Int → Int → Int → Int → Int → Int → Int → Int → Int → Int → Int → Int → List (S193) → Option ((List (S193)))
 | 0, _, _, _, _, _, _, _, _, _, _, _, _, _, _, _ => none
 | k + 1, x0, x52, x53, x54, x330000, x330001, x330002, x330003, x330004, x330005, x330006, x330007, x330008, x330009, x334000 => if x54 < x53 then (if 0 ≤ x54 then (if x54 < (x52.length : Int) then (if 0 ≤ (rd x52 x54) then (if (rd x52 x54) < (x0.length : Int) then ((impl_whoOf.f k x0 ((rd_T51 x0 (rd x52 x54)).f1) x330007).bind fun t353 => (impl_derive.l2 k x0 (rd x52 x54) x52 x53 x54 t353 (t353.length : Int) 0 x330000 x330001 x330002 x330003 x330004 x330005 x330006 x330007 x330008 x330009 x334000)) else (none)) else (none)) else (none)) else (none)) else (some x334000)
def impl_derive.l2 : Nat → List (S51) → Int → List Int → Int → Int → List Int → Int → Int → Int → Int → Int → Int → Int → Int → Int → Int → Int → Int → List (S193) → Option ((List (S193)))
 | 0, _, _, _, _, _, _, _, _, _, _, _, _, _, _, _, _, _, _, _ => none
 | k + 1, x0, x10, x52, x53, x54, x68, x69, x70, x330000, x330001, x330002, x330003, x330004, x330005, x330006, x330007, x330008, x330009, x334000 => if x70 < x69 then (if 0 ≤ x70 then (if x70 < (x68.length : Int) then (if 0 ≤ (rd x68 x70) then (if (rd x68 x70) < (x0.length : Int) then (if x334000.length < 2932031007402 then (impl_derive.l2 k x0 x10 x52 x53 x54 x68 x69 (wrap64 (x70 + 1)) x330000 x330001 x330002 x330003 x330004 x330005 x330006 x330007 x330008 x330009 (x334000 ++ [(⟨(⟨(⟨x330001, x330002⟩ : S49), (rd_T51 x0 (rd x68 x70)).f1⟩ : S51), (([x10, rd x68 x70] : List Int))⟩ : S193)])) else (none)) else (none)) else (none)) else (none)) else (none)) else (impl_derive.l1 k x0 x52 x53 (wrap64 (x54 + 1)) x330000 x330001 x330002 x330003 x330004 x330005 x330006 x330007 x330008 x330009 x334000)
def impl_derive.l3 : Nat → List (S51) → List Int → Int → Int → Int → Int → Int → Int → Int → Int → Int → Int → Int → Int → List (S193) → Option ((List (S193)))
 | 0, _, _, _, _, _, _, _, _, _, _, _, _, _, _, _ => none
 | k + 1, x0, x91, x92, x93, x330000, x330001, x330002, x330003, x330004, x330005, x330006, x330007, x330008, x330009, x334000 => if x93 < x92 then (if 0 ≤ x93 then (if x93 < (x91.length : Int) then (if 0 ≤ (rd x91 x93) then (if (rd x91 x93) < (x0.length : Int) then ((impl_Fact_102.f k x0 x330006 x330007 ((rd_T51 x0 (rd x91 x93)).f1)).bind fun t369 => (if t369 ≥ 0 then (if x334000.length < 2932031007402 then (impl_derive.l3 k x0 x91 x92 (wrap64 (x93 + 1)) x330000 x330001 x330002 x330003 x330004 x330005 x330006 x330007 x330008 x330009 (x334000 ++ [(⟨(⟨(⟨x330001, x330002⟩ : S49), (rd_T51 x0 (rd x91 x93)).f1⟩ : S51), (([rd x91 x93, t369] : List Int))⟩ : S193)])) else (none)) else (impl_derive.l3 k x0 x91 x92 (wrap64 (x93 + 1)) x330000 x330001 x330002 x330003 x330004 x330005 x330006 x330007 x330008 x330009 x334000))) else (none)) else (none)) else (none)) else (none)) else (some x334000)
end
def impl_derive.f (k : Nat) (l0 : List (S51)) (a1_0 : Int) (a1_1 : Int) (a1_2 : Int) (a1_3 : Int) (a1_4 : Int) (a1_5 : Int) (a1_6 : Int) (a1_7 : Int) (a1_8 : Int) (a1_9 : Int) : Option ((List (S193))) := (some (([] : List (S193)) : List (S193))).bind fun y330 => (if a1_0 = 1 then (if y330.length < 2932031007402 then (some (y330 ++ [(⟨(⟨(⟨a1_1, a1_2⟩ : S49), a1_3⟩ : S51), ([] : List Int)⟩ : S193)])) else (none)) else (if a1_0 = 2 then ((impl_whoOf.f k l0 a1_4 a1_5).bind fun t337 => (impl_derive.l0 k l0 t337 (t337.length : Int) 0 a1_0 a1_1 a1_2 a1_3 a1_4 a1_5 a1_6 a1_7 a1_8 a1_9 y330)) else (if a1_0 = 3 then ((impl_whoOf.f k l0 a1_4 a1_5).bind fun t348 => (impl_derive.l1 k l0 t348 (t348.length : Int) 0 a1_0 a1_1 a1_2 a1_3 a1_4 a1_5 a1_6 a1_7 a1_8 a1_9 y330)) else (if a1_0 = 4 then ((impl_whoOf.f k l0 a1_4 a1_5).bind fun t364 => (impl_derive.l3 k l0 t364 (t364.length : Int) 0 a1_0 a1_1 a1_2 a1_3 a1_4 a1_5 a1_6 a1_7 a1_8 a1_9 y330)) else (some y330)))))
def impl_derive.T16 : Bool × List (List Nat × List Nat) := (true, [([], []), ([], []), ([], []), ([1, 2], [1, 2]), ([3], [3]), ([4], [4]), ([], []), ([6], [6]), ([7], [7]), ([5, 8], [5, 8]), ([0, 9], [0, 9]), ([10], [10]), ([], [])])
def impl_derive.B16 : List Nat := [0, 0, 0, 6, 14, 30, 0, 64, 192, 510, 1023, 2047, 0]
theorem impl_derive.tab16 : rtab .any (opsOf Try.f169 16) = impl_derive.T16 := by kernel_rfl
theorem impl_derive.bits16 : waitsOk impl_derive.T16.2 impl_derive.B16 = true := by kernel_rfl
def impl_derive.T26 : Bool × List (List Nat × List Nat) := (true, [([], []), ([], []), ([1], [1]), ([], []), ([], []), ([3, 4], [3, 4]), ([5], [5]), ([6], [6]), ([2, 7], [2, 7]), ([0, 8], [0, 8]), ([9, 9, 0, 1, 2, 3, 4, 5, 6, 7, 8, 9], [9])])
def impl_derive.B26 : List Nat := [0, 0, 2, 0, 0, 24, 56, 120, 254, 511, 1023]
theorem impl_derive.tab26 : rtab .any (opsOf Try.f169 26) = impl_derive.T26 := by kernel_rfl
theorem impl_derive.bits26 : waitsOk impl_derive.T26.2 impl_derive.B26 = true := by kernel_rfl
set_option maxHeartbeats 8000000 in
set_option maxRecDepth 100000 in
theorem impl_derive.calls (k : Nat) (A0 : Option Addr) (c0 : Nat) (l0 : List (S51)) (a1_0 : Int) (a1_1 : Int) (a1_2 : Int) (a1_3 : Int) (a1_4 : Int) (a1_5 : Int) (a1_6 : Int) (a1_7 : Int) (a1_8 : Int) (a1_9 : Int) (r : List (S193)) (w : World) (hr0 : Kd.C k51 w A0 l0.length l0) (hc0 : l0.length ≤ c0) (h : impl_derive.f k l0 a1_0 a1_1 a1_2 a1_3 a1_4 a1_5 a1_6 a1_7 a1_8 a1_9 = some r) :
  Calls Try.prog 169 #[.slice A0 l0.length c0, .agg #[.int .i64 a1_0, .int .i64 a1_1, .int .i64 a1_2, .int .i64 a1_3, .int .i64 a1_4, .int .i64 a1_5, .int .i64 a1_6, .int .i64 a1_7, .int .i64 a1_8, .int .i64 a1_9]] w fun e w' => ∃ v0_ : Value, e = .returned (v0_) ∧ Kd.S k193 193 w' w.heap.size (fun _ => True) v0_ r ∧ Below w.heap.size w w' := by
 have hu56 := Try.underlying56
 have hu49 := Try.underlying49
 have hu51 := Try.underlying51
 have hmf : ∀ (fn : Fn) (first cap : Array Value) (w : World), (Instr.makeFunc fn first cap).run Try.prog w = .ok (.func fn first cap) w := fun _ _ _ _ => rfl
 have hu190 := Try.underlying190
 have HR0 := Aside0.mk hr0
 have HC0 := Aside0.mk hc0
 clear hr0 hc0
 have HB := Aside0.mk (Below.refl w.heap.size w)
 have H : ((some (([] : List (S193)) : List (S193))).bind fun y330 => (if a1_0 = 1 then (if y330.length < 2932031007402 then (some (y330 ++ [(⟨(⟨(⟨a1_1, a1_2⟩ : S49), a1_3⟩ : S51), ([] : List Int)⟩ : S193)])) else (none)) else (if a1_0 = 2 then ((impl_whoOf.f k l0 a1_4 a1_5).bind fun t337 => (impl_derive.l0 k l0 t337 (t337.length : Int) 0 a1_0 a1_1 a1_2 a1_3 a1_4 a1_5 a1_6 a1_7 a1_8 a1_9 y330)) else (if a1_0 = 3 then ((impl_whoOf.f k l0 a1_4 a1_5).bind fun t348 => (impl_derive.l1 k l0 t348 (t348.length : Int) 0 a1_0 a1_1 a1_2 a1_3 a1_4 a1_5 a1_6 a1_7 a1_8 a1_9 y330)) else (if a1_0 = 4 then ((impl_whoOf.f k l0 a1_4 a1_5).bind fun t364 => (impl_derive.l3 k l0 t364 (t364.length : Int) 0 a1_0 a1_1 a1_2 a1_3 a1_4 a1_5 a1_6 a1_7 a1_8 a1_9 y330)) else (some y330)))))) = some r := h
 clear h
 obtain ⟨y330, hy330⟩ : ∃ y_ : List (S193), y_ = (([] : List (S193))) := ⟨_, rfl⟩
 replace H : (if a1_0 = 1 then (if y330.length < 2932031007402 then (some (y330 ++ [(⟨(⟨(⟨a1_1, a1_2⟩ : S49), a1_3⟩ : S51), ([] : List Int)⟩ : S193)])) else (none)) else (if a1_0 = 2 then ((impl_whoOf.f k l0 a1_4 a1_5).bind fun t337 => (impl_derive.l0 k l0 t337 (t337.length : Int) 0 a1_0 a1_1 a1_2 a1_3 a1_4 a1_5 a1_6 a1_7 a1_8 a1_9 y330)) else (if a1_0 = 3 then ((impl_whoOf.f k l0 a1_4 a1_5).bind fun t348 => (impl_derive.l1 k l0 t348 (t348.length : Int) 0 a1_0 a1_1 a1_2 a1_3 a1_4 a1_5 a1_6 a1_7 a1_8 a1_9 y330)) else (if a1_0 = 4 then ((impl_whoOf.f k l0 a1_4 a1_5).bind fun t364 => (impl_derive.l3 k l0 t364 (t364.length : Int) 0 a1_0 a1_1 a1_2 a1_3 a1_4 a1_5 a1_6 a1_7 a1_8 a1_9 y330)) else (some y330))))) = some r := by first | (rw [hy330]; with_reducible exact H) | (have H2_ := (Option.bind_some _ _).symm.trans H; rw [hy330]; with_reducible exact H2_) | (have H2_ := (Option.bind_some _ _).symm.trans H; with_reducible exact H2_) | with_reducible exact H | (rw [hy330]; exact H) | exact H
 have Ny330 := Aside0.mk hy330
 clear hy330
 by_cases c3 : a1_0 = 1
 ·rw [if_pos c3] at H
  have c3b0 : (a1_0 == 1) = true := beq_iff_eq.mpr c3
  have c3b1 : (a1_0 != 1) = false := bne_eq_false_iff_eq.mpr c3
  clear c3
  by_cases c4 : y330.length < 2932031007402
  ·rw [if_pos c4] at H
   have LMc4 := Aside0.mk c4
   clear c4
   obtain ⟨y334, hy334⟩ : ∃ y_ : List (S193), y_ = (y330 ++ [(⟨(⟨(⟨a1_1, a1_2⟩ : S49), a1_3⟩ : S51), ([] : List Int)⟩ : S193)]) := ⟨_, rfl⟩
   replace H : (some y334) = some r := by first | (rw [hy334]; with_reducible exact H) | (have H2_ := (Option.bind_some _ _).symm.trans H; rw [hy334]; with_reducible exact H2_) | (have H2_ := (Option.bind_some _ _).symm.trans H; with_reducible exact H2_) | with_reducible exact H | (rw [hy334]; exact H) | exact H
   have Ny334 := Aside0.mk hy334
   clear hy334
   obtain rfl := Option.some.inj H
   go_enter Try.func169, Try.ntmps169
   go_wp2_with (first | (go_at_call 203; go_in) | (go_end0; simp only []; go_at_K) | ((with_reducible refine gate_dst (N := 3) rfl ?_); refine box_event ?hg (N := 3) ?hd (cs := #[.int .i64 a1_0, .int .i64 a1_1, .int .i64 a1_2, .int .i64 a1_3, .int .i64 a1_4, .int .i64 a1_5, .int .i64 a1_6, .int .i64 a1_7, .int .i64 a1_8, .int .i64 a1_9]) (t := 56) ?hr ?_; (case hd => rfl); (case hg => rfl); (case hr => first | (go_simp; done) | (go_simp; rfl)); intro gb329 hg w5 hbox hb; have BK329 := Aside0.mk (hbox); have GW329 := gs_ hg; have GE329 := gs_ hg; replace HB := hbs_ hb; clear hb hbox hg) | ((with_reducible refine gate_dst (N := 16) rfl ?_); refine Kd.S_lit k193 _ 193 ?hg (N := 16) ?hd (xs := ([] : List (S193))) (inner := []) (ok := fun _ => True) (okp := fun _ => True) ?hr ?hp (fun _ hk => hk) trivial (Below.refl _ _) (Nat.le_refl _) (by simp) ?_; (case hd => rfl); (case hg => rfl); (case hr => first | (go_simp; done) | (go_simp; rfl)); (case hp => exact (Reps.none _ _)); intro v331 w6 ho7 hb hg_ hnew_; clear hg_ hnew_; (first | rw [← Ny330.out] at ho7 | (simp only [Int.reduceToNat] at ho7; rw [← Ny330.out] at ho7)); have HO332 := Aside0.mk (Kd.S_lower ho7 bls_); replace BK329 := bkb_ BK329 hb; replace HB := hbs_ hb; clear hb ho7) | ((with_reducible refine gate_dst (N := 5) rfl ?_); refine box_event ?hg (N := 5) ?hd (cs := #[.slice none 0 0]) (t := 190) ?hr ?_; (case hd => rfl); (case hg => rfl); (case hr => first | (go_simp; done) | (go_simp; rfl)); intro gb333 hg w8 hbox hb; replace HO332 := Aside0.mk (Kd.S_below (by (with_reducible repeat (first | apply Kd.S_alloc | apply Kd.S_drewN | apply Kd.S_drew)); exact HO332.out) hb); have BK333 := Aside0.mk (hbox); have GW333 := gs_ hg; have GE333 := gs_ hg; replace HB := hbs_ hb; have NB329_333 := Aside0.mk ((by rw [hg]; exact Nat.ne_of_lt (blk_lt (g := gb329) (o := .cells #[.int .i64 a1_0, .int .i64 a1_1, .int .i64 a1_2, .int .i64 a1_3, .int .i64 a1_4, .int .i64 a1_5, .int .i64 a1_6, .int .i64 a1_7, .int .i64 a1_8, .int .i64 a1_9] 56 (0, 0)) (bk_ BK329)) : gb329 ≠ gb333)); have NB333_329 := Aside0.mk ((by rw [hg]; exact Nat.ne_of_gt (blk_lt (g := gb329) (o := .cells #[.int .i64 a1_0, .int .i64 a1_1, .int .i64 a1_2, .int .i64 a1_3, .int .i64 a1_4, .int .i64 a1_5, .int .i64 a1_6, .int .i64 a1_7, .int .i64 a1_8, .int .i64 a1_9] 56 (0, 0)) (bk_ BK329)) : gb333 ≠ gb329)); replace BK329 := bkb_ BK329 hb; clear hb hbox hg; obtain ⟨Ao9, co9, eo9⟩ := Kd.S_slice HO332.out; subst eo9; have hnb10 := NB333_329.out; have hnc10 := NB329_333.out; have hcz11 := blk_cell BK333.out; have hfz11 := blk_frozen BK333.out; have hcz12 := blk_cell BK329.out; have hfz12 := blk_frozen BK329.out) | ((with_reducible refine gate_builtin (b := .append) (xs := #[.tmp 6, .tmp 13]) rfl ?_); at_builtin; refine Kd.S_append k193 (w0 := w) w.heap.size rfl (.tmp 6) (.tmp 13) 190 193 (.agg #[(.int .i64 0), (.int .i64 0), (.int .i64 0), (.slice none 0 0)]) 48 rfl Try.underlying190 info193 rfl (by decide) (by omega) (.slice Ao9 y330.length co9) y330 (⟨(⟨(⟨a1_1, a1_2⟩ : S49), a1_3⟩ : S51), ([] : List Int)⟩ : S193) [.int .i64 a1_1, .int .i64 a1_2, .int .i64 a1_3, .slice none 0 0] (fun _ => True) (fun _ => False) rfl (by first | (go_simp; done) | (go_simp; rfl)) ?aP (fun k_ hk_ => hk_.elim) ?aF ?aO ?aB ?aS ?aL ?_; (case aP => exact k193_mkM _ _ _ (⟨(⟨(⟨a1_1, a1_2⟩ : S49), a1_3⟩ : S51), ([] : List Int)⟩ : S193) (Kd.R_nil _ _ _ _ _)); (case aB => exact bl_); (case aF => exact (fun _ _ => trivial)); (case aO => exact (by (with_reducible repeat (first | apply Kd.S_alloc | apply Kd.S_drewN | apply Kd.S_drew)); exact Kd.S_mono (Kd.S_far (p := ⟨gb333, 0, none⟩) (Kd.S_types HO332.out BK333.out (by decide)) (fun _ hk => hk.2) (.slice Ao9 y330.length co9)) (fun k_ hk => ⟨trivial, fun e_ => e_⟩))); (case aS => exact bls_); (case aL => have := LMc4.out; omega); intro v335 w13 ho hb hg hat; rw [← Ny334.out] at ho; replace BK329 := Aside0.mk (blk_grown (g := gb329) (o := .cells #[.int .i64 a1_0, .int .i64 a1_1, .int .i64 a1_2, .int .i64 a1_3, .int .i64 a1_4, .int .i64 a1_5, .int .i64 a1_6, .int .i64 a1_7, .int .i64 a1_8, .int .i64 a1_9] 56 (0, 0)) (bk_ BK329) hg (Kd.S_ne HO332.out BK329.out (by decide))); replace BK333 := Aside0.mk (blk_grown (g := gb333) (o := .cells #[.slice Ao9 y330.length co9] 190 (0, 0)) (bk_ BK333) hg (Kd.S_ne HO332.out BK333.out (by decide))); replace HB := Aside0.mk (hb); have HO336 := Aside0.mk (ho); clear HO332; clear ho hb hg hat; obtain ⟨Ao14, co14, eo14⟩ := Kd.S_slice HO336.out; subst eo14; have hcz15 := blk_cell BK333.out; have hfz15 := blk_frozen BK333.out))
   go_ret
   exact ⟨_, eq_, by (with_reducible repeat (first | apply Kd.S_alloc | apply Kd.S_drewN | apply Kd.S_drew)); exact Kd.S_mono (Kd.S_far (p := ⟨gb333, 0, none⟩) (Kd.S_types HO336.out BK333.out (by decide)) (fun _ hk => hk.2) (.slice Ao14 y334.length co14)) (fun _ hk => trivial), bl_⟩
  ·rw [if_neg c4] at H
   exact absurd H (by simp)
 ·rw [if_neg c3] at H
  have c3b0 : (a1_0 == 1) = false := beq_eq_false_iff_ne.mpr c3
  have c3b1 : (a1_0 != 1) = true := bne_iff_ne.mpr c3
  by_cases c16 : a1_0 = 2
  ·rw [if_pos c16] at H
   have c16b0 : (a1_0 == 2) = true := beq_iff_eq.mpr c16
   have c16b1 : (a1_0 != 2) = false := bne_eq_false_iff_eq.mpr c16
   clear c16
   obtain ⟨t337, A17, H⟩ := bindE_ H
   have H' := Aside0.mk H
   clear H
   go_enter Try.func169, Try.ntmps169
   go_wp2_with (first | (go_at_call 203; go_in) | (go_end0; simp only []; go_at_K) | ((with_reducible refine gate_dst (N := 3) rfl ?_); refine box_event ?hg (N := 3) ?hd (cs := #[.int .i64 a1_0, .int .i64 a1_1, .int .i64 a1_2, .int .i64 a1_3, .int .i64 a1_4, .int .i64 a1_5, .int .i64 a1_6, .int .i64 a1_7, .int .i64 a1_8, .int .i64 a1_9]) (t := 56) ?hr ?_; (case hd => rfl); (case hg => rfl); (case hr => first | (go_simp; done) | (go_simp; rfl)); intro gb329 hg w18 hbox hb; have BK329 := Aside0.mk (hbox); have GW329 := gs_ hg; have GE329 := gs_ hg; replace HB := hbs_ hb; clear hb hbox hg) | ((with_reducible refine gate_dst (N := 16) rfl ?_); refine Kd.S_lit k193 _ 193 ?hg (N := 16) ?hd (xs := ([] : List (S193))) (inner := []) (ok := fun _ => True) (okp := fun _ => True) ?hr ?hp (fun _ hk => hk) trivial (Below.refl _ _) (Nat.le_refl _) (by simp) ?_; (case hd => rfl); (case hg => rfl); (case hr => first | (go_simp; done) | (go_simp; rfl)); (case hp => exact (Reps.none _ _)); intro v331 w19 ho20 hb hg_ hnew_; clear hg_ hnew_; (first | rw [← Ny330.out] at ho20 | (simp only [Int.reduceToNat] at ho20; rw [← Ny330.out] at ho20)); have HO332 := Aside0.mk (Kd.S_lower ho20 bls_); replace BK329 := bkb_ BK329 hb; replace HB := hbs_ hb; clear hb ho20) | ((with_reducible refine gate_dst (N := 5) rfl ?_); refine box_event ?hg (N := 5) ?hd (cs := #[.slice none 0 0]) (t := 190) ?hr ?_; (case hd => rfl); (case hg => rfl); (case hr => first | (go_simp; done) | (go_simp; rfl)); intro gb333 hg w21 hbox hb; replace HO332 := Aside0.mk (Kd.S_below (by (with_reducible repeat (first | apply Kd.S_alloc | apply Kd.S_drewN | apply Kd.S_drew)); exact HO332.out) hb); have BK333 := Aside0.mk (hbox); have GW333 := gs_ hg; have GE333 := gs_ hg; replace HB := hbs_ hb; have NB329_333 := Aside0.mk ((by rw [hg]; exact Nat.ne_of_lt (blk_lt (g := gb329) (o := .cells #[.int .i64 a1_0, .int .i64 a1_1, .int .i64 a1_2, .int .i64 a1_3, .int .i64 a1_4, .int .i64 a1_5, .int .i64 a1_6, .int .i64 a1_7, .int .i64 a1_8, .int .i64 a1_9] 56 (0, 0)) (bk_ BK329)) : gb329 ≠ gb333)); have NB333_329 := Aside0.mk ((by rw [hg]; exact Nat.ne_of_gt (blk_lt (g := gb329) (o := .cells #[.int .i64 a1_0, .int .i64 a1_1, .int .i64 a1_2, .int .i64 a1_3, .int .i64 a1_4, .int .i64 a1_5, .int .i64 a1_6, .int .i64 a1_7, .int .i64 a1_8, .int .i64 a1_9] 56 (0, 0)) (bk_ BK329)) : gb333 ≠ gb329)); replace BK329 := bkb_ BK329 hb; clear hb hbox hg; obtain ⟨Ao22, co22, eo22⟩ := Kd.S_slice HO332.out; subst eo22; have hnb23 := NB333_329.out; have hnc23 := NB329_333.out; have hcz24 := blk_cell BK333.out; have hfz24 := blk_frozen BK333.out; have hcz25 := blk_cell BK329.out; have hfz25 := blk_frozen BK329.out) | ((with_reducible refine gate_callee (f := 204) rfl ?_); refine goesC_ (some 31) Try.func204 #[.slice A0 l0.length c0, .agg #[.int .i64 a1_4, .int .i64 a1_5]] ?_; (with_reducible refine (impl_whoOf.calls k _ _ l0 a1_4 a1_5 t337 _ ?side1 ?side2 A17.out).mono ?_); (case side1 => exact Kd.C_below HR0.out bl_); (case side2 => exact HC0.out); rintro e w26 ⟨v338, rfl, ho0, hb⟩; refine ⟨_, rfl, ?_⟩; replace HO332 := Aside0.mk (Kd.S_elder' (by (with_reducible repeat (first | apply Kd.S_alloc | apply Kd.S_drewN | apply Kd.S_drew)); exact (Kd.S_mono (Kd.S_far (p := ⟨gb333, 0, none⟩) (Kd.S_types HO332.out BK333.out (by decide)) (fun _ hk => hk.2) (.slice Ao22 y330.length co22)) (fun _ h_ => h_.1))) (Kd.R_base ho0) hb); have HO339 := Aside0.mk (Kd.R_lower ho0 bls_); replace BK329 := Aside0.mk (blk_below (g := gb329) (o := .cells #[.int .i64 a1_0, .int .i64 a1_1, .int .i64 a1_2, .int .i64 a1_3, .int .i64 a1_4, .int .i64 a1_5, .int .i64 a1_6, .int .i64 a1_7, .int .i64 a1_8, .int .i64 a1_9] 56 (0, 0)) (bk_ BK329) hb); replace BK333 := Aside0.mk (blk_below (g := gb333) (o := .cells #[.slice Ao22 y330.length co22] 190 (0, 0)) (bk_ BK333) hb); replace HB := hbs_ hb; (try clear hb); (try clear hb2); (try clear hk); (try clear hi); (try clear ho0); obtain ⟨Ao27, co27, eo27⟩ := Kd.R_slice HO339.out; subst eo27))
   go_loopg [33] k (fun kq v33 w' => ∃ (x33_1 : Int) (x334000_1 : List (S193)) (u334000 : Value), v33 = .int .i64 x33_1 ∧ Aside0 (impl_derive.l0 kq l0 t337 (t337.length : Int) x33_1 a1_0 a1_1 a1_2 a1_3 a1_4 a1_5 a1_6 a1_7 a1_8 a1_9 x334000_1 = some r) ∧ Aside0 (kq ≤ k) ∧ Aside0 (Kd.R (Kd.int .i64) 3 w' w.heap.size (fun _ => True) (.slice Ao27 t337.length co27) t337) ∧ Aside0 (Kd.S k193 193 w' w.heap.size (fun k_ => some k_ ≠ ((.slice Ao27 t337.length co27) : Value).ownBlock) u334000 x334000_1) ∧ Aside0 (w'.heap[gb329]? = some (.cells #[.int .i64 a1_0, .int .i64 a1_1, .int .i64 a1_2, .int .i64 a1_3, .int .i64 a1_4, .int .i64 a1_5, .int .i64 a1_6, .int .i64 a1_7, .int .i64 a1_8, .int .i64 a1_9] 56 (0, 0))) ∧ Aside0 (w'.heap[gb333]? = some (.cells #[u334000] 190 (0, 0))) ∧ Aside0 (Below w.heap.size w w'))
   case atStart => exact ⟨(0), (y330), (.slice Ao22 y330.length co22), (by first | rfl | (simp; done) | (simp [*]; done)), H', ⟨Nat.le_refl _⟩, ⟨by (with_reducible repeat (first | apply Kd.R_alloc | apply Kd.R_drewN | apply Kd.R_drew)); exact HO339.out⟩, ⟨by (with_reducible repeat (first | apply Kd.S_alloc | apply Kd.S_drewN | apply Kd.S_drew)); exact Kd.S_mono HO332.out (fun _ hk => hk.2)⟩, ⟨bk_ BK329⟩, ⟨bk_ BK333⟩, ⟨bl_⟩⟩
   case round =>
    clear H'
    try clear c1
    try clear c2
    try clear p2
    try clear c3
    try clear c3b0
    try clear c3b1
    try clear c4
    try clear c10
    try clear c16
    try clear c16b0
    try clear c16b1
    try clear c20
    try clear c23
    try clear hcz11
    try clear hcz12
    try clear hcz15
    try clear hcz24
    try clear hcz25
    try clear hfz11
    try clear hfz12
    try clear hfz15
    try clear hfz24
    try clear hfz25
    obtain ⟨x33_1, x334000_1, u334000, rfl, HA, HK1, HO_31, HO_334000, BK329, BK333, HB⟩ := hrel
    cases gk with
    | zero => exact absurd HA.out (by simp [impl_derive.l0])
    | succ k1 =>
     have H := HA.out
     clear HA
     simp only [impl_derive.l0] at H
     by_cases c28 : x33_1 < (t337.length : Int)
     ·rw [if_pos c28] at H
      have c28b0 : decide (x33_1 < (t337.length : Int)) = true := decide_eq_true c28
      clear c28
      by_cases c29 : 0 ≤ x33_1
      ·rw [if_pos c29] at H
       have c29b0 : decide (0 ≤ x33_1) = true := decide_eq_true c29
       clear c29
       by_cases c30 : x33_1 < (t337.length : Int)
       ·rw [if_pos c30] at H
        have c30b0 : decide (x33_1 < (t337.length : Int)) = true := decide_eq_true c30
        clear c30
        by_cases c31 : 0 ≤ (rd t337 x33_1)
        ·rw [if_pos c31] at H
         have c31b0 : decide (0 ≤ (rd t337 x33_1)) = true := decide_eq_true c31
         clear c31
         by_cases c32 : (rd t337 x33_1) < (l0.length : Int)
         ·rw [if_pos c32] at H
          have c32b0 : decide ((rd t337 x33_1) < (l0.length : Int)) = true := decide_eq_true c32
          clear c32
          obtain ⟨y342, hy342⟩ : ∃ y_ : List Int, y_ = (([rd t337 x33_1] : List Int)) := ⟨_, rfl⟩
          replace H : (if x334000_1.length < 2932031007402 then (impl_derive.l0 k1 l0 t337 (t337.length : Int) (wrap64 (x33_1 + 1)) a1_0 a1_1 a1_2 a1_3 a1_4 a1_5 a1_6 a1_7 a1_8 a1_9 (x334000_1 ++ [(⟨(⟨(⟨a1_1, a1_2⟩ : S49), (rd_T51 l0 (rd t337 x33_1)).f1⟩ : S51), y342⟩ : S193)])) else (none)) = some r := by first | (rw [hy342]; with_reducible exact H) | (have H2_ := (Option.bind_some _ _).symm.trans H; rw [hy342]; with_reducible exact H2_) | (have H2_ := (Option.bind_some _ _).symm.trans H; with_reducible exact H2_) | with_reducible exact H | (rw [hy342]; exact H) | exact H
          have Ny342 := Aside0.mk hy342
          clear hy342
          by_cases c33 : x334000_1.length < 2932031007402
          ·rw [if_pos c33] at H
           have LMc33 := Aside0.mk c33
           clear c33
           obtain ⟨y345, hy345⟩ : ∃ y_ : List (S193), y_ = (x334000_1 ++ [(⟨(⟨(⟨a1_1, a1_2⟩ : S49), (rd_T51 l0 (rd t337 x33_1)).f1⟩ : S51), y342⟩ : S193)]) := ⟨_, rfl⟩
           replace H : (impl_derive.l0 k1 l0 t337 (t337.length : Int) (wrap64 (x33_1 + 1)) a1_0 a1_1 a1_2 a1_3 a1_4 a1_5 a1_6 a1_7 a1_8 a1_9 y345) = some r := by first | (rw [hy345]; with_reducible exact H) | (have H2_ := (Option.bind_some _ _).symm.trans H; rw [hy345]; with_reducible exact H2_) | (have H2_ := (Option.bind_some _ _).symm.trans H; with_reducible exact H2_) | with_reducible exact H | (rw [hy345]; exact H) | exact H
           have Ny345 := Aside0.mk hy345
           clear hy345
           have H' := Aside0.mk H
           clear H
           have p340 : 0 ≤ (x33_1 : Int) := of_decide_eq_true (by first | (with_reducible assumption) | assumption)
           have q340 : x33_1 < (t337.length : Int) := of_decide_eq_true (by first | (with_reducible assumption) | assumption)
           obtain ⟨ad340, e340, hx340_0⟩ := Kd.at_int (Kd.R_reads' HO_31.out).2.2 x33_1 p340 q340
           cases e340
           replace p340 := eq_true p340
           replace q340 := eq_true q340
           have p341 : 0 ≤ ((rd t337 x33_1) : Int) := of_decide_eq_true (by first | (with_reducible assumption) | assumption)
           have q341 : (rd t337 x33_1) < (l0.length : Int) := of_decide_eq_true (by first | (with_reducible assumption) | assumption)
           obtain ⟨ad341, e341, hx341_0, hx341_1, hx341_2⟩ := at_T51 (Kd.C_below HR0.out HB.out) (rd t337 x33_1) p341 q341
           cases e341
           replace p341 := eq_true p341
           replace q341 := eq_true q341
           go_wp2_with (first | (go_at_call 203; go_in) | (go_end0; simp only []; go_at_K) | ((with_reducible refine gate_dst (N := 44) rfl ?_); refine Kd.R_lit (Kd.int .i64) _ 3 ?hg (N := 44) ?hd (xs := ([rd t337 x33_1] : List Int)) (inner := [.int .i64 (rd t337 x33_1)]) (ok := fun _ => True) (okp := fun _ => True) ?hr ?hp (fun _ hk => hk) trivial (Below.refl _ _) (Nat.le_refl _) (by simp) ?_; (case hd => rfl); (case hg => rfl); (case hr => first | (go_simp; done) | (go_simp; rfl)); (case hp => exact (Reps.one (show Kd.M (Kd.int .i64) _ _ _ (rd t337 x33_1) [.int .i64 (rd t337 x33_1)] from rfl) (Reps.none _ _))); intro v343 w34 ho35 hb hg_ hnew_; clear hg_ hnew_; (first | rw [← Ny342.out] at ho35 | (simp only [Int.reduceToNat] at ho35; rw [← Ny342.out] at ho35)); replace HO_334000 := Aside0.mk (Kd.S_elder' (by (with_reducible repeat (first | apply Kd.S_alloc | apply Kd.S_drewN | apply Kd.S_drew)); exact HO_334000.out) (Kd.R_base ho35) hb); have HO344 := Aside0.mk (Kd.R_lower (Kd.R_new' ho35 (Kd.R_lt (by (with_reducible repeat (first | apply Kd.R_alloc | apply Kd.R_drewN | apply Kd.R_drew)); exact HO_31.out))) bls_); replace HO_31 := Aside0.mk (Kd.R_elder' (by (with_reducible repeat (first | apply Kd.R_alloc | apply Kd.R_drewN | apply Kd.R_drew)); exact HO_31.out) (Kd.R_base ho35) hb); replace BK329 := bkb_ BK329 hb; replace BK333 := bkb_ BK333 hb; replace HB := hbs_ hb; clear hb ho35; have hnb36 := NB333_329.out; have hnc36 := NB329_333.out; have hcz37 := blk_cell BK333.out; have hfz37 := blk_frozen BK333.out; have hcz38 := blk_cell BK329.out; have hfz38 := blk_frozen BK329.out; obtain ⟨Ao39, co39, eo39⟩ := Kd.R_slice HO344.out; subst eo39) | ((with_reducible refine gate_builtin (b := .append) (xs := #[.tmp 6, .tmp 13]) rfl ?_); at_builtin; refine Kd.S_append k193 (w0 := w) w.heap.size rfl (.tmp 6) (.tmp 13) 190 193 (.agg #[(.int .i64 0), (.int .i64 0), (.int .i64 0), (.slice none 0 0)]) 48 rfl Try.underlying190 info193 rfl (by decide) (by omega) u334000 x334000_1 (⟨(⟨(⟨a1_1, a1_2⟩ : S49), (rd_T51 l0 (rd t337 x33_1)).f1⟩ : S51), y342⟩ : S193) [.int .i64 a1_1, .int .i64 a1_2, .int .i64 ((rd_T51 l0 (rd t337 x33_1)).f1), .slice Ao39 y342.length co39] (fun k_ => some k_ ≠ (.slice (some ad340) t337.length co27 : Value).ownBlock) (fun k_ => some k_ = (.slice Ao39 y342.length co39 : Value).ownBlock) rfl rfl ?aP (fun k_ hk_ => ((Kd.R_mono (ok' := fun k_ => ((fun k_ => some k_ ≠ (.slice (some ad340) t337.length co27 : Value).ownBlock)) k_ ∧ some k_ ≠ (u334000 : Value).ownBlock) (Kd.R_apart' (HO344.out) (Kd.S_typed HO_334000.out) (by decide)) (fun k_ hk => ⟨hk.1.2, hk.2⟩))).1 k_ hk_.symm) ?aF ?aO ?aB ?aS ?aL ?_; (case aP => exact k193_mkM _ _ _ (⟨(⟨(⟨a1_1, a1_2⟩ : S49), (rd_T51 l0 (rd t337 x33_1)).f1⟩ : S51), y342⟩ : S193) (Kd.R_mono (Kd.R_tight rfl (Kd.R_mono (ok' := fun k_ => ((fun k_ => some k_ ≠ (.slice (some ad340) t337.length co27 : Value).ownBlock)) k_ ∧ some k_ ≠ (u334000 : Value).ownBlock) (Kd.R_apart' (HO344.out) (Kd.S_typed HO_334000.out) (by decide)) (fun k_ hk => ⟨hk.1.2, hk.2⟩))) (fun _ h_ => h_))); (case aB => exact bl_); (case aF => exact (fun k_ hk => Kd.fresh' (Kd.R_lt (by (with_reducible repeat (first | apply Kd.R_alloc | apply Kd.R_drewN | apply Kd.R_drew)); exact HO_31.out)) k_ hk)); (case aO => exact (by (with_reducible repeat (first | apply Kd.S_alloc | apply Kd.S_drewN | apply Kd.S_drew)); exact Kd.S_mono HO_334000.out (fun k_ hk => ⟨hk.1, fun e_ => hk.2 e_⟩))); (case aS => exact bls_); (case aL => have := LMc33.out; omega); intro v346 w40 ho hb hg hat; rw [← Ny345.out] at ho; replace HO_31 := Aside0.mk (Kd.R_over' (by (with_reducible repeat (first | apply Kd.R_alloc | apply Kd.R_drewN | apply Kd.R_drew)); exact HO_31.out) (Kd.S_typed (by (with_reducible repeat (first | apply Kd.S_alloc | apply Kd.S_drewN | apply Kd.S_drew)); exact HO_334000.out)) (by decide) hg); replace BK329 := Aside0.mk (blk_grown (g := gb329) (o := .cells #[.int .i64 a1_0, .int .i64 a1_1, .int .i64 a1_2, .int .i64 a1_3, .int .i64 a1_4, .int .i64 a1_5, .int .i64 a1_6, .int .i64 a1_7, .int .i64 a1_8, .int .i64 a1_9] 56 (0, 0)) (bk_ BK329) hg (Kd.S_ne HO_334000.out BK329.out (by decide))); replace BK333 := Aside0.mk (blk_grown (g := gb333) (o := .cells #[u334000] 190 (0, 0)) (bk_ BK333) hg (Kd.S_ne HO_334000.out BK333.out (by decide))); replace HB := Aside0.mk (hb); have HO347 := Aside0.mk (ho); clear HO_334000; clear HO344; clear ho hb hg hat; obtain ⟨Ao41, co41, eo41⟩ := Kd.S_slice HO347.out; subst eo41; have hcz42 := blk_cell BK333.out; have hfz42 := blk_frozen BK333.out))
           go_roundg k1
           case measure => have := HK1.out; omega
           case rel => exact ⟨(wrap64 (x33_1 + 1)), (y345), (.slice Ao41 y345.length co41), (by first | rfl | (simp; done) | (simp [*]; done)), H', ⟨by have := HK1.out; omega⟩, ⟨by (with_reducible repeat (first | apply Kd.R_alloc | apply Kd.R_drewN | apply Kd.R_drew)); exact Kd.R_mono (Kd.R_far (p := ⟨gb333, 0, none⟩) (Kd.R_types HO_31.out BK333.out (by decide)) (fun _ hk => hk.2) (.slice Ao41 y345.length co41)) (fun _ hk => trivial)⟩, ⟨by (with_reducible repeat (first | apply Kd.S_alloc | apply Kd.S_drewN | apply Kd.S_drew)); exact Kd.S_mono (Kd.S_far (p := ⟨gb333, 0, none⟩) (Kd.S_types HO347.out BK333.out (by decide)) (fun _ hk => hk.2) (.slice Ao41 y345.length co41)) (fun _ hk => hk.1)⟩, ⟨bk_ BK329⟩, ⟨bk_ BK333⟩, ⟨bl_⟩⟩
          ·rw [if_neg c33] at H
           exact absurd H (by simp)
         ·rw [if_neg c32] at H
          exact absurd H (by simp)
        ·rw [if_neg c31] at H
         exact absurd H (by simp)
       ·rw [if_neg c30] at H
        exact absurd H (by simp)
      ·rw [if_neg c29] at H
       exact absurd H (by simp)
     ·rw [if_neg c28] at H
      have c28b0 : decide (x33_1 < (t337.length : Int)) = false := decide_eq_false c28
      clear c28
      obtain rfl := Option.some.inj H
      have hnb43 := NB333_329.out
      have hnc43 := NB329_333.out
      have hcz44 := blk_cell BK333.out
      have hfz44 := blk_frozen BK333.out
      go_wp2
      go_ret
      exact ⟨_, eq_, by (with_reducible repeat (first | apply Kd.S_alloc | apply Kd.S_drewN | apply Kd.S_drew)); exact Kd.S_mono HO_334000.out (fun _ hk => trivial), bl_⟩
  ·rw [if_neg c16] at H
   have c16b0 : (a1_0 == 2) = false := beq_eq_false_iff_ne.mpr c16
   have c16b1 : (a1_0 != 2) = true := bne_iff_ne.mpr c16
   by_cases c45 : a1_0 = 3
   ·rw [if_pos c45] at H
    have c45b0 : (a1_0 == 3) = true := beq_iff_eq.mpr c45
    have c45b1 : (a1_0 != 3) = false := bne_eq_false_iff_eq.mpr c45
    clear c45
    obtain ⟨t348, A46, H⟩ := bindE_ H
    have H' := Aside0.mk H
    clear H
    go_enter Try.func169, Try.ntmps169
    go_wp2_with (first | (go_at_call 203; go_in) | (go_end0; simp only []; go_at_K) | ((with_reducible refine gate_dst (N := 3) rfl ?_); refine box_event ?hg (N := 3) ?hd (cs := #[.int .i64 a1_0, .int .i64 a1_1, .int .i64 a1_2, .int .i64 a1_3, .int .i64 a1_4, .int .i64 a1_5, .int .i64 a1_6, .int .i64 a1_7, .int .i64 a1_8, .int .i64 a1_9]) (t := 56) ?hr ?_; (case hd => rfl); (case hg => rfl); (case hr => first | (go_simp; done) | (go_simp; rfl)); intro gb329 hg w47 hbox hb; have BK329 := Aside0.mk (hbox); have GW329 := gs_ hg; have GE329 := gs_ hg; replace HB := hbs_ hb; clear hb hbox hg) | ((with_reducible refine gate_dst (N := 16) rfl ?_); refine Kd.S_lit k193 _ 193 ?hg (N := 16) ?hd (xs := ([] : List (S193))) (inner := []) (ok := fun _ => True) (okp := fun _ => True) ?hr ?hp (fun _ hk => hk) trivial (Below.refl _ _) (Nat.le_refl _) (by simp) ?_; (case hd => rfl); (case hg => rfl); (case hr => first | (go_simp; done) | (go_simp; rfl)); (case hp => exact (Reps.none _ _)); intro v331 w48 ho49 hb hg_ hnew_; clear hg_ hnew_; (first | rw [← Ny330.out] at ho49 | (simp only [Int.reduceToNat] at ho49; rw [← Ny330.out] at ho49)); have HO332 := Aside0.mk (Kd.S_lower ho49 bls_); replace BK329 := bkb_ BK329 hb; replace HB := hbs_ hb; clear hb ho49) | ((with_reducible refine gate_dst (N := 5) rfl ?_); refine box_event ?hg (N := 5) ?hd (cs := #[.slice none 0 0]) (t := 190) ?hr ?_; (case hd => rfl); (case hg => rfl); (case hr => first | (go_simp; done) | (go_simp; rfl)); intro gb333 hg w50 hbox hb; replace HO332 := Aside0.mk (Kd.S_below (by (with_reducible repeat (first | apply Kd.S_alloc | apply Kd.S_drewN | apply Kd.S_drew)); exact HO332.out) hb); have BK333 := Aside0.mk (hbox); have GW333 := gs_ hg; have GE333 := gs_ hg; replace HB := hbs_ hb; have NB329_333 := Aside0.mk ((by rw [hg]; exact Nat.ne_of_lt (blk_lt (g := gb329) (o := .cells #[.int .i64 a1_0, .int .i64 a1_1, .int .i64 a1_2, .int .i64 a1_3, .int .i64 a1_4, .int .i64 a1_5, .int .i64 a1_6, .int .i64 a1_7, .int .i64 a1_8, .int .i64 a1_9] 56 (0, 0)) (bk_ BK329)) : gb329 ≠ gb333)); have NB333_329 := Aside0.mk ((by rw [hg]; exact Nat.ne_of_gt (blk_lt (g := gb329) (o := .cells #[.int .i64 a1_0, .int .i64 a1_1, .int .i64 a1_2, .int .i64 a1_3, .int .i64 a1_4, .int .i64 a1_5, .int .i64 a1_6, .int .i64 a1_7, .int .i64 a1_8, .int .i64 a1_9] 56 (0, 0)) (bk_ BK329)) : gb333 ≠ gb329)); replace BK329 := bkb_ BK329 hb; clear hb hbox hg; obtain ⟨Ao51, co51, eo51⟩ := Kd.S_slice HO332.out; subst eo51; have hnb52 := NB333_329.out; have hnc52 := NB329_333.out; have hcz53 := blk_cell BK333.out; have hfz53 := blk_frozen BK333.out; have hcz54 := blk_cell BK329.out; have hfz54 := blk_frozen BK329.out) | ((with_reducible refine gate_callee (f := 204) rfl ?_); refine goesC_ (some 52) Try.func204 #[.slice A0 l0.length c0, .agg #[.int .i64 a1_4, .int .i64 a1_5]] ?_; (with_reducible refine (impl_whoOf.calls k _ _ l0 a1_4 a1_5 t348 _ ?side1 ?side2 A46.out).mono ?_); (case side1 => exact Kd.C_below HR0.out bl_); (case side2 => exact HC0.out); rintro e w55 ⟨v349, rfl, ho0, hb⟩; refine ⟨_, rfl, ?_⟩; replace HO332 := Aside0.mk (Kd.S_elder' (by (with_reducible repeat (first | apply Kd.S_alloc | apply Kd.S_drewN | apply Kd.S_drew)); exact (Kd.S_mono (Kd.S_far (p := ⟨gb333, 0, none⟩) (Kd.S_types HO332.out BK333.out (by decide)) (fun _ hk => hk.2) (.slice Ao51 y330.length co51)) (fun _ h_ => h_.1))) (Kd.R_base ho0) hb); have HO350 := Aside0.mk (Kd.R_lower ho0 bls_); replace BK329 := Aside0.mk (blk_below (g := gb329) (o := .cells #[.int .i64 a1_0, .int .i64 a1_1, .int .i64 a1_2, .int .i64 a1_3, .int .i64 a1_4, .int .i64 a1_5, .int .i64 a1_6, .int .i64 a1_7, .int .i64 a1_8, .int .i64 a1_9] 56 (0, 0)) (bk_ BK329) hb); replace BK333 := Aside0.mk (blk_below (g := gb333) (o := .cells #[.slice Ao51 y330.length co51] 190 (0, 0)) (bk_ BK333) hb); replace HB := hbs_ hb; (try clear hb); (try clear hb2); (try clear hk); (try clear hi); (try clear ho0); obtain ⟨Ao56, co56, eo56⟩ := Kd.R_slice HO350.out; subst eo56))
    go_loopg [54] k (fun kq v54 w' => ∃ (x54_1 : Int) (x334000_1 : List (S193)) (u334000 : Value), v54 = .int .i64 x54_1 ∧ Aside0 (impl_derive.l1 kq l0 t348 (t348.length : Int) x54_1 a1_0 a1_1 a1_2 a1_3 a1_4 a1_5 a1_6 a1_7 a1_8 a1_9 x334000_1 = some r) ∧ Aside0 (kq ≤ k) ∧ Aside0 (Kd.R (Kd.int .i64) 3 w' w.heap.size (fun _ => True) (.slice Ao56 t348.length co56) t348) ∧ Aside0 (Kd.S k193 193 w' w.heap.size (fun k_ => some k_ ≠ ((.slice Ao56 t348.length co56) : Value).ownBlock) u334000 x334000_1) ∧ Aside0 (w'.heap[gb329]? = some (.cells #[.int .i64 a1_0, .int .i64 a1_1, .int .i64 a1_2, .int .i64 a1_3, .int .i64 a1_4, .int .i64 a1_5, .int .i64 a1_6, .int .i64 a1_7, .int .i64 a1_8, .int .i64 a1_9] 56 (0, 0))) ∧ Aside0 (w'.heap[gb333]? = some (.cells #[u334000] 190 (0, 0))) ∧ Aside0 (Below w.heap.size w w'))
    case atStart => exact ⟨(0), (y330), (.slice Ao51 y330.length co51), (by first | rfl | (simp; done) | (simp [*]; done)), H', ⟨Nat.le_refl _⟩, ⟨by (with_reducible repeat (first | apply Kd.R_alloc | apply Kd.R_drewN | apply Kd.R_drew)); exact HO350.out⟩, ⟨by (with_reducible repeat (first | apply Kd.S_alloc | apply Kd.S_drewN | apply Kd.S_drew)); exact Kd.S_mono HO332.out (fun _ hk => hk.2)⟩, ⟨bk_ BK329⟩, ⟨bk_ BK333⟩, ⟨bl_⟩⟩
    case round =>
     clear H'
     try clear c1
     try clear c2
     try clear p2
     try clear c3
     try clear c3b0
     try clear c3b1
     try clear p3
     try clear q3
     try clear hx3
     try clear c4
     try clear c5
     try clear p6
     try clear c10
     try clear c16
     try clear c16b0
     try clear c16b1
     try clear c20
     try clear c23
     try clear c28
     try clear c28b0
     try clear c29
     try clear c29b0
     try clear c30
     try clear c30b0
     try clear c31
     try clear c31b0
     try clear c32
     try clear c32b0
     try clear c33
     try clear p34
     try clear q34
     try clear hx34
     try clear c36
     try clear c43
     try clear c45
     try clear c45b0
     try clear c45b1
     try clear c52
     try clear hcz11
     try clear hcz12
     try clear hcz15
     try clear hcz24
     try clear hcz25
     try clear hcz37
     try clear hcz38
     try clear hcz42
     try clear hcz44
     try clear hcz53
     try clear hcz54
     try clear hfz11
     try clear hfz12
     try clear hfz15
     try clear hfz24
     try clear hfz25
     try clear hfz37
     try clear hfz38
     try clear hfz42
     try clear hfz44
     try clear hfz53
     try clear hfz54
     try clear hx340_0
     try clear hx341_0
     try clear hx341_1
     try clear hx341_2
     try clear p2
     try clear p340
     try clear p341
     try clear q340
     try clear q341
     obtain ⟨x54_1, x334000_1, u334000, rfl, HA, HK1, HO_52, HO_334000, BK329, BK333, HB⟩ := hrel
     cases gk with
     | zero => exact absurd HA.out (by simp [impl_derive.l1])
     | succ k1 =>
      have H := HA.out
      clear HA
      simp only [impl_derive.l1] at H
      by_cases c57 : x54_1 < (t348.length : Int)
      ·rw [if_pos c57] at H
       have c57b0 : decide (x54_1 < (t348.length : Int)) = true := decide_eq_true c57
       clear c57
       by_cases c58 : 0 ≤ x54_1
       ·rw [if_pos c58] at H
        have c58b0 : decide (0 ≤ x54_1) = true := decide_eq_true c58
        clear c58
        by_cases c59 : x54_1 < (t348.length : Int)
        ·rw [if_pos c59] at H
         have c59b0 : decide (x54_1 < (t348.length : Int)) = true := decide_eq_true c59
         clear c59
         by_cases c60 : 0 ≤ (rd t348 x54_1)
         ·rw [if_pos c60] at H
          have c60b0 : decide (0 ≤ (rd t348 x54_1)) = true := decide_eq_true c60
          clear c60
          by_cases c61 : (rd t348 x54_1) < (l0.length : Int)
          ·rw [if_pos c61] at H
           have c61b0 : decide ((rd t348 x54_1) < (l0.length : Int)) = true := decide_eq_true c61
           clear c61
           obtain ⟨t353, A62, H⟩ := bindE_ H
           have H' := Aside0.mk H
           clear H
           have p351 : 0 ≤ (x54_1 : Int) := of_decide_eq_true (by first | (with_reducible assumption) | assumption)
           have q351 : x54_1 < (t348.length : Int) := of_decide_eq_true (by first | (with_reducible assumption) | assumption)
           obtain ⟨ad351, e351, hx351_0⟩ := Kd.at_int (Kd.R_reads' HO_52.out).2.2 x54_1 p351 q351
           cases e351
           replace p351 := eq_true p351
           replace q351 := eq_true q351
           try go_wp2
           replace HO_52 := Aside0.mk (Kd.R_drew HO_52.out)
           replace HO_334000 := Aside0.mk (Kd.S_drew HO_334000.out)
           replace BK329 := Aside0.mk (blk_drew BK329.out)
           replace BK333 := Aside0.mk (blk_drew BK333.out)
           replace HB := Aside0.mk (below_drew1 HB.out)
           have p352 : 0 ≤ ((rd t348 x54_1) : Int) := of_decide_eq_true (by first | (with_reducible assumption) | assumption)
           have q352 : (rd t348 x54_1) < (l0.length : Int) := of_decide_eq_true (by first | (with_reducible assumption) | assumption)
           obtain ⟨ad352, e352, hx352_0, hx352_1, hx352_2⟩ := at_T51 HR0.out (rd t348 x54_1) p352 q352
           have hw352_2 := hx352_2
           have hw352_1 := hx352_1
           have hw352_0 := hx352_0
           cases e352
           replace hx352_0 := cb_ HB hx352_0
           replace hx352_1 := cb_ HB hx352_1
           replace hx352_2 := cb_ HB hx352_2
           replace p352 := eq_true p352
           replace q352 := eq_true q352
           refine start_ (n := 13) (S := fun w' => w'.cell? ⟨gb329, 0, none⟩ = some (.int .i64 a1_0) ∧ w'.cell? ⟨gb329, 1, none⟩ = some (.int .i64 a1_1) ∧ w'.cell? ⟨gb329, 2, none⟩ = some (.int .i64 a1_2) ∧ w'.cell? ⟨gb329, 3, none⟩ = some (.int .i64 a1_3) ∧ w'.cell? ⟨gb329, 4, none⟩ = some (.int .i64 a1_4) ∧ w'.cell? ⟨gb329, 5, none⟩ = some (.int .i64 a1_5) ∧ w'.cell? ⟨gb329, 6, none⟩ = some (.int .i64 a1_6) ∧ w'.cell? ⟨gb329, 7, none⟩ = some (.int .i64 a1_7) ∧ w'.cell? ⟨gb329, 8, none⟩ = some (.int .i64 a1_8) ∧ w'.cell? ⟨gb329, 9, none⟩ = some (.int .i64 a1_9) ∧ w'.cell? (ad352.add (((rd t348 x54_1)).toNat * 3)) = some (.int .i64 ((rd_T51 l0 (rd t348 x54_1)).f0.f0)) ∧ w'.cell? ⟨(ad352.add (((rd t348 x54_1)).toNat * 3)).block, (ad352.add (((rd t348 x54_1)).toNat * 3)).off + 1, none⟩ = some (.int .i64 ((rd_T51 l0 (rd t348 x54_1)).f0.f1)) ∧ w'.cell? ⟨(ad352.add (((rd t348 x54_1)).toNat * 3)).block, (ad352.add (((rd t348 x54_1)).toNat * 3)).off + 2, none⟩ = some (.int .i64 ((rd_T51 l0 (rd t348 x54_1)).f1))) (ds := []) #[false, false, false, false, false, false, false, false, false, false, false, false, false] (by kernel_rfl) rfl rfl ⟨(blk_cell BK329.out 0).trans rfl, (blk_cell BK329.out 1).trans rfl, (blk_cell BK329.out 2).trans rfl, (blk_cell BK329.out 3).trans rfl, (blk_cell BK329.out 4).trans rfl, (blk_cell BK329.out 5).trans rfl, (blk_cell BK329.out 6).trans rfl, (blk_cell BK329.out 7).trans rfl, (blk_cell BK329.out 8).trans rfl, (blk_cell BK329.out 9).trans rfl, ((HB.out.cell (World.block_lt_of_cell? w _ hw352_0)).trans hw352_0), ((HB.out.cell (World.block_lt_of_cell? w _ hw352_1)).trans hw352_1), ((HB.out.cell (World.block_lt_of_cell? w _ hw352_2)).trans hw352_2)⟩ (fun hHeld => ?_); refine with_tabW impl_derive.tab16 impl_derive.bits16 (fun HT_ HW_ => ?_)
           generalize wr.drew = w63 at HO_52 HO_334000 BK329 BK333 HB hx352_0 hx352_1 hx352_2 hHeld ⊢
           refine pureZ_ (i := 0) (some 58) #[true, false, false, false, false, false, false, false, false, false, false, false, false] (any_of HT_.out (by kernel_rfl)) ?_
           refine pureZ_ (i := 1) (some 59) #[true, true, false, false, false, false, false, false, false, false, false, false, false] (any_of HT_.out (by kernel_rfl)) ?_
           refine pureZ_ (i := 2) (some 60) #[true, true, true, false, false, false, false, false, false, false, false, false, false] (any_of HT_.out (by kernel_rfl)) ?_
           refine pureZ_ (i := 3) (some 61) #[true, true, true, true, false, false, false, false, false, false, false, false, false] (any_of HT_.out (by kernel_rfl)) ?_
           refine pureZ_ (i := 4) (some 62) #[true, true, true, true, true, false, false, false, false, false, false, false, false] (any_of HT_.out (by kernel_rfl)) ?_
           refine pureZ_ (i := 6) (some 64) #[true, true, true, true, true, false, true, false, false, false, false, false, false] (any_of HT_.out (by kernel_rfl)) ?_
           refine pureZ_ (i := 7) (some 65) #[true, true, true, true, true, false, true, true, false, false, false, false, false] (any_of HT_.out (by kernel_rfl)) ?_
           refine pureZ_ (i := 12) (some 70) #[true, true, true, true, true, false, true, true, false, false, false, false, true] (any_of HT_.out (by kernel_rfl)) ?_
           refine takeZ_ (i := 5) (some 63) #[true, true, true, true, true, true, true, true, false, false, false, false, true] (take_ofW HT_.out HW_.out (by kernel_rfl)) hHeld ?_
           refine takeZ_ (i := 8) (some 66) #[true, true, true, true, true, true, true, true, true, false, false, false, true] (take_ofW HT_.out HW_.out (by kernel_rfl)) hHeld ?_
           refine pureZ_ (i := 9) (some 67) #[true, true, true, true, true, true, true, true, true, true, false, false, true] (any_of HT_.out (by kernel_rfl)) ?_
           refine one_ (i := 10) (N := some 68) #[true, true, true, true, true, true, true, true, true, true, true, false, true] rfl rfl (one_of HT_.out (by kernel_rfl)) (by decide) (fun K hK => ?_)
           refine goes_ Try.func204 (by kernel_rfl) rfl #[.slice (some ad352) l0.length c0, .agg #[.int .i64 ((rd_T51 l0 (rd t348 x54_1)).f1), .int .i64 a1_7]] (by rfl) rfl rfl (by (try simp only [List.map_toArray, List.map_cons, List.map_nil]); first | done | rfl | (simp only [List.length_drop, List.length_take]; rfl)) ?_
           with_reducible refine (impl_whoOf.calls k1 _ _ l0 ((rd_T51 l0 (rd t348 x54_1)).f1) a1_7 t353 _ ?side1 ?side2 A62.out).mono ?_
           (case side1 => repeat (first | exact (Kd.C_below HR0.out HB.out) | (with_reducible refine Kd.C_alloc ?_ _) | (with_reducible refine Kd.C_drewN ?_ _) | (with_reducible refine Kd.C_drew ?_)))
           (case side2 => exact HC0.out)
           rintro e w64 ⟨v354, rfl, ho0, hb⟩
           refine ⟨_, rfl, ?_⟩
           replace HO_334000 := Aside0.mk (Kd.S_elder' (by (with_reducible repeat (first | apply Kd.S_alloc | apply Kd.S_drewN | apply Kd.S_drew)); exact HO_334000.out) (Kd.R_base ho0) hb)
           have HO355 := Aside0.mk (Kd.R_lower (Kd.R_new' ho0 (Kd.R_lt (by (with_reducible repeat (first | apply Kd.R_alloc | apply Kd.R_drewN | apply Kd.R_drew)); exact HO_52.out))) bls_)
           replace HO_52 := Aside0.mk (Kd.R_elder' (by (with_reducible repeat (first | apply Kd.R_alloc | apply Kd.R_drewN | apply Kd.R_drew)); exact HO_52.out) (Kd.R_base ho0) hb)
           replace BK329 := bkb_ BK329 hb
           replace BK333 := bkb_ BK333 hb
           replace HB := hbs_ hb
           (try clear hb)
           (try clear hb2)
           (try clear hk)
           (try clear hi)
           (try clear ho0)
           obtain ⟨Ao65, co65, eo65⟩ := Kd.R_slice HO355.out
           (first | subst eo65 | (injection eo65 with f1_ f2_ f3_; have f4_ := f1_.symm; have f5_ := f3_.symm; clear f1_ f2_ f3_; subst f4_; subst f5_))
           refine hK.out _ _ ⟨(blk_cell BK329.out 0).trans rfl, (blk_cell BK329.out 1).trans rfl, (blk_cell BK329.out 2).trans rfl, (blk_cell BK329.out 3).trans rfl, (blk_cell BK329.out 4).trans rfl, (blk_cell BK329.out 5).trans rfl, (blk_cell BK329.out 6).trans rfl, (blk_cell BK329.out 7).trans rfl, (blk_cell BK329.out 8).trans rfl, (blk_cell BK329.out 9).trans rfl, ((HB.out.cell (World.block_lt_of_cell? w _ hw352_0)).trans hw352_0), ((HB.out.cell (World.block_lt_of_cell? w _ hw352_1)).trans hw352_1), ((HB.out.cell (World.block_lt_of_cell? w _ hw352_2)).trans hw352_2)⟩ (fun hHeld => ?_)
           clear hK K
           refine norm_ (a' := ?_) ?_ ?_
           rotate_left
           ·show Act.put _ (some 68) _ = _
            simp only [Act.put, List.setIfInBounds_toArray, List.set_cons_zero, List.set_cons_succ, i64_w, i32_w]
            rfl
           refine pureZ_ (i := 11) (some 69) #[true, true, true, true, true, true, true, true, true, true, true, true, true] (any_of HT_.out (by kernel_rfl)) ?_
           refine done_ (done_of HT_.out (by kernel_rfl)) ?_
           try go_wp2
           go_loopg [70] k1 (fun kq v70 w' => ∃ (x70_2 : Int) (x334000_2 : List (S193)) (u334000 : Value), v70 = .int .i64 x70_2 ∧ Aside0 (impl_derive.l2 kq l0 (rd t348 x54_1) t348 (t348.length : Int) x54_1 t353 (t353.length : Int) x70_2 a1_0 a1_1 a1_2 a1_3 a1_4 a1_5 a1_6 a1_7 a1_8 a1_9 x334000_2 = some r) ∧ Aside0 (kq ≤ k1) ∧ Aside0 (Kd.R (Kd.int .i64) 3 w' w.heap.size (fun k_ => some k_ ≠ ((.slice Ao65 t353.length co65) : Value).ownBlock) (.slice (some ad351) t348.length co56) t348) ∧ Aside0 (Kd.R (Kd.int .i64) 3 w' w.heap.size (fun k_ => some k_ ≠ ((.slice (some ad351) t348.length co56) : Value).ownBlock) (.slice Ao65 t353.length co65) t353) ∧ Aside0 (Kd.S k193 193 w' w.heap.size (fun k_ => some k_ ≠ ((.slice (some ad351) t348.length co56) : Value).ownBlock ∧ some k_ ≠ ((.slice Ao65 t353.length co65) : Value).ownBlock) u334000 x334000_2) ∧ Aside0 (w'.heap[gb329]? = some (.cells #[.int .i64 a1_0, .int .i64 a1_1, .int .i64 a1_2, .int .i64 a1_3, .int .i64 a1_4, .int .i64 a1_5, .int .i64 a1_6, .int .i64 a1_7, .int .i64 a1_8, .int .i64 a1_9] 56 (0, 0))) ∧ Aside0 (w'.heap[gb333]? = some (.cells #[u334000] 190 (0, 0))) ∧ Aside0 (Below w.heap.size w w'))
           case atStart => exact ⟨(0), (x334000_1), (u334000), (by first | rfl | (simp; done) | (simp [*]; done)), H', ⟨Nat.le_refl _⟩, ⟨by (with_reducible repeat (first | apply Kd.R_alloc | apply Kd.R_drewN | apply Kd.R_drew)); exact Kd.R_mono HO_52.out (fun _ hk => hk.2)⟩, ⟨by (with_reducible repeat (first | apply Kd.R_alloc | apply Kd.R_drewN | apply Kd.R_drew)); exact Kd.R_mono HO355.out (fun _ hk => hk.2)⟩, ⟨by (with_reducible repeat (first | apply Kd.S_alloc | apply Kd.S_drewN | apply Kd.S_drew)); exact HO_334000.out⟩, ⟨bk_ BK329⟩, ⟨bk_ BK333⟩, ⟨bl_⟩⟩
           case round =>
            clear H'
            try clear c1
            try clear c2
            try clear p2
            try clear c3
            try clear c3b0
            try clear c3b1
            try clear p3
            try clear q3
            try clear hx3
            try clear c4
            try clear c5
            try clear c6
            try clear p6
            try clear c10
            try clear c16
            try clear c16b0
            try clear c16b1
            try clear c20
            try clear c23
            try clear c28
            try clear c28b0
            try clear c29
            try clear c29b0
            try clear c30
            try clear c30b0
            try clear c31
            try clear c31b0
            try clear c32
            try clear c32b0
            try clear c33
            try clear p34
            try clear q34
            try clear hx34
            try clear p35
            try clear q35
            try clear hx35
            try clear c36
            try clear c43
            try clear c45
            try clear c45b0
            try clear c45b1
            try clear c52
            try clear c57
            try clear c57b0
            try clear c58
            try clear c58b0
            try clear c59
            try clear c59b0
            try clear c60
            try clear c60b0
            try clear c61
            try clear c61b0
            try clear p64
            try clear hcz11
            try clear hcz12
            try clear hcz15
            try clear hcz24
            try clear hcz25
            try clear hcz37
            try clear hcz38
            try clear hcz42
            try clear hcz44
            try clear hcz53
            try clear hcz54
            try clear hfz11
            try clear hfz12
            try clear hfz15
            try clear hfz24
            try clear hfz25
            try clear hfz37
            try clear hfz38
            try clear hfz42
            try clear hfz44
            try clear hfz53
            try clear hfz54
            try clear hx340_0
            try clear hx341_0
            try clear hx341_1
            try clear hx341_2
            try clear hx351_0
            try clear hx352_0
            try clear hx352_1
            try clear hx352_2
            try clear p2
            try clear p3
            try clear p34
            try clear p340
            try clear p341
            try clear p351
            try clear p352
            try clear p6
            try clear q3
            try clear q34
            try clear q340
            try clear q341
            try clear q351
            try clear q352
            obtain ⟨x70_2, x334000_2, u334000, rfl, HA, HK2, HO_52, HO_68, HO_334000, BK329, BK333, HB⟩ := hrel
            cases gk with
            | zero => exact absurd HA.out (by simp [impl_derive.l2])
            | succ k2 =>
             have H := HA.out
             clear HA
             simp only [impl_derive.l2] at H
             by_cases c66 : x70_2 < (t353.length : Int)
             ·rw [if_pos c66] at H
              have c66b0 : decide (x70_2 < (t353.length : Int)) = true := decide_eq_true c66
              clear c66
              by_cases c67 : 0 ≤ x70_2
              ·rw [if_pos c67] at H
               have c67b0 : decide (0 ≤ x70_2) = true := decide_eq_true c67
               clear c67
               by_cases c68 : x70_2 < (t353.length : Int)
               ·rw [if_pos c68] at H
                have c68b0 : decide (x70_2 < (t353.length : Int)) = true := decide_eq_true c68
                clear c68
                by_cases c69 : 0 ≤ (rd t353 x70_2)
                ·rw [if_pos c69] at H
                 have c69b0 : decide (0 ≤ (rd t353 x70_2)) = true := decide_eq_true c69
                 clear c69
                 by_cases c70 : (rd t353 x70_2) < (l0.length : Int)
                 ·rw [if_pos c70] at H
                  have c70b0 : decide ((rd t353 x70_2) < (l0.length : Int)) = true := decide_eq_true c70
                  clear c70
                  obtain ⟨y358, hy358⟩ : ∃ y_ : List Int, y_ = (([(rd t348 x54_1), rd t353 x70_2] : List Int)) := ⟨_, rfl⟩
                  replace H : (if x334000_2.length < 2932031007402 then (impl_derive.l2 k2 l0 (rd t348 x54_1) t348 (t348.length : Int) x54_1 t353 (t353.length : Int) (wrap64 (x70_2 + 1)) a1_0 a1_1 a1_2 a1_3 a1_4 a1_5 a1_6 a1_7 a1_8 a1_9 (x334000_2 ++ [(⟨(⟨(⟨a1_1, a1_2⟩ : S49), (rd_T51 l0 (rd t353 x70_2)).f1⟩ : S51), y358⟩ : S193)])) else (none)) = some r := by first | (rw [hy358]; with_reducible exact H) | (have H2_ := (Option.bind_some _ _).symm.trans H; rw [hy358]; with_reducible exact H2_) | (have H2_ := (Option.bind_some _ _).symm.trans H; with_reducible exact H2_) | with_reducible exact H | (rw [hy358]; exact H) | exact H
                  have Ny358 := Aside0.mk hy358
                  clear hy358
                  by_cases c71 : x334000_2.length < 2932031007402
                  ·rw [if_pos c71] at H
                   have LMc71 := Aside0.mk c71
                   clear c71
                   obtain ⟨y361, hy361⟩ : ∃ y_ : List (S193), y_ = (x334000_2 ++ [(⟨(⟨(⟨a1_1, a1_2⟩ : S49), (rd_T51 l0 (rd t353 x70_2)).f1⟩ : S51), y358⟩ : S193)]) := ⟨_, rfl⟩
                   replace H : (impl_derive.l2 k2 l0 (rd t348 x54_1) t348 (t348.length : Int) x54_1 t353 (t353.length : Int) (wrap64 (x70_2 + 1)) a1_0 a1_1 a1_2 a1_3 a1_4 a1_5 a1_6 a1_7 a1_8 a1_9 y361) = some r := by first | (rw [hy361]; with_reducible exact H) | (have H2_ := (Option.bind_some _ _).symm.trans H; rw [hy361]; with_reducible exact H2_) | (have H2_ := (Option.bind_some _ _).symm.trans H; with_reducible exact H2_) | with_reducible exact H | (rw [hy361]; exact H) | exact H
                   have Ny361 := Aside0.mk hy361
                   clear hy361
                   have H' := Aside0.mk H
                   clear H
                   have p356 : 0 ≤ (x70_2 : Int) := of_decide_eq_true (by first | (with_reducible assumption) | assumption)
                   have q356 : x70_2 < (t353.length : Int) := of_decide_eq_true (by first | (with_reducible assumption) | assumption)
                   obtain ⟨ad356, e356, hx356_0⟩ := Kd.at_int (Kd.R_reads' HO_68.out).2.2 x70_2 p356 q356
                   cases e356
                   replace p356 := eq_true p356
                   replace q356 := eq_true q356
                   have p357 : 0 ≤ ((rd t353 x70_2) : Int) := of_decide_eq_true (by first | (with_reducible assumption) | assumption)
                   have q357 : (rd t353 x70_2) < (l0.length : Int) := of_decide_eq_true (by first | (with_reducible assumption) | assumption)
                   obtain ⟨ad357, e357, hx357_0, hx357_1, hx357_2⟩ := at_T51 HR0.out (rd t353 x70_2) p357 q357
                   obtain rfl : ad352 = ad357 := (by injection e357)
                   replace hx357_0 := cb_ HB hx357_0
                   replace hx357_1 := cb_ HB hx357_1
                   replace hx357_2 := cb_ HB hx357_2
                   replace p357 := eq_true p357
                   replace q357 := eq_true q357
                   go_wp2_with (first | (go_at_call 203; go_in) | (go_end0; simp only []; go_at_K) | ((with_reducible refine gate_dst (N := 82) rfl ?_); refine Kd.R_lit (Kd.int .i64) _ 3 ?hg (N := 82) ?hd (xs := ([(rd t348 x54_1), rd t353 x70_2] : List Int)) (inner := [.int .i64 (rd t348 x54_1), .int .i64 (rd t353 x70_2)]) (ok := fun _ => True) (okp := fun _ => True) ?hr ?hp (fun _ hk => hk) trivial (Below.refl _ _) (Nat.le_refl _) (by simp) ?_; (case hd => rfl); (case hg => rfl); (case hr => first | (go_simp; done) | (go_simp; rfl)); (case hp => exact (Reps.one (show Kd.M (Kd.int .i64) _ _ _ (rd t348 x54_1) [.int .i64 (rd t348 x54_1)] from rfl) (Reps.one (show Kd.M (Kd.int .i64) _ _ _ (rd t353 x70_2) [.int .i64 (rd t353 x70_2)] from rfl) (Reps.none _ _)))); intro v359 w72 ho73 hb hg_ hnew_; clear hg_ hnew_; (first | rw [← Ny358.out] at ho73 | (simp only [Int.reduceToNat] at ho73; rw [← Ny358.out] at ho73)); replace HO_334000 := Aside0.mk (Kd.S_elder' (by (with_reducible repeat (first | apply Kd.S_alloc | apply Kd.S_drewN | apply Kd.S_drew)); exact HO_334000.out) (Kd.R_base ho73) hb); have HO360 := Aside0.mk (Kd.R_lower (Kd.R_new' (Kd.R_new' ho73 (Kd.R_lt (by (with_reducible repeat (first | apply Kd.R_alloc | apply Kd.R_drewN | apply Kd.R_drew)); exact HO_52.out))) (Kd.R_lt (by (with_reducible repeat (first | apply Kd.R_alloc | apply Kd.R_drewN | apply Kd.R_drew)); exact HO_68.out))) bls_); replace HO_52 := Aside0.mk (Kd.R_elder' (by (with_reducible repeat (first | apply Kd.R_alloc | apply Kd.R_drewN | apply Kd.R_drew)); exact HO_52.out) (Kd.R_base ho73) hb); replace HO_68 := Aside0.mk (Kd.R_elder' (by (with_reducible repeat (first | apply Kd.R_alloc | apply Kd.R_drewN | apply Kd.R_drew)); exact HO_68.out) (Kd.R_base ho73) hb); replace BK329 := bkb_ BK329 hb; replace BK333 := bkb_ BK333 hb; replace HB := hbs_ hb; clear hb ho73; have hnb74 := NB333_329.out; have hnc74 := NB329_333.out; have hcz75 := blk_cell BK333.out; have hfz75 := blk_frozen BK333.out; have hcz76 := blk_cell BK329.out; have hfz76 := blk_frozen BK329.out; obtain ⟨Ao77, co77, eo77⟩ := Kd.R_slice HO360.out; subst eo77) | ((with_reducible refine gate_builtin (b := .append) (xs := #[.tmp 6, .tmp 13]) rfl ?_); at_builtin; refine Kd.S_append k193 (w0 := w) w.heap.size rfl (.tmp 6) (.tmp 13) 190 193 (.agg #[(.int .i64 0), (.int .i64 0), (.int .i64 0), (.slice none 0 0)]) 48 rfl Try.underlying190 info193 rfl (by decide) (by omega) u334000 x334000_2 (⟨(⟨(⟨a1_1, a1_2⟩ : S49), (rd_T51 l0 (rd t353 x70_2)).f1⟩ : S51), y358⟩ : S193) [.int .i64 a1_1, .int .i64 a1_2, .int .i64 ((rd_T51 l0 (rd t353 x70_2)).f1), .slice Ao77 y358.length co77] (fun k_ => some k_ ≠ (.slice (some ad351) t348.length co56 : Value).ownBlock ∧ some k_ ≠ (.slice (some ad356) t353.length co65 : Value).ownBlock) (fun k_ => some k_ = (.slice Ao77 y358.length co77 : Value).ownBlock) rfl rfl ?aP (fun k_ hk_ => ((Kd.R_mono (ok' := fun k_ => ((fun k_ => some k_ ≠ (.slice (some ad351) t348.length co56 : Value).ownBlock ∧ some k_ ≠ (.slice (some ad356) t353.length co65 : Value).ownBlock)) k_ ∧ some k_ ≠ (u334000 : Value).ownBlock) (Kd.R_apart' (HO360.out) (Kd.S_typed HO_334000.out) (by decide)) (fun k_ hk => ⟨⟨hk.1.1.2, hk.1.2⟩, hk.2⟩))).1 k_ hk_.symm) ?aF ?aO ?aB ?aS ?aL ?_; (case aP => exact k193_mkM _ _ _ (⟨(⟨(⟨a1_1, a1_2⟩ : S49), (rd_T51 l0 (rd t353 x70_2)).f1⟩ : S51), y358⟩ : S193) (Kd.R_mono (Kd.R_tight rfl (Kd.R_mono (ok' := fun k_ => ((fun k_ => some k_ ≠ (.slice (some ad351) t348.length co56 : Value).ownBlock ∧ some k_ ≠ (.slice (some ad356) t353.length co65 : Value).ownBlock)) k_ ∧ some k_ ≠ (u334000 : Value).ownBlock) (Kd.R_apart' (HO360.out) (Kd.S_typed HO_334000.out) (by decide)) (fun k_ hk => ⟨⟨hk.1.1.2, hk.1.2⟩, hk.2⟩))) (fun _ h_ => h_))); (case aB => exact bl_); (case aF => exact (fun k_ hk => ⟨Kd.fresh' (Kd.R_lt (by (with_reducible repeat (first | apply Kd.R_alloc | apply Kd.R_drewN | apply Kd.R_drew)); exact HO_52.out)) k_ hk, Kd.fresh' (Kd.R_lt (by (with_reducible repeat (first | apply Kd.R_alloc | apply Kd.R_drewN | apply Kd.R_drew)); exact HO_68.out)) k_ hk⟩)); (case aO => exact (by (with_reducible repeat (first | apply Kd.S_alloc | apply Kd.S_drewN | apply Kd.S_drew)); exact Kd.S_mono HO_334000.out (fun k_ hk => ⟨⟨hk.1.1, hk.1.2⟩, fun e_ => hk.2 e_⟩))); (case aS => exact bls_); (case aL => have := LMc71.out; omega); intro v362 w78 ho hb hg hat; rw [← Ny361.out] at ho; replace HO_52 := Aside0.mk (Kd.R_over' (by (with_reducible repeat (first | apply Kd.R_alloc | apply Kd.R_drewN | apply Kd.R_drew)); exact HO_52.out) (Kd.S_typed (by (with_reducible repeat (first | apply Kd.S_alloc | apply Kd.S_drewN | apply Kd.S_drew)); exact HO_334000.out)) (by decide) hg); replace HO_68 := Aside0.mk (Kd.R_over' (by (with_reducible repeat (first | apply Kd.R_alloc | apply Kd.R_drewN | apply Kd.R_drew)); exact HO_68.out) (Kd.S_typed (by (with_reducible repeat (first | apply Kd.S_alloc | apply Kd.S_drewN | apply Kd.S_drew)); exact HO_334000.out)) (by decide) hg); replace BK329 := Aside0.mk (blk_grown (g := gb329) (o := .cells #[.int .i64 a1_0, .int .i64 a1_1, .int .i64 a1_2, .int .i64 a1_3, .int .i64 a1_4, .int .i64 a1_5, .int .i64 a1_6, .int .i64 a1_7, .int .i64 a1_8, .int .i64 a1_9] 56 (0, 0)) (bk_ BK329) hg (Kd.S_ne HO_334000.out BK329.out (by decide))); replace BK333 := Aside0.mk (blk_grown (g := gb333) (o := .cells #[u334000] 190 (0, 0)) (bk_ BK333) hg (Kd.S_ne HO_334000.out BK333.out (by decide))); replace HB := Aside0.mk (hb); have HO363 := Aside0.mk (ho); clear HO_334000; clear HO360; clear ho hb hg hat; obtain ⟨Ao79, co79, eo79⟩ := Kd.S_slice HO363.out; subst eo79; have hcz80 := blk_cell BK333.out; have hfz80 := blk_frozen BK333.out))
                   go_roundg k2
                   case measure => have := HK1.out; have := HK2.out; omega
                   case rel => exact ⟨(wrap64 (x70_2 + 1)), (y361), (.slice Ao79 y361.length co79), (by first | rfl | (simp; done) | (simp [*]; done)), H', ⟨by have := HK1.out; have := HK2.out; omega⟩, ⟨by (with_reducible repeat (first | apply Kd.R_alloc | apply Kd.R_drewN | apply Kd.R_drew)); exact Kd.R_mono (Kd.R_far (p := ⟨gb333, 0, none⟩) (Kd.R_types HO_52.out BK333.out (by decide)) (fun _ hk => hk.2) (.slice Ao79 y361.length co79)) (fun _ hk => hk.1.1)⟩, ⟨by (with_reducible repeat (first | apply Kd.R_alloc | apply Kd.R_drewN | apply Kd.R_drew)); exact Kd.R_mono (Kd.R_far (p := ⟨gb333, 0, none⟩) (Kd.R_types HO_68.out BK333.out (by decide)) (fun _ hk => hk.2) (.slice Ao79 y361.length co79)) (fun _ hk => hk.1.1)⟩, ⟨by (with_reducible repeat (first | apply Kd.S_alloc | apply Kd.S_drewN | apply Kd.S_drew)); exact Kd.S_mono (Kd.S_far (p := ⟨gb333, 0, none⟩) (Kd.S_types HO363.out BK333.out (by decide)) (fun _ hk => hk.2) (.slice Ao79 y361.length co79)) (fun _ hk => ⟨hk.1.1, hk.1.2⟩)⟩, ⟨bk_ BK329⟩, ⟨bk_ BK333⟩, ⟨bl_⟩⟩
                  ·rw [if_neg c71] at H
                   exact absurd H (by simp)
                 ·rw [if_neg c70] at H
                  exact absurd H (by simp)
                ·rw [if_neg c69] at H
                 exact absurd H (by simp)
               ·rw [if_neg c68] at H
                exact absurd H (by simp)
              ·rw [if_neg c67] at H
               exact absurd H (by simp)
             ·rw [if_neg c66] at H
              have c66b0 : decide (x70_2 < (t353.length : Int)) = false := decide_eq_false c66
              clear c66
              have H' := Aside0.mk H
              clear H
              go_wp2
              go_roundg k2
              case measure => have := HK1.out; have := HK2.out; omega
              case rel => exact ⟨(wrap64 (x54_1 + 1)), (x334000_2), (u334000), (by first | rfl | (simp; done) | (simp [*]; done)), H', ⟨by have := HK1.out; have := HK2.out; omega⟩, ⟨by (with_reducible repeat (first | apply Kd.R_alloc | apply Kd.R_drewN | apply Kd.R_drew)); exact Kd.R_mono HO_52.out (fun _ hk => trivial)⟩, ⟨by (with_reducible repeat (first | apply Kd.S_alloc | apply Kd.S_drewN | apply Kd.S_drew)); exact Kd.S_mono HO_334000.out (fun _ hk => hk.1)⟩, ⟨bk_ BK329⟩, ⟨bk_ BK333⟩, ⟨bl_⟩⟩
          ·rw [if_neg c61] at H
           exact absurd H (by simp)
         ·rw [if_neg c60] at H
          exact absurd H (by simp)
        ·rw [if_neg c59] at H
         exact absurd H (by simp)
       ·rw [if_neg c58] at H
        exact absurd H (by simp)
      ·rw [if_neg c57] at H
       have c57b0 : decide (x54_1 < (t348.length : Int)) = false := decide_eq_false c57
       clear c57
       obtain rfl := Option.some.inj H
       have hnb81 := NB333_329.out
       have hnc81 := NB329_333.out
       have hcz82 := blk_cell BK333.out
       have hfz82 := blk_frozen BK333.out
       go_wp2
       go_ret
       exact ⟨_, eq_, by (with_reducible repeat (first | apply Kd.S_alloc | apply Kd.S_drewN | apply Kd.S_drew)); exact Kd.S_mono HO_334000.out (fun _ hk => trivial), bl_⟩
   ·rw [if_neg c45] at H
    have c45b0 : (a1_0 == 3) = false := beq_eq_false_iff_ne.mpr c45
    have c45b1 : (a1_0 != 3) = true := bne_iff_ne.mpr c45
    by_cases c83 : a1_0 = 4
    ·rw [if_pos c83] at H
     have c83b0 : (a1_0 == 4) = true := beq_iff_eq.mpr c83
     have c83b1 : (a1_0 != 4) = false := bne_eq_false_iff_eq.mpr c83
     clear c83
     obtain ⟨t364, A84, H⟩ := bindE_ H
     have H' := Aside0.mk H
     clear H
     go_enter Try.func169, Try.ntmps169
     go_wp2_with (first | (go_at_call 203; go_in) | (go_end0; simp only []; go_at_K) | ((with_reducible refine gate_dst (N := 3) rfl ?_); refine box_event ?hg (N := 3) ?hd (cs := #[.int .i64 a1_0, .int .i64 a1_1, .int .i64 a1_2, .int .i64 a1_3, .int .i64 a1_4, .int .i64 a1_5, .int .i64 a1_6, .int .i64 a1_7, .int .i64 a1_8, .int .i64 a1_9]) (t := 56) ?hr ?_; (case hd => rfl); (case hg => rfl); (case hr => first | (go_simp; done) | (go_simp; rfl)); intro gb329 hg w85 hbox hb; have BK329 := Aside0.mk (hbox); have GW329 := gs_ hg; have GE329 := gs_ hg; replace HB := hbs_ hb; clear hb hbox hg) | ((with_reducible refine gate_dst (N := 16) rfl ?_); refine Kd.S_lit k193 _ 193 ?hg (N := 16) ?hd (xs := ([] : List (S193))) (inner := []) (ok := fun _ => True) (okp := fun _ => True) ?hr ?hp (fun _ hk => hk) trivial (Below.refl _ _) (Nat.le_refl _) (by simp) ?_; (case hd => rfl); (case hg => rfl); (case hr => first | (go_simp; done) | (go_simp; rfl)); (case hp => exact (Reps.none _ _)); intro v331 w86 ho87 hb hg_ hnew_; clear hg_ hnew_; (first | rw [← Ny330.out] at ho87 | (simp only [Int.reduceToNat] at ho87; rw [← Ny330.out] at ho87)); have HO332 := Aside0.mk (Kd.S_lower ho87 bls_); replace BK329 := bkb_ BK329 hb; replace HB := hbs_ hb; clear hb ho87) | ((with_reducible refine gate_dst (N := 5) rfl ?_); refine box_event ?hg (N := 5) ?hd (cs := #[.slice none 0 0]) (t := 190) ?hr ?_; (case hd => rfl); (case hg => rfl); (case hr => first | (go_simp; done) | (go_simp; rfl)); intro gb333 hg w88 hbox hb; replace HO332 := Aside0.mk (Kd.S_below (by (with_reducible repeat (first | apply Kd.S_alloc | apply Kd.S_drewN | apply Kd.S_drew)); exact HO332.out) hb); have BK333 := Aside0.mk (hbox); have GW333 := gs_ hg; have GE333 := gs_ hg; replace HB := hbs_ hb; have NB329_333 := Aside0.mk ((by rw [hg]; exact Nat.ne_of_lt (blk_lt (g := gb329) (o := .cells #[.int .i64 a1_0, .int .i64 a1_1, .int .i64 a1_2, .int .i64 a1_3, .int .i64 a1_4, .int .i64 a1_5, .int .i64 a1_6, .int .i64 a1_7, .int .i64 a1_8, .int .i64 a1_9] 56 (0, 0)) (bk_ BK329)) : gb329 ≠ gb333)); have NB333_329 := Aside0.mk ((by rw [hg]; exact Nat.ne_of_gt (blk_lt (g := gb329) (o := .cells #[.int .i64 a1_0, .int .i64 a1_1, .int .i64 a1_2, .int .i64 a1_3, .int .i64 a1_4, .int .i64 a1_5, .int .i64 a1_6, .int .i64 a1_7, .int .i64 a1_8, .int .i64 a1_9] 56 (0, 0)) (bk_ BK329)) : gb333 ≠ gb329)); replace BK329 := bkb_ BK329 hb; clear hb hbox hg; obtain ⟨Ao89, co89, eo89⟩ := Kd.S_slice HO332.out; subst eo89; have hnb90 := NB333_329.out; have hnc90 := NB329_333.out; have hcz91 := blk_cell BK333.out; have hfz91 := blk_frozen BK333.out; have hcz92 := blk_cell BK329.out; have hfz92 := blk_frozen BK329.out) | ((with_reducible refine gate_callee (f := 204) rfl ?_); refine goesC_ (some 91) Try.func204 #[.slice A0 l0.length c0, .agg #[.int .i64 a1_4, .int .i64 a1_5]] ?_; (with_reducible refine (impl_whoOf.calls k _ _ l0 a1_4 a1_5 t364 _ ?side1 ?side2 A84.out).mono ?_); (case side1 => exact Kd.C_below HR0.out bl_); (case side2 => exact HC0.out); rintro e w93 ⟨v365, rfl, ho0, hb⟩; refine ⟨_, rfl, ?_⟩; replace HO332 := Aside0.mk (Kd.S_elder' (by (with_reducible repeat (first | apply Kd.S_alloc | apply Kd.S_drewN | apply Kd.S_drew)); exact (Kd.S_mono (Kd.S_far (p := ⟨gb333, 0, none⟩) (Kd.S_types HO332.out BK333.out (by decide)) (fun _ hk => hk.2) (.slice Ao89 y330.length co89)) (fun _ h_ => h_.1))) (Kd.R_base ho0) hb); have HO366 := Aside0.mk (Kd.R_lower ho0 bls_); replace BK329 := Aside0.mk (blk_below (g := gb329) (o := .cells #[.int .i64 a1_0, .int .i64 a1_1, .int .i64 a1_2, .int .i64 a1_3, .int .i64 a1_4, .int .i64 a1_5, .int .i64 a1_6, .int .i64 a1_7, .int .i64 a1_8, .int .i64 a1_9] 56 (0, 0)) (bk_ BK329) hb); replace BK333 := Aside0.mk (blk_below (g := gb333) (o := .cells #[.slice Ao89 y330.length co89] 190 (0, 0)) (bk_ BK333) hb); replace HB := hbs_ hb; (try clear hb); (try clear hb2); (try clear hk); (try clear hi); (try clear ho0); obtain ⟨Ao94, co94, eo94⟩ := Kd.R_slice HO366.out; subst eo94))
     go_loopg [93] k (fun kq v93 w' => ∃ (x93_1 : Int) (x334000_1 : List (S193)) (u334000 : Value), v93 = .int .i64 x93_1 ∧ Aside0 (impl_derive.l3 kq l0 t364 (t364.length : Int) x93_1 a1_0 a1_1 a1_2 a1_3 a1_4 a1_5 a1_6 a1_7 a1_8 a1_9 x334000_1 = some r) ∧ Aside0 (kq ≤ k) ∧ Aside0 (Kd.R (Kd.int .i64) 3 w' w.heap.size (fun _ => True) (.slice Ao94 t364.length co94) t364) ∧ Aside0 (Kd.S k193 193 w' w.heap.size (fun k_ => some k_ ≠ ((.slice Ao94 t364.length co94) : Value).ownBlock) u334000 x334000_1) ∧ Aside0 (w'.heap[gb329]? = some (.cells #[.int .i64 a1_0, .int .i64 a1_1, .int .i64 a1_2, .int .i64 a1_3, .int .i64 a1_4, .int .i64 a1_5, .int .i64 a1_6, .int .i64 a1_7, .int .i64 a1_8, .int .i64 a1_9] 56 (0, 0))) ∧ Aside0 (w'.heap[gb333]? = some (.cells #[u334000] 190 (0, 0))) ∧ Aside0 (Below w.heap.size w w'))
     case atStart => exact ⟨(0), (y330), (.slice Ao89 y330.length co89), (by first | rfl | (simp; done) | (simp [*]; done)), H', ⟨Nat.le_refl _⟩, ⟨by (with_reducible repeat (first | apply Kd.R_alloc | apply Kd.R_drewN | apply Kd.R_drew)); exact HO366.out⟩, ⟨by (with_reducible repeat (first | apply Kd.S_alloc | apply Kd.S_drewN | apply Kd.S_drew)); exact Kd.S_mono HO332.out (fun _ hk => hk.2)⟩, ⟨bk_ BK329⟩, ⟨bk_ BK333⟩, ⟨bl_⟩⟩
     case round =>
      clear H'
      try clear c1
      try clear c2
      try clear p2
      try clear c3
      try clear c3b0
      try clear c3b1
      try clear p3
      try clear q3
      try clear hx3
      try clear c4
      try clear c5
      try clear c6
      try clear p6
      try clear c7
      try clear c8
      try clear c9
      try clear c10
      try clear c16
      try clear c16b0
      try clear c16b1
      try clear c20
      try clear c23
      try clear c28
      try clear c28b0
      try clear c29
      try clear c29b0
      try clear c30
      try clear c30b0
      try clear c31
      try clear c31b0
      try clear c32
      try clear c32b0
      try clear c33
      try clear p34
      try clear q34
      try clear hx34
      try clear p35
      try clear q35
      try clear hx35
      try clear c36
      try clear c43
      try clear c45
      try clear c45b0
      try clear c45b1
      try clear c52
      try clear c57
      try clear c57b0
      try clear c58
      try clear c58b0
      try clear c59
      try clear c59b0
      try clear c60
      try clear c60b0
      try clear c61
      try clear c61b0
      try clear p64
      try clear c66
      try clear c66b0
      try clear c67
      try clear c67b0
      try clear c68
      try clear c68b0
      try clear c69
      try clear c69b0
      try clear c70
      try clear c70b0
      try clear c71
      try clear c74
      try clear c81
      try clear c83
      try clear c83b0
      try clear c83b1
      try clear c90
      try clear hcz11
      try clear hcz12
      try clear hcz15
      try clear hcz24
      try clear hcz25
      try clear hcz37
      try clear hcz38
      try clear hcz42
      try clear hcz44
      try clear hcz53
      try clear hcz54
      try clear hcz75
      try clear hcz76
      try clear hcz80
      try clear hcz82
      try clear hcz91
      try clear hcz92
      try clear hfz11
      try clear hfz12
      try clear hfz15
      try clear hfz24
      try clear hfz25
      try clear hfz37
      try clear hfz38
      try clear hfz42
      try clear hfz44
      try clear hfz53
      try clear hfz54
      try clear hfz75
      try clear hfz76
      try clear hfz80
      try clear hfz82
      try clear hfz91
      try clear hfz92
      try clear hx340_0
      try clear hx341_0
      try clear hx341_1
      try clear hx341_2
      try clear hx351_0
      try clear hx352_0
      try clear hx352_1
      try clear hx352_2
      try clear hx356_0
      try clear hx357_0
      try clear hx357_1
      try clear hx357_2
      try clear p2
      try clear p3
      try clear p34
      try clear p340
      try clear p341
      try clear p35
      try clear p351
      try clear p352
      try clear p356
      try clear p357
      try clear p6
      try clear p64
      try clear q3
      try clear q34
      try clear q340
      try clear q341
      try clear q35
      try clear q351
      try clear q352
      try clear q356
      try clear q357
      obtain ⟨x93_1, x334000_1, u334000, rfl, HA, HK1, HO_91, HO_334000, BK329, BK333, HB⟩ := hrel
      cases gk with
      | zero => exact absurd HA.out (by simp [impl_derive.l3])
      | succ k1 =>
       have H := HA.out
       clear HA
       simp only [impl_derive.l3] at H
       by_cases c95 : x93_1 < (t364.length : Int)
       ·rw [if_pos c95] at H
        have c95b0 : decide (x93_1 < (t364.length : Int)) = true := decide_eq_true c95
        clear c95
        by_cases c96 : 0 ≤ x93_1
        ·rw [if_pos c96] at H
         have c96b0 : decide (0 ≤ x93_1) = true := decide_eq_true c96
         clear c96
         by_cases c97 : x93_1 < (t364.length : Int)
         ·rw [if_pos c97] at H
          have c97b0 : decide (x93_1 < (t364.length : Int)) = true := decide_eq_true c97
          clear c97
          by_cases c98 : 0 ≤ (rd t364 x93_1)
          ·rw [if_pos c98] at H
           have c98b0 : decide (0 ≤ (rd t364 x93_1)) = true := decide_eq_true c98
           clear c98
           by_cases c99 : (rd t364 x93_1) < (l0.length : Int)
           ·rw [if_pos c99] at H
            have c99b0 : decide ((rd t364 x93_1) < (l0.length : Int)) = true := decide_eq_true c99
            clear c99
            obtain ⟨t369, A100, H⟩ := bindE_ H
            by_cases c101 : t369 ≥ 0
            ·rw [if_pos c101] at H
             have c101b0 : decide (0 ≤ t369) = true := decide_eq_true c101
             clear c101
             obtain ⟨y371, hy371⟩ : ∃ y_ : List Int, y_ = (([rd t364 x93_1, t369] : List Int)) := ⟨_, rfl⟩
             replace H : (if x334000_1.length < 2932031007402 then (impl_derive.l3 k1 l0 t364 (t364.length : Int) (wrap64 (x93_1 + 1)) a1_0 a1_1 a1_2 a1_3 a1_4 a1_5 a1_6 a1_7 a1_8 a1_9 (x334000_1 ++ [(⟨(⟨(⟨a1_1, a1_2⟩ : S49), (rd_T51 l0 (rd t364 x93_1)).f1⟩ : S51), y371⟩ : S193)])) else (none)) = some r := by first | (rw [hy371]; with_reducible exact H) | (have H2_ := (Option.bind_some _ _).symm.trans H; rw [hy371]; with_reducible exact H2_) | (have H2_ := (Option.bind_some _ _).symm.trans H; with_reducible exact H2_) | with_reducible exact H | (rw [hy371]; exact H) | exact H
             have Ny371 := Aside0.mk hy371
             clear hy371
             by_cases c102 : x334000_1.length < 2932031007402
             ·rw [if_pos c102] at H
              have LMc102 := Aside0.mk c102
              clear c102
              obtain ⟨y374, hy374⟩ : ∃ y_ : List (S193), y_ = (x334000_1 ++ [(⟨(⟨(⟨a1_1, a1_2⟩ : S49), (rd_T51 l0 (rd t364 x93_1)).f1⟩ : S51), y371⟩ : S193)]) := ⟨_, rfl⟩
              replace H : (impl_derive.l3 k1 l0 t364 (t364.length : Int) (wrap64 (x93_1 + 1)) a1_0 a1_1 a1_2 a1_3 a1_4 a1_5 a1_6 a1_7 a1_8 a1_9 y374) = some r := by first | (rw [hy374]; with_reducible exact H) | (have H2_ := (Option.bind_some _ _).symm.trans H; rw [hy374]; with_reducible exact H2_) | (have H2_ := (Option.bind_some _ _).symm.trans H; with_reducible exact H2_) | with_reducible exact H | (rw [hy374]; exact H) | exact H
              have Ny374 := Aside0.mk hy374
              clear hy374
              have H' := Aside0.mk H
              clear H
              have p367 : 0 ≤ (x93_1 : Int) := of_decide_eq_true (by first | (with_reducible assumption) | assumption)
              have q367 : x93_1 < (t364.length : Int) := of_decide_eq_true (by first | (with_reducible assumption) | assumption)
              obtain ⟨ad367, e367, hx367_0⟩ := Kd.at_int (Kd.R_reads' HO_91.out).2.2 x93_1 p367 q367
              cases e367
              replace p367 := eq_true p367
              replace q367 := eq_true q367
              try go_wp2
              replace HO_91 := Aside0.mk (Kd.R_drew HO_91.out)
              replace HO_334000 := Aside0.mk (Kd.S_drew HO_334000.out)
              replace BK329 := Aside0.mk (blk_drew BK329.out)
              replace BK333 := Aside0.mk (blk_drew BK333.out)
              replace HB := Aside0.mk (below_drew1 HB.out)
              have p368 : 0 ≤ ((rd t364 x93_1) : Int) := of_decide_eq_true (by first | (with_reducible assumption) | assumption)
              have q368 : (rd t364 x93_1) < (l0.length : Int) := of_decide_eq_true (by first | (with_reducible assumption) | assumption)
              obtain ⟨ad368, e368, hx368_0, hx368_1, hx368_2⟩ := at_T51 HR0.out (rd t364 x93_1) p368 q368
              have hw368_2 := hx368_2
              have hw368_1 := hx368_1
              have hw368_0 := hx368_0
              cases e368
              replace hx368_0 := cb_ HB hx368_0
              replace hx368_1 := cb_ HB hx368_1
              replace hx368_2 := cb_ HB hx368_2
              replace p368 := eq_true p368
              replace q368 := eq_true q368
              refine start_ (n := 11) (S := fun w' => w'.cell? ⟨gb329, 0, none⟩ = some (.int .i64 a1_0) ∧ w'.cell? ⟨gb329, 1, none⟩ = some (.int .i64 a1_1) ∧ w'.cell? ⟨gb329, 2, none⟩ = some (.int .i64 a1_2) ∧ w'.cell? ⟨gb329, 3, none⟩ = some (.int .i64 a1_3) ∧ w'.cell? ⟨gb329, 4, none⟩ = some (.int .i64 a1_4) ∧ w'.cell? ⟨gb329, 5, none⟩ = some (.int .i64 a1_5) ∧ w'.cell? ⟨gb329, 6, none⟩ = some (.int .i64 a1_6) ∧ w'.cell? ⟨gb329, 7, none⟩ = some (.int .i64 a1_7) ∧ w'.cell? ⟨gb329, 8, none⟩ = some (.int .i64 a1_8) ∧ w'.cell? ⟨gb329, 9, none⟩ = some (.int .i64 a1_9) ∧ w'.cell? (ad368.add (((rd t364 x93_1)).toNat * 3)) = some (.int .i64 ((rd_T51 l0 (rd t364 x93_1)).f0.f0)) ∧ w'.cell? ⟨(ad368.add (((rd t364 x93_1)).toNat * 3)).block, (ad368.add (((rd t364 x93_1)).toNat * 3)).off + 1, none⟩ = some (.int .i64 ((rd_T51 l0 (rd t364 x93_1)).f0.f1)) ∧ w'.cell? ⟨(ad368.add (((rd t364 x93_1)).toNat * 3)).block, (ad368.add (((rd t364 x93_1)).toNat * 3)).off + 2, none⟩ = some (.int .i64 ((rd_T51 l0 (rd t364 x93_1)).f1))) (ds := []) #[false, false, false, false, false, false, false, false, false, false, false] (by kernel_rfl) rfl rfl ⟨(blk_cell BK329.out 0).trans rfl, (blk_cell BK329.out 1).trans rfl, (blk_cell BK329.out 2).trans rfl, (blk_cell BK329.out 3).trans rfl, (blk_cell BK329.out 4).trans rfl, (blk_cell BK329.out 5).trans rfl, (blk_cell BK329.out 6).trans rfl, (blk_cell BK329.out 7).trans rfl, (blk_cell BK329.out 8).trans rfl, (blk_cell BK329.out 9).trans rfl, ((HB.out.cell (World.block_lt_of_cell? w _ hw368_0)).trans hw368_0), ((HB.out.cell (World.block_lt_of_cell? w _ hw368_1)).trans hw368_1), ((HB.out.cell (World.block_lt_of_cell? w _ hw368_2)).trans hw368_2)⟩ (fun hHeld => ?_); refine with_tabW impl_derive.tab26 impl_derive.bits26 (fun HT_ HW_ => ?_)
              generalize wr.drew = w103 at HO_91 HO_334000 BK329 BK333 HB hx368_0 hx368_1 hx368_2 hHeld ⊢
              refine pureZ_ (i := 0) (some 97) #[true, false, false, false, false, false, false, false, false, false, false] (any_of HT_.out (by kernel_rfl)) ?_
              refine pureZ_ (i := 1) (some 98) #[true, true, false, false, false, false, false, false, false, false, false] (any_of HT_.out (by kernel_rfl)) ?_
              refine pureZ_ (i := 3) (some 100) #[true, true, false, true, false, false, false, false, false, false, false] (any_of HT_.out (by kernel_rfl)) ?_
              refine pureZ_ (i := 4) (some 101) #[true, true, false, true, true, false, false, false, false, false, false] (any_of HT_.out (by kernel_rfl)) ?_
              refine pureZ_ (i := 5) (some 102) #[true, true, false, true, true, true, false, false, false, false, false] (any_of HT_.out (by kernel_rfl)) ?_
              refine pureZ_ (i := 6) (some 103) #[true, true, false, true, true, true, true, false, false, false, false] (any_of HT_.out (by kernel_rfl)) ?_
              refine takeZ_ (i := 2) (some 99) #[true, true, true, true, true, true, true, false, false, false, false] (take_ofW HT_.out HW_.out (by kernel_rfl)) hHeld ?_
              refine takeZ_ (i := 7) (some 104) #[true, true, true, true, true, true, true, true, false, false, false] (take_ofW HT_.out HW_.out (by kernel_rfl)) hHeld ?_
              refine pureZ_ (i := 8) (some 105) #[true, true, true, true, true, true, true, true, true, false, false] (any_of HT_.out (by kernel_rfl)) ?_
              refine one_ (i := 9) (N := some 106) #[true, true, true, true, true, true, true, true, true, true, false] rfl rfl (one_of HT_.out (by kernel_rfl)) (by decide) (fun K hK => ?_)
              refine goes_ Try.func102 (by kernel_rfl) rfl #[.slice (some ad368) l0.length c0, .agg #[.int .i64 a1_6, .int .i64 a1_7, .int .i64 ((rd_T51 l0 (rd t364 x93_1)).f1)]] (by rfl) rfl rfl (by (try simp only [List.map_toArray, List.map_cons, List.map_nil]); first | done | rfl | (simp only [List.length_drop, List.length_take]; rfl)) ?_
              with_reducible refine (impl_Fact_102.calls k1 _ _ l0 a1_6 a1_7 ((rd_T51 l0 (rd t364 x93_1)).f1) t369 _ ?side1 ?side2 A100.out).mono ?_
              (case side1 => repeat (first | exact (Kd.C_below HR0.out HB.out) | (with_reducible refine Kd.C_alloc ?_ _) | (with_reducible refine Kd.C_drewN ?_ _) | (with_reducible refine Kd.C_drew ?_)))
              (case side2 => exact HC0.out)
              rintro e w104 ⟨rfl, hb⟩
              refine ⟨_, rfl, ?_⟩
              replace HO_91 := Aside0.mk (Kd.R_below (by (with_reducible repeat (first | apply Kd.R_alloc | apply Kd.R_drewN | apply Kd.R_drew)); exact HO_91.out) hb)
              replace HO_334000 := Aside0.mk (Kd.S_below (by (with_reducible repeat (first | apply Kd.S_alloc | apply Kd.S_drewN | apply Kd.S_drew)); exact HO_334000.out) hb)
              replace BK329 := bkb_ BK329 hb
              replace BK333 := bkb_ BK333 hb
              replace HB := hbs_ hb
              (try clear hb)
              (try clear hb2)
              (try clear hk)
              (try clear hi)
              refine hK.out _ _ ⟨(blk_cell BK329.out 0).trans rfl, (blk_cell BK329.out 1).trans rfl, (blk_cell BK329.out 2).trans rfl, (blk_cell BK329.out 3).trans rfl, (blk_cell BK329.out 4).trans rfl, (blk_cell BK329.out 5).trans rfl, (blk_cell BK329.out 6).trans rfl, (blk_cell BK329.out 7).trans rfl, (blk_cell BK329.out 8).trans rfl, (blk_cell BK329.out 9).trans rfl, ((HB.out.cell (World.block_lt_of_cell? w _ hw368_0)).trans hw368_0), ((HB.out.cell (World.block_lt_of_cell? w _ hw368_1)).trans hw368_1), ((HB.out.cell (World.block_lt_of_cell? w _ hw368_2)).trans hw368_2)⟩ (fun hHeld => ?_)
              clear hK K
              refine norm_ (a' := ?_) ?_ ?_
              rotate_left
              ·show Act.put _ (some 106) _ = _
               simp only [Act.put, List.setIfInBounds_toArray, List.set_cons_zero, List.set_cons_succ, i64_w, i32_w]
               rfl
              refine pureZ_ (i := 10) (some 15) #[true, true, true, true, true, true, true, true, true, true, true] (any_of HT_.out (by kernel_rfl)) ?_
              refine done_ (done_of HT_.out (by kernel_rfl)) ?_
              have p370 : 0 ≤ ((rd t364 x93_1) : Int) := of_decide_eq_true (by first | (with_reducible assumption) | assumption)
              have q370 : (rd t364 x93_1) < (l0.length : Int) := of_decide_eq_true (by first | (with_reducible assumption) | assumption)
              obtain ⟨ad370, e370, hx370_0, hx370_1, hx370_2⟩ := at_T51 HR0.out (rd t364 x93_1) p370 q370
              obtain rfl : ad368 = ad370 := (by injection e370)
              replace hx370_0 := cb_ HB hx370_0
              replace hx370_1 := cb_ HB hx370_1
              replace hx370_2 := cb_ HB hx370_2
              replace p370 := eq_true p370
              replace q370 := eq_true q370
              try go_wp2_with (first | (go_at_call 203; go_in) | (go_end0; simp only []; go_at_K) | ((with_reducible refine gate_dst (N := 117) rfl ?_); refine Kd.R_lit (Kd.int .i64) _ 3 ?hg (N := 117) ?hd (xs := ([rd t364 x93_1, t369] : List Int)) (inner := [.int .i64 (rd t364 x93_1), .int .i64 t369]) (ok := fun _ => True) (okp := fun _ => True) ?hr ?hp (fun _ hk => hk) trivial (Below.refl _ _) (Nat.le_refl _) (by simp) ?_; (case hd => rfl); (case hg => rfl); (case hr => first | (go_simp; done) | (go_simp; rfl)); (case hp => exact (Reps.one (show Kd.M (Kd.int .i64) _ _ _ (rd t364 x93_1) [.int .i64 (rd t364 x93_1)] from rfl) (Reps.one (show Kd.M (Kd.int .i64) _ _ _ t369 [.int .i64 t369] from rfl) (Reps.none _ _)))); intro v372 w105 ho106 hb hg_ hnew_; clear hg_ hnew_; (first | rw [← Ny371.out] at ho106 | (simp only [Int.reduceToNat] at ho106; rw [← Ny371.out] at ho106)); replace HO_334000 := Aside0.mk (Kd.S_elder' (by (with_reducible repeat (first | apply Kd.S_alloc | apply Kd.S_drewN | apply Kd.S_drew)); exact HO_334000.out) (Kd.R_base ho106) hb); have HO373 := Aside0.mk (Kd.R_lower (Kd.R_new' ho106 (Kd.R_lt (by (with_reducible repeat (first | apply Kd.R_alloc | apply Kd.R_drewN | apply Kd.R_drew)); exact HO_91.out))) bls_); replace HO_91 := Aside0.mk (Kd.R_elder' (by (with_reducible repeat (first | apply Kd.R_alloc | apply Kd.R_drewN | apply Kd.R_drew)); exact HO_91.out) (Kd.R_base ho106) hb); replace BK329 := bkb_ BK329 hb; replace BK333 := bkb_ BK333 hb; replace HB := hbs_ hb; clear hb ho106; have hnb107 := NB333_329.out; have hnc107 := NB329_333.out; have hcz108 := blk_cell BK333.out; have hfz108 := blk_frozen BK333.out; have hcz109 := blk_cell BK329.out; have hfz109 := blk_frozen BK329.out; obtain ⟨Ao110, co110, eo110⟩ := Kd.R_slice HO373.out; subst eo110) | ((with_reducible refine gate_builtin (b := .append) (xs := #[.tmp 6, .tmp 13]) rfl ?_); at_builtin; refine Kd.S_append k193 (w0 := w) w.heap.size rfl (.tmp 6) (.tmp 13) 190 193 (.agg #[(.int .i64 0), (.int .i64 0), (.int .i64 0), (.slice none 0 0)]) 48 rfl Try.underlying190 info193 rfl (by decide) (by omega) u334000 x334000_1 (⟨(⟨(⟨a1_1, a1_2⟩ : S49), (rd_T51 l0 (rd t364 x93_1)).f1⟩ : S51), y371⟩ : S193) [.int .i64 a1_1, .int .i64 a1_2, .int .i64 ((rd_T51 l0 (rd t364 x93_1)).f1), .slice Ao110 y371.length co110] (fun k_ => some k_ ≠ (.slice (some ad367) t364.length co94 : Value).ownBlock) (fun k_ => some k_ = (.slice Ao110 y371.length co110 : Value).ownBlock) rfl rfl ?aP (fun k_ hk_ => ((Kd.R_mono (ok' := fun k_ => ((fun k_ => some k_ ≠ (.slice (some ad367) t364.length co94 : Value).ownBlock)) k_ ∧ some k_ ≠ (u334000 : Value).ownBlock) (Kd.R_apart' (HO373.out) (Kd.S_typed HO_334000.out) (by decide)) (fun k_ hk => ⟨hk.1.2, hk.2⟩))).1 k_ hk_.symm) ?aF ?aO ?aB ?aS ?aL ?_; (case aP => exact k193_mkM _ _ _ (⟨(⟨(⟨a1_1, a1_2⟩ : S49), (rd_T51 l0 (rd t364 x93_1)).f1⟩ : S51), y371⟩ : S193) (Kd.R_mono (Kd.R_tight rfl (Kd.R_mono (ok' := fun k_ => ((fun k_ => some k_ ≠ (.slice (some ad367) t364.length co94 : Value).ownBlock)) k_ ∧ some k_ ≠ (u334000 : Value).ownBlock) (Kd.R_apart' (HO373.out) (Kd.S_typed HO_334000.out) (by decide)) (fun k_ hk => ⟨hk.1.2, hk.2⟩))) (fun _ h_ => h_))); (case aB => exact bl_); (case aF => exact (fun k_ hk => Kd.fresh' (Kd.R_lt (by (with_reducible repeat (first | apply Kd.R_alloc | apply Kd.R_drewN | apply Kd.R_drew)); exact HO_91.out)) k_ hk)); (case aO => exact (by (with_reducible repeat (first | apply Kd.S_alloc | apply Kd.S_drewN | apply Kd.S_drew)); exact Kd.S_mono HO_334000.out (fun k_ hk => ⟨hk.1, fun e_ => hk.2 e_⟩))); (case aS => exact bls_); (case aL => have := LMc102.out; omega); intro v375 w111 ho hb hg hat; rw [← Ny374.out] at ho; replace HO_91 := Aside0.mk (Kd.R_over' (by (with_reducible repeat (first | apply Kd.R_alloc | apply Kd.R_drewN | apply Kd.R_drew)); exact HO_91.out) (Kd.S_typed (by (with_reducible repeat (first | apply Kd.S_alloc | apply Kd.S_drewN | apply Kd.S_drew)); exact HO_334000.out)) (by decide) hg); replace BK329 := Aside0.mk (blk_grown (g := gb329) (o := .cells #[.int .i64 a1_0, .int .i64 a1_1, .int .i64 a1_2, .int .i64 a1_3, .int .i64 a1_4, .int .i64 a1_5, .int .i64 a1_6, .int .i64 a1_7, .int .i64 a1_8, .int .i64 a1_9] 56 (0, 0)) (bk_ BK329) hg (Kd.S_ne HO_334000.out BK329.out (by decide))); replace BK333 := Aside0.mk (blk_grown (g := gb333) (o := .cells #[u334000] 190 (0, 0)) (bk_ BK333) hg (Kd.S_ne HO_334000.out BK333.out (by decide))); replace HB := Aside0.mk (hb); have HO376 := Aside0.mk (ho); clear HO_334000; clear HO373; clear ho hb hg hat; obtain ⟨Ao112, co112, eo112⟩ := Kd.S_slice HO376.out; subst eo112; have hcz113 := blk_cell BK333.out; have hfz113 := blk_frozen BK333.out))
              go_roundg k1
              case measure => have := HK1.out; omega
              case rel => exact ⟨(wrap64 (x93_1 + 1)), (y374), (.slice Ao112 y374.length co112), (by first | rfl | (simp; done) | (simp [*]; done)), H', ⟨by have := HK1.out; omega⟩, ⟨by (with_reducible repeat (first | apply Kd.R_alloc | apply Kd.R_drewN | apply Kd.R_drew)); exact Kd.R_mono (Kd.R_far (p := ⟨gb333, 0, none⟩) (Kd.R_types HO_91.out BK333.out (by decide)) (fun _ hk => hk.2) (.slice Ao112 y374.length co112)) (fun _ hk => trivial)⟩, ⟨by (with_reducible repeat (first | apply Kd.S_alloc | apply Kd.S_drewN | apply Kd.S_drew)); exact Kd.S_mono (Kd.S_far (p := ⟨gb333, 0, none⟩) (Kd.S_types HO376.out BK333.out (by decide)) (fun _ hk => hk.2) (.slice Ao112 y374.length co112)) (fun _ hk => hk.1)⟩, ⟨bk_ BK329⟩, ⟨bk_ BK333⟩, ⟨bl_⟩⟩
             ·rw [if_neg c102] at H
              exact absurd H (by simp)
            ·rw [if_neg c101] at H
             have c101b0 : decide (0 ≤ t369) = false := decide_eq_false c101
             clear c101
             have H' := Aside0.mk H
             clear H
             have p367 : 0 ≤ (x93_1 : Int) := of_decide_eq_true (by first | (with_reducible assumption) | assumption)
             have q367 : x93_1 < (t364.length : Int) := of_decide_eq_true (by first | (with_reducible assumption) | assumption)
             obtain ⟨ad367, e367, hx367_0⟩ := Kd.at_int (Kd.R_reads' HO_91.out).2.2 x93_1 p367 q367
             cases e367
             replace p367 := eq_true p367
             replace q367 := eq_true q367
             try go_wp2
             replace HO_91 := Aside0.mk (Kd.R_drew HO_91.out)
             replace HO_334000 := Aside0.mk (Kd.S_drew HO_334000.out)
             replace BK329 := Aside0.mk (blk_drew BK329.out)
             replace BK333 := Aside0.mk (blk_drew BK333.out)
             replace HB := Aside0.mk (below_drew1 HB.out)
             have p368 : 0 ≤ ((rd t364 x93_1) : Int) := of_decide_eq_true (by first | (with_reducible assumption) | assumption)
             have q368 : (rd t364 x93_1) < (l0.length : Int) := of_decide_eq_true (by first | (with_reducible assumption) | assumption)
             obtain ⟨ad368, e368, hx368_0, hx368_1, hx368_2⟩ := at_T51 HR0.out (rd t364 x93_1) p368 q368
             have hw368_2 := hx368_2
             have hw368_1 := hx368_1
             have hw368_0 := hx368_0
             cases e368
             replace hx368_0 := cb_ HB hx368_0
             replace hx368_1 := cb_ HB hx368_1
             replace hx368_2 := cb_ HB hx368_2
             replace p368 := eq_true p368
             replace q368 := eq_true q368
             refine start_ (n := 11) (S := fun w' => w'.cell? ⟨gb329, 0, none⟩ = some (.int .i64 a1_0) ∧ w'.cell? ⟨gb329, 1, none⟩ = some (.int .i64 a1_1) ∧ w'.cell? ⟨gb329, 2, none⟩ = some (.int .i64 a1_2) ∧ w'.cell? ⟨gb329, 3, none⟩ = some (.int .i64 a1_3) ∧ w'.cell? ⟨gb329, 4, none⟩ = some (.int .i64 a1_4) ∧ w'.cell? ⟨gb329, 5, none⟩ = some (.int .i64 a1_5) ∧ w'.cell? ⟨gb329, 6, none⟩ = some (.int .i64 a1_6) ∧ w'.cell? ⟨gb329, 7, none⟩ = some (.int .i64 a1_7) ∧ w'.cell? ⟨gb329, 8, none⟩ = some (.int .i64 a1_8) ∧ w'.cell? ⟨gb329, 9, none⟩ = some (.int .i64 a1_9) ∧ w'.cell? (ad368.add (((rd t364 x93_1)).toNat * 3)) = some (.int .i64 ((rd_T51 l0 (rd t364 x93_1)).f0.f0)) ∧ w'.cell? ⟨(ad368.add (((rd t364 x93_1)).toNat * 3)).block, (ad368.add (((rd t364 x93_1)).toNat * 3)).off + 1, none⟩ = some (.int .i64 ((rd_T51 l0 (rd t364 x93_1)).f0.f1)) ∧ w'.cell? ⟨(ad368.add (((rd t364 x93_1)).toNat * 3)).block, (ad368.add (((rd t364 x93_1)).toNat * 3)).off + 2, none⟩ = some (.int .i64 ((rd_T51 l0 (rd t364 x93_1)).f1))) (ds := []) #[false, false, false, false, false, false, false, false, false, false, false] (by kernel_rfl) rfl rfl ⟨(blk_cell BK329.out 0).trans rfl, (blk_cell BK329.out 1).trans rfl, (blk_cell BK329.out 2).trans rfl, (blk_cell BK329.out 3).trans rfl, (blk_cell BK329.out 4).trans rfl, (blk_cell BK329.out 5).trans rfl, (blk_cell BK329.out 6).trans rfl, (blk_cell BK329.out 7).trans rfl, (blk_cell BK329.out 8).trans rfl, (blk_cell BK329.out 9).trans rfl, ((HB.out.cell (World.block_lt_of_cell? w _ hw368_0)).trans hw368_0), ((HB.out.cell (World.block_lt_of_cell? w _ hw368_1)).trans hw368_1), ((HB.out.cell (World.block_lt_of_cell? w _ hw368_2)).trans hw368_2)⟩ (fun hHeld => ?_); refine with_tabW impl_derive.tab26 impl_derive.bits26 (fun HT_ HW_ => ?_)
             generalize wr.drew = w114 at HO_91 HO_334000 BK329 BK333 HB hx368_0 hx368_1 hx368_2 hHeld ⊢
             refine pureZ_ (i := 0) (some 97) #[true, false, false, false, false, false, false, false, false, false, false] (any_of HT_.out (by kernel_rfl)) ?_
             refine pureZ_ (i := 1) (some 98) #[true, true, false, false, false, false, false, false, false, false, false] (any_of HT_.out (by kernel_rfl)) ?_
             refine pureZ_ (i := 3) (some 100) #[true, true, false, true, false, false, false, false, false, false, false] (any_of HT_.out (by kernel_rfl)) ?_
             refine pureZ_ (i := 4) (some 101) #[true, true, false, true, true, false, false, false, false, false, false] (any_of HT_.out (by kernel_rfl)) ?_
             refine pureZ_ (i := 5) (some 102) #[true, true, false, true, true, true, false, false, false, false, false] (any_of HT_.out (by kernel_rfl)) ?_
             refine pureZ_ (i := 6) (some 103) #[true, true, false, true, true, true, true, false, false, false, false] (any_of HT_.out (by kernel_rfl)) ?_
             refine takeZ_ (i := 2) (some 99) #[true, true, true, true, true, true, true, false, false, false, false] (take_ofW HT_.out HW_.out (by kernel_rfl)) hHeld ?_
             refine takeZ_ (i := 7) (some 104) #[true, true, true, true, true, true, true, true, false, false, false] (take_ofW HT_.out HW_.out (by kernel_rfl)) hHeld ?_
             refine pureZ_ (i := 8) (some 105) #[true, true, true, true, true, true, true, true, true, false, false] (any_of HT_.out (by kernel_rfl)) ?_
             refine one_ (i := 9) (N := some 106) #[true, true, true, true, true, true, true, true, true, true, false] rfl rfl (one_of HT_.out (by kernel_rfl)) (by decide) (fun K hK => ?_)
             refine goes_ Try.func102 (by kernel_rfl) rfl #[.slice (some ad368) l0.length c0, .agg #[.int .i64 a1_6, .int .i64 a1_7, .int .i64 ((rd_T51 l0 (rd t364 x93_1)).f1)]] (by rfl) rfl rfl (by (try simp only [List.map_toArray, List.map_cons, List.map_nil]); first | done | rfl | (simp only [List.length_drop, List.length_take]; rfl)) ?_
             with_reducible refine (impl_Fact_102.calls k1 _ _ l0 a1_6 a1_7 ((rd_T51 l0 (rd t364 x93_1)).f1) t369 _ ?side1 ?side2 A100.out).mono ?_
             (case side1 => repeat (first | exact (Kd.C_below HR0.out HB.out) | (with_reducible refine Kd.C_alloc ?_ _) | (with_reducible refine Kd.C_drewN ?_ _) | (with_reducible refine Kd.C_drew ?_)))
             (case side2 => exact HC0.out)
             rintro e w115 ⟨rfl, hb⟩
             refine ⟨_, rfl, ?_⟩
             replace HO_91 := Aside0.mk (Kd.R_below (by (with_reducible repeat (first | apply Kd.R_alloc | apply Kd.R_drewN | apply Kd.R_drew)); exact HO_91.out) hb)
             replace HO_334000 := Aside0.mk (Kd.S_below (by (with_reducible repeat (first | apply Kd.S_alloc | apply Kd.S_drewN | apply Kd.S_drew)); exact HO_334000.out) hb)
             replace BK329 := bkb_ BK329 hb
             replace BK333 := bkb_ BK333 hb
             replace HB := hbs_ hb
             (try clear hb)
             (try clear hb2)
             (try clear hk)
             (try clear hi)
             refine hK.out _ _ ⟨(blk_cell BK329.out 0).trans rfl, (blk_cell BK329.out 1).trans rfl, (blk_cell BK329.out 2).trans rfl, (blk_cell BK329.out 3).trans rfl, (blk_cell BK329.out 4).trans rfl, (blk_cell BK329.out 5).trans rfl, (blk_cell BK329.out 6).trans rfl, (blk_cell BK329.out 7).trans rfl, (blk_cell BK329.out 8).trans rfl, (blk_cell BK329.out 9).trans rfl, ((HB.out.cell (World.block_lt_of_cell? w _ hw368_0)).trans hw368_0), ((HB.out.cell (World.block_lt_of_cell? w _ hw368_1)).trans hw368_1), ((HB.out.cell (World.block_lt_of_cell? w _ hw368_2)).trans hw368_2)⟩ (fun hHeld => ?_)
             clear hK K
             refine norm_ (a' := ?_) ?_ ?_
             rotate_left
             ·show Act.put _ (some 106) _ = _
              simp only [Act.put, List.setIfInBounds_toArray, List.set_cons_zero, List.set_cons_succ, i64_w, i32_w]
              rfl
             refine pureZ_ (i := 10) (some 15) #[true, true, true, true, true, true, true, true, true, true, true] (any_of HT_.out (by kernel_rfl)) ?_
             refine done_ (done_of HT_.out (by kernel_rfl)) ?_
             try go_wp2
             go_roundg k1
             case measure => have := HK1.out; omega
             case rel => exact ⟨(wrap64 (x93_1 + 1)), (x334000_1), (u334000), (by first | rfl | (simp; done) | (simp [*]; done)), H', ⟨by have := HK1.out; omega⟩, ⟨by (with_reducible repeat (first | apply Kd.R_alloc | apply Kd.R_drewN | apply Kd.R_drew)); exact HO_91.out⟩, ⟨by (with_reducible repeat (first | apply Kd.S_alloc | apply Kd.S_drewN | apply Kd.S_drew)); exact HO_334000.out⟩, ⟨bk_ BK329⟩, ⟨bk_ BK333⟩, ⟨bl_⟩⟩
           ·rw [if_neg c99] at H
            exact absurd H (by simp)
          ·rw [if_neg c98] at H
           exact absurd H (by simp)
         ·rw [if_neg c97] at H
          exact absurd H (by simp)
        ·rw [if_neg c96] at H
         exact absurd H (by simp)
       ·rw [if_neg c95] at H
        have c95b0 : decide (x93_1 < (t364.length : Int)) = false := decide_eq_false c95
        clear c95
        obtain rfl := Option.some.inj H
        have hnb116 := NB333_329.out
        have hnc116 := NB329_333.out
        have hcz117 := blk_cell BK333.out
        have hfz117 := blk_frozen BK333.out
        go_wp2
        go_ret
        exact ⟨_, eq_, by (with_reducible repeat (first | apply Kd.S_alloc | apply Kd.S_drewN | apply Kd.S_drew)); exact Kd.S_mono HO_334000.out (fun _ hk => trivial), bl_⟩
    ·rw [if_neg c83] at H
     have c83b0 : (a1_0 == 4) = false := beq_eq_false_iff_ne.mpr c83
     have c83b1 : (a1_0 != 4) = true := bne_iff_ne.mpr c83
     obtain rfl := Option.some.inj H
     go_enter Try.func169, Try.ntmps169
     go_wp2_with (first | (go_at_call 203; go_in) | (go_end0; simp only []; go_at_K) | ((with_reducible refine gate_dst (N := 3) rfl ?_); refine box_event ?hg (N := 3) ?hd (cs := #[.int .i64 a1_0, .int .i64 a1_1, .int .i64 a1_2, .int .i64 a1_3, .int .i64 a1_4, .int .i64 a1_5, .int .i64 a1_6, .int .i64 a1_7, .int .i64 a1_8, .int .i64 a1_9]) (t := 56) ?hr ?_; (case hd => rfl); (case hg => rfl); (case hr => first | (go_simp; done) | (go_simp; rfl)); intro gb329 hg w118 hbox hb; have BK329 := Aside0.mk (hbox); have GW329 := gs_ hg; have GE329 := gs_ hg; replace HB := hbs_ hb; clear hb hbox hg) | ((with_reducible refine gate_dst (N := 16) rfl ?_); refine Kd.S_lit k193 _ 193 ?hg (N := 16) ?hd (xs := ([] : List (S193))) (inner := []) (ok := fun _ => True) (okp := fun _ => True) ?hr ?hp (fun _ hk => hk) trivial (Below.refl _ _) (Nat.le_refl _) (by simp) ?_; (case hd => rfl); (case hg => rfl); (case hr => first | (go_simp; done) | (go_simp; rfl)); (case hp => exact (Reps.none _ _)); intro v331 w119 ho120 hb hg_ hnew_; clear hg_ hnew_; (first | rw [← Ny330.out] at ho120 | (simp only [Int.reduceToNat] at ho120; rw [← Ny330.out] at ho120)); have HO332 := Aside0.mk (Kd.S_lower ho120 bls_); replace BK329 := bkb_ BK329 hb; replace HB := hbs_ hb; clear hb ho120) | ((with_reducible refine gate_dst (N := 5) rfl ?_); refine box_event ?hg (N := 5) ?hd (cs := #[.slice none 0 0]) (t := 190) ?hr ?_; (case hd => rfl); (case hg => rfl); (case hr => first | (go_simp; done) | (go_simp; rfl)); intro gb333 hg w121 hbox hb; replace HO332 := Aside0.mk (Kd.S_below (by (with_reducible repeat (first | apply Kd.S_alloc | apply Kd.S_drewN | apply Kd.S_drew)); exact HO332.out) hb); have BK333 := Aside0.mk (hbox); have GW333 := gs_ hg; have GE333 := gs_ hg; replace HB := hbs_ hb; have NB329_333 := Aside0.mk ((by rw [hg]; exact Nat.ne_of_lt (blk_lt (g := gb329) (o := .cells #[.int .i64 a1_0, .int .i64 a1_1, .int .i64 a1_2, .int .i64 a1_3, .int .i64 a1_4, .int .i64 a1_5, .int .i64 a1_6, .int .i64 a1_7, .int .i64 a1_8, .int .i64 a1_9] 56 (0, 0)) (bk_ BK329)) : gb329 ≠ gb333)); have NB333_329 := Aside0.mk ((by rw [hg]; exact Nat.ne_of_gt (blk_lt (g := gb329) (o := .cells #[.int .i64 a1_0, .int .i64 a1_1, .int .i64 a1_2, .int .i64 a1_3, .int .i64 a1_4, .int .i64 a1_5, .int .i64 a1_6, .int .i64 a1_7, .int .i64 a1_8, .int .i64 a1_9] 56 (0, 0)) (bk_ BK329)) : gb333 ≠ gb329)); replace BK329 := bkb_ BK329 hb; clear hb hbox hg; obtain ⟨Ao122, co122, eo122⟩ := Kd.S_slice HO332.out; subst eo122; have hnb123 := NB333_329.out; have hnc123 := NB329_333.out; have hcz124 := blk_cell BK333.out; have hfz124 := blk_frozen BK333.out; have hcz125 := blk_cell BK329.out; have hfz125 := blk_frozen BK329.out))
     go_ret
     exact ⟨_, eq_, by (with_reducible repeat (first | apply Kd.S_alloc | apply Kd.S_drewN | apply Kd.S_drew)); exact Kd.S_mono (Kd.S_far (p := ⟨gb333, 0, none⟩) (Kd.S_types HO332.out BK333.out (by decide)) (fun _ hk => hk.2) (.slice Ao122 y330.length co122)) (fun _ hk => trivial), bl_⟩
end Go.Proofs.Ytjpjidgfcljpcaa.PD
