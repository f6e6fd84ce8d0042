import Derived.Test.YtcgnegnljffkmaaKFnExactHoldsAtPBx0
import Derived.Test.YtcgnegnljffkmaaKFnExactHoldsAtPBx13
import Derived.Test.YtcgnegnljffkmaaKFnExactHoldsAtPBx14
-- A text of this claim: written by the session's own program out of the translation (wip/tools). Lean checks it.
namespace Go.Proofs.Ytcgnegnljffkmaa.PB
open Go.RowKit Go.Proofs.YtcgnegnljffkmaaW.PrintWords Go.Proofs.YtcgnegnljffkmaaW.PrintLast Go.Proofs.YtcgnegnljffkmaaW.PrintMore
attribute [local go_sem] max2_int min2_int max_two min_two max_three min_three max_four min_four   -- for this text's walks alone
set_option linter.unusedVariables false
set_option linter.unusedSimpArgs false
mutual
def impl_derive.l0 : Nat → List (S55) → List Int → Int → Int → Int → Int → Int → Int → Int → Int → Int → Int → Int → Int → List (S165) → Option ((List (S165)))
 | 0, _, _, _, _, _, _, _, _, _, _, _, _, _, _, _ => none
 | k + 1, x0, x31, x32, x33, x469000, x469001, x469002, x469003, x469004, x469005, x469006, x469007, x469008, x469009, x473000 => if x33 < x32 then (if 0 ≤ x33 then (if x33 < (x31.length : Int) then (if 0 ≤ (rd x31 x33) then (if (rd x31 x33) < (x0.length : Int) then (if x473000.length < 2932031007402 then (impl_derive.l0 k x0 x31 x32 (wrap64 (x33 + 1)) x469000 x469001 x469002 x469003 x469004 x469005 x469006 x469007 x469008 x469009 (x473000 ++ [(⟨(⟨(⟨x469001, x469002⟩ : S27), (rd_T55 x0 (rd x31 x33)).f1⟩ : S55), (([rd x31 x33] : List Int))⟩ : S165)])) else (none)) else (none)) else (none)) else (none)) else (none)) else (some x473000)
def impl_derive.l1 : Nat → List (S55) → List Int → Int → Int → Int → Int → Int → Int → Int → Int → Int → Int → Int → Int → List (S165) → Option ((List (S165)))
 | 0, _, _, _, _, _, _, _, _, _, _, _, _, _, _, _ => none
 | k + 1, x0, x52, x53, x54, x469000, x469001, x469002, x469003, x469004, x469005, x469006, x469007, x469008, x469009, x473000 => if x54 < x53 then (if 0 ≤ x54 then (if x54 < (x52.length : Int) then (if 0 ≤ (rd x52 x54) then (if (rd x52 x54) < (x0.length : Int) then ((impl_whoOf.f k x0 ((rd_T55 x0 (rd x52 x54)).f1) x469007).bind fun t492 => (impl_derive.l2 k x0 (rd x52 x54) x52 x53 x54 t492 (t492.length : Int) 0 x469000 x469001 x469002 x469003 x469004 x469005 x469006 x469007 x469008 x469009 x473000)) else (none)) else (none)) else (none)) else (none)) else (some x473000)
def impl_derive.l2 : Nat → List (S55) → Int → List Int → Int → Int → List Int → Int → Int → Int → Int → Int → Int → Int → Int → Int → Int → Int → Int → List (S165) → Option ((List (S165)))
 | 0, _, _, _, _, _, _, _, _, _, _, _, _, _, _, _, _, _, _, _ => none
 | k + 1, x0, x10, x52, x53, x54, x68, x69, x70, x469000, x469001, x469002, x469003, x469004, x469005, x469006, x469007, x469008, x469009, x473000 => if x70 < x69 then (if 0 ≤ x70 then (if x70 < (x68.length : Int) then (if 0 ≤ (rd x68 x70) then (if (rd x68 x70) < (x0.length : Int) then (if x473000.length < 2932031007402 then (impl_derive.l2 k x0 x10 x52 x53 x54 x68 x69 (wrap64 (x70 + 1)) x469000 x469001 x469002 x469003 x469004 x469005 x469006 x469007 x469008 x469009 (x473000 ++ [(⟨(⟨(⟨x469001, x469002⟩ : S27), (rd_T55 x0 (rd x68 x70)).f1⟩ : S55), (([x10, rd x68 x70] : List Int))⟩ : S165)])) else (none)) else (none)) else (none)) else (none)) else (none)) else (impl_derive.l1 k x0 x52 x53 (wrap64 (x54 + 1)) x469000 x469001 x469002 x469003 x469004 x469005 x469006 x469007 x469008 x469009 x473000)
def impl_derive.l3 : Nat → List (S55) → List Int → Int → Int → Int → Int → Int → Int → Int → Int → Int → Int → Int → Int → List (S165) → Option ((List (S165)))
 | 0, _, _, _, _, _, _, _, _, _, _, _, _, _, _, _ => none
 | k + 1, x0, x91, x92, x93, x469000, x469001, x469002, x469003, x469004, x469005, x469006, x469007, x469008, x469009, x473000 => if x93 < x92 then (if 0 ≤ x93 then (if x93 < (x91.length : Int) then (if 0 ≤ (rd x91 x93) then (if (rd x91 x93) < (x0.length : Int) then ((impl_Fact_93.f k x0 x469006 x469007 ((rd_T55 x0 (rd x91 x93)).f1)).bind fun t508 => (if t508 ≥ 0 then (if x473000.length < 2932031007402 then (impl_derive.l3 k x0 x91 x92 (wrap64 (x93 + 1)) x469000 x469001 x469002 x469003 x469004 x469005 x469006 x469007 x469008 x469009 (x473000 ++ [(⟨(⟨(⟨x469001, x469002⟩ : S27), (rd_T55 x0 (rd x91 x93)).f1⟩ : S55), (([rd x91 x93, t508] : List Int))⟩ : S165)])) else (none)) else (impl_derive.l3 k x0 x91 x92 (wrap64 (x93 + 1)) x469000 x469001 x469002 x469003 x469004 x469005 x469006 x469007 x469008 x469009 x473000))) else (none)) else (none)) else (none)) else (none)) else (some x473000)
end
def impl_derive.f (k : Nat) (l0 : List (S55)) (a1_0 : Int) (a1_1 : Int) (a1_2 : Int) (a1_3 : Int) (a1_4 : Int) (a1_5 : Int) (a1_6 : Int) (a1_7 : Int) (a1_8 : Int) (a1_9 : Int) : Option ((List (S165))) := (some (([] : List (S165)) : List (S165))).bind fun y469 => (if a1_0 = 1 then (if y469.length < 2932031007402 then (some (y469 ++ [(⟨(⟨(⟨a1_1, a1_2⟩ : S27), a1_3⟩ : S55), ([] : List Int)⟩ : S165)])) else (none)) else (if a1_0 = 2 then ((impl_whoOf.f k l0 a1_4 a1_5).bind fun t476 => (impl_derive.l0 k l0 t476 (t476.length : Int) 0 a1_0 a1_1 a1_2 a1_3 a1_4 a1_5 a1_6 a1_7 a1_8 a1_9 y469)) else (if a1_0 = 3 then ((impl_whoOf.f k l0 a1_4 a1_5).bind fun t487 => (impl_derive.l1 k l0 t487 (t487.length : Int) 0 a1_0 a1_1 a1_2 a1_3 a1_4 a1_5 a1_6 a1_7 a1_8 a1_9 y469)) else (if a1_0 = 4 then ((impl_whoOf.f k l0 a1_4 a1_5).bind fun t503 => (impl_derive.l3 k l0 t503 (t503.length : Int) 0 a1_0 a1_1 a1_2 a1_3 a1_4 a1_5 a1_6 a1_7 a1_8 a1_9 y469)) else (some y469)))))
def impl_derive.T16 : Bool × List (List Nat × List Nat) := (true, [([], []), ([], []), ([], []), ([1, 2], [1, 2]), ([3], [3]), ([4], [4]), ([], []), ([6], [6]), ([7], [7]), ([5, 8], [5, 8]), ([0, 9], [0, 9]), ([10], [10]), ([], [])])
def impl_derive.B16 : List Nat := [0, 0, 0, 6, 14, 30, 0, 64, 192, 510, 1023, 2047, 0]
theorem impl_derive.tab16 : rtab .any (opsOf Try.f132 16) = impl_derive.T16 := by kernel_rfl
theorem impl_derive.bits16 : waitsOk impl_derive.T16.2 impl_derive.B16 = true := by kernel_rfl
def impl_derive.T26 : Bool × List (List Nat × List Nat) := (true, [([], []), ([], []), ([1], [1]), ([], []), ([], []), ([3, 4], [3, 4]), ([5], [5]), ([6], [6]), ([2, 7], [2, 7]), ([0, 8], [0, 8]), ([9, 9, 0, 1, 2, 3, 4, 5, 6, 7, 8, 9], [9])])
def impl_derive.B26 : List Nat := [0, 0, 2, 0, 0, 24, 56, 120, 254, 511, 1023]
theorem impl_derive.tab26 : rtab .any (opsOf Try.f132 26) = impl_derive.T26 := by kernel_rfl
theorem impl_derive.bits26 : waitsOk impl_derive.T26.2 impl_derive.B26 = true := by kernel_rfl
set_option maxHeartbeats 8000000 in
set_option maxRecDepth 100000 in
theorem impl_derive.calls (k : Nat) (A0 : Option Addr) (c0 : Nat) (l0 : List (S55)) (a1_0 : Int) (a1_1 : Int) (a1_2 : Int) (a1_3 : Int) (a1_4 : Int) (a1_5 : Int) (a1_6 : Int) (a1_7 : Int) (a1_8 : Int) (a1_9 : Int) (r : List (S165)) (w : World) (hr0 : Kd.C k55 w A0 l0.length l0) (hc0 : l0.length ≤ c0) (h : impl_derive.f k l0 a1_0 a1_1 a1_2 a1_3 a1_4 a1_5 a1_6 a1_7 a1_8 a1_9 = some r) :
  Calls Try.prog 132 #[.slice A0 l0.length c0, .agg #[.int .i64 a1_0, .int .i64 a1_1, .int .i64 a1_2, .int .i64 a1_3, .int .i64 a1_4, .int .i64 a1_5, .int .i64 a1_6, .int .i64 a1_7, .int .i64 a1_8, .int .i64 a1_9]] w fun e w' => ∃ v0_ : Value, e = .returned (v0_) ∧ Kd.S k165 165 w' w.heap.size (fun _ => True) v0_ r ∧ Below w.heap.size w w' := by
 have hu29 := Try.underlying29
 have hu27 := Try.underlying27
 have hu55 := Try.underlying55
 have hmf : ∀ (fn : Fn) (first cap : Array Value) (w : World), (Instr.makeFunc fn first cap).run Try.prog w = .ok (.func fn first cap) w := fun _ _ _ _ => rfl
 have hu162 := Try.underlying162
 have HR0 := Aside0.mk hr0
 have HC0 := Aside0.mk hc0
 clear hr0 hc0
 have HB := Aside0.mk (Below.refl w.heap.size w)
 have H : ((some (([] : List (S165)) : List (S165))).bind fun y469 => (if a1_0 = 1 then (if y469.length < 2932031007402 then (some (y469 ++ [(⟨(⟨(⟨a1_1, a1_2⟩ : S27), a1_3⟩ : S55), ([] : List Int)⟩ : S165)])) else (none)) else (if a1_0 = 2 then ((impl_whoOf.f k l0 a1_4 a1_5).bind fun t476 => (impl_derive.l0 k l0 t476 (t476.length : Int) 0 a1_0 a1_1 a1_2 a1_3 a1_4 a1_5 a1_6 a1_7 a1_8 a1_9 y469)) else (if a1_0 = 3 then ((impl_whoOf.f k l0 a1_4 a1_5).bind fun t487 => (impl_derive.l1 k l0 t487 (t487.length : Int) 0 a1_0 a1_1 a1_2 a1_3 a1_4 a1_5 a1_6 a1_7 a1_8 a1_9 y469)) else (if a1_0 = 4 then ((impl_whoOf.f k l0 a1_4 a1_5).bind fun t503 => (impl_derive.l3 k l0 t503 (t503.length : Int) 0 a1_0 a1_1 a1_2 a1_3 a1_4 a1_5 a1_6 a1_7 a1_8 a1_9 y469)) else (some y469)))))) = some r := h
 clear h
 obtain ⟨y469, hy469⟩ : ∃ y_ : List (S165), y_ = (([] : List (S165))) := ⟨_, rfl⟩
 replace H : (if a1_0 = 1 then (if y469.length < 2932031007402 then (some (y469 ++ [(⟨(⟨(⟨a1_1, a1_2⟩ : S27), a1_3⟩ : S55), ([] : List Int)⟩ : S165)])) else (none)) else (if a1_0 = 2 then ((impl_whoOf.f k l0 a1_4 a1_5).bind fun t476 => (impl_derive.l0 k l0 t476 (t476.length : Int) 0 a1_0 a1_1 a1_2 a1_3 a1_4 a1_5 a1_6 a1_7 a1_8 a1_9 y469)) else (if a1_0 = 3 then ((impl_whoOf.f k l0 a1_4 a1_5).bind fun t487 => (impl_derive.l1 k l0 t487 (t487.length : Int) 0 a1_0 a1_1 a1_2 a1_3 a1_4 a1_5 a1_6 a1_7 a1_8 a1_9 y469)) else (if a1_0 = 4 then ((impl_whoOf.f k l0 a1_4 a1_5).bind fun t503 => (impl_derive.l3 k l0 t503 (t503.length : Int) 0 a1_0 a1_1 a1_2 a1_3 a1_4 a1_5 a1_6 a1_7 a1_8 a1_9 y469)) else (some y469))))) = some r := by first | (rw [hy469]; with_reducible exact H) | (have H2_ := (Option.bind_some _ _).symm.trans H; rw [hy469]; with_reducible exact H2_) | (have H2_ := (Option.bind_some _ _).symm.trans H; with_reducible exact H2_) | with_reducible exact H | (rw [hy469]; exact H) | exact H
 have Ny469 := Aside0.mk hy469
 clear hy469
 by_cases c3 : a1_0 = 1
 ·rw [if_pos c3] at H
  have c3b0 : (a1_0 == 1) = true := beq_iff_eq.mpr c3
  have c3b1 : (a1_0 != 1) = false := bne_eq_false_iff_eq.mpr c3
  clear c3
  by_cases c4 : y469.length < 2932031007402
  ·rw [if_pos c4] at H
   have LMc4 := Aside0.mk c4
   clear c4
   obtain ⟨y473, hy473⟩ : ∃ y_ : List (S165), y_ = (y469 ++ [(⟨(⟨(⟨a1_1, a1_2⟩ : S27), a1_3⟩ : S55), ([] : List Int)⟩ : S165)]) := ⟨_, rfl⟩
   replace H : (some y473) = some r := by first | (rw [hy473]; with_reducible exact H) | (have H2_ := (Option.bind_some _ _).symm.trans H; rw [hy473]; with_reducible exact H2_) | (have H2_ := (Option.bind_some _ _).symm.trans H; with_reducible exact H2_) | with_reducible exact H | (rw [hy473]; exact H) | exact H
   have Ny473 := Aside0.mk hy473
   clear hy473
   obtain rfl := Option.some.inj H
   go_enter Try.func132, Try.ntmps132
   go_wp2_with (first | (go_at_call 154; go_in) | (go_end0; simp only []; go_at_K) | ((with_reducible refine gate_dst (N := 3) rfl ?_); refine box_event ?hg (N := 3) ?hd (cs := #[.int .i64 a1_0, .int .i64 a1_1, .int .i64 a1_2, .int .i64 a1_3, .int .i64 a1_4, .int .i64 a1_5, .int .i64 a1_6, .int .i64 a1_7, .int .i64 a1_8, .int .i64 a1_9]) (t := 29) ?hr ?_; (case hd => rfl); (case hg => rfl); (case hr => first | (go_simp; done) | (go_simp; rfl)); intro gb468 hg w5 hbox hb; have BK468 := Aside0.mk (hbox); have GW468 := gs_ hg; have GE468 := gs_ hg; replace HB := hbs_ hb; clear hb hbox hg) | ((with_reducible refine gate_dst (N := 16) rfl ?_); refine Kd.S_lit k165 _ 165 ?hg (N := 16) ?hd (xs := ([] : List (S165))) (inner := []) (ok := fun _ => True) (okp := fun _ => True) ?hr ?hp (fun _ hk => hk) trivial (Below.refl _ _) (Nat.le_refl _) (by simp) ?_; (case hd => rfl); (case hg => rfl); (case hr => first | (go_simp; done) | (go_simp; rfl)); (case hp => exact (Reps.none _ _)); intro v470 w6 ho7 hb hg_ hnew_; clear hg_ hnew_; (first | rw [← Ny469.out] at ho7 | (simp only [Int.reduceToNat] at ho7; rw [← Ny469.out] at ho7)); have HO471 := Aside0.mk (Kd.S_lower ho7 bls_); replace BK468 := bkb_ BK468 hb; replace HB := hbs_ hb; clear hb ho7) | ((with_reducible refine gate_dst (N := 5) rfl ?_); refine box_event ?hg (N := 5) ?hd (cs := #[.slice none 0 0]) (t := 162) ?hr ?_; (case hd => rfl); (case hg => rfl); (case hr => first | (go_simp; done) | (go_simp; rfl)); intro gb472 hg w8 hbox hb; replace HO471 := Aside0.mk (Kd.S_below (by (with_reducible repeat (first | apply Kd.S_alloc | apply Kd.S_drewN | apply Kd.S_drew)); exact HO471.out) hb); have BK472 := Aside0.mk (hbox); have GW472 := gs_ hg; have GE472 := gs_ hg; replace HB := hbs_ hb; have NB468_472 := Aside0.mk ((by rw [hg]; exact Nat.ne_of_lt (blk_lt (g := gb468) (o := .cells #[.int .i64 a1_0, .int .i64 a1_1, .int .i64 a1_2, .int .i64 a1_3, .int .i64 a1_4, .int .i64 a1_5, .int .i64 a1_6, .int .i64 a1_7, .int .i64 a1_8, .int .i64 a1_9] 29 (0, 0)) (bk_ BK468)) : gb468 ≠ gb472)); have NB472_468 := Aside0.mk ((by rw [hg]; exact Nat.ne_of_gt (blk_lt (g := gb468) (o := .cells #[.int .i64 a1_0, .int .i64 a1_1, .int .i64 a1_2, .int .i64 a1_3, .int .i64 a1_4, .int .i64 a1_5, .int .i64 a1_6, .int .i64 a1_7, .int .i64 a1_8, .int .i64 a1_9] 29 (0, 0)) (bk_ BK468)) : gb472 ≠ gb468)); replace BK468 := bkb_ BK468 hb; clear hb hbox hg; obtain ⟨Ao9, co9, eo9⟩ := Kd.S_slice HO471.out; subst eo9; have hnb10 := NB472_468.out; have hnc10 := NB468_472.out; have hcz11 := blk_cell BK472.out; have hfz11 := blk_frozen BK472.out; have hcz12 := blk_cell BK468.out; have hfz12 := blk_frozen BK468.out) | ((with_reducible refine gate_builtin (b := .append) (xs := #[.tmp 6, .tmp 13]) rfl ?_); at_builtin; refine Kd.S_append k165 (w0 := w) w.heap.size rfl (.tmp 6) (.tmp 13) 162 165 (.agg #[(.int .i64 0), (.int .i64 0), (.int .i64 0), (.slice none 0 0)]) 48 rfl Try.underlying162 info165 rfl (by decide) (by omega) (.slice Ao9 y469.length co9) y469 (⟨(⟨(⟨a1_1, a1_2⟩ : S27), a1_3⟩ : S55), ([] : List Int)⟩ : S165) [.int .i64 a1_1, .int .i64 a1_2, .int .i64 a1_3, .slice none 0 0] (fun _ => True) (fun _ => False) rfl (by first | (go_simp; done) | (go_simp; rfl)) ?aP (fun k_ hk_ => hk_.elim) ?aF ?aO ?aB ?aS ?aL ?_; (case aP => exact k165_mkM _ _ _ (⟨(⟨(⟨a1_1, a1_2⟩ : S27), a1_3⟩ : S55), ([] : List Int)⟩ : S165) (Kd.R_nil _ _ _ _ _)); (case aB => exact bl_); (case aF => exact (fun _ _ => trivial)); (case aO => exact (by (with_reducible repeat (first | apply Kd.S_alloc | apply Kd.S_drewN | apply Kd.S_drew)); exact Kd.S_mono (Kd.S_far (p := ⟨gb472, 0, none⟩) (Kd.S_types HO471.out BK472.out (by decide)) (fun _ hk => hk.2) (.slice Ao9 y469.length co9)) (fun k_ hk => ⟨trivial, fun e_ => e_⟩))); (case aS => exact bls_); (case aL => have := LMc4.out; omega); intro v474 w13 ho hb hg hat; rw [← Ny473.out] at ho; replace BK468 := Aside0.mk (blk_grown (g := gb468) (o := .cells #[.int .i64 a1_0, .int .i64 a1_1, .int .i64 a1_2, .int .i64 a1_3, .int .i64 a1_4, .int .i64 a1_5, .int .i64 a1_6, .int .i64 a1_7, .int .i64 a1_8, .int .i64 a1_9] 29 (0, 0)) (bk_ BK468) hg (Kd.S_ne HO471.out BK468.out (by decide))); replace BK472 := Aside0.mk (blk_grown (g := gb472) (o := .cells #[.slice Ao9 y469.length co9] 162 (0, 0)) (bk_ BK472) hg (Kd.S_ne HO471.out BK472.out (by decide))); replace HB := Aside0.mk (hb); have HO475 := Aside0.mk (ho); clear HO471; clear ho hb hg hat; obtain ⟨Ao14, co14, eo14⟩ := Kd.S_slice HO475.out; subst eo14; have hcz15 := blk_cell BK472.out; have hfz15 := blk_frozen BK472.out))
   go_ret
   exact ⟨_, eq_, by (with_reducible repeat (first | apply Kd.S_alloc | apply Kd.S_drewN | apply Kd.S_drew)); exact Kd.S_mono (Kd.S_far (p := ⟨gb472, 0, none⟩) (Kd.S_types HO475.out BK472.out (by decide)) (fun _ hk => hk.2) (.slice Ao14 y473.length co14)) (fun _ hk => trivial), bl_⟩
  ·rw [if_neg c4] at H
   exact absurd H (by simp)
 ·rw [if_neg c3] at H
  have c3b0 : (a1_0 == 1) = false := beq_eq_false_iff_ne.mpr c3
  have c3b1 : (a1_0 != 1) = true := bne_iff_ne.mpr c3
  by_cases c16 : a1_0 = 2
  ·rw [if_pos c16] at H
   have c16b0 : (a1_0 == 2) = true := beq_iff_eq.mpr c16
   have c16b1 : (a1_0 != 2) = false := bne_eq_false_iff_eq.mpr c16
   clear c16
   obtain ⟨t476, A17, H⟩ := bindE_ H
   have H' := Aside0.mk H
   clear H
   go_enter Try.func132, Try.ntmps132
   go_wp2_with (first | (go_at_call 154; go_in) | (go_end0; simp only []; go_at_K) | ((with_reducible refine gate_dst (N := 3) rfl ?_); refine box_event ?hg (N := 3) ?hd (cs := #[.int .i64 a1_0, .int .i64 a1_1, .int .i64 a1_2, .int .i64 a1_3, .int .i64 a1_4, .int .i64 a1_5, .int .i64 a1_6, .int .i64 a1_7, .int .i64 a1_8, .int .i64 a1_9]) (t := 29) ?hr ?_; (case hd => rfl); (case hg => rfl); (case hr => first | (go_simp; done) | (go_simp; rfl)); intro gb468 hg w18 hbox hb; have BK468 := Aside0.mk (hbox); have GW468 := gs_ hg; have GE468 := gs_ hg; replace HB := hbs_ hb; clear hb hbox hg) | ((with_reducible refine gate_dst (N := 16) rfl ?_); refine Kd.S_lit k165 _ 165 ?hg (N := 16) ?hd (xs := ([] : List (S165))) (inner := []) (ok := fun _ => True) (okp := fun _ => True) ?hr ?hp (fun _ hk => hk) trivial (Below.refl _ _) (Nat.le_refl _) (by simp) ?_; (case hd => rfl); (case hg => rfl); (case hr => first | (go_simp; done) | (go_simp; rfl)); (case hp => exact (Reps.none _ _)); intro v470 w19 ho20 hb hg_ hnew_; clear hg_ hnew_; (first | rw [← Ny469.out] at ho20 | (simp only [Int.reduceToNat] at ho20; rw [← Ny469.out] at ho20)); have HO471 := Aside0.mk (Kd.S_lower ho20 bls_); replace BK468 := bkb_ BK468 hb; replace HB := hbs_ hb; clear hb ho20) | ((with_reducible refine gate_dst (N := 5) rfl ?_); refine box_event ?hg (N := 5) ?hd (cs := #[.slice none 0 0]) (t := 162) ?hr ?_; (case hd => rfl); (case hg => rfl); (case hr => first | (go_simp; done) | (go_simp; rfl)); intro gb472 hg w21 hbox hb; replace HO471 := Aside0.mk (Kd.S_below (by (with_reducible repeat (first | apply Kd.S_alloc | apply Kd.S_drewN | apply Kd.S_drew)); exact HO471.out) hb); have BK472 := Aside0.mk (hbox); have GW472 := gs_ hg; have GE472 := gs_ hg; replace HB := hbs_ hb; have NB468_472 := Aside0.mk ((by rw [hg]; exact Nat.ne_of_lt (blk_lt (g := gb468) (o := .cells #[.int .i64 a1_0, .int .i64 a1_1, .int .i64 a1_2, .int .i64 a1_3, .int .i64 a1_4, .int .i64 a1_5, .int .i64 a1_6, .int .i64 a1_7, .int .i64 a1_8, .int .i64 a1_9] 29 (0, 0)) (bk_ BK468)) : gb468 ≠ gb472)); have NB472_468 := Aside0.mk ((by rw [hg]; exact Nat.ne_of_gt (blk_lt (g := gb468) (o := .cells #[.int .i64 a1_0, .int .i64 a1_1, .int .i64 a1_2, .int .i64 a1_3, .int .i64 a1_4, .int .i64 a1_5, .int .i64 a1_6, .int .i64 a1_7, .int .i64 a1_8, .int .i64 a1_9] 29 (0, 0)) (bk_ BK468)) : gb472 ≠ gb468)); replace BK468 := bkb_ BK468 hb; clear hb hbox hg; obtain ⟨Ao22, co22, eo22⟩ := Kd.S_slice HO471.out; subst eo22; have hnb23 := NB472_468.out; have hnc23 := NB468_472.out; have hcz24 := blk_cell BK472.out; have hfz24 := blk_frozen BK472.out; have hcz25 := blk_cell BK468.out; have hfz25 := blk_frozen BK468.out) | ((with_reducible refine gate_callee (f := 155) rfl ?_); refine goesC_ (some 31) Try.func155 #[.slice A0 l0.length c0, .agg #[.int .i64 a1_4, .int .i64 a1_5]] ?_; (with_reducible refine (impl_whoOf.calls k _ _ l0 a1_4 a1_5 t476 _ ?side1 ?side2 A17.out).mono ?_); (case side1 => exact Kd.C_below HR0.out bl_); (case side2 => exact HC0.out); rintro e w26 ⟨v477, rfl, ho0, hb⟩; refine ⟨_, rfl, ?_⟩; replace HO471 := Aside0.mk (Kd.S_elder' (by (with_reducible repeat (first | apply Kd.S_alloc | apply Kd.S_drewN | apply Kd.S_drew)); exact (Kd.S_mono (Kd.S_far (p := ⟨gb472, 0, none⟩) (Kd.S_types HO471.out BK472.out (by decide)) (fun _ hk => hk.2) (.slice Ao22 y469.length co22)) (fun _ h_ => h_.1))) (Kd.R_base ho0) hb); have HO478 := Aside0.mk (Kd.R_lower ho0 bls_); replace BK468 := Aside0.mk (blk_below (g := gb468) (o := .cells #[.int .i64 a1_0, .int .i64 a1_1, .int .i64 a1_2, .int .i64 a1_3, .int .i64 a1_4, .int .i64 a1_5, .int .i64 a1_6, .int .i64 a1_7, .int .i64 a1_8, .int .i64 a1_9] 29 (0, 0)) (bk_ BK468) hb); replace BK472 := Aside0.mk (blk_below (g := gb472) (o := .cells #[.slice Ao22 y469.length co22] 162 (0, 0)) (bk_ BK472) hb); replace HB := hbs_ hb; (try clear hb); (try clear hb2); (try clear hk); (try clear hi); (try clear ho0); obtain ⟨Ao27, co27, eo27⟩ := Kd.R_slice HO478.out; subst eo27))
   go_loopg [33] k (fun kq v33 w' => ∃ (x33_1 : Int) (x473000_1 : List (S165)) (u473000 : Value), v33 = .int .i64 x33_1 ∧ Aside0 (impl_derive.l0 kq l0 t476 (t476.length : Int) x33_1 a1_0 a1_1 a1_2 a1_3 a1_4 a1_5 a1_6 a1_7 a1_8 a1_9 x473000_1 = some r) ∧ Aside0 (kq ≤ k) ∧ Aside0 (Kd.R (Kd.int .i64) 3 w' w.heap.size (fun _ => True) (.slice Ao27 t476.length co27) t476) ∧ Aside0 (Kd.S k165 165 w' w.heap.size (fun k_ => some k_ ≠ ((.slice Ao27 t476.length co27) : Value).ownBlock) u473000 x473000_1) ∧ Aside0 (w'.heap[gb468]? = some (.cells #[.int .i64 a1_0, .int .i64 a1_1, .int .i64 a1_2, .int .i64 a1_3, .int .i64 a1_4, .int .i64 a1_5, .int .i64 a1_6, .int .i64 a1_7, .int .i64 a1_8, .int .i64 a1_9] 29 (0, 0))) ∧ Aside0 (w'.heap[gb472]? = some (.cells #[u473000] 162 (0, 0))) ∧ Aside0 (Below w.heap.size w w'))
   case atStart => exact ⟨(0), (y469), (.slice Ao22 y469.length co22), (by first | rfl | (simp; done) | (simp [*]; done)), H', ⟨Nat.le_refl _⟩, ⟨by (with_reducible repeat (first | apply Kd.R_alloc | apply Kd.R_drewN | apply Kd.R_drew)); exact HO478.out⟩, ⟨by (with_reducible repeat (first | apply Kd.S_alloc | apply Kd.S_drewN | apply Kd.S_drew)); exact Kd.S_mono HO471.out (fun _ hk => hk.2)⟩, ⟨bk_ BK468⟩, ⟨bk_ BK472⟩, ⟨bl_⟩⟩
   case round =>
    clear H'
    try clear c1
    try clear c2
    try clear p2
    try clear c3
    try clear c3b0
    try clear c3b1
    try clear c4
    try clear c10
    try clear c13
    try clear c15
    try clear c16
    try clear c16b0
    try clear c16b1
    try clear c23
    try clear hcz11
    try clear hcz12
    try clear hcz15
    try clear hcz24
    try clear hcz25
    try clear hfz11
    try clear hfz12
    try clear hfz15
    try clear hfz24
    try clear hfz25
    obtain ⟨x33_1, x473000_1, u473000, rfl, HA, HK1, HO_31, HO_473000, BK468, BK472, HB⟩ := hrel
    cases gk with
    | zero => exact absurd HA.out (by simp [impl_derive.l0])
    | succ k1 =>
     have H := HA.out
     clear HA
     simp only [impl_derive.l0] at H
     by_cases c28 : x33_1 < (t476.length : Int)
     ·rw [if_pos c28] at H
      have c28b0 : decide (x33_1 < (t476.length : Int)) = true := decide_eq_true c28
      clear c28
      by_cases c29 : 0 ≤ x33_1
      ·rw [if_pos c29] at H
       have c29b0 : decide (0 ≤ x33_1) = true := decide_eq_true c29
       clear c29
       by_cases c30 : x33_1 < (t476.length : Int)
       ·rw [if_pos c30] at H
        have c30b0 : decide (x33_1 < (t476.length : Int)) = true := decide_eq_true c30
        clear c30
        by_cases c31 : 0 ≤ (rd t476 x33_1)
        ·rw [if_pos c31] at H
         have c31b0 : decide (0 ≤ (rd t476 x33_1)) = true := decide_eq_true c31
         clear c31
         by_cases c32 : (rd t476 x33_1) < (l0.length : Int)
         ·rw [if_pos c32] at H
          have c32b0 : decide ((rd t476 x33_1) < (l0.length : Int)) = true := decide_eq_true c32
          clear c32
          obtain ⟨y481, hy481⟩ : ∃ y_ : List Int, y_ = (([rd t476 x33_1] : List Int)) := ⟨_, rfl⟩
          replace H : (if x473000_1.length < 2932031007402 then (impl_derive.l0 k1 l0 t476 (t476.length : Int) (wrap64 (x33_1 + 1)) a1_0 a1_1 a1_2 a1_3 a1_4 a1_5 a1_6 a1_7 a1_8 a1_9 (x473000_1 ++ [(⟨(⟨(⟨a1_1, a1_2⟩ : S27), (rd_T55 l0 (rd t476 x33_1)).f1⟩ : S55), y481⟩ : S165)])) else (none)) = some r := by first | (rw [hy481]; with_reducible exact H) | (have H2_ := (Option.bind_some _ _).symm.trans H; rw [hy481]; with_reducible exact H2_) | (have H2_ := (Option.bind_some _ _).symm.trans H; with_reducible exact H2_) | with_reducible exact H | (rw [hy481]; exact H) | exact H
          have Ny481 := Aside0.mk hy481
          clear hy481
          by_cases c33 : x473000_1.length < 2932031007402
          ·rw [if_pos c33] at H
           have LMc33 := Aside0.mk c33
           clear c33
           obtain ⟨y484, hy484⟩ : ∃ y_ : List (S165), y_ = (x473000_1 ++ [(⟨(⟨(⟨a1_1, a1_2⟩ : S27), (rd_T55 l0 (rd t476 x33_1)).f1⟩ : S55), y481⟩ : S165)]) := ⟨_, rfl⟩
           replace H : (impl_derive.l0 k1 l0 t476 (t476.length : Int) (wrap64 (x33_1 + 1)) a1_0 a1_1 a1_2 a1_3 a1_4 a1_5 a1_6 a1_7 a1_8 a1_9 y484) = some r := by first | (rw [hy484]; with_reducible exact H) | (have H2_ := (Option.bind_some _ _).symm.trans H; rw [hy484]; with_reducible exact H2_) | (have H2_ := (Option.bind_some _ _).symm.trans H; with_reducible exact H2_) | with_reducible exact H | (rw [hy484]; exact H) | exact H
           have Ny484 := Aside0.mk hy484
           clear hy484
           have H' := Aside0.mk H
           clear H
           have p479 : 0 ≤ (x33_1 : Int) := of_decide_eq_true (by first | (with_reducible assumption) | assumption)
           have q479 : x33_1 < (t476.length : Int) := of_decide_eq_true (by first | (with_reducible assumption) | assumption)
           obtain ⟨ad479, e479, hx479_0⟩ := Kd.at_int (Kd.R_reads' HO_31.out).2.2 x33_1 p479 q479
           cases e479
           replace p479 := eq_true p479
           replace q479 := eq_true q479
           have p480 : 0 ≤ ((rd t476 x33_1) : Int) := of_decide_eq_true (by first | (with_reducible assumption) | assumption)
           have q480 : (rd t476 x33_1) < (l0.length : Int) := of_decide_eq_true (by first | (with_reducible assumption) | assumption)
           obtain ⟨ad480, e480, hx480_0, hx480_1, hx480_2⟩ := at_T55 (Kd.C_below HR0.out HB.out) (rd t476 x33_1) p480 q480
           cases e480
           replace p480 := eq_true p480
           replace q480 := eq_true q480
           go_wp2_with (first | (go_at_call 154; go_in) | (go_end0; simp only []; go_at_K) | ((with_reducible refine gate_dst (N := 44) rfl ?_); refine Kd.R_lit (Kd.int .i64) _ 3 ?hg (N := 44) ?hd (xs := ([rd t476 x33_1] : List Int)) (inner := [.int .i64 (rd t476 x33_1)]) (ok := fun _ => True) (okp := fun _ => True) ?hr ?hp (fun _ hk => hk) trivial (Below.refl _ _) (Nat.le_refl _) (by simp) ?_; (case hd => rfl); (case hg => rfl); (case hr => first | (go_simp; done) | (go_simp; rfl)); (case hp => exact (Reps.one (show Kd.M (Kd.int .i64) _ _ _ (rd t476 x33_1) [.int .i64 (rd t476 x33_1)] from rfl) (Reps.none _ _))); intro v482 w34 ho35 hb hg_ hnew_; clear hg_ hnew_; (first | rw [← Ny481.out] at ho35 | (simp only [Int.reduceToNat] at ho35; rw [← Ny481.out] at ho35)); replace HO_473000 := Aside0.mk (Kd.S_elder' (by (with_reducible repeat (first | apply Kd.S_alloc | apply Kd.S_drewN | apply Kd.S_drew)); exact HO_473000.out) (Kd.R_base ho35) hb); have HO483 := Aside0.mk (Kd.R_lower (Kd.R_new' ho35 (Kd.R_lt (by (with_reducible repeat (first | apply Kd.R_alloc | apply Kd.R_drewN | apply Kd.R_drew)); exact HO_31.out))) bls_); replace HO_31 := Aside0.mk (Kd.R_elder' (by (with_reducible repeat (first | apply Kd.R_alloc | apply Kd.R_drewN | apply Kd.R_drew)); exact HO_31.out) (Kd.R_base ho35) hb); replace BK468 := bkb_ BK468 hb; replace BK472 := bkb_ BK472 hb; replace HB := hbs_ hb; clear hb ho35; have hnb36 := NB472_468.out; have hnc36 := NB468_472.out; have hcz37 := blk_cell BK472.out; have hfz37 := blk_frozen BK472.out; have hcz38 := blk_cell BK468.out; have hfz38 := blk_frozen BK468.out; obtain ⟨Ao39, co39, eo39⟩ := Kd.R_slice HO483.out; subst eo39) | ((with_reducible refine gate_builtin (b := .append) (xs := #[.tmp 6, .tmp 13]) rfl ?_); at_builtin; refine Kd.S_append k165 (w0 := w) w.heap.size rfl (.tmp 6) (.tmp 13) 162 165 (.agg #[(.int .i64 0), (.int .i64 0), (.int .i64 0), (.slice none 0 0)]) 48 rfl Try.underlying162 info165 rfl (by decide) (by omega) u473000 x473000_1 (⟨(⟨(⟨a1_1, a1_2⟩ : S27), (rd_T55 l0 (rd t476 x33_1)).f1⟩ : S55), y481⟩ : S165) [.int .i64 a1_1, .int .i64 a1_2, .int .i64 ((rd_T55 l0 (rd t476 x33_1)).f1), .slice Ao39 y481.length co39] (fun k_ => some k_ ≠ (.slice (some ad479) t476.length co27 : Value).ownBlock) (fun k_ => some k_ = (.slice Ao39 y481.length co39 : Value).ownBlock) rfl rfl ?aP (fun k_ hk_ => ((Kd.R_mono (ok' := fun k_ => ((fun k_ => some k_ ≠ (.slice (some ad479) t476.length co27 : Value).ownBlock)) k_ ∧ some k_ ≠ (u473000 : Value).ownBlock) (Kd.R_apart' (HO483.out) (Kd.S_typed HO_473000.out) (by decide)) (fun k_ hk => ⟨hk.1.2, hk.2⟩))).1 k_ hk_.symm) ?aF ?aO ?aB ?aS ?aL ?_; (case aP => exact k165_mkM _ _ _ (⟨(⟨(⟨a1_1, a1_2⟩ : S27), (rd_T55 l0 (rd t476 x33_1)).f1⟩ : S55), y481⟩ : S165) (Kd.R_mono (Kd.R_tight rfl (Kd.R_mono (ok' := fun k_ => ((fun k_ => some k_ ≠ (.slice (some ad479) t476.length co27 : Value).ownBlock)) k_ ∧ some k_ ≠ (u473000 : Value).ownBlock) (Kd.R_apart' (HO483.out) (Kd.S_typed HO_473000.out) (by decide)) (fun k_ hk => ⟨hk.1.2, hk.2⟩))) (fun _ h_ => h_))); (case aB => exact bl_); (case aF => exact (fun k_ hk => Kd.fresh' (Kd.R_lt (by (with_reducible repeat (first | apply Kd.R_alloc | apply Kd.R_drewN | apply Kd.R_drew)); exact HO_31.out)) k_ hk)); (case aO => exact (by (with_reducible repeat (first | apply Kd.S_alloc | apply Kd.S_drewN | apply Kd.S_drew)); exact Kd.S_mono HO_473000.out (fun k_ hk => ⟨hk.1, fun e_ => hk.2 e_⟩))); (case aS => exact bls_); (case aL => have := LMc33.out; omega); intro v485 w40 ho hb hg hat; rw [← Ny484.out] at ho; replace HO_31 := Aside0.mk (Kd.R_over' (by (with_reducible repeat (first | apply Kd.R_alloc | apply Kd.R_drewN | apply Kd.R_drew)); exact HO_31.out) (Kd.S_typed (by (with_reducible repeat (first | apply Kd.S_alloc | apply Kd.S_drewN | apply Kd.S_drew)); exact HO_473000.out)) (by decide) hg); replace BK468 := Aside0.mk (blk_grown (g := gb468) (o := .cells #[.int .i64 a1_0, .int .i64 a1_1, .int .i64 a1_2, .int .i64 a1_3, .int .i64 a1_4, .int .i64 a1_5, .int .i64 a1_6, .int .i64 a1_7, .int .i64 a1_8, .int .i64 a1_9] 29 (0, 0)) (bk_ BK468) hg (Kd.S_ne HO_473000.out BK468.out (by decide))); replace BK472 := Aside0.mk (blk_grown (g := gb472) (o := .cells #[u473000] 162 (0, 0)) (bk_ BK472) hg (Kd.S_ne HO_473000.out BK472.out (by decide))); replace HB := Aside0.mk (hb); have HO486 := Aside0.mk (ho); clear HO_473000; clear HO483; clear ho hb hg hat; obtain ⟨Ao41, co41, eo41⟩ := Kd.S_slice HO486.out; subst eo41; have hcz42 := blk_cell BK472.out; have hfz42 := blk_frozen BK472.out))
           go_roundg k1
           case measure => have := HK1.out; omega
           case rel => exact ⟨(wrap64 (x33_1 + 1)), (y484), (.slice Ao41 y484.length co41), (by first | rfl | (simp; done) | (simp [*]; done)), H', ⟨by have := HK1.out; omega⟩, ⟨by (with_reducible repeat (first | apply Kd.R_alloc | apply Kd.R_drewN | apply Kd.R_drew)); exact Kd.R_mono (Kd.R_far (p := ⟨gb472, 0, none⟩) (Kd.R_types HO_31.out BK472.out (by decide)) (fun _ hk => hk.2) (.slice Ao41 y484.length co41)) (fun _ hk => trivial)⟩, ⟨by (with_reducible repeat (first | apply Kd.S_alloc | apply Kd.S_drewN | apply Kd.S_drew)); exact Kd.S_mono (Kd.S_far (p := ⟨gb472, 0, none⟩) (Kd.S_types HO486.out BK472.out (by decide)) (fun _ hk => hk.2) (.slice Ao41 y484.length co41)) (fun _ hk => hk.1)⟩, ⟨bk_ BK468⟩, ⟨bk_ BK472⟩, ⟨bl_⟩⟩
          ·rw [if_neg c33] at H
           exact absurd H (by simp)
         ·rw [if_neg c32] at H
          exact absurd H (by simp)
        ·rw [if_neg c31] at H
         exact absurd H (by simp)
       ·rw [if_neg c30] at H
        exact absurd H (by simp)
      ·rw [if_neg c29] at H
       exact absurd H (by simp)
     ·rw [if_neg c28] at H
      have c28b0 : decide (x33_1 < (t476.length : Int)) = false := decide_eq_false c28
      clear c28
      obtain rfl := Option.some.inj H
      have hnb43 := NB472_468.out
      have hnc43 := NB468_472.out
      have hcz44 := blk_cell BK472.out
      have hfz44 := blk_frozen BK472.out
      go_wp2
      go_ret
      exact ⟨_, eq_, by (with_reducible repeat (first | apply Kd.S_alloc | apply Kd.S_drewN | apply Kd.S_drew)); exact Kd.S_mono HO_473000.out (fun _ hk => trivial), bl_⟩
  ·rw [if_neg c16] at H
   have c16b0 : (a1_0 == 2) = false := beq_eq_false_iff_ne.mpr c16
   have c16b1 : (a1_0 != 2) = true := bne_iff_ne.mpr c16
   by_cases c45 : a1_0 = 3
   ·rw [if_pos c45] at H
    have c45b0 : (a1_0 == 3) = true := beq_iff_eq.mpr c45
    have c45b1 : (a1_0 != 3) = false := bne_eq_false_iff_eq.mpr c45
    clear c45
    obtain ⟨t487, A46, H⟩ := bindE_ H
    have H' := Aside0.mk H
    clear H
    go_enter Try.func132, Try.ntmps132
    go_wp2_with (first | (go_at_call 154; go_in) | (go_end0; simp only []; go_at_K) | ((with_reducible refine gate_dst (N := 3) rfl ?_); refine box_event ?hg (N := 3) ?hd (cs := #[.int .i64 a1_0, .int .i64 a1_1, .int .i64 a1_2, .int .i64 a1_3, .int .i64 a1_4, .int .i64 a1_5, .int .i64 a1_6, .int .i64 a1_7, .int .i64 a1_8, .int .i64 a1_9]) (t := 29) ?hr ?_; (case hd => rfl); (case hg => rfl); (case hr => first | (go_simp; done) | (go_simp; rfl)); intro gb468 hg w47 hbox hb; have BK468 := Aside0.mk (hbox); have GW468 := gs_ hg; have GE468 := gs_ hg; replace HB := hbs_ hb; clear hb hbox hg) | ((with_reducible refine gate_dst (N := 16) rfl ?_); refine Kd.S_lit k165 _ 165 ?hg (N := 16) ?hd (xs := ([] : List (S165))) (inner := []) (ok := fun _ => True) (okp := fun _ => True) ?hr ?hp (fun _ hk => hk) trivial (Below.refl _ _) (Nat.le_refl _) (by simp) ?_; (case hd => rfl); (case hg => rfl); (case hr => first | (go_simp; done) | (go_simp; rfl)); (case hp => exact (Reps.none _ _)); intro v470 w48 ho49 hb hg_ hnew_; clear hg_ hnew_; (first | rw [← Ny469.out] at ho49 | (simp only [Int.reduceToNat] at ho49; rw [← Ny469.out] at ho49)); have HO471 := Aside0.mk (Kd.S_lower ho49 bls_); replace BK468 := bkb_ BK468 hb; replace HB := hbs_ hb; clear hb ho49) | ((with_reducible refine gate_dst (N := 5) rfl ?_); refine box_event ?hg (N := 5) ?hd (cs := #[.slice none 0 0]) (t := 162) ?hr ?_; (case hd => rfl); (case hg => rfl); (case hr => first | (go_simp; done) | (go_simp; rfl)); intro gb472 hg w50 hbox hb; replace HO471 := Aside0.mk (Kd.S_below (by (with_reducible repeat (first | apply Kd.S_alloc | apply Kd.S_drewN | apply Kd.S_drew)); exact HO471.out) hb); have BK472 := Aside0.mk (hbox); have GW472 := gs_ hg; have GE472 := gs_ hg; replace HB := hbs_ hb; have NB468_472 := Aside0.mk ((by rw [hg]; exact Nat.ne_of_lt (blk_lt (g := gb468) (o := .cells #[.int .i64 a1_0, .int .i64 a1_1, .int .i64 a1_2, .int .i64 a1_3, .int .i64 a1_4, .int .i64 a1_5, .int .i64 a1_6, .int .i64 a1_7, .int .i64 a1_8, .int .i64 a1_9] 29 (0, 0)) (bk_ BK468)) : gb468 ≠ gb472)); have NB472_468 := Aside0.mk ((by rw [hg]; exact Nat.ne_of_gt (blk_lt (g := gb468) (o := .cells #[.int .i64 a1_0, .int .i64 a1_1, .int .i64 a1_2, .int .i64 a1_3, .int .i64 a1_4, .int .i64 a1_5, .int .i64 a1_6, .int .i64 a1_7, .int .i64 a1_8, .int .i64 a1_9] 29 (0, 0)) (bk_ BK468)) : gb472 ≠ gb468)); replace BK468 := bkb_ BK468 hb; clear hb hbox hg; obtain ⟨Ao51, co51, eo51⟩ := Kd.S_slice HO471.out; subst eo51; have hnb52 := NB472_468.out; have hnc52 := NB468_472.out; have hcz53 := blk_cell BK472.out; have hfz53 := blk_frozen BK472.out; have hcz54 := blk_cell BK468.out; have hfz54 := blk_frozen BK468.out) | ((with_reducible refine gate_callee (f := 155) rfl ?_); refine goesC_ (some 52) Try.func155 #[.slice A0 l0.length c0, .agg #[.int .i64 a1_4, .int .i64 a1_5]] ?_; (with_reducible refine (impl_whoOf.calls k _ _ l0 a1_4 a1_5 t487 _ ?side1 ?side2 A46.out).mono ?_); (case side1 => exact Kd.C_below HR0.out bl_); (case side2 => exact HC0.out); rintro e w55 ⟨v488, rfl, ho0, hb⟩; refine ⟨_, rfl, ?_⟩; replace HO471 := Aside0.mk (Kd.S_elder' (by (with_reducible repeat (first | apply Kd.S_alloc | apply Kd.S_drewN | apply Kd.S_drew)); exact (Kd.S_mono (Kd.S_far (p := ⟨gb472, 0, none⟩) (Kd.S_types HO471.out BK472.out (by decide)) (fun _ hk => hk.2) (.slice Ao51 y469.length co51)) (fun _ h_ => h_.1))) (Kd.R_base ho0) hb); have HO489 := Aside0.mk (Kd.R_lower ho0 bls_); replace BK468 := Aside0.mk (blk_below (g := gb468) (o := .cells #[.int .i64 a1_0, .int .i64 a1_1, .int .i64 a1_2, .int .i64 a1_3, .int .i64 a1_4, .int .i64 a1_5, .int .i64 a1_6, .int .i64 a1_7, .int .i64 a1_8, .int .i64 a1_9] 29 (0, 0)) (bk_ BK468) hb); replace BK472 := Aside0.mk (blk_below (g := gb472) (o := .cells #[.slice Ao51 y469.length co51] 162 (0, 0)) (bk_ BK472) hb); replace HB := hbs_ hb; (try clear hb); (try clear hb2); (try clear hk); (try clear hi); (try clear ho0); obtain ⟨Ao56, co56, eo56⟩ := Kd.R_slice HO489.out; subst eo56))
    go_loopg [54] k (fun kq v54 w' => ∃ (x54_1 : Int) (x473000_1 : List (S165)) (u473000 : Value), v54 = .int .i64 x54_1 ∧ Aside0 (impl_derive.l1 kq l0 t487 (t487.length : Int) x54_1 a1_0 a1_1 a1_2 a1_3 a1_4 a1_5 a1_6 a1_7 a1_8 a1_9 x473000_1 = some r) ∧ Aside0 (kq ≤ k) ∧ Aside0 (Kd.R (Kd.int .i64) 3 w' w.heap.size (fun _ => True) (.slice Ao56 t487.length co56) t487) ∧ Aside0 (Kd.S k165 165 w' w.heap.size (fun k_ => some k_ ≠ ((.slice Ao56 t487.length co56) : Value).ownBlock) u473000 x473000_1) ∧ Aside0 (w'.heap[gb468]? = some (.cells #[.int .i64 a1_0, .int .i64 a1_1, .int .i64 a1_2, .int .i64 a1_3, .int .i64 a1_4, .int .i64 a1_5, .int .i64 a1_6, .int .i64 a1_7, .int .i64 a1_8, .int .i64 a1_9] 29 (0, 0))) ∧ Aside0 (w'.heap[gb472]? = some (.cells #[u473000] 162 (0, 0))) ∧ Aside0 (Below w.heap.size w w'))
    case atStart => exact ⟨(0), (y469), (.slice Ao51 y469.length co51), (by first | rfl | (simp; done) | (simp [*]; done)), H', ⟨Nat.le_refl _⟩, ⟨by (with_reducible repeat (first | apply Kd.R_alloc | apply Kd.R_drewN | apply Kd.R_drew)); exact HO489.out⟩, ⟨by (with_reducible repeat (first | apply Kd.S_alloc | apply Kd.S_drewN | apply Kd.S_drew)); exact Kd.S_mono HO471.out (fun _ hk => hk.2)⟩, ⟨bk_ BK468⟩, ⟨bk_ BK472⟩, ⟨bl_⟩⟩
    case round =>
     clear H'
     try clear c1
     try clear c2
     try clear p2
     try clear c3
     try clear c3b0
     try clear c3b1
     try clear c4
     try clear p4
     try clear q4
     try clear hx4
     try clear c5
     try clear p6
     try clear c10
     try clear c13
     try clear c15
     try clear c16
     try clear c16b0
     try clear c16b1
     try clear c23
     try clear c28
     try clear c28b0
     try clear c29
     try clear c29b0
     try clear c30
     try clear c30b0
     try clear c31
     try clear c31b0
     try clear c32
     try clear c32b0
     try clear c33
     try clear c36
     try clear c43
     try clear c45
     try clear c45b0
     try clear c45b1
     try clear p47
     try clear q47
     try clear hx47
     try clear p48
     try clear q48
     try clear hx48
     try clear c52
     try clear hcz11
     try clear hcz12
     try clear hcz15
     try clear hcz24
     try clear hcz25
     try clear hcz37
     try clear hcz38
     try clear hcz42
     try clear hcz44
     try clear hcz53
     try clear hcz54
     try clear hfz11
     try clear hfz12
     try clear hfz15
     try clear hfz24
     try clear hfz25
     try clear hfz37
     try clear hfz38
     try clear hfz42
     try clear hfz44
     try clear hfz53
     try clear hfz54
     try clear hx479_0
     try clear hx480_0
     try clear hx480_1
     try clear hx480_2
     try clear p2
     try clear p479
     try clear p480
     try clear q479
     try clear q480
     obtain ⟨x54_1, x473000_1, u473000, rfl, HA, HK1, HO_52, HO_473000, BK468, BK472, HB⟩ := hrel
     cases gk with
     | zero => exact absurd HA.out (by simp [impl_derive.l1])
     | succ k1 =>
      have H := HA.out
      clear HA
      simp only [impl_derive.l1] at H
      by_cases c57 : x54_1 < (t487.length : Int)
      ·rw [if_pos c57] at H
       have c57b0 : decide (x54_1 < (t487.length : Int)) = true := decide_eq_true c57
       clear c57
       by_cases c58 : 0 ≤ x54_1
       ·rw [if_pos c58] at H
        have c58b0 : decide (0 ≤ x54_1) = true := decide_eq_true c58
        clear c58
        by_cases c59 : x54_1 < (t487.length : Int)
        ·rw [if_pos c59] at H
         have c59b0 : decide (x54_1 < (t487.length : Int)) = true := decide_eq_true c59
         clear c59
         by_cases c60 : 0 ≤ (rd t487 x54_1)
         ·rw [if_pos c60] at H
          have c60b0 : decide (0 ≤ (rd t487 x54_1)) = true := decide_eq_true c60
          clear c60
          by_cases c61 : (rd t487 x54_1) < (l0.length : Int)
          ·rw [if_pos c61] at H
           have c61b0 : decide ((rd t487 x54_1) < (l0.length : Int)) = true := decide_eq_true c61
           clear c61
           obtain ⟨t492, A62, H⟩ := bindE_ H
           have H' := Aside0.mk H
           clear H
           have p490 : 0 ≤ (x54_1 : Int) := of_decide_eq_true (by first | (with_reducible assumption) | assumption)
           have q490 : x54_1 < (t487.length : Int) := of_decide_eq_true (by first | (with_reducible assumption) | assumption)
           obtain ⟨ad490, e490, hx490_0⟩ := Kd.at_int (Kd.R_reads' HO_52.out).2.2 x54_1 p490 q490
           cases e490
           replace p490 := eq_true p490
           replace q490 := eq_true q490
           try go_wp2
           replace HO_52 := Aside0.mk (Kd.R_drew HO_52.out)
           replace HO_473000 := Aside0.mk (Kd.S_drew HO_473000.out)
           replace BK468 := Aside0.mk (blk_drew BK468.out)
           replace BK472 := Aside0.mk (blk_drew BK472.out)
           replace HB := Aside0.mk (below_drew1 HB.out)
           have p491 : 0 ≤ ((rd t487 x54_1) : Int) := of_decide_eq_true (by first | (with_reducible assumption) | assumption)
           have q491 : (rd t487 x54_1) < (l0.length : Int) := of_decide_eq_true (by first | (with_reducible assumption) | assumption)
           obtain ⟨ad491, e491, hx491_0, hx491_1, hx491_2⟩ := at_T55 HR0.out (rd t487 x54_1) p491 q491
           have hw491_2 := hx491_2
           have hw491_1 := hx491_1
           have hw491_0 := hx491_0
           cases e491
           replace hx491_0 := cb_ HB hx491_0
           replace hx491_1 := cb_ HB hx491_1
           replace hx491_2 := cb_ HB hx491_2
           replace p491 := eq_true p491
           replace q491 := eq_true q491
           refine start_ (n := 13) (S := fun w' => w'.cell? ⟨gb468, 0, none⟩ = some (.int .i64 a1_0) ∧ w'.cell? ⟨gb468, 1, none⟩ = some (.int .i64 a1_1) ∧ w'.cell? ⟨gb468, 2, none⟩ = some (.int .i64 a1_2) ∧ w'.cell? ⟨gb468, 3, none⟩ = some (.int .i64 a1_3) ∧ w'.cell? ⟨gb468, 4, none⟩ = some (.int .i64 a1_4) ∧ w'.cell? ⟨gb468, 5, none⟩ = some (.int .i64 a1_5) ∧ w'.cell? ⟨gb468, 6, none⟩ = some (.int .i64 a1_6) ∧ w'.cell? ⟨gb468, 7, none⟩ = some (.int .i64 a1_7) ∧ w'.cell? ⟨gb468, 8, none⟩ = some (.int .i64 a1_8) ∧ w'.cell? ⟨gb468, 9, none⟩ = some (.int .i64 a1_9) ∧ w'.cell? (ad491.add (((rd t487 x54_1)).toNat * 3)) = some (.int .i64 ((rd_T55 l0 (rd t487 x54_1)).f0.f0)) ∧ w'.cell? ⟨(ad491.add (((rd t487 x54_1)).toNat * 3)).block, (ad491.add (((rd t487 x54_1)).toNat * 3)).off + 1, none⟩ = some (.int .i64 ((rd_T55 l0 (rd t487 x54_1)).f0.f1)) ∧ w'.cell? ⟨(ad491.add (((rd t487 x54_1)).toNat * 3)).block, (ad491.add (((rd t487 x54_1)).toNat * 3)).off + 2, none⟩ = some (.int .i64 ((rd_T55 l0 (rd t487 x54_1)).f1))) (ds := []) #[false, false, false, false, false, false, false, false, false, false, false, false, false] (by kernel_rfl) rfl rfl ⟨(blk_cell BK468.out 0).trans rfl, (blk_cell BK468.out 1).trans rfl, (blk_cell BK468.out 2).trans rfl, (blk_cell BK468.out 3).trans rfl, (blk_cell BK468.out 4).trans rfl, (blk_cell BK468.out 5).trans rfl, (blk_cell BK468.out 6).trans rfl, (blk_cell BK468.out 7).trans rfl, (blk_cell BK468.out 8).trans rfl, (blk_cell BK468.out 9).trans rfl, ((HB.out.cell (World.block_lt_of_cell? w _ hw491_0)).trans hw491_0), ((HB.out.cell (World.block_lt_of_cell? w _ hw491_1)).trans hw491_1), ((HB.out.cell (World.block_lt_of_cell? w _ hw491_2)).trans hw491_2)⟩ (fun hHeld => ?_); refine with_tabW impl_derive.tab16 impl_derive.bits16 (fun HT_ HW_ => ?_)
           generalize wr.drew = w63 at HO_52 HO_473000 BK468 BK472 HB hx491_0 hx491_1 hx491_2 hHeld ⊢
           refine pureZ_ (i := 0) (some 58) #[true, false, false, false, false, false, false, false, false, false, false, false, false] (any_of HT_.out (by kernel_rfl)) ?_
           refine pureZ_ (i := 1) (some 59) #[true, true, false, false, false, false, false, false, false, false, false, false, false] (any_of HT_.out (by kernel_rfl)) ?_
           refine pureZ_ (i := 2) (some 60) #[true, true, true, false, false, false, false, false, false, false, false, false, false] (any_of HT_.out (by kernel_rfl)) ?_
           refine pureZ_ (i := 3) (some 61) #[true, true, true, true, false, false, false, false, false, false, false, false, false] (any_of HT_.out (by kernel_rfl)) ?_
           refine pureZ_ (i := 4) (some 62) #[true, true, true, true, true, false, false, false, false, false, false, false, false] (any_of HT_.out (by kernel_rfl)) ?_
           refine pureZ_ (i := 6) (some 64) #[true, true, true, true, true, false, true, false, false, false, false, false, false] (any_of HT_.out (by kernel_rfl)) ?_
           refine pureZ_ (i := 7) (some 65) #[true, true, true, true, true, false, true, true, false, false, false, false, false] (any_of HT_.out (by kernel_rfl)) ?_
           refine pureZ_ (i := 12) (some 70) #[true, true, true, true, true, false, true, true, false, false, false, false, true] (any_of HT_.out (by kernel_rfl)) ?_
           refine takeZ_ (i := 5) (some 63) #[true, true, true, true, true, true, true, true, false, false, false, false, true] (take_ofW HT_.out HW_.out (by kernel_rfl)) hHeld ?_
           refine takeZ_ (i := 8) (some 66) #[true, true, true, true, true, true, true, true, true, false, false, false, true] (take_ofW HT_.out HW_.out (by kernel_rfl)) hHeld ?_
           refine pureZ_ (i := 9) (some 67) #[true, true, true, true, true, true, true, true, true, true, false, false, true] (any_of HT_.out (by kernel_rfl)) ?_
           refine one_ (i := 10) (N := some 68) #[true, true, true, true, true, true, true, true, true, true, true, false, true] rfl rfl (one_of HT_.out (by kernel_rfl)) (by decide) (fun K hK => ?_)
           refine goes_ Try.func155 (by kernel_rfl) rfl #[.slice (some ad491) l0.length c0, .agg #[.int .i64 ((rd_T55 l0 (rd t487 x54_1)).f1), .int .i64 a1_7]] (by rfl) rfl rfl (by (try simp only [List.map_toArray, List.map_cons, List.map_nil]); first | done | rfl | (simp only [List.length_drop, List.length_take]; rfl)) ?_
           with_reducible refine (impl_whoOf.calls k1 _ _ l0 ((rd_T55 l0 (rd t487 x54_1)).f1) a1_7 t492 _ ?side1 ?side2 A62.out).mono ?_
           (case side1 => repeat (first | exact (Kd.C_below HR0.out HB.out) | (with_reducible refine Kd.C_alloc ?_ _) | (with_reducible refine Kd.C_drewN ?_ _) | (with_reducible refine Kd.C_drew ?_)))
           (case side2 => exact HC0.out)
           rintro e w64 ⟨v493, rfl, ho0, hb⟩
           refine ⟨_, rfl, ?_⟩
           replace HO_473000 := Aside0.mk (Kd.S_elder' (by (with_reducible repeat (first | apply Kd.S_alloc | apply Kd.S_drewN | apply Kd.S_drew)); exact HO_473000.out) (Kd.R_base ho0) hb)
           have HO494 := Aside0.mk (Kd.R_lower (Kd.R_new' ho0 (Kd.R_lt (by (with_reducible repeat (first | apply Kd.R_alloc | apply Kd.R_drewN | apply Kd.R_drew)); exact HO_52.out))) bls_)
           replace HO_52 := Aside0.mk (Kd.R_elder' (by (with_reducible repeat (first | apply Kd.R_alloc | apply Kd.R_drewN | apply Kd.R_drew)); exact HO_52.out) (Kd.R_base ho0) hb)
           replace BK468 := bkb_ BK468 hb
           replace BK472 := bkb_ BK472 hb
           replace HB := hbs_ hb
           (try clear hb)
           (try clear hb2)
           (try clear hk)
           (try clear hi)
           (try clear ho0)
           obtain ⟨Ao65, co65, eo65⟩ := Kd.R_slice HO494.out
           (first | subst eo65 | (injection eo65 with f1_ f2_ f3_; have f4_ := f1_.symm; have f5_ := f3_.symm; clear f1_ f2_ f3_; subst f4_; subst f5_))
           refine hK.out _ _ ⟨(blk_cell BK468.out 0).trans rfl, (blk_cell BK468.out 1).trans rfl, (blk_cell BK468.out 2).trans rfl, (blk_cell BK468.out 3).trans rfl, (blk_cell BK468.out 4).trans rfl, (blk_cell BK468.out 5).trans rfl, (blk_cell BK468.out 6).trans rfl, (blk_cell BK468.out 7).trans rfl, (blk_cell BK468.out 8).trans rfl, (blk_cell BK468.out 9).trans rfl, ((HB.out.cell (World.block_lt_of_cell? w _ hw491_0)).trans hw491_0), ((HB.out.cell (World.block_lt_of_cell? w _ hw491_1)).trans hw491_1), ((HB.out.cell (World.block_lt_of_cell? w _ hw491_2)).trans hw491_2)⟩ (fun hHeld => ?_)
           clear hK K
           refine norm_ (a' := ?_) ?_ ?_
           rotate_left
           ·show Act.put _ (some 68) _ = _
            simp only [Act.put, List.setIfInBounds_toArray, List.set_cons_zero, List.set_cons_succ, i64_w, i32_w]
            rfl
           refine pureZ_ (i := 11) (some 69) #[true, true, true, true, true, true, true, true, true, true, true, true, true] (any_of HT_.out (by kernel_rfl)) ?_
           refine done_ (done_of HT_.out (by kernel_rfl)) ?_
           try go_wp2
           go_loopg [70] k1 (fun kq v70 w' => ∃ (x70_2 : Int) (x473000_2 : List (S165)) (u473000 : Value), v70 = .int .i64 x70_2 ∧ Aside0 (impl_derive.l2 kq l0 (rd t487 x54_1) t487 (t487.length : Int) x54_1 t492 (t492.length : Int) x70_2 a1_0 a1_1 a1_2 a1_3 a1_4 a1_5 a1_6 a1_7 a1_8 a1_9 x473000_2 = some r) ∧ Aside0 (kq ≤ k1) ∧ Aside0 (Kd.R (Kd.int .i64) 3 w' w.heap.size (fun k_ => some k_ ≠ ((.slice Ao65 t492.length co65) : Value).ownBlock) (.slice (some ad490) t487.length co56) t487) ∧ Aside0 (Kd.R (Kd.int .i64) 3 w' w.heap.size (fun k_ => some k_ ≠ ((.slice (some ad490) t487.length co56) : Value).ownBlock) (.slice Ao65 t492.length co65) t492) ∧ Aside0 (Kd.S k165 165 w' w.heap.size (fun k_ => some k_ ≠ ((.slice (some ad490) t487.length co56) : Value).ownBlock ∧ some k_ ≠ ((.slice Ao65 t492.length co65) : Value).ownBlock) u473000 x473000_2) ∧ Aside0 (w'.heap[gb468]? = some (.cells #[.int .i64 a1_0, .int .i64 a1_1, .int .i64 a1_2, .int .i64 a1_3, .int .i64 a1_4, .int .i64 a1_5, .int .i64 a1_6, .int .i64 a1_7, .int .i64 a1_8, .int .i64 a1_9] 29 (0, 0))) ∧ Aside0 (w'.heap[gb472]? = some (.cells #[u473000] 162 (0, 0))) ∧ Aside0 (Below w.heap.size w w'))
           case atStart => exact ⟨(0), (x473000_1), (u473000), (by first | rfl | (simp; done) | (simp [*]; done)), H', ⟨Nat.le_refl _⟩, ⟨by (with_reducible repeat (first | apply Kd.R_alloc | apply Kd.R_drewN | apply Kd.R_drew)); exact Kd.R_mono HO_52.out (fun _ hk => hk.2)⟩, ⟨by (with_reducible repeat (first | apply Kd.R_alloc | apply Kd.R_drewN | apply Kd.R_drew)); exact Kd.R_mono HO494.out (fun _ hk => hk.2)⟩, ⟨by (with_reducible repeat (first | apply Kd.S_alloc | apply Kd.S_drewN | apply Kd.S_drew)); exact HO_473000.out⟩, ⟨bk_ BK468⟩, ⟨bk_ BK472⟩, ⟨bl_⟩⟩
           case round =>
            clear H'
            try clear c1
            try clear c2
            try clear p2
            try clear c3
            try clear c3b0
            try clear c3b1
            try clear c4
            try clear p4
            try clear q4
            try clear hx4
            try clear c5
            try clear c6
            try clear p6
            try clear c10
            try clear c13
            try clear c15
            try clear c16
            try clear c16b0
            try clear c16b1
            try clear c23
            try clear c28
            try clear c28b0
            try clear c29
            try clear c29b0
            try clear c30
            try clear c30b0
            try clear c31
            try clear c31b0
            try clear c32
            try clear c32b0
            try clear c33
            try clear c36
            try clear c43
            try clear c45
            try clear c45b0
            try clear c45b1
            try clear p47
            try clear q47
            try clear hx47
            try clear p48
            try clear q48
            try clear hx48
            try clear p49
            try clear q49
            try clear hx49
            try clear c52
            try clear c57
            try clear c57b0
            try clear c58
            try clear c58b0
            try clear c59
            try clear c59b0
            try clear c60
            try clear c60b0
            try clear c61
            try clear c61b0
            try clear p64
            try clear hcz11
            try clear hcz12
            try clear hcz15
            try clear hcz24
            try clear hcz25
            try clear hcz37
            try clear hcz38
            try clear hcz42
            try clear hcz44
            try clear hcz53
            try clear hcz54
            try clear hfz11
            try clear hfz12
            try clear hfz15
            try clear hfz24
            try clear hfz25
            try clear hfz37
            try clear hfz38
            try clear hfz42
            try clear hfz44
            try clear hfz53
            try clear hfz54
            try clear hx479_0
            try clear hx480_0
            try clear hx480_1
            try clear hx480_2
            try clear hx490_0
            try clear hx491_0
            try clear hx491_1
            try clear hx491_2
            try clear p2
            try clear p4
            try clear p47
            try clear p479
            try clear p48
            try clear p480
            try clear p490
            try clear p491
            try clear p6
            try clear q4
            try clear q47
            try clear q479
            try clear q48
            try clear q480
            try clear q490
            try clear q491
            obtain ⟨x70_2, x473000_2, u473000, rfl, HA, HK2, HO_52, HO_68, HO_473000, BK468, BK472, HB⟩ := hrel
            cases gk with
            | zero => exact absurd HA.out (by simp [impl_derive.l2])
            | succ k2 =>
             have H := HA.out
             clear HA
             simp only [impl_derive.l2] at H
             by_cases c66 : x70_2 < (t492.length : Int)
             ·rw [if_pos c66] at H
              have c66b0 : decide (x70_2 < (t492.length : Int)) = true := decide_eq_true c66
              clear c66
              by_cases c67 : 0 ≤ x70_2
              ·rw [if_pos c67] at H
               have c67b0 : decide (0 ≤ x70_2) = true := decide_eq_true c67
               clear c67
               by_cases c68 : x70_2 < (t492.length : Int)
               ·rw [if_pos c68] at H
                have c68b0 : decide (x70_2 < (t492.length : Int)) = true := decide_eq_true c68
                clear c68
                by_cases c69 : 0 ≤ (rd t492 x70_2)
                ·rw [if_pos c69] at H
                 have c69b0 : decide (0 ≤ (rd t492 x70_2)) = true := decide_eq_true c69
                 clear c69
                 by_cases c70 : (rd t492 x70_2) < (l0.length : Int)
                 ·rw [if_pos c70] at H
                  have c70b0 : decide ((rd t492 x70_2) < (l0.length : Int)) = true := decide_eq_true c70
                  clear c70
                  obtain ⟨y497, hy497⟩ : ∃ y_ : List Int, y_ = (([(rd t487 x54_1), rd t492 x70_2] : List Int)) := ⟨_, rfl⟩
                  replace H : (if x473000_2.length < 2932031007402 then (impl_derive.l2 k2 l0 (rd t487 x54_1) t487 (t487.length : Int) x54_1 t492 (t492.length : Int) (wrap64 (x70_2 + 1)) a1_0 a1_1 a1_2 a1_3 a1_4 a1_5 a1_6 a1_7 a1_8 a1_9 (x473000_2 ++ [(⟨(⟨(⟨a1_1, a1_2⟩ : S27), (rd_T55 l0 (rd t492 x70_2)).f1⟩ : S55), y497⟩ : S165)])) else (none)) = some r := by first | (rw [hy497]; with_reducible exact H) | (have H2_ := (Option.bind_some _ _).symm.trans H; rw [hy497]; with_reducible exact H2_) | (have H2_ := (Option.bind_some _ _).symm.trans H; with_reducible exact H2_) | with_reducible exact H | (rw [hy497]; exact H) | exact H
                  have Ny497 := Aside0.mk hy497
                  clear hy497
                  by_cases c71 : x473000_2.length < 2932031007402
                  ·rw [if_pos c71] at H
                   have LMc71 := Aside0.mk c71
                   clear c71
                   obtain ⟨y500, hy500⟩ : ∃ y_ : List (S165), y_ = (x473000_2 ++ [(⟨(⟨(⟨a1_1, a1_2⟩ : S27), (rd_T55 l0 (rd t492 x70_2)).f1⟩ : S55), y497⟩ : S165)]) := ⟨_, rfl⟩
                   replace H : (impl_derive.l2 k2 l0 (rd t487 x54_1) t487 (t487.length : Int) x54_1 t492 (t492.length : Int) (wrap64 (x70_2 + 1)) a1_0 a1_1 a1_2 a1_3 a1_4 a1_5 a1_6 a1_7 a1_8 a1_9 y500) = some r := by first | (rw [hy500]; with_reducible exact H) | (have H2_ := (Option.bind_some _ _).symm.trans H; rw [hy500]; with_reducible exact H2_) | (have H2_ := (Option.bind_some _ _).symm.trans H; with_reducible exact H2_) | with_reducible exact H | (rw [hy500]; exact H) | exact H
                   have Ny500 := Aside0.mk hy500
                   clear hy500
                   have H' := Aside0.mk H
                   clear H
                   have p495 : 0 ≤ (x70_2 : Int) := of_decide_eq_true (by first | (with_reducible assumption) | assumption)
                   have q495 : x70_2 < (t492.length : Int) := of_decide_eq_true (by first | (with_reducible assumption) | assumption)
                   obtain ⟨ad495, e495, hx495_0⟩ := Kd.at_int (Kd.R_reads' HO_68.out).2.2 x70_2 p495 q495
                   cases e495
                   replace p495 := eq_true p495
                   replace q495 := eq_true q495
                   have p496 : 0 ≤ ((rd t492 x70_2) : Int) := of_decide_eq_true (by first | (with_reducible assumption) | assumption)
                   have q496 : (rd t492 x70_2) < (l0.length : Int) := of_decide_eq_true (by first | (with_reducible assumption) | assumption)
                   obtain ⟨ad496, e496, hx496_0, hx496_1, hx496_2⟩ := at_T55 HR0.out (rd t492 x70_2) p496 q496
                   obtain rfl : ad491 = ad496 := (by injection e496)
                   replace hx496_0 := cb_ HB hx496_0
                   replace hx496_1 := cb_ HB hx496_1
                   replace hx496_2 := cb_ HB hx496_2
                   replace p496 := eq_true p496
                   replace q496 := eq_true q496
                   go_wp2_with (first | (go_at_call 154; go_in) | (go_end0; simp only []; go_at_K) | ((with_reducible refine gate_dst (N := 82) rfl ?_); refine Kd.R_lit (Kd.int .i64) _ 3 ?hg (N := 82) ?hd (xs := ([(rd t487 x54_1), rd t492 x70_2] : List Int)) (inner := [.int .i64 (rd t487 x54_1), .int .i64 (rd t492 x70_2)]) (ok := fun _ => True) (okp := fun _ => True) ?hr ?hp (fun _ hk => hk) trivial (Below.refl _ _) (Nat.le_refl _) (by simp) ?_; (case hd => rfl); (case hg => rfl); (case hr => first | (go_simp; done) | (go_simp; rfl)); (case hp => exact (Reps.one (show Kd.M (Kd.int .i64) _ _ _ (rd t487 x54_1) [.int .i64 (rd t487 x54_1)] from rfl) (Reps.one (show Kd.M (Kd.int .i64) _ _ _ (rd t492 x70_2) [.int .i64 (rd t492 x70_2)] from rfl) (Reps.none _ _)))); intro v498 w72 ho73 hb hg_ hnew_; clear hg_ hnew_; (first | rw [← Ny497.out] at ho73 | (simp only [Int.reduceToNat] at ho73; rw [← Ny497.out] at ho73)); replace HO_473000 := Aside0.mk (Kd.S_elder' (by (with_reducible repeat (first | apply Kd.S_alloc | apply Kd.S_drewN | apply Kd.S_drew)); exact HO_473000.out) (Kd.R_base ho73) hb); have HO499 := Aside0.mk (Kd.R_lower (Kd.R_new' (Kd.R_new' ho73 (Kd.R_lt (by (with_reducible repeat (first | apply Kd.R_alloc | apply Kd.R_drewN | apply Kd.R_drew)); exact HO_52.out))) (Kd.R_lt (by (with_reducible repeat (first | apply Kd.R_alloc | apply Kd.R_drewN | apply Kd.R_drew)); exact HO_68.out))) bls_); replace HO_52 := Aside0.mk (Kd.R_elder' (by (with_reducible repeat (first | apply Kd.R_alloc | apply Kd.R_drewN | apply Kd.R_drew)); exact HO_52.out) (Kd.R_base ho73) hb); replace HO_68 := Aside0.mk (Kd.R_elder' (by (with_reducible repeat (first | apply Kd.R_alloc | apply Kd.R_drewN | apply Kd.R_drew)); exact HO_68.out) (Kd.R_base ho73) hb); replace BK468 := bkb_ BK468 hb; replace BK472 := bkb_ BK472 hb; replace HB := hbs_ hb; clear hb ho73; have hnb74 := NB472_468.out; have hnc74 := NB468_472.out; have hcz75 := blk_cell BK472.out; have hfz75 := blk_frozen BK472.out; have hcz76 := blk_cell BK468.out; have hfz76 := blk_frozen BK468.out; obtain ⟨Ao77, co77, eo77⟩ := Kd.R_slice HO499.out; subst eo77) | ((with_reducible refine gate_builtin (b := .append) (xs := #[.tmp 6, .tmp 13]) rfl ?_); at_builtin; refine Kd.S_append k165 (w0 := w) w.heap.size rfl (.tmp 6) (.tmp 13) 162 165 (.agg #[(.int .i64 0), (.int .i64 0), (.int .i64 0), (.slice none 0 0)]) 48 rfl Try.underlying162 info165 rfl (by decide) (by omega) u473000 x473000_2 (⟨(⟨(⟨a1_1, a1_2⟩ : S27), (rd_T55 l0 (rd t492 x70_2)).f1⟩ : S55), y497⟩ : S165) [.int .i64 a1_1, .int .i64 a1_2, .int .i64 ((rd_T55 l0 (rd t492 x70_2)).f1), .slice Ao77 y497.length co77] (fun k_ => some k_ ≠ (.slice (some ad490) t487.length co56 : Value).ownBlock ∧ some k_ ≠ (.slice (some ad495) t492.length co65 : Value).ownBlock) (fun k_ => some k_ = (.slice Ao77 y497.length co77 : Value).ownBlock) rfl rfl ?aP (fun k_ hk_ => ((Kd.R_mono (ok' := fun k_ => ((fun k_ => some k_ ≠ (.slice (some ad490) t487.length co56 : Value).ownBlock ∧ some k_ ≠ (.slice (some ad495) t492.length co65 : Value).ownBlock)) k_ ∧ some k_ ≠ (u473000 : Value).ownBlock) (Kd.R_apart' (HO499.out) (Kd.S_typed HO_473000.out) (by decide)) (fun k_ hk => ⟨⟨hk.1.1.2, hk.1.2⟩, hk.2⟩))).1 k_ hk_.symm) ?aF ?aO ?aB ?aS ?aL ?_; (case aP => exact k165_mkM _ _ _ (⟨(⟨(⟨a1_1, a1_2⟩ : S27), (rd_T55 l0 (rd t492 x70_2)).f1⟩ : S55), y497⟩ : S165) (Kd.R_mono (Kd.R_tight rfl (Kd.R_mono (ok' := fun k_ => ((fun k_ => some k_ ≠ (.slice (some ad490) t487.length co56 : Value).ownBlock ∧ some k_ ≠ (.slice (some ad495) t492.length co65 : Value).ownBlock)) k_ ∧ some k_ ≠ (u473000 : Value).ownBlock) (Kd.R_apart' (HO499.out) (Kd.S_typed HO_473000.out) (by decide)) (fun k_ hk => ⟨⟨hk.1.1.2, hk.1.2⟩, hk.2⟩))) (fun _ h_ => h_))); (case aB => exact bl_); (case aF => exact (fun k_ hk => ⟨Kd.fresh' (Kd.R_lt (by (with_reducible repeat (first | apply Kd.R_alloc | apply Kd.R_drewN | apply Kd.R_drew)); exact HO_52.out)) k_ hk, Kd.fresh' (Kd.R_lt (by (with_reducible repeat (first | apply Kd.R_alloc | apply Kd.R_drewN | apply Kd.R_drew)); exact HO_68.out)) k_ hk⟩)); (case aO => exact (by (with_reducible repeat (first | apply Kd.S_alloc | apply Kd.S_drewN | apply Kd.S_drew)); exact Kd.S_mono HO_473000.out (fun k_ hk => ⟨⟨hk.1.1, hk.1.2⟩, fun e_ => hk.2 e_⟩))); (case aS => exact bls_); (case aL => have := LMc71.out; omega); intro v501 w78 ho hb hg hat; rw [← Ny500.out] at ho; replace HO_52 := Aside0.mk (Kd.R_over' (by (with_reducible repeat (first | apply Kd.R_alloc | apply Kd.R_drewN | apply Kd.R_drew)); exact HO_52.out) (Kd.S_typed (by (with_reducible repeat (first | apply Kd.S_alloc | apply Kd.S_drewN | apply Kd.S_drew)); exact HO_473000.out)) (by decide) hg); replace HO_68 := Aside0.mk (Kd.R_over' (by (with_reducible repeat (first | apply Kd.R_alloc | apply Kd.R_drewN | apply Kd.R_drew)); exact HO_68.out) (Kd.S_typed (by (with_reducible repeat (first | apply Kd.S_alloc | apply Kd.S_drewN | apply Kd.S_drew)); exact HO_473000.out)) (by decide) hg); replace BK468 := Aside0.mk (blk_grown (g := gb468) (o := .cells #[.int .i64 a1_0, .int .i64 a1_1, .int .i64 a1_2, .int .i64 a1_3, .int .i64 a1_4, .int .i64 a1_5, .int .i64 a1_6, .int .i64 a1_7, .int .i64 a1_8, .int .i64 a1_9] 29 (0, 0)) (bk_ BK468) hg (Kd.S_ne HO_473000.out BK468.out (by decide))); replace BK472 := Aside0.mk (blk_grown (g := gb472) (o := .cells #[u473000] 162 (0, 0)) (bk_ BK472) hg (Kd.S_ne HO_473000.out BK472.out (by decide))); replace HB := Aside0.mk (hb); have HO502 := Aside0.mk (ho); clear HO_473000; clear HO499; clear ho hb hg hat; obtain ⟨Ao79, co79, eo79⟩ := Kd.S_slice HO502.out; subst eo79; have hcz80 := blk_cell BK472.out; have hfz80 := blk_frozen BK472.out))
                   go_roundg k2
                   case measure => have := HK1.out; have := HK2.out; omega
                   case rel => exact ⟨(wrap64 (x70_2 + 1)), (y500), (.slice Ao79 y500.length co79), (by first | rfl | (simp; done) | (simp [*]; done)), H', ⟨by have := HK1.out; have := HK2.out; omega⟩, ⟨by (with_reducible repeat (first | apply Kd.R_alloc | apply Kd.R_drewN | apply Kd.R_drew)); exact Kd.R_mono (Kd.R_far (p := ⟨gb472, 0, none⟩) (Kd.R_types HO_52.out BK472.out (by decide)) (fun _ hk => hk.2) (.slice Ao79 y500.length co79)) (fun _ hk => hk.1.1)⟩, ⟨by (with_reducible repeat (first | apply Kd.R_alloc | apply Kd.R_drewN | apply Kd.R_drew)); exact Kd.R_mono (Kd.R_far (p := ⟨gb472, 0, none⟩) (Kd.R_types HO_68.out BK472.out (by decide)) (fun _ hk => hk.2) (.slice Ao79 y500.length co79)) (fun _ hk => hk.1.1)⟩, ⟨by (with_reducible repeat (first | apply Kd.S_alloc | apply Kd.S_drewN | apply Kd.S_drew)); exact Kd.S_mono (Kd.S_far (p := ⟨gb472, 0, none⟩) (Kd.S_types HO502.out BK472.out (by decide)) (fun _ hk => hk.2) (.slice Ao79 y500.length co79)) (fun _ hk => ⟨hk.1.1, hk.1.2⟩)⟩, ⟨bk_ BK468⟩, ⟨bk_ BK472⟩, ⟨bl_⟩⟩
                  ·rw [if_neg c71] at H
                   exact absurd H (by simp)
                 ·rw [if_neg c70] at H
                  exact absurd H (by simp)
                ·rw [if_neg c69] at H
                 exact absurd H (by simp)
               ·rw [if_neg c68] at H
                exact absurd H (by simp)
              ·rw [if_neg c67] at H
               exact absurd H (by simp)
             ·rw [if_neg c66] at H
              have c66b0 : decide (x70_2 < (t492.length : Int)) = false := decide_eq_false c66
              clear c66
              have H' := Aside0.mk H
              clear H
              go_wp2
              go_roundg k2
              case measure => have := HK1.out; have := HK2.out; omega
              case rel => exact ⟨(wrap64 (x54_1 + 1)), (x473000_2), (u473000), (by first | rfl | (simp; done) | (simp [*]; done)), H', ⟨by have := HK1.out; have := HK2.out; omega⟩, ⟨by (with_reducible repeat (first | apply Kd.R_alloc | apply Kd.R_drewN | apply Kd.R_drew)); exact Kd.R_mono HO_52.out (fun _ hk => trivial)⟩, ⟨by (with_reducible repeat (first | apply Kd.S_alloc | apply Kd.S_drewN | apply Kd.S_drew)); exact Kd.S_mono HO_473000.out (fun _ hk => hk.1)⟩, ⟨bk_ BK468⟩, ⟨bk_ BK472⟩, ⟨bl_⟩⟩
          ·rw [if_neg c61] at H
           exact absurd H (by simp)
         ·rw [if_neg c60] at H
          exact absurd H (by simp)
        ·rw [if_neg c59] at H
         exact absurd H (by simp)
       ·rw [if_neg c58] at H
        exact absurd H (by simp)
      ·rw [if_neg c57] at H
       have c57b0 : decide (x54_1 < (t487.length : Int)) = false := decide_eq_false c57
       clear c57
       obtain rfl := Option.some.inj H
       have hnb81 := NB472_468.out
       have hnc81 := NB468_472.out
       have hcz82 := blk_cell BK472.out
       have hfz82 := blk_frozen BK472.out
       go_wp2
       go_ret
       exact ⟨_, eq_, by (with_reducible repeat (first | apply Kd.S_alloc | apply Kd.S_drewN | apply Kd.S_drew)); exact Kd.S_mono HO_473000.out (fun _ hk => trivial), bl_⟩
   ·rw [if_neg c45] at H
    have c45b0 : (a1_0 == 3) = false := beq_eq_false_iff_ne.mpr c45
    have c45b1 : (a1_0 != 3) = true := bne_iff_ne.mpr c45
    by_cases c83 : a1_0 = 4
    ·rw [if_pos c83] at H
     have c83b0 : (a1_0 == 4) = true := beq_iff_eq.mpr c83
     have c83b1 : (a1_0 != 4) = false := bne_eq_false_iff_eq.mpr c83
     clear c83
     obtain ⟨t503, A84, H⟩ := bindE_ H
     have H' := Aside0.mk H
     clear H
     go_enter Try.func132, Try.ntmps132
     go_wp2_with (first | (go_at_call 154; go_in) | (go_end0; simp only []; go_at_K) | ((with_reducible refine gate_dst (N := 3) rfl ?_); refine box_event ?hg (N := 3) ?hd (cs := #[.int .i64 a1_0, .int .i64 a1_1, .int .i64 a1_2, .int .i64 a1_3, .int .i64 a1_4, .int .i64 a1_5, .int .i64 a1_6, .int .i64 a1_7, .int .i64 a1_8, .int .i64 a1_9]) (t := 29) ?hr ?_; (case hd => rfl); (case hg => rfl); (case hr => first | (go_simp; done) | (go_simp; rfl)); intro gb468 hg w85 hbox hb; have BK468 := Aside0.mk (hbox); have GW468 := gs_ hg; have GE468 := gs_ hg; replace HB := hbs_ hb; clear hb hbox hg) | ((with_reducible refine gate_dst (N := 16) rfl ?_); refine Kd.S_lit k165 _ 165 ?hg (N := 16) ?hd (xs := ([] : List (S165))) (inner := []) (ok := fun _ => True) (okp := fun _ => True) ?hr ?hp (fun _ hk => hk) trivial (Below.refl _ _) (Nat.le_refl _) (by simp) ?_; (case hd => rfl); (case hg => rfl); (case hr => first | (go_simp; done) | (go_simp; rfl)); (case hp => exact (Reps.none _ _)); intro v470 w86 ho87 hb hg_ hnew_; clear hg_ hnew_; (first | rw [← Ny469.out] at ho87 | (simp only [Int.reduceToNat] at ho87; rw [← Ny469.out] at ho87)); have HO471 := Aside0.mk (Kd.S_lower ho87 bls_); replace BK468 := bkb_ BK468 hb; replace HB := hbs_ hb; clear hb ho87) | ((with_reducible refine gate_dst (N := 5) rfl ?_); refine box_event ?hg (N := 5) ?hd (cs := #[.slice none 0 0]) (t := 162) ?hr ?_; (case hd => rfl); (case hg => rfl); (case hr => first | (go_simp; done) | (go_simp; rfl)); intro gb472 hg w88 hbox hb; replace HO471 := Aside0.mk (Kd.S_below (by (with_reducible repeat (first | apply Kd.S_alloc | apply Kd.S_drewN | apply Kd.S_drew)); exact HO471.out) hb); have BK472 := Aside0.mk (hbox); have GW472 := gs_ hg; have GE472 := gs_ hg; replace HB := hbs_ hb; have NB468_472 := Aside0.mk ((by rw [hg]; exact Nat.ne_of_lt (blk_lt (g := gb468) (o := .cells #[.int .i64 a1_0, .int .i64 a1_1, .int .i64 a1_2, .int .i64 a1_3, .int .i64 a1_4, .int .i64 a1_5, .int .i64 a1_6, .int .i64 a1_7, .int .i64 a1_8, .int .i64 a1_9] 29 (0, 0)) (bk_ BK468)) : gb468 ≠ gb472)); have NB472_468 := Aside0.mk ((by rw [hg]; exact Nat.ne_of_gt (blk_lt (g := gb468) (o := .cells #[.int .i64 a1_0, .int .i64 a1_1, .int .i64 a1_2, .int .i64 a1_3, .int .i64 a1_4, .int .i64 a1_5, .int .i64 a1_6, .int .i64 a1_7, .int .i64 a1_8, .int .i64 a1_9] 29 (0, 0)) (bk_ BK468)) : gb472 ≠ gb468)); replace BK468 := bkb_ BK468 hb; clear hb hbox hg; obtain ⟨Ao89, co89, eo89⟩ := Kd.S_slice HO471.out; subst eo89; have hnb90 := NB472_468.out; have hnc90 := NB468_472.out; have hcz91 := blk_cell BK472.out; have hfz91 := blk_frozen BK472.out; have hcz92 := blk_cell BK468.out; have hfz92 := blk_frozen BK468.out) | ((with_reducible refine gate_callee (f := 155) rfl ?_); refine goesC_ (some 91) Try.func155 #[.slice A0 l0.length c0, .agg #[.int .i64 a1_4, .int .i64 a1_5]] ?_; (with_reducible refine (impl_whoOf.calls k _ _ l0 a1_4 a1_5 t503 _ ?side1 ?side2 A84.out).mono ?_); (case side1 => exact Kd.C_below HR0.out bl_); (case side2 => exact HC0.out); rintro e w93 ⟨v504, rfl, ho0, hb⟩; refine ⟨_, rfl, ?_⟩; replace HO471 := Aside0.mk (Kd.S_elder' (by (with_reducible repeat (first | apply Kd.S_alloc | apply Kd.S_drewN | apply Kd.S_drew)); exact (Kd.S_mono (Kd.S_far (p := ⟨gb472, 0, none⟩) (Kd.S_types HO471.out BK472.out (by decide)) (fun _ hk => hk.2) (.slice Ao89 y469.length co89)) (fun _ h_ => h_.1))) (Kd.R_base ho0) hb); have HO505 := Aside0.mk (Kd.R_lower ho0 bls_); replace BK468 := Aside0.mk (blk_below (g := gb468) (o := .cells #[.int .i64 a1_0, .int .i64 a1_1, .int .i64 a1_2, .int .i64 a1_3, .int .i64 a1_4, .int .i64 a1_5, .int .i64 a1_6, .int .i64 a1_7, .int .i64 a1_8, .int .i64 a1_9] 29 (0, 0)) (bk_ BK468) hb); replace BK472 := Aside0.mk (blk_below (g := gb472) (o := .cells #[.slice Ao89 y469.length co89] 162 (0, 0)) (bk_ BK472) hb); replace HB := hbs_ hb; (try clear hb); (try clear hb2); (try clear hk); (try clear hi); (try clear ho0); obtain ⟨Ao94, co94, eo94⟩ := Kd.R_slice HO505.out; subst eo94))
     go_loopg [93] k (fun kq v93 w' => ∃ (x93_1 : Int) (x473000_1 : List (S165)) (u473000 : Value), v93 = .int .i64 x93_1 ∧ Aside0 (impl_derive.l3 kq l0 t503 (t503.length : Int) x93_1 a1_0 a1_1 a1_2 a1_3 a1_4 a1_5 a1_6 a1_7 a1_8 a1_9 x473000_1 = some r) ∧ Aside0 (kq ≤ k) ∧ Aside0 (Kd.R (Kd.int .i64) 3 w' w.heap.size (fun _ => True) (.slice Ao94 t503.length co94) t503) ∧ Aside0 (Kd.S k165 165 w' w.heap.size (fun k_ => some k_ ≠ ((.slice Ao94 t503.length co94) : Value).ownBlock) u473000 x473000_1) ∧ Aside0 (w'.heap[gb468]? = some (.cells #[.int .i64 a1_0, .int .i64 a1_1, .int .i64 a1_2, .int .i64 a1_3, .int .i64 a1_4, .int .i64 a1_5, .int .i64 a1_6, .int .i64 a1_7, .int .i64 a1_8, .int .i64 a1_9] 29 (0, 0))) ∧ Aside0 (w'.heap[gb472]? = some (.cells #[u473000] 162 (0, 0))) ∧ Aside0 (Below w.heap.size w w'))
     case atStart => exact ⟨(0), (y469), (.slice Ao89 y469.length co89), (by first | rfl | (simp; done) | (simp [*]; done)), H', ⟨Nat.le_refl _⟩, ⟨by (with_reducible repeat (first | apply Kd.R_alloc | apply Kd.R_drewN | apply Kd.R_drew)); exact HO505.out⟩, ⟨by (with_reducible repeat (first | apply Kd.S_alloc | apply Kd.S_drewN | apply Kd.S_drew)); exact Kd.S_mono HO471.out (fun _ hk => hk.2)⟩, ⟨bk_ BK468⟩, ⟨bk_ BK472⟩, ⟨bl_⟩⟩
     case round =>
      clear H'
      try clear c1
      try clear c2
      try clear p2
      try clear c3
      try clear c3b0
      try clear c3b1
      try clear c4
      try clear p4
      try clear q4
      try clear hx4
      try clear c5
      try clear c6
      try clear p6
      try clear c7
      try clear c8
      try clear c9
      try clear c10
      try clear c13
      try clear c15
      try clear c16
      try clear c16b0
      try clear c16b1
      try clear c23
      try clear c28
      try clear c28b0
      try clear c29
      try clear c29b0
      try clear c30
      try clear c30b0
      try clear c31
      try clear c31b0
      try clear c32
      try clear c32b0
      try clear c33
      try clear c36
      try clear c43
      try clear c45
      try clear c45b0
      try clear c45b1
      try clear p47
      try clear q47
      try clear hx47
      try clear p48
      try clear q48
      try clear hx48
      try clear p49
      try clear q49
      try clear hx49
      try clear c52
      try clear c57
      try clear c57b0
      try clear c58
      try clear c58b0
      try clear c59
      try clear c59b0
      try clear c60
      try clear c60b0
      try clear c61
      try clear c61b0
      try clear p64
      try clear c66
      try clear c66b0
      try clear c67
      try clear c67b0
      try clear c68
      try clear c68b0
      try clear c69
      try clear c69b0
      try clear c70
      try clear c70b0
      try clear c71
      try clear c74
      try clear c81
      try clear c83
      try clear c83b0
      try clear c83b1
      try clear c90
      try clear hcz11
      try clear hcz12
      try clear hcz15
      try clear hcz24
      try clear hcz25
      try clear hcz37
      try clear hcz38
      try clear hcz42
      try clear hcz44
      try clear hcz53
      try clear hcz54
      try clear hcz75
      try clear hcz76
      try clear hcz80
      try clear hcz82
      try clear hcz91
      try clear hcz92
      try clear hfz11
      try clear hfz12
      try clear hfz15
      try clear hfz24
      try clear hfz25
      try clear hfz37
      try clear hfz38
      try clear hfz42
      try clear hfz44
      try clear hfz53
      try clear hfz54
      try clear hfz75
      try clear hfz76
      try clear hfz80
      try clear hfz82
      try clear hfz91
      try clear hfz92
      try clear hx479_0
      try clear hx480_0
      try clear hx480_1
      try clear hx480_2
      try clear hx490_0
      try clear hx491_0
      try clear hx491_1
      try clear hx491_2
      try clear hx495_0
      try clear hx496_0
      try clear hx496_1
      try clear hx496_2
      try clear p2
      try clear p4
      try clear p47
      try clear p479
      try clear p48
      try clear p480
      try clear p49
      try clear p490
      try clear p491
      try clear p495
      try clear p496
      try clear p6
      try clear p64
      try clear q4
      try clear q47
      try clear q479
      try clear q48
      try clear q480
      try clear q49
      try clear q490
      try clear q491
      try clear q495
      try clear q496
      obtain ⟨x93_1, x473000_1, u473000, rfl, HA, HK1, HO_91, HO_473000, BK468, BK472, HB⟩ := hrel
      cases gk with
      | zero => exact absurd HA.out (by simp [impl_derive.l3])
      | succ k1 =>
       have H := HA.out
       clear HA
       simp only [impl_derive.l3] at H
       by_cases c95 : x93_1 < (t503.length : Int)
       ·rw [if_pos c95] at H
        have c95b0 : decide (x93_1 < (t503.length : Int)) = true := decide_eq_true c95
        clear c95
        by_cases c96 : 0 ≤ x93_1
        ·rw [if_pos c96] at H
         have c96b0 : decide (0 ≤ x93_1) = true := decide_eq_true c96
         clear c96
         by_cases c97 : x93_1 < (t503.length : Int)
         ·rw [if_pos c97] at H
          have c97b0 : decide (x93_1 < (t503.length : Int)) = true := decide_eq_true c97
          clear c97
          by_cases c98 : 0 ≤ (rd t503 x93_1)
          ·rw [if_pos c98] at H
           have c98b0 : decide (0 ≤ (rd t503 x93_1)) = true := decide_eq_true c98
           clear c98
           by_cases c99 : (rd t503 x93_1) < (l0.length : Int)
           ·rw [if_pos c99] at H
            have c99b0 : decide ((rd t503 x93_1) < (l0.length : Int)) = true := decide_eq_true c99
            clear c99
            obtain ⟨t508, A100, H⟩ := bindE_ H
            by_cases c101 : t508 ≥ 0
            ·rw [if_pos c101] at H
             have c101b0 : decide (0 ≤ t508) = true := decide_eq_true c101
             clear c101
             obtain ⟨y510, hy510⟩ : ∃ y_ : List Int, y_ = (([rd t503 x93_1, t508] : List Int)) := ⟨_, rfl⟩
             replace H : (if x473000_1.length < 2932031007402 then (impl_derive.l3 k1 l0 t503 (t503.length : Int) (wrap64 (x93_1 + 1)) a1_0 a1_1 a1_2 a1_3 a1_4 a1_5 a1_6 a1_7 a1_8 a1_9 (x473000_1 ++ [(⟨(⟨(⟨a1_1, a1_2⟩ : S27), (rd_T55 l0 (rd t503 x93_1)).f1⟩ : S55), y510⟩ : S165)])) else (none)) = some r := by first | (rw [hy510]; with_reducible exact H) | (have H2_ := (Option.bind_some _ _).symm.trans H; rw [hy510]; with_reducible exact H2_) | (have H2_ := (Option.bind_some _ _).symm.trans H; with_reducible exact H2_) | with_reducible exact H | (rw [hy510]; exact H) | exact H
             have Ny510 := Aside0.mk hy510
             clear hy510
             by_cases c102 : x473000_1.length < 2932031007402
             ·rw [if_pos c102] at H
              have LMc102 := Aside0.mk c102
              clear c102
              obtain ⟨y513, hy513⟩ : ∃ y_ : List (S165), y_ = (x473000_1 ++ [(⟨(⟨(⟨a1_1, a1_2⟩ : S27), (rd_T55 l0 (rd t503 x93_1)).f1⟩ : S55), y510⟩ : S165)]) := ⟨_, rfl⟩
              replace H : (impl_derive.l3 k1 l0 t503 (t503.length : Int) (wrap64 (x93_1 + 1)) a1_0 a1_1 a1_2 a1_3 a1_4 a1_5 a1_6 a1_7 a1_8 a1_9 y513) = some r := by first | (rw [hy513]; with_reducible exact H) | (have H2_ := (Option.bind_some _ _).symm.trans H; rw [hy513]; with_reducible exact H2_) | (have H2_ := (Option.bind_some _ _).symm.trans H; with_reducible exact H2_) | with_reducible exact H | (rw [hy513]; exact H) | exact H
              have Ny513 := Aside0.mk hy513
              clear hy513
              have H' := Aside0.mk H
              clear H
              have p506 : 0 ≤ (x93_1 : Int) := of_decide_eq_true (by first | (with_reducible assumption) | assumption)
              have q506 : x93_1 < (t503.length : Int) := of_decide_eq_true (by first | (with_reducible assumption) | assumption)
              obtain ⟨ad506, e506, hx506_0⟩ := Kd.at_int (Kd.R_reads' HO_91.out).2.2 x93_1 p506 q506
              cases e506
              replace p506 := eq_true p506
              replace q506 := eq_true q506
              try go_wp2
              replace HO_91 := Aside0.mk (Kd.R_drew HO_91.out)
              replace HO_473000 := Aside0.mk (Kd.S_drew HO_473000.out)
              replace BK468 := Aside0.mk (blk_drew BK468.out)
              replace BK472 := Aside0.mk (blk_drew BK472.out)
              replace HB := Aside0.mk (below_drew1 HB.out)
              have p507 : 0 ≤ ((rd t503 x93_1) : Int) := of_decide_eq_true (by first | (with_reducible assumption) | assumption)
              have q507 : (rd t503 x93_1) < (l0.length : Int) := of_decide_eq_true (by first | (with_reducible assumption) | assumption)
              obtain ⟨ad507, e507, hx507_0, hx507_1, hx507_2⟩ := at_T55 HR0.out (rd t503 x93_1) p507 q507
              have hw507_2 := hx507_2
              have hw507_1 := hx507_1
              have hw507_0 := hx507_0
              cases e507
              replace hx507_0 := cb_ HB hx507_0
              replace hx507_1 := cb_ HB hx507_1
              replace hx507_2 := cb_ HB hx507_2
              replace p507 := eq_true p507
              replace q507 := eq_true q507
              refine start_ (n := 11) (S := fun w' => w'.cell? ⟨gb468, 0, none⟩ = some (.int .i64 a1_0) ∧ w'.cell? ⟨gb468, 1, none⟩ = some (.int .i64 a1_1) ∧ w'.cell? ⟨gb468, 2, none⟩ = some (.int .i64 a1_2) ∧ w'.cell? ⟨gb468, 3, none⟩ = some (.int .i64 a1_3) ∧ w'.cell? ⟨gb468, 4, none⟩ = some (.int .i64 a1_4) ∧ w'.cell? ⟨gb468, 5, none⟩ = some (.int .i64 a1_5) ∧ w'.cell? ⟨gb468, 6, none⟩ = some (.int .i64 a1_6) ∧ w'.cell? ⟨gb468, 7, none⟩ = some (.int .i64 a1_7) ∧ w'.cell? ⟨gb468, 8, none⟩ = some (.int .i64 a1_8) ∧ w'.cell? ⟨gb468, 9, none⟩ = some (.int .i64 a1_9) ∧ w'.cell? (ad507.add (((rd t503 x93_1)).toNat * 3)) = some (.int .i64 ((rd_T55 l0 (rd t503 x93_1)).f0.f0)) ∧ w'.cell? ⟨(ad507.add (((rd t503 x93_1)).toNat * 3)).block, (ad507.add (((rd t503 x93_1)).toNat * 3)).off + 1, none⟩ = some (.int .i64 ((rd_T55 l0 (rd t503 x93_1)).f0.f1)) ∧ w'.cell? ⟨(ad507.add (((rd t503 x93_1)).toNat * 3)).block, (ad507.add (((rd t503 x93_1)).toNat * 3)).off + 2, none⟩ = some (.int .i64 ((rd_T55 l0 (rd t503 x93_1)).f1))) (ds := []) #[false, false, false, false, false, false, false, false, false, false, false] (by kernel_rfl) rfl rfl ⟨(blk_cell BK468.out 0).trans rfl, (blk_cell BK468.out 1).trans rfl, (blk_cell BK468.out 2).trans rfl, (blk_cell BK468.out 3).trans rfl, (blk_cell BK468.out 4).trans rfl, (blk_cell BK468.out 5).trans rfl, (blk_cell BK468.out 6).trans rfl, (blk_cell BK468.out 7).trans rfl, (blk_cell BK468.out 8).trans rfl, (blk_cell BK468.out 9).trans rfl, ((HB.out.cell (World.block_lt_of_cell? w _ hw507_0)).trans hw507_0), ((HB.out.cell (World.block_lt_of_cell? w _ hw507_1)).trans hw507_1), ((HB.out.cell (World.block_lt_of_cell? w _ hw507_2)).trans hw507_2)⟩ (fun hHeld => ?_); refine with_tabW impl_derive.tab26 impl_derive.bits26 (fun HT_ HW_ => ?_)
              generalize wr.drew = w103 at HO_91 HO_473000 BK468 BK472 HB hx507_0 hx507_1 hx507_2 hHeld ⊢
              refine pureZ_ (i := 0) (some 97) #[true, false, false, false, false, false, false, false, false, false, false] (any_of HT_.out (by kernel_rfl)) ?_
              refine pureZ_ (i := 1) (some 98) #[true, true, false, false, false, false, false, false, false, false, false] (any_of HT_.out (by kernel_rfl)) ?_
              refine pureZ_ (i := 3) (some 100) #[true, true, false, true, false, false, false, false, false, false, false] (any_of HT_.out (by kernel_rfl)) ?_
              refine pureZ_ (i := 4) (some 101) #[true, true, false, true, true, false, false, false, false, false, false] (any_of HT_.out (by kernel_rfl)) ?_
              refine pureZ_ (i := 5) (some 102) #[true, true, false, true, true, true, false, false, false, false, false] (any_of HT_.out (by kernel_rfl)) ?_
              refine pureZ_ (i := 6) (some 103) #[true, true, false, true, true, true, true, false, false, false, false] (any_of HT_.out (by kernel_rfl)) ?_
              refine takeZ_ (i := 2) (some 99) #[true, true, true, true, true, true, true, false, false, false, false] (take_ofW HT_.out HW_.out (by kernel_rfl)) hHeld ?_
              refine takeZ_ (i := 7) (some 104) #[true, true, true, true, true, true, true, true, false, false, false] (take_ofW HT_.out HW_.out (by kernel_rfl)) hHeld ?_
              refine pureZ_ (i := 8) (some 105) #[true, true, true, true, true, true, true, true, true, false, false] (any_of HT_.out (by kernel_rfl)) ?_
              refine one_ (i := 9) (N := some 106) #[true, true, true, true, true, true, true, true, true, true, false] rfl rfl (one_of HT_.out (by kernel_rfl)) (by decide) (fun K hK => ?_)
              refine goes_ Try.func93 (by kernel_rfl) rfl #[.slice (some ad507) l0.length c0, .agg #[.int .i64 a1_6, .int .i64 a1_7, .int .i64 ((rd_T55 l0 (rd t503 x93_1)).f1)]] (by rfl) rfl rfl (by (try simp only [List.map_toArray, List.map_cons, List.map_nil]); first | done | rfl | (simp only [List.length_drop, List.length_take]; rfl)) ?_
              with_reducible refine (impl_Fact_93.calls k1 _ _ l0 a1_6 a1_7 ((rd_T55 l0 (rd t503 x93_1)).f1) t508 _ ?side1 ?side2 A100.out).mono ?_
              (case side1 => repeat (first | exact (Kd.C_below HR0.out HB.out) | (with_reducible refine Kd.C_alloc ?_ _) | (with_reducible refine Kd.C_drewN ?_ _) | (with_reducible refine Kd.C_drew ?_)))
              (case side2 => exact HC0.out)
              rintro e w104 ⟨rfl, hb⟩
              refine ⟨_, rfl, ?_⟩
              replace HO_91 := Aside0.mk (Kd.R_below (by (with_reducible repeat (first | apply Kd.R_alloc | apply Kd.R_drewN | apply Kd.R_drew)); exact HO_91.out) hb)
              replace HO_473000 := Aside0.mk (Kd.S_below (by (with_reducible repeat (first | apply Kd.S_alloc | apply Kd.S_drewN | apply Kd.S_drew)); exact HO_473000.out) hb)
              replace BK468 := bkb_ BK468 hb
              replace BK472 := bkb_ BK472 hb
              replace HB := hbs_ hb
              (try clear hb)
              (try clear hb2)
              (try clear hk)
              (try clear hi)
              refine hK.out _ _ ⟨(blk_cell BK468.out 0).trans rfl, (blk_cell BK468.out 1).trans rfl, (blk_cell BK468.out 2).trans rfl, (blk_cell BK468.out 3).trans rfl, (blk_cell BK468.out 4).trans rfl, (blk_cell BK468.out 5).trans rfl, (blk_cell BK468.out 6).trans rfl, (blk_cell BK468.out 7).trans rfl, (blk_cell BK468.out 8).trans rfl, (blk_cell BK468.out 9).trans rfl, ((HB.out.cell (World.block_lt_of_cell? w _ hw507_0)).trans hw507_0), ((HB.out.cell (World.block_lt_of_cell? w _ hw507_1)).trans hw507_1), ((HB.out.cell (World.block_lt_of_cell? w _ hw507_2)).trans hw507_2)⟩ (fun hHeld => ?_)
              clear hK K
              refine norm_ (a' := ?_) ?_ ?_
              rotate_left
              ·show Act.put _ (some 106) _ = _
               simp only [Act.put, List.setIfInBounds_toArray, List.set_cons_zero, List.set_cons_succ, i64_w, i32_w]
               rfl
              refine pureZ_ (i := 10) (some 15) #[true, true, true, true, true, true, true, true, true, true, true] (any_of HT_.out (by kernel_rfl)) ?_
              refine done_ (done_of HT_.out (by kernel_rfl)) ?_
              have p509 : 0 ≤ ((rd t503 x93_1) : Int) := of_decide_eq_true (by first | (with_reducible assumption) | assumption)
              have q509 : (rd t503 x93_1) < (l0.length : Int) := of_decide_eq_true (by first | (with_reducible assumption) | assumption)
              obtain ⟨ad509, e509, hx509_0, hx509_1, hx509_2⟩ := at_T55 HR0.out (rd t503 x93_1) p509 q509
              obtain rfl : ad507 = ad509 := (by injection e509)
              replace hx509_0 := cb_ HB hx509_0
              replace hx509_1 := cb_ HB hx509_1
              replace hx509_2 := cb_ HB hx509_2
              replace p509 := eq_true p509
              replace q509 := eq_true q509
              try go_wp2_with (first | (go_at_call 154; go_in) | (go_end0; simp only []; go_at_K) | ((with_reducible refine gate_dst (N := 117) rfl ?_); refine Kd.R_lit (Kd.int .i64) _ 3 ?hg (N := 117) ?hd (xs := ([rd t503 x93_1, t508] : List Int)) (inner := [.int .i64 (rd t503 x93_1), .int .i64 t508]) (ok := fun _ => True) (okp := fun _ => True) ?hr ?hp (fun _ hk => hk) trivial (Below.refl _ _) (Nat.le_refl _) (by simp) ?_; (case hd => rfl); (case hg => rfl); (case hr => first | (go_simp; done) | (go_simp; rfl)); (case hp => exact (Reps.one (show Kd.M (Kd.int .i64) _ _ _ (rd t503 x93_1) [.int .i64 (rd t503 x93_1)] from rfl) (Reps.one (show Kd.M (Kd.int .i64) _ _ _ t508 [.int .i64 t508] from rfl) (Reps.none _ _)))); intro v511 w105 ho106 hb hg_ hnew_; clear hg_ hnew_; (first | rw [← Ny510.out] at ho106 | (simp only [Int.reduceToNat] at ho106; rw [← Ny510.out] at ho106)); replace HO_473000 := Aside0.mk (Kd.S_elder' (by (with_reducible repeat (first | apply Kd.S_alloc | apply Kd.S_drewN | apply Kd.S_drew)); exact HO_473000.out) (Kd.R_base ho106) hb); have HO512 := Aside0.mk (Kd.R_lower (Kd.R_new' ho106 (Kd.R_lt (by (with_reducible repeat (first | apply Kd.R_alloc | apply Kd.R_drewN | apply Kd.R_drew)); exact HO_91.out))) bls_); replace HO_91 := Aside0.mk (Kd.R_elder' (by (with_reducible repeat (first | apply Kd.R_alloc | apply Kd.R_drewN | apply Kd.R_drew)); exact HO_91.out) (Kd.R_base ho106) hb); replace BK468 := bkb_ BK468 hb; replace BK472 := bkb_ BK472 hb; replace HB := hbs_ hb; clear hb ho106; have hnb107 := NB472_468.out; have hnc107 := NB468_472.out; have hcz108 := blk_cell BK472.out; have hfz108 := blk_frozen BK472.out; have hcz109 := blk_cell BK468.out; have hfz109 := blk_frozen BK468.out; obtain ⟨Ao110, co110, eo110⟩ := Kd.R_slice HO512.out; subst eo110) | ((with_reducible refine gate_builtin (b := .append) (xs := #[.tmp 6, .tmp 13]) rfl ?_); at_builtin; refine Kd.S_append k165 (w0 := w) w.heap.size rfl (.tmp 6) (.tmp 13) 162 165 (.agg #[(.int .i64 0), (.int .i64 0), (.int .i64 0), (.slice none 0 0)]) 48 rfl Try.underlying162 info165 rfl (by decide) (by omega) u473000 x473000_1 (⟨(⟨(⟨a1_1, a1_2⟩ : S27), (rd_T55 l0 (rd t503 x93_1)).f1⟩ : S55), y510⟩ : S165) [.int .i64 a1_1, .int .i64 a1_2, .int .i64 ((rd_T55 l0 (rd t503 x93_1)).f1), .slice Ao110 y510.length co110] (fun k_ => some k_ ≠ (.slice (some ad506) t503.length co94 : Value).ownBlock) (fun k_ => some k_ = (.slice Ao110 y510.length co110 : Value).ownBlock) rfl rfl ?aP (fun k_ hk_ => ((Kd.R_mono (ok' := fun k_ => ((fun k_ => some k_ ≠ (.slice (some ad506) t503.length co94 : Value).ownBlock)) k_ ∧ some k_ ≠ (u473000 : Value).ownBlock) (Kd.R_apart' (HO512.out) (Kd.S_typed HO_473000.out) (by decide)) (fun k_ hk => ⟨hk.1.2, hk.2⟩))).1 k_ hk_.symm) ?aF ?aO ?aB ?aS ?aL ?_; (case aP => exact k165_mkM _ _ _ (⟨(⟨(⟨a1_1, a1_2⟩ : S27), (rd_T55 l0 (rd t503 x93_1)).f1⟩ : S55), y510⟩ : S165) (Kd.R_mono (Kd.R_tight rfl (Kd.R_mono (ok' := fun k_ => ((fun k_ => some k_ ≠ (.slice (some ad506) t503.length co94 : Value).ownBlock)) k_ ∧ some k_ ≠ (u473000 : Value).ownBlock) (Kd.R_apart' (HO512.out) (Kd.S_typed HO_473000.out) (by decide)) (fun k_ hk => ⟨hk.1.2, hk.2⟩))) (fun _ h_ => h_))); (case aB => exact bl_); (case aF => exact (fun k_ hk => Kd.fresh' (Kd.R_lt (by (with_reducible repeat (first | apply Kd.R_alloc | apply Kd.R_drewN | apply Kd.R_drew)); exact HO_91.out)) k_ hk)); (case aO => exact (by (with_reducible repeat (first | apply Kd.S_alloc | apply Kd.S_drewN | apply Kd.S_drew)); exact Kd.S_mono HO_473000.out (fun k_ hk => ⟨hk.1, fun e_ => hk.2 e_⟩))); (case aS => exact bls_); (case aL => have := LMc102.out; omega); intro v514 w111 ho hb hg hat; rw [← Ny513.out] at ho; replace HO_91 := Aside0.mk (Kd.R_over' (by (with_reducible repeat (first | apply Kd.R_alloc | apply Kd.R_drewN | apply Kd.R_drew)); exact HO_91.out) (Kd.S_typed (by (with_reducible repeat (first | apply Kd.S_alloc | apply Kd.S_drewN | apply Kd.S_drew)); exact HO_473000.out)) (by decide) hg); replace BK468 := Aside0.mk (blk_grown (g := gb468) (o := .cells #[.int .i64 a1_0, .int .i64 a1_1, .int .i64 a1_2, .int .i64 a1_3, .int .i64 a1_4, .int .i64 a1_5, .int .i64 a1_6, .int .i64 a1_7, .int .i64 a1_8, .int .i64 a1_9] 29 (0, 0)) (bk_ BK468) hg (Kd.S_ne HO_473000.out BK468.out (by decide))); replace BK472 := Aside0.mk (blk_grown (g := gb472) (o := .cells #[u473000] 162 (0, 0)) (bk_ BK472) hg (Kd.S_ne HO_473000.out BK472.out (by decide))); replace HB := Aside0.mk (hb); have HO515 := Aside0.mk (ho); clear HO_473000; clear HO512; clear ho hb hg hat; obtain ⟨Ao112, co112, eo112⟩ := Kd.S_slice HO515.out; subst eo112; have hcz113 := blk_cell BK472.out; have hfz113 := blk_frozen BK472.out))
              go_roundg k1
              case measure => have := HK1.out; omega
              case rel => exact ⟨(wrap64 (x93_1 + 1)), (y513), (.slice Ao112 y513.length co112), (by first | rfl | (simp; done) | (simp [*]; done)), H', ⟨by have := HK1.out; omega⟩, ⟨by (with_reducible repeat (first | apply Kd.R_alloc | apply Kd.R_drewN | apply Kd.R_drew)); exact Kd.R_mono (Kd.R_far (p := ⟨gb472, 0, none⟩) (Kd.R_types HO_91.out BK472.out (by decide)) (fun _ hk => hk.2) (.slice Ao112 y513.length co112)) (fun _ hk => trivial)⟩, ⟨by (with_reducible repeat (first | apply Kd.S_alloc | apply Kd.S_drewN | apply Kd.S_drew)); exact Kd.S_mono (Kd.S_far (p := ⟨gb472, 0, none⟩) (Kd.S_types HO515.out BK472.out (by decide)) (fun _ hk => hk.2) (.slice Ao112 y513.length co112)) (fun _ hk => hk.1)⟩, ⟨bk_ BK468⟩, ⟨bk_ BK472⟩, ⟨bl_⟩⟩
             ·rw [if_neg c102] at H
              exact absurd H (by simp)
            ·rw [if_neg c101] at H
             have c101b0 : decide (0 ≤ t508) = false := decide_eq_false c101
             clear c101
             have H' := Aside0.mk H
             clear H
             have p506 : 0 ≤ (x93_1 : Int) := of_decide_eq_true (by first | (with_reducible assumption) | assumption)
             have q506 : x93_1 < (t503.length : Int) := of_decide_eq_true (by first | (with_reducible assumption) | assumption)
             obtain ⟨ad506, e506, hx506_0⟩ := Kd.at_int (Kd.R_reads' HO_91.out).2.2 x93_1 p506 q506
             cases e506
             replace p506 := eq_true p506
             replace q506 := eq_true q506
             try go_wp2
             replace HO_91 := Aside0.mk (Kd.R_drew HO_91.out)
             replace HO_473000 := Aside0.mk (Kd.S_drew HO_473000.out)
             replace BK468 := Aside0.mk (blk_drew BK468.out)
             replace BK472 := Aside0.mk (blk_drew BK472.out)
             replace HB := Aside0.mk (below_drew1 HB.out)
             have p507 : 0 ≤ ((rd t503 x93_1) : Int) := of_decide_eq_true (by first | (with_reducible assumption) | assumption)
             have q507 : (rd t503 x93_1) < (l0.length : Int) := of_decide_eq_true (by first | (with_reducible assumption) | assumption)
             obtain ⟨ad507, e507, hx507_0, hx507_1, hx507_2⟩ := at_T55 HR0.out (rd t503 x93_1) p507 q507
             have hw507_2 := hx507_2
             have hw507_1 := hx507_1
             have hw507_0 := hx507_0
             cases e507
             replace hx507_0 := cb_ HB hx507_0
             replace hx507_1 := cb_ HB hx507_1
             replace hx507_2 := cb_ HB hx507_2
             replace p507 := eq_true p507
             replace q507 := eq_true q507
             refine start_ (n := 11) (S := fun w' => w'.cell? ⟨gb468, 0, none⟩ = some (.int .i64 a1_0) ∧ w'.cell? ⟨gb468, 1, none⟩ = some (.int .i64 a1_1) ∧ w'.cell? ⟨gb468, 2, none⟩ = some (.int .i64 a1_2) ∧ w'.cell? ⟨gb468, 3, none⟩ = some (.int .i64 a1_3) ∧ w'.cell? ⟨gb468, 4, none⟩ = some (.int .i64 a1_4) ∧ w'.cell? ⟨gb468, 5, none⟩ = some (.int .i64 a1_5) ∧ w'.cell? ⟨gb468, 6, none⟩ = some (.int .i64 a1_6) ∧ w'.cell? ⟨gb468, 7, none⟩ = some (.int .i64 a1_7) ∧ w'.cell? ⟨gb468, 8, none⟩ = some (.int .i64 a1_8) ∧ w'.cell? ⟨gb468, 9, none⟩ = some (.int .i64 a1_9) ∧ w'.cell? (ad507.add (((rd t503 x93_1)).toNat * 3)) = some (.int .i64 ((rd_T55 l0 (rd t503 x93_1)).f0.f0)) ∧ w'.cell? ⟨(ad507.add (((rd t503 x93_1)).toNat * 3)).block, (ad507.add (((rd t503 x93_1)).toNat * 3)).off + 1, none⟩ = some (.int .i64 ((rd_T55 l0 (rd t503 x93_1)).f0.f1)) ∧ w'.cell? ⟨(ad507.add (((rd t503 x93_1)).toNat * 3)).block, (ad507.add (((rd t503 x93_1)).toNat * 3)).off + 2, none⟩ = some (.int .i64 ((rd_T55 l0 (rd t503 x93_1)).f1))) (ds := []) #[false, false, false, false, false, false, false, false, false, false, false] (by kernel_rfl) rfl rfl ⟨(blk_cell BK468.out 0).trans rfl, (blk_cell BK468.out 1).trans rfl, (blk_cell BK468.out 2).trans rfl, (blk_cell BK468.out 3).trans rfl, (blk_cell BK468.out 4).trans rfl, (blk_cell BK468.out 5).trans rfl, (blk_cell BK468.out 6).trans rfl, (blk_cell BK468.out 7).trans rfl, (blk_cell BK468.out 8).trans rfl, (blk_cell BK468.out 9).trans rfl, ((HB.out.cell (World.block_lt_of_cell? w _ hw507_0)).trans hw507_0), ((HB.out.cell (World.block_lt_of_cell? w _ hw507_1)).trans hw507_1), ((HB.out.cell (World.block_lt_of_cell? w _ hw507_2)).trans hw507_2)⟩ (fun hHeld => ?_); refine with_tabW impl_derive.tab26 impl_derive.bits26 (fun HT_ HW_ => ?_)
             generalize wr.drew = w114 at HO_91 HO_473000 BK468 BK472 HB hx507_0 hx507_1 hx507_2 hHeld ⊢
             refine pureZ_ (i := 0) (some 97) #[true, false, false, false, false, false, false, false, false, false, false] (any_of HT_.out (by kernel_rfl)) ?_
             refine pureZ_ (i := 1) (some 98) #[true, true, false, false, false, false, false, false, false, false, false] (any_of HT_.out (by kernel_rfl)) ?_
             refine pureZ_ (i := 3) (some 100) #[true, true, false, true, false, false, false, false, false, false, false] (any_of HT_.out (by kernel_rfl)) ?_
             refine pureZ_ (i := 4) (some 101) #[true, true, false, true, true, false, false, false, false, false, false] (any_of HT_.out (by kernel_rfl)) ?_
             refine pureZ_ (i := 5) (some 102) #[true, true, false, true, true, true, false, false, false, false, false] (any_of HT_.out (by kernel_rfl)) ?_
             refine pureZ_ (i := 6) (some 103) #[true, true, false, true, true, true, true, false, false, false, false] (any_of HT_.out (by kernel_rfl)) ?_
             refine takeZ_ (i := 2) (some 99) #[true, true, true, true, true, true, true, false, false, false, false] (take_ofW HT_.out HW_.out (by kernel_rfl)) hHeld ?_
             refine takeZ_ (i := 7) (some 104) #[true, true, true, true, true, true, true, true, false, false, false] (take_ofW HT_.out HW_.out (by kernel_rfl)) hHeld ?_
             refine pureZ_ (i := 8) (some 105) #[true, true, true, true, true, true, true, true, true, false, false] (any_of HT_.out (by kernel_rfl)) ?_
             refine one_ (i := 9) (N := some 106) #[true, true, true, true, true, true, true, true, true, true, false] rfl rfl (one_of HT_.out (by kernel_rfl)) (by decide) (fun K hK => ?_)
             refine goes_ Try.func93 (by kernel_rfl) rfl #[.slice (some ad507) l0.length c0, .agg #[.int .i64 a1_6, .int .i64 a1_7, .int .i64 ((rd_T55 l0 (rd t503 x93_1)).f1)]] (by rfl) rfl rfl (by (try simp only [List.map_toArray, List.map_cons, List.map_nil]); first | done | rfl | (simp only [List.length_drop, List.length_take]; rfl)) ?_
             with_reducible refine (impl_Fact_93.calls k1 _ _ l0 a1_6 a1_7 ((rd_T55 l0 (rd t503 x93_1)).f1) t508 _ ?side1 ?side2 A100.out).mono ?_
             (case side1 => repeat (first | exact (Kd.C_below HR0.out HB.out) | (with_reducible refine Kd.C_alloc ?_ _) | (with_reducible refine Kd.C_drewN ?_ _) | (with_reducible refine Kd.C_drew ?_)))
             (case side2 => exact HC0.out)
             rintro e w115 ⟨rfl, hb⟩
             refine ⟨_, rfl, ?_⟩
             replace HO_91 := Aside0.mk (Kd.R_below (by (with_reducible repeat (first | apply Kd.R_alloc | apply Kd.R_drewN | apply Kd.R_drew)); exact HO_91.out) hb)
             replace HO_473000 := Aside0.mk (Kd.S_below (by (with_reducible repeat (first | apply Kd.S_alloc | apply Kd.S_drewN | apply Kd.S_drew)); exact HO_473000.out) hb)
             replace BK468 := bkb_ BK468 hb
             replace BK472 := bkb_ BK472 hb
             replace HB := hbs_ hb
             (try clear hb)
             (try clear hb2)
             (try clear hk)
             (try clear hi)
             refine hK.out _ _ ⟨(blk_cell BK468.out 0).trans rfl, (blk_cell BK468.out 1).trans rfl, (blk_cell BK468.out 2).trans rfl, (blk_cell BK468.out 3).trans rfl, (blk_cell BK468.out 4).trans rfl, (blk_cell BK468.out 5).trans rfl, (blk_cell BK468.out 6).trans rfl, (blk_cell BK468.out 7).trans rfl, (blk_cell BK468.out 8).trans rfl, (blk_cell BK468.out 9).trans rfl, ((HB.out.cell (World.block_lt_of_cell? w _ hw507_0)).trans hw507_0), ((HB.out.cell (World.block_lt_of_cell? w _ hw507_1)).trans hw507_1), ((HB.out.cell (World.block_lt_of_cell? w _ hw507_2)).trans hw507_2)⟩ (fun hHeld => ?_)
             clear hK K
             refine norm_ (a' := ?_) ?_ ?_
             rotate_left
             ·show Act.put _ (some 106) _ = _
              simp only [Act.put, List.setIfInBounds_toArray, List.set_cons_zero, List.set_cons_succ, i64_w, i32_w]
              rfl
             refine pureZ_ (i := 10) (some 15) #[true, true, true, true, true, true, true, true, true, true, true] (any_of HT_.out (by kernel_rfl)) ?_
             refine done_ (done_of HT_.out (by kernel_rfl)) ?_
             try go_wp2
             go_roundg k1
             case measure => have := HK1.out; omega
             case rel => exact ⟨(wrap64 (x93_1 + 1)), (x473000_1), (u473000), (by first | rfl | (simp; done) | (simp [*]; done)), H', ⟨by have := HK1.out; omega⟩, ⟨by (with_reducible repeat (first | apply Kd.R_alloc | apply Kd.R_drewN | apply Kd.R_drew)); exact HO_91.out⟩, ⟨by (with_reducible repeat (first | apply Kd.S_alloc | apply Kd.S_drewN | apply Kd.S_drew)); exact HO_473000.out⟩, ⟨bk_ BK468⟩, ⟨bk_ BK472⟩, ⟨bl_⟩⟩
           ·rw [if_neg c99] at H
            exact absurd H (by simp)
          ·rw [if_neg c98] at H
           exact absurd H (by simp)
         ·rw [if_neg c97] at H
          exact absurd H (by simp)
        ·rw [if_neg c96] at H
         exact absurd H (by simp)
       ·rw [if_neg c95] at H
        have c95b0 : decide (x93_1 < (t503.length : Int)) = false := decide_eq_false c95
        clear c95
        obtain rfl := Option.some.inj H
        have hnb116 := NB472_468.out
        have hnc116 := NB468_472.out
        have hcz117 := blk_cell BK472.out
        have hfz117 := blk_frozen BK472.out
        go_wp2
        go_ret
        exact ⟨_, eq_, by (with_reducible repeat (first | apply Kd.S_alloc | apply Kd.S_drewN | apply Kd.S_drew)); exact Kd.S_mono HO_473000.out (fun _ hk => trivial), bl_⟩
    ·rw [if_neg c83] at H
     have c83b0 : (a1_0 == 4) = false := beq_eq_false_iff_ne.mpr c83
     have c83b1 : (a1_0 != 4) = true := bne_iff_ne.mpr c83
     obtain rfl := Option.some.inj H
     go_enter Try.func132, Try.ntmps132
     go_wp2_with (first | (go_at_call 154; go_in) | (go_end0; simp only []; go_at_K) | ((with_reducible refine gate_dst (N := 3) rfl ?_); refine box_event ?hg (N := 3) ?hd (cs := #[.int .i64 a1_0, .int .i64 a1_1, .int .i64 a1_2, .int .i64 a1_3, .int .i64 a1_4, .int .i64 a1_5, .int .i64 a1_6, .int .i64 a1_7, .int .i64 a1_8, .int .i64 a1_9]) (t := 29) ?hr ?_; (case hd => rfl); (case hg => rfl); (case hr => first | (go_simp; done) | (go_simp; rfl)); intro gb468 hg w118 hbox hb; have BK468 := Aside0.mk (hbox); have GW468 := gs_ hg; have GE468 := gs_ hg; replace HB := hbs_ hb; clear hb hbox hg) | ((with_reducible refine gate_dst (N := 16) rfl ?_); refine Kd.S_lit k165 _ 165 ?hg (N := 16) ?hd (xs := ([] : List (S165))) (inner := []) (ok := fun _ => True) (okp := fun _ => True) ?hr ?hp (fun _ hk => hk) trivial (Below.refl _ _) (Nat.le_refl _) (by simp) ?_; (case hd => rfl); (case hg => rfl); (case hr => first | (go_simp; done) | (go_simp; rfl)); (case hp => exact (Reps.none _ _)); intro v470 w119 ho120 hb hg_ hnew_; clear hg_ hnew_; (first | rw [← Ny469.out] at ho120 | (simp only [Int.reduceToNat] at ho120; rw [← Ny469.out] at ho120)); have HO471 := Aside0.mk (Kd.S_lower ho120 bls_); replace BK468 := bkb_ BK468 hb; replace HB := hbs_ hb; clear hb ho120) | ((with_reducible refine gate_dst (N := 5) rfl ?_); refine box_event ?hg (N := 5) ?hd (cs := #[.slice none 0 0]) (t := 162) ?hr ?_; (case hd => rfl); (case hg => rfl); (case hr => first | (go_simp; done) | (go_simp; rfl)); intro gb472 hg w121 hbox hb; replace HO471 := Aside0.mk (Kd.S_below (by (with_reducible repeat (first | apply Kd.S_alloc | apply Kd.S_drewN | apply Kd.S_drew)); exact HO471.out) hb); have BK472 := Aside0.mk (hbox); have GW472 := gs_ hg; have GE472 := gs_ hg; replace HB := hbs_ hb; have NB468_472 := Aside0.mk ((by rw [hg]; exact Nat.ne_of_lt (blk_lt (g := gb468) (o := .cells #[.int .i64 a1_0, .int .i64 a1_1, .int .i64 a1_2, .int .i64 a1_3, .int .i64 a1_4, .int .i64 a1_5, .int .i64 a1_6, .int .i64 a1_7, .int .i64 a1_8, .int .i64 a1_9] 29 (0, 0)) (bk_ BK468)) : gb468 ≠ gb472)); have NB472_468 := Aside0.mk ((by rw [hg]; exact Nat.ne_of_gt (blk_lt (g := gb468) (o := .cells #[.int .i64 a1_0, .int .i64 a1_1, .int .i64 a1_2, .int .i64 a1_3, .int .i64 a1_4, .int .i64 a1_5, .int .i64 a1_6, .int .i64 a1_7, .int .i64 a1_8, .int .i64 a1_9] 29 (0, 0)) (bk_ BK468)) : gb472 ≠ gb468)); replace BK468 := bkb_ BK468 hb; clear hb hbox hg; obtain ⟨Ao122, co122, eo122⟩ := Kd.S_slice HO471.out; subst eo122; have hnb123 := NB472_468.out; have hnc123 := NB468_472.out; have hcz124 := blk_cell BK472.out; have hfz124 := blk_frozen BK472.out; have hcz125 := blk_cell BK468.out; have hfz125 := blk_frozen BK468.out))
     go_ret
     exact ⟨_, eq_, by (with_reducible repeat (first | apply Kd.S_alloc | apply Kd.S_drewN | apply Kd.S_drew)); exact Kd.S_mono (Kd.S_far (p := ⟨gb472, 0, none⟩) (Kd.S_types HO471.out BK472.out (by decide)) (fun _ hk => hk.2) (.slice Ao122 y469.length co122)) (fun _ hk => trivial), bl_⟩
end Go.Proofs.Ytcgnegnljffkmaa.PB
