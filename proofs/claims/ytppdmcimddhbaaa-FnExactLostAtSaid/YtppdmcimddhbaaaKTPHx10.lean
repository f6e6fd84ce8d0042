import Derived.Test.YtppdmcimddhbaaaKTPHx9
-- A text of this claim: written by the session's own program out of the translation (wip/tools). Lean checks it.
namespace Go.Proofs.Ytppdmcimddhbaaa.PH
open Go.RowKit Go.Proofs.YtppdmcimddhbaaaW.PrintWords Go.Proofs.YtppdmcimddhbaaaW.PrintLast Go.Proofs.YtppdmcimddhbaaaW.PrintMore
attribute [local go_sem] max2_int min2_int max_two min_two max_three min_three max_four min_four   -- for this text's walks alone
set_option linter.unusedVariables false
set_option linter.unusedSimpArgs false
mutual
def impl_derive.l0 : Nat → List (S29) → List Int → Int → Int → Int → Int → Int → Int → Int → Int → Int → Int → Int → Int → List (S177) → Option ((List (S177)))
 | 0, _, _, _, _, _, _, _, _, _, _, _, _, _, _, _ => none
 | k + 1, x0, x31, x32, x33, x281000, x281001, x281002, x281003, x281004, x281005, x281006, x281007, x281008, x281009, x285000 => if x33 < x32 then (if 0 ≤ x33 then (if x33 < (x31.length : Int) then (if 0 ≤ (rd x31 x33) then (if (rd x31 x33) < (x0.length : Int) then (if x285000.length < 2932031007402 then (impl_derive.l0 k x0 x31 x32 (wrap64 (x33 + 1)) x281000 x281001 x281002 x281003 x281004 x281005 x281006 x281007 x281008 x281009 (x285000 ++ [(⟨(⟨(⟨x281001, x281002⟩ : S27), (rd_T29 x0 (rd x31 x33)).f1⟩ : S29), (([rd x31 x33] : List Int))⟩ : S177)])) else (none)) else (none)) else (none)) else (none)) else (none)) else (some x285000)
def impl_derive.l1 : Nat → List (S29) → List Int → Int → Int → Int → Int → Int → Int → Int → Int → Int → Int → Int → Int → List (S177) → Option ((List (S177)))
 | 0, _, _, _, _, _, _, _, _, _, _, _, _, _, _, _ => none
 | k + 1, x0, x52, x53, x54, x281000, x281001, x281002, x281003, x281004, x281005, x281006, x281007, x281008, x281009, x285000 => if x54 < x53 then (if 0 ≤ x54 then (if x54 < (x52.length : Int) then (if 0 ≤ (rd x52 x54) then (if (rd x52 x54) < (x0.length : Int) then ((impl_whoOf.f k x0 ((rd_T29 x0 (rd x52 x54)).f1) x281007).bind fun t304 => (impl_derive.l2 k x0 (rd x52 x54) x52 x53 x54 t304 (t304.length : Int) 0 x281000 x281001 x281002 x281003 x281004 x281005 x281006 x281007 x281008 x281009 x285000)) else (none)) else (none)) else (none)) else (none)) else (some x285000)
def impl_derive.l2 : Nat → List (S29) → Int → List Int → Int → Int → List Int → Int → Int → Int → Int → Int → Int → Int → Int → Int → Int → Int → Int → List (S177) → Option ((List (S177)))
 | 0, _, _, _, _, _, _, _, _, _, _, _, _, _, _, _, _, _, _, _ => none
 | k + 1, x0, x10, x52, x53, x54, x68, x69, x70, x281000, x281001, x281002, x281003, x281004, x281005, x281006, x281007, x281008, x281009, x285000 => if x70 < x69 then (if 0 ≤ x70 then (if x70 < (x68.length : Int) then (if 0 ≤ (rd x68 x70) then (if (rd x68 x70) < (x0.length : Int) then (if x285000.length < 2932031007402 then (impl_derive.l2 k x0 x10 x52 x53 x54 x68 x69 (wrap64 (x70 + 1)) x281000 x281001 x281002 x281003 x281004 x281005 x281006 x281007 x281008 x281009 (x285000 ++ [(⟨(⟨(⟨x281001, x281002⟩ : S27), (rd_T29 x0 (rd x68 x70)).f1⟩ : S29), (([x10, rd x68 x70] : List Int))⟩ : S177)])) else (none)) else (none)) else (none)) else (none)) else (none)) else (impl_derive.l1 k x0 x52 x53 (wrap64 (x54 + 1)) x281000 x281001 x281002 x281003 x281004 x281005 x281006 x281007 x281008 x281009 x285000)
def impl_derive.l3 : Nat → List (S29) → List Int → Int → Int → Int → Int → Int → Int → Int → Int → Int → Int → Int → Int → List (S177) → Option ((List (S177)))
 | 0, _, _, _, _, _, _, _, _, _, _, _, _, _, _, _ => none
 | k + 1, x0, x91, x92, x93, x281000, x281001, x281002, x281003, x281004, x281005, x281006, x281007, x281008, x281009, x285000 => if x93 < x92 then (if 0 ≤ x93 then (if x93 < (x91.length : Int) then (if 0 ≤ (rd x91 x93) then (if (rd x91 x93) < (x0.length : Int) then ((impl_Fact_134.f k x0 x281006 x281007 ((rd_T29 x0 (rd x91 x93)).f1)).bind fun t320 => (if t320 ≥ 0 then (if x285000.length < 2932031007402 then (impl_derive.l3 k x0 x91 x92 (wrap64 (x93 + 1)) x281000 x281001 x281002 x281003 x281004 x281005 x281006 x281007 x281008 x281009 (x285000 ++ [(⟨(⟨(⟨x281001, x281002⟩ : S27), (rd_T29 x0 (rd x91 x93)).f1⟩ : S29), (([rd x91 x93, t320] : List Int))⟩ : S177)])) else (none)) else (impl_derive.l3 k x0 x91 x92 (wrap64 (x93 + 1)) x281000 x281001 x281002 x281003 x281004 x281005 x281006 x281007 x281008 x281009 x285000))) else (none)) else (none)) else (none)) else (none)) else (some x285000)
end
def impl_derive.f (k : Nat) (l0 : List (S29)) (a1_0 : Int) (a1_1 : Int) (a1_2 : Int) (a1_3 : Int) (a1_4 : Int) (a1_5 : Int) (a1_6 : Int) (a1_7 : Int) (a1_8 : Int) (a1_9 : Int) : Option ((List (S177))) := (some (([] : List (S177)) : List (S177))).bind fun y281 => (if a1_0 = 1 then (if y281.length < 2932031007402 then (some (y281 ++ [(⟨(⟨(⟨a1_1, a1_2⟩ : S27), a1_3⟩ : S29), ([] : List Int)⟩ : S177)])) else (none)) else (if a1_0 = 2 then ((impl_whoOf.f k l0 a1_4 a1_5).bind fun t288 => (impl_derive.l0 k l0 t288 (t288.length : Int) 0 a1_0 a1_1 a1_2 a1_3 a1_4 a1_5 a1_6 a1_7 a1_8 a1_9 y281)) else (if a1_0 = 3 then ((impl_whoOf.f k l0 a1_4 a1_5).bind fun t299 => (impl_derive.l1 k l0 t299 (t299.length : Int) 0 a1_0 a1_1 a1_2 a1_3 a1_4 a1_5 a1_6 a1_7 a1_8 a1_9 y281)) else (if a1_0 = 4 then ((impl_whoOf.f k l0 a1_4 a1_5).bind fun t315 => (impl_derive.l3 k l0 t315 (t315.length : Int) 0 a1_0 a1_1 a1_2 a1_3 a1_4 a1_5 a1_6 a1_7 a1_8 a1_9 y281)) else (some y281)))))
def impl_derive.T16 : Bool × List (List Nat × List Nat) := (true, [([], []), ([], []), ([], []), ([1, 2], [1, 2]), ([3], [3]), ([4], [4]), ([], []), ([6], [6]), ([7], [7]), ([5, 8], [5, 8]), ([0, 9], [0, 9]), ([10], [10]), ([], [])])
def impl_derive.B16 : List Nat := [0, 0, 0, 6, 14, 30, 0, 64, 192, 510, 1023, 2047, 0]
theorem impl_derive.tab16 : rtab .any (opsOf Try.f147 16) = impl_derive.T16 := by kernel_rfl
theorem impl_derive.bits16 : waitsOk impl_derive.T16.2 impl_derive.B16 = true := by kernel_rfl
def impl_derive.T26 : Bool × List (List Nat × List Nat) := (true, [([], []), ([], []), ([1], [1]), ([], []), ([], []), ([3, 4], [3, 4]), ([5], [5]), ([6], [6]), ([2, 7], [2, 7]), ([0, 8], [0, 8]), ([9, 9, 0, 1, 2, 3, 4, 5, 6, 7, 8, 9], [9])])
def impl_derive.B26 : List Nat := [0, 0, 2, 0, 0, 24, 56, 120, 254, 511, 1023]
theorem impl_derive.tab26 : rtab .any (opsOf Try.f147 26) = impl_derive.T26 := by kernel_rfl
theorem impl_derive.bits26 : waitsOk impl_derive.T26.2 impl_derive.B26 = true := by kernel_rfl
set_option maxHeartbeats 8000000 in
set_option maxRecDepth 100000 in
theorem impl_derive.calls (k : Nat) (A0 : Option Addr) (c0 : Nat) (l0 : List (S29)) (a1_0 : Int) (a1_1 : Int) (a1_2 : Int) (a1_3 : Int) (a1_4 : Int) (a1_5 : Int) (a1_6 : Int) (a1_7 : Int) (a1_8 : Int) (a1_9 : Int) (r : List (S177)) (w : World) (hr0 : Kd.C k29 w A0 l0.length l0) (hc0 : l0.length ≤ c0) (h : impl_derive.f k l0 a1_0 a1_1 a1_2 a1_3 a1_4 a1_5 a1_6 a1_7 a1_8 a1_9 = some r) :
  Calls Try.prog 147 #[.slice A0 l0.length c0, .agg #[.int .i64 a1_0, .int .i64 a1_1, .int .i64 a1_2, .int .i64 a1_3, .int .i64 a1_4, .int .i64 a1_5, .int .i64 a1_6, .int .i64 a1_7, .int .i64 a1_8, .int .i64 a1_9]] w fun e w' => ∃ v0_ : Value, e = .returned (v0_) ∧ Kd.S k177 177 w' w.heap.size (fun _ => True) v0_ r ∧ Below w.heap.size w w' := by
 have hu46 := Try.underlying46
 have hu27 := Try.underlying27
 have hu29 := Try.underlying29
 have hmf : ∀ (fn : Fn) (first cap : Array Value) (w : World), (Instr.makeFunc fn first cap).run Try.prog w = .ok (.func fn first cap) w := fun _ _ _ _ => rfl
 have hu173 := Try.underlying173
 have HR0 := Aside0.mk hr0
 have HC0 := Aside0.mk hc0
 clear hr0 hc0
 have HB := Aside0.mk (Below.refl w.heap.size w)
 have H : ((some (([] : List (S177)) : List (S177))).bind fun y281 => (if a1_0 = 1 then (if y281.length < 2932031007402 then (some (y281 ++ [(⟨(⟨(⟨a1_1, a1_2⟩ : S27), a1_3⟩ : S29), ([] : List Int)⟩ : S177)])) else (none)) else (if a1_0 = 2 then ((impl_whoOf.f k l0 a1_4 a1_5).bind fun t288 => (impl_derive.l0 k l0 t288 (t288.length : Int) 0 a1_0 a1_1 a1_2 a1_3 a1_4 a1_5 a1_6 a1_7 a1_8 a1_9 y281)) else (if a1_0 = 3 then ((impl_whoOf.f k l0 a1_4 a1_5).bind fun t299 => (impl_derive.l1 k l0 t299 (t299.length : Int) 0 a1_0 a1_1 a1_2 a1_3 a1_4 a1_5 a1_6 a1_7 a1_8 a1_9 y281)) else (if a1_0 = 4 then ((impl_whoOf.f k l0 a1_4 a1_5).bind fun t315 => (impl_derive.l3 k l0 t315 (t315.length : Int) 0 a1_0 a1_1 a1_2 a1_3 a1_4 a1_5 a1_6 a1_7 a1_8 a1_9 y281)) else (some y281)))))) = some r := h
 clear h
 obtain ⟨y281, hy281⟩ : ∃ y_ : List (S177), y_ = (([] : List (S177))) := ⟨_, rfl⟩
 replace H : (if a1_0 = 1 then (if y281.length < 2932031007402 then (some (y281 ++ [(⟨(⟨(⟨a1_1, a1_2⟩ : S27), a1_3⟩ : S29), ([] : List Int)⟩ : S177)])) else (none)) else (if a1_0 = 2 then ((impl_whoOf.f k l0 a1_4 a1_5).bind fun t288 => (impl_derive.l0 k l0 t288 (t288.length : Int) 0 a1_0 a1_1 a1_2 a1_3 a1_4 a1_5 a1_6 a1_7 a1_8 a1_9 y281)) else (if a1_0 = 3 then ((impl_whoOf.f k l0 a1_4 a1_5).bind fun t299 => (impl_derive.l1 k l0 t299 (t299.length : Int) 0 a1_0 a1_1 a1_2 a1_3 a1_4 a1_5 a1_6 a1_7 a1_8 a1_9 y281)) else (if a1_0 = 4 then ((impl_whoOf.f k l0 a1_4 a1_5).bind fun t315 => (impl_derive.l3 k l0 t315 (t315.length : Int) 0 a1_0 a1_1 a1_2 a1_3 a1_4 a1_5 a1_6 a1_7 a1_8 a1_9 y281)) else (some y281))))) = some r := by first | (rw [hy281]; with_reducible exact H) | (have H2_ := (Option.bind_some _ _).symm.trans H; rw [hy281]; with_reducible exact H2_) | (have H2_ := (Option.bind_some _ _).symm.trans H; with_reducible exact H2_) | with_reducible exact H | (rw [hy281]; exact H) | exact H
 have Ny281 := Aside0.mk hy281
 clear hy281
 by_cases c3 : a1_0 = 1
 ·rw [if_pos c3] at H
  have c3b0 : (a1_0 == 1) = true := beq_iff_eq.mpr c3
  have c3b1 : (a1_0 != 1) = false := bne_eq_false_iff_eq.mpr c3
  clear c3
  by_cases c4 : y281.length < 2932031007402
  ·rw [if_pos c4] at H
   have LMc4 := Aside0.mk c4
   clear c4
   obtain ⟨y285, hy285⟩ : ∃ y_ : List (S177), y_ = (y281 ++ [(⟨(⟨(⟨a1_1, a1_2⟩ : S27), a1_3⟩ : S29), ([] : List Int)⟩ : S177)]) := ⟨_, rfl⟩
   replace H : (some y285) = some r := by first | (rw [hy285]; with_reducible exact H) | (have H2_ := (Option.bind_some _ _).symm.trans H; rw [hy285]; with_reducible exact H2_) | (have H2_ := (Option.bind_some _ _).symm.trans H; with_reducible exact H2_) | with_reducible exact H | (rw [hy285]; exact H) | exact H
   have Ny285 := Aside0.mk hy285
   clear hy285
   obtain rfl := Option.some.inj H
   go_enter Try.func147, Try.ntmps147
   go_wp2_with (first | (go_at_call 155; go_in) | (go_end0; simp only []; go_at_K) | ((with_reducible refine gate_dst (N := 3) rfl ?_); refine box_event ?hg (N := 3) ?hd (cs := #[.int .i64 a1_0, .int .i64 a1_1, .int .i64 a1_2, .int .i64 a1_3, .int .i64 a1_4, .int .i64 a1_5, .int .i64 a1_6, .int .i64 a1_7, .int .i64 a1_8, .int .i64 a1_9]) (t := 46) ?hr ?_; (case hd => rfl); (case hg => rfl); (case hr => first | (go_simp; done) | (go_simp; rfl)); intro gb280 hg w5 hbox hb; have BK280 := Aside0.mk (hbox); have GW280 := gs_ hg; have GE280 := gs_ hg; replace HB := hbs_ hb; clear hb hbox hg) | ((with_reducible refine gate_dst (N := 16) rfl ?_); refine Kd.S_lit k177 _ 177 ?hg (N := 16) ?hd (xs := ([] : List (S177))) (inner := []) (ok := fun _ => True) (okp := fun _ => True) ?hr ?hp (fun _ hk => hk) trivial (Below.refl _ _) (Nat.le_refl _) (by simp) ?_; (case hd => rfl); (case hg => rfl); (case hr => first | (go_simp; done) | (go_simp; rfl)); (case hp => exact (Reps.none _ _)); intro v282 w6 ho7 hb hg_ hnew_; clear hg_ hnew_; (first | rw [← Ny281.out] at ho7 | (simp only [Int.reduceToNat] at ho7; rw [← Ny281.out] at ho7)); have HO283 := Aside0.mk (Kd.S_lower ho7 bls_); replace BK280 := bkb_ BK280 hb; replace HB := hbs_ hb; clear hb ho7) | ((with_reducible refine gate_dst (N := 5) rfl ?_); refine box_event ?hg (N := 5) ?hd (cs := #[.slice none 0 0]) (t := 173) ?hr ?_; (case hd => rfl); (case hg => rfl); (case hr => first | (go_simp; done) | (go_simp; rfl)); intro gb284 hg w8 hbox hb; replace HO283 := Aside0.mk (Kd.S_below (by (with_reducible repeat (first | apply Kd.S_alloc | apply Kd.S_drewN | apply Kd.S_drew)); exact HO283.out) hb); have BK284 := Aside0.mk (hbox); have GW284 := gs_ hg; have GE284 := gs_ hg; replace HB := hbs_ hb; have NB280_284 := Aside0.mk ((by rw [hg]; exact Nat.ne_of_lt (blk_lt (g := gb280) (o := .cells #[.int .i64 a1_0, .int .i64 a1_1, .int .i64 a1_2, .int .i64 a1_3, .int .i64 a1_4, .int .i64 a1_5, .int .i64 a1_6, .int .i64 a1_7, .int .i64 a1_8, .int .i64 a1_9] 46 (0, 0)) (bk_ BK280)) : gb280 ≠ gb284)); have NB284_280 := Aside0.mk ((by rw [hg]; exact Nat.ne_of_gt (blk_lt (g := gb280) (o := .cells #[.int .i64 a1_0, .int .i64 a1_1, .int .i64 a1_2, .int .i64 a1_3, .int .i64 a1_4, .int .i64 a1_5, .int .i64 a1_6, .int .i64 a1_7, .int .i64 a1_8, .int .i64 a1_9] 46 (0, 0)) (bk_ BK280)) : gb284 ≠ gb280)); replace BK280 := bkb_ BK280 hb; clear hb hbox hg; obtain ⟨Ao9, co9, eo9⟩ := Kd.S_slice HO283.out; subst eo9; have hnb10 := NB284_280.out; have hnc10 := NB280_284.out; have hcz11 := blk_cell BK284.out; have hfz11 := blk_frozen BK284.out; have hcz12 := blk_cell BK280.out; have hfz12 := blk_frozen BK280.out) | ((with_reducible refine gate_builtin (b := .append) (xs := #[.tmp 6, .tmp 13]) rfl ?_); at_builtin; refine Kd.S_append k177 (w0 := w) w.heap.size rfl (.tmp 6) (.tmp 13) 173 177 (.agg #[(.int .i64 0), (.int .i64 0), (.int .i64 0), (.slice none 0 0)]) 48 rfl Try.underlying173 info177 rfl (by decide) (by omega) (.slice Ao9 y281.length co9) y281 (⟨(⟨(⟨a1_1, a1_2⟩ : S27), a1_3⟩ : S29), ([] : List Int)⟩ : S177) [.int .i64 a1_1, .int .i64 a1_2, .int .i64 a1_3, .slice none 0 0] (fun _ => True) (fun _ => False) rfl (by first | (go_simp; done) | (go_simp; rfl)) ?aP (fun k_ hk_ => hk_.elim) ?aF ?aO ?aB ?aS ?aL ?_; (case aP => exact k177_mkM _ _ _ (⟨(⟨(⟨a1_1, a1_2⟩ : S27), a1_3⟩ : S29), ([] : List Int)⟩ : S177) (Kd.R_nil _ _ _ _ _)); (case aB => exact bl_); (case aF => exact (fun _ _ => trivial)); (case aO => exact (by (with_reducible repeat (first | apply Kd.S_alloc | apply Kd.S_drewN | apply Kd.S_drew)); exact Kd.S_mono (Kd.S_far (p := ⟨gb284, 0, none⟩) (Kd.S_types HO283.out BK284.out (by decide)) (fun _ hk => hk.2) (.slice Ao9 y281.length co9)) (fun k_ hk => ⟨trivial, fun e_ => e_⟩))); (case aS => exact bls_); (case aL => have := LMc4.out; omega); intro v286 w13 ho hb hg hat; rw [← Ny285.out] at ho; replace BK280 := Aside0.mk (blk_grown (g := gb280) (o := .cells #[.int .i64 a1_0, .int .i64 a1_1, .int .i64 a1_2, .int .i64 a1_3, .int .i64 a1_4, .int .i64 a1_5, .int .i64 a1_6, .int .i64 a1_7, .int .i64 a1_8, .int .i64 a1_9] 46 (0, 0)) (bk_ BK280) hg (Kd.S_ne HO283.out BK280.out (by decide))); replace BK284 := Aside0.mk (blk_grown (g := gb284) (o := .cells #[.slice Ao9 y281.length co9] 173 (0, 0)) (bk_ BK284) hg (Kd.S_ne HO283.out BK284.out (by decide))); replace HB := Aside0.mk (hb); have HO287 := Aside0.mk (ho); clear HO283; clear ho hb hg hat; obtain ⟨Ao14, co14, eo14⟩ := Kd.S_slice HO287.out; subst eo14; have hcz15 := blk_cell BK284.out; have hfz15 := blk_frozen BK284.out))
   go_ret
   exact ⟨_, eq_, by (with_reducible repeat (first | apply Kd.S_alloc | apply Kd.S_drewN | apply Kd.S_drew)); exact Kd.S_mono (Kd.S_far (p := ⟨gb284, 0, none⟩) (Kd.S_types HO287.out BK284.out (by decide)) (fun _ hk => hk.2) (.slice Ao14 y285.length co14)) (fun _ hk => trivial), bl_⟩
  ·rw [if_neg c4] at H
   exact absurd H (by simp)
 ·rw [if_neg c3] at H
  have c3b0 : (a1_0 == 1) = false := beq_eq_false_iff_ne.mpr c3
  have c3b1 : (a1_0 != 1) = true := bne_iff_ne.mpr c3
  by_cases c16 : a1_0 = 2
  ·rw [if_pos c16] at H
   have c16b0 : (a1_0 == 2) = true := beq_iff_eq.mpr c16
   have c16b1 : (a1_0 != 2) = false := bne_eq_false_iff_eq.mpr c16
   clear c16
   obtain ⟨t288, A17, H⟩ := bindE_ H
   have H' := Aside0.mk H
   clear H
   go_enter Try.func147, Try.ntmps147
   go_wp2_with (first | (go_at_call 155; go_in) | (go_end0; simp only []; go_at_K) | ((with_reducible refine gate_dst (N := 3) rfl ?_); refine box_event ?hg (N := 3) ?hd (cs := #[.int .i64 a1_0, .int .i64 a1_1, .int .i64 a1_2, .int .i64 a1_3, .int .i64 a1_4, .int .i64 a1_5, .int .i64 a1_6, .int .i64 a1_7, .int .i64 a1_8, .int .i64 a1_9]) (t := 46) ?hr ?_; (case hd => rfl); (case hg => rfl); (case hr => first | (go_simp; done) | (go_simp; rfl)); intro gb280 hg w18 hbox hb; have BK280 := Aside0.mk (hbox); have GW280 := gs_ hg; have GE280 := gs_ hg; replace HB := hbs_ hb; clear hb hbox hg) | ((with_reducible refine gate_dst (N := 16) rfl ?_); refine Kd.S_lit k177 _ 177 ?hg (N := 16) ?hd (xs := ([] : List (S177))) (inner := []) (ok := fun _ => True) (okp := fun _ => True) ?hr ?hp (fun _ hk => hk) trivial (Below.refl _ _) (Nat.le_refl _) (by simp) ?_; (case hd => rfl); (case hg => rfl); (case hr => first | (go_simp; done) | (go_simp; rfl)); (case hp => exact (Reps.none _ _)); intro v282 w19 ho20 hb hg_ hnew_; clear hg_ hnew_; (first | rw [← Ny281.out] at ho20 | (simp only [Int.reduceToNat] at ho20; rw [← Ny281.out] at ho20)); have HO283 := Aside0.mk (Kd.S_lower ho20 bls_); replace BK280 := bkb_ BK280 hb; replace HB := hbs_ hb; clear hb ho20) | ((with_reducible refine gate_dst (N := 5) rfl ?_); refine box_event ?hg (N := 5) ?hd (cs := #[.slice none 0 0]) (t := 173) ?hr ?_; (case hd => rfl); (case hg => rfl); (case hr => first | (go_simp; done) | (go_simp; rfl)); intro gb284 hg w21 hbox hb; replace HO283 := Aside0.mk (Kd.S_below (by (with_reducible repeat (first | apply Kd.S_alloc | apply Kd.S_drewN | apply Kd.S_drew)); exact HO283.out) hb); have BK284 := Aside0.mk (hbox); have GW284 := gs_ hg; have GE284 := gs_ hg; replace HB := hbs_ hb; have NB280_284 := Aside0.mk ((by rw [hg]; exact Nat.ne_of_lt (blk_lt (g := gb280) (o := .cells #[.int .i64 a1_0, .int .i64 a1_1, .int .i64 a1_2, .int .i64 a1_3, .int .i64 a1_4, .int .i64 a1_5, .int .i64 a1_6, .int .i64 a1_7, .int .i64 a1_8, .int .i64 a1_9] 46 (0, 0)) (bk_ BK280)) : gb280 ≠ gb284)); have NB284_280 := Aside0.mk ((by rw [hg]; exact Nat.ne_of_gt (blk_lt (g := gb280) (o := .cells #[.int .i64 a1_0, .int .i64 a1_1, .int .i64 a1_2, .int .i64 a1_3, .int .i64 a1_4, .int .i64 a1_5, .int .i64 a1_6, .int .i64 a1_7, .int .i64 a1_8, .int .i64 a1_9] 46 (0, 0)) (bk_ BK280)) : gb284 ≠ gb280)); replace BK280 := bkb_ BK280 hb; clear hb hbox hg; obtain ⟨Ao22, co22, eo22⟩ := Kd.S_slice HO283.out; subst eo22; have hnb23 := NB284_280.out; have hnc23 := NB280_284.out; have hcz24 := blk_cell BK284.out; have hfz24 := blk_frozen BK284.out; have hcz25 := blk_cell BK280.out; have hfz25 := blk_frozen BK280.out) | ((with_reducible refine gate_callee (f := 156) rfl ?_); refine goesC_ (some 31) Try.func156 #[.slice A0 l0.length c0, .agg #[.int .i64 a1_4, .int .i64 a1_5]] ?_; (with_reducible refine (impl_whoOf.calls k _ _ l0 a1_4 a1_5 t288 _ ?side1 ?side2 A17.out).mono ?_); (case side1 => exact Kd.C_below HR0.out bl_); (case side2 => exact HC0.out); rintro e w26 ⟨v289, rfl, ho0, hb⟩; refine ⟨_, rfl, ?_⟩; replace HO283 := Aside0.mk (Kd.S_elder' (by (with_reducible repeat (first | apply Kd.S_alloc | apply Kd.S_drewN | apply Kd.S_drew)); exact (Kd.S_mono (Kd.S_far (p := ⟨gb284, 0, none⟩) (Kd.S_types HO283.out BK284.out (by decide)) (fun _ hk => hk.2) (.slice Ao22 y281.length co22)) (fun _ h_ => h_.1))) (Kd.R_base ho0) hb); have HO290 := Aside0.mk (Kd.R_lower ho0 bls_); replace BK280 := Aside0.mk (blk_below (g := gb280) (o := .cells #[.int .i64 a1_0, .int .i64 a1_1, .int .i64 a1_2, .int .i64 a1_3, .int .i64 a1_4, .int .i64 a1_5, .int .i64 a1_6, .int .i64 a1_7, .int .i64 a1_8, .int .i64 a1_9] 46 (0, 0)) (bk_ BK280) hb); replace BK284 := Aside0.mk (blk_below (g := gb284) (o := .cells #[.slice Ao22 y281.length co22] 173 (0, 0)) (bk_ BK284) hb); replace HB := hbs_ hb; (try clear hb); (try clear hb2); (try clear hk); (try clear hi); (try clear ho0); obtain ⟨Ao27, co27, eo27⟩ := Kd.R_slice HO290.out; subst eo27))
   go_loopg [33] k (fun kq v33 w' => ∃ (x33_1 : Int) (x285000_1 : List (S177)) (u285000 : Value), v33 = .int .i64 x33_1 ∧ Aside0 (impl_derive.l0 kq l0 t288 (t288.length : Int) x33_1 a1_0 a1_1 a1_2 a1_3 a1_4 a1_5 a1_6 a1_7 a1_8 a1_9 x285000_1 = some r) ∧ Aside0 (kq ≤ k) ∧ Aside0 (Kd.R (Kd.int .i64) 3 w' w.heap.size (fun _ => True) (.slice Ao27 t288.length co27) t288) ∧ Aside0 (Kd.S k177 177 w' w.heap.size (fun k_ => some k_ ≠ ((.slice Ao27 t288.length co27) : Value).ownBlock) u285000 x285000_1) ∧ Aside0 (w'.heap[gb280]? = some (.cells #[.int .i64 a1_0, .int .i64 a1_1, .int .i64 a1_2, .int .i64 a1_3, .int .i64 a1_4, .int .i64 a1_5, .int .i64 a1_6, .int .i64 a1_7, .int .i64 a1_8, .int .i64 a1_9] 46 (0, 0))) ∧ Aside0 (w'.heap[gb284]? = some (.cells #[u285000] 173 (0, 0))) ∧ Aside0 (Below w.heap.size w w'))
   case atStart => exact ⟨(0), (y281), (.slice Ao22 y281.length co22), (by first | rfl | (simp; done) | (simp [*]; done)), H', ⟨Nat.le_refl _⟩, ⟨by (with_reducible repeat (first | apply Kd.R_alloc | apply Kd.R_drewN | apply Kd.R_drew)); exact HO290.out⟩, ⟨by (with_reducible repeat (first | apply Kd.S_alloc | apply Kd.S_drewN | apply Kd.S_drew)); exact Kd.S_mono HO283.out (fun _ hk => hk.2)⟩, ⟨bk_ BK280⟩, ⟨bk_ BK284⟩, ⟨bl_⟩⟩
   case round =>
    clear H'
    try clear c1
    try clear c2
    try clear p2
    try clear c3
    try clear c3b0
    try clear c3b1
    try clear c4
    try clear c10
    try clear c14
    try clear c15
    try clear c16
    try clear c16b0
    try clear c16b1
    try clear c23
    try clear hcz11
    try clear hcz12
    try clear hcz15
    try clear hcz24
    try clear hcz25
    try clear hfz11
    try clear hfz12
    try clear hfz15
    try clear hfz24
    try clear hfz25
    obtain ⟨x33_1, x285000_1, u285000, rfl, HA, HK1, HO_31, HO_285000, BK280, BK284, HB⟩ := hrel
    cases gk with
    | zero => exact absurd HA.out (by simp [impl_derive.l0])
    | succ k1 =>
     have H := HA.out
     clear HA
     simp only [impl_derive.l0] at H
     by_cases c28 : x33_1 < (t288.length : Int)
     ·rw [if_pos c28] at H
      have c28b0 : decide (x33_1 < (t288.length : Int)) = true := decide_eq_true c28
      clear c28
      by_cases c29 : 0 ≤ x33_1
      ·rw [if_pos c29] at H
       have c29b0 : decide (0 ≤ x33_1) = true := decide_eq_true c29
       clear c29
       by_cases c30 : x33_1 < (t288.length : Int)
       ·rw [if_pos c30] at H
        have c30b0 : decide (x33_1 < (t288.length : Int)) = true := decide_eq_true c30
        clear c30
        by_cases c31 : 0 ≤ (rd t288 x33_1)
        ·rw [if_pos c31] at H
         have c31b0 : decide (0 ≤ (rd t288 x33_1)) = true := decide_eq_true c31
         clear c31
         by_cases c32 : (rd t288 x33_1) < (l0.length : Int)
         ·rw [if_pos c32] at H
          have c32b0 : decide ((rd t288 x33_1) < (l0.length : Int)) = true := decide_eq_true c32
          clear c32
          obtain ⟨y293, hy293⟩ : ∃ y_ : List Int, y_ = (([rd t288 x33_1] : List Int)) := ⟨_, rfl⟩
          replace H : (if x285000_1.length < 2932031007402 then (impl_derive.l0 k1 l0 t288 (t288.length : Int) (wrap64 (x33_1 + 1)) a1_0 a1_1 a1_2 a1_3 a1_4 a1_5 a1_6 a1_7 a1_8 a1_9 (x285000_1 ++ [(⟨(⟨(⟨a1_1, a1_2⟩ : S27), (rd_T29 l0 (rd t288 x33_1)).f1⟩ : S29), y293⟩ : S177)])) else (none)) = some r := by first | (rw [hy293]; with_reducible exact H) | (have H2_ := (Option.bind_some _ _).symm.trans H; rw [hy293]; with_reducible exact H2_) | (have H2_ := (Option.bind_some _ _).symm.trans H; with_reducible exact H2_) | with_reducible exact H | (rw [hy293]; exact H) | exact H
          have Ny293 := Aside0.mk hy293
          clear hy293
          by_cases c33 : x285000_1.length < 2932031007402
          ·rw [if_pos c33] at H
           have LMc33 := Aside0.mk c33
           clear c33
           obtain ⟨y296, hy296⟩ : ∃ y_ : List (S177), y_ = (x285000_1 ++ [(⟨(⟨(⟨a1_1, a1_2⟩ : S27), (rd_T29 l0 (rd t288 x33_1)).f1⟩ : S29), y293⟩ : S177)]) := ⟨_, rfl⟩
           replace H : (impl_derive.l0 k1 l0 t288 (t288.length : Int) (wrap64 (x33_1 + 1)) a1_0 a1_1 a1_2 a1_3 a1_4 a1_5 a1_6 a1_7 a1_8 a1_9 y296) = some r := by first | (rw [hy296]; with_reducible exact H) | (have H2_ := (Option.bind_some _ _).symm.trans H; rw [hy296]; with_reducible exact H2_) | (have H2_ := (Option.bind_some _ _).symm.trans H; with_reducible exact H2_) | with_reducible exact H | (rw [hy296]; exact H) | exact H
           have Ny296 := Aside0.mk hy296
           clear hy296
           have H' := Aside0.mk H
           clear H
           have p291 : 0 ≤ (x33_1 : Int) := of_decide_eq_true (by first | (with_reducible assumption) | assumption)
           have q291 : x33_1 < (t288.length : Int) := of_decide_eq_true (by first | (with_reducible assumption) | assumption)
           obtain ⟨ad291, e291, hx291_0⟩ := Kd.at_int (Kd.R_reads' HO_31.out).2.2 x33_1 p291 q291
           cases e291
           replace p291 := eq_true p291
           replace q291 := eq_true q291
           have p292 : 0 ≤ ((rd t288 x33_1) : Int) := of_decide_eq_true (by first | (with_reducible assumption) | assumption)
           have q292 : (rd t288 x33_1) < (l0.length : Int) := of_decide_eq_true (by first | (with_reducible assumption) | assumption)
           obtain ⟨ad292, e292, hx292_0, hx292_1, hx292_2⟩ := at_T29 (Kd.C_below HR0.out HB.out) (rd t288 x33_1) p292 q292
           cases e292
           replace p292 := eq_true p292
           replace q292 := eq_true q292
           go_wp2_with (first | (go_at_call 155; go_in) | (go_end0; simp only []; go_at_K) | ((with_reducible refine gate_dst (N := 44) rfl ?_); refine Kd.R_lit (Kd.int .i64) _ 3 ?hg (N := 44) ?hd (xs := ([rd t288 x33_1] : List Int)) (inner := [.int .i64 (rd t288 x33_1)]) (ok := fun _ => True) (okp := fun _ => True) ?hr ?hp (fun _ hk => hk) trivial (Below.refl _ _) (Nat.le_refl _) (by simp) ?_; (case hd => rfl); (case hg => rfl); (case hr => first | (go_simp; done) | (go_simp; rfl)); (case hp => exact (Reps.one (show Kd.M (Kd.int .i64) _ _ _ (rd t288 x33_1) [.int .i64 (rd t288 x33_1)] from rfl) (Reps.none _ _))); intro v294 w34 ho35 hb hg_ hnew_; clear hg_ hnew_; (first | rw [← Ny293.out] at ho35 | (simp only [Int.reduceToNat] at ho35; rw [← Ny293.out] at ho35)); replace HO_285000 := Aside0.mk (Kd.S_elder' (by (with_reducible repeat (first | apply Kd.S_alloc | apply Kd.S_drewN | apply Kd.S_drew)); exact HO_285000.out) (Kd.R_base ho35) hb); have HO295 := Aside0.mk (Kd.R_lower (Kd.R_new' ho35 (Kd.R_lt (by (with_reducible repeat (first | apply Kd.R_alloc | apply Kd.R_drewN | apply Kd.R_drew)); exact HO_31.out))) bls_); replace HO_31 := Aside0.mk (Kd.R_elder' (by (with_reducible repeat (first | apply Kd.R_alloc | apply Kd.R_drewN | apply Kd.R_drew)); exact HO_31.out) (Kd.R_base ho35) hb); replace BK280 := bkb_ BK280 hb; replace BK284 := bkb_ BK284 hb; replace HB := hbs_ hb; clear hb ho35; have hnb36 := NB284_280.out; have hnc36 := NB280_284.out; have hcz37 := blk_cell BK284.out; have hfz37 := blk_frozen BK284.out; have hcz38 := blk_cell BK280.out; have hfz38 := blk_frozen BK280.out; obtain ⟨Ao39, co39, eo39⟩ := Kd.R_slice HO295.out; subst eo39) | ((with_reducible refine gate_builtin (b := .append) (xs := #[.tmp 6, .tmp 13]) rfl ?_); at_builtin; refine Kd.S_append k177 (w0 := w) w.heap.size rfl (.tmp 6) (.tmp 13) 173 177 (.agg #[(.int .i64 0), (.int .i64 0), (.int .i64 0), (.slice none 0 0)]) 48 rfl Try.underlying173 info177 rfl (by decide) (by omega) u285000 x285000_1 (⟨(⟨(⟨a1_1, a1_2⟩ : S27), (rd_T29 l0 (rd t288 x33_1)).f1⟩ : S29), y293⟩ : S177) [.int .i64 a1_1, .int .i64 a1_2, .int .i64 ((rd_T29 l0 (rd t288 x33_1)).f1), .slice Ao39 y293.length co39] (fun k_ => some k_ ≠ (.slice (some ad291) t288.length co27 : Value).ownBlock) (fun k_ => some k_ = (.slice Ao39 y293.length co39 : Value).ownBlock) rfl rfl ?aP (fun k_ hk_ => ((Kd.R_mono (ok' := fun k_ => ((fun k_ => some k_ ≠ (.slice (some ad291) t288.length co27 : Value).ownBlock)) k_ ∧ some k_ ≠ (u285000 : Value).ownBlock) (Kd.R_apart' (HO295.out) (Kd.S_typed HO_285000.out) (by decide)) (fun k_ hk => ⟨hk.1.2, hk.2⟩))).1 k_ hk_.symm) ?aF ?aO ?aB ?aS ?aL ?_; (case aP => exact k177_mkM _ _ _ (⟨(⟨(⟨a1_1, a1_2⟩ : S27), (rd_T29 l0 (rd t288 x33_1)).f1⟩ : S29), y293⟩ : S177) (Kd.R_mono (Kd.R_tight rfl (Kd.R_mono (ok' := fun k_ => ((fun k_ => some k_ ≠ (.slice (some ad291) t288.length co27 : Value).ownBlock)) k_ ∧ some k_ ≠ (u285000 : Value).ownBlock) (Kd.R_apart' (HO295.out) (Kd.S_typed HO_285000.out) (by decide)) (fun k_ hk => ⟨hk.1.2, hk.2⟩))) (fun _ h_ => h_))); (case aB => exact bl_); (case aF => exact (fun k_ hk => Kd.fresh' (Kd.R_lt (by (with_reducible repeat (first | apply Kd.R_alloc | apply Kd.R_drewN | apply Kd.R_drew)); exact HO_31.out)) k_ hk)); (case aO => exact (by (with_reducible repeat (first | apply Kd.S_alloc | apply Kd.S_drewN | apply Kd.S_drew)); exact Kd.S_mono HO_285000.out (fun k_ hk => ⟨hk.1, fun e_ => hk.2 e_⟩))); (case aS => exact bls_); (case aL => have := LMc33.out; omega); intro v297 w40 ho hb hg hat; rw [← Ny296.out] at ho; replace HO_31 := Aside0.mk (Kd.R_over' (by (with_reducible repeat (first | apply Kd.R_alloc | apply Kd.R_drewN | apply Kd.R_drew)); exact HO_31.out) (Kd.S_typed (by (with_reducible repeat (first | apply Kd.S_alloc | apply Kd.S_drewN | apply Kd.S_drew)); exact HO_285000.out)) (by decide) hg); replace BK280 := Aside0.mk (blk_grown (g := gb280) (o := .cells #[.int .i64 a1_0, .int .i64 a1_1, .int .i64 a1_2, .int .i64 a1_3, .int .i64 a1_4, .int .i64 a1_5, .int .i64 a1_6, .int .i64 a1_7, .int .i64 a1_8, .int .i64 a1_9] 46 (0, 0)) (bk_ BK280) hg (Kd.S_ne HO_285000.out BK280.out (by decide))); replace BK284 := Aside0.mk (blk_grown (g := gb284) (o := .cells #[u285000] 173 (0, 0)) (bk_ BK284) hg (Kd.S_ne HO_285000.out BK284.out (by decide))); replace HB := Aside0.mk (hb); have HO298 := Aside0.mk (ho); clear HO_285000; clear HO295; clear ho hb hg hat; obtain ⟨Ao41, co41, eo41⟩ := Kd.S_slice HO298.out; subst eo41; have hcz42 := blk_cell BK284.out; have hfz42 := blk_frozen BK284.out))
           go_roundg k1
           case measure => have := HK1.out; omega
           case rel => exact ⟨(wrap64 (x33_1 + 1)), (y296), (.slice Ao41 y296.length co41), (by first | rfl | (simp; done) | (simp [*]; done)), H', ⟨by have := HK1.out; omega⟩, ⟨by (with_reducible repeat (first | apply Kd.R_alloc | apply Kd.R_drewN | apply Kd.R_drew)); exact Kd.R_mono (Kd.R_far (p := ⟨gb284, 0, none⟩) (Kd.R_types HO_31.out BK284.out (by decide)) (fun _ hk => hk.2) (.slice Ao41 y296.length co41)) (fun _ hk => trivial)⟩, ⟨by (with_reducible repeat (first | apply Kd.S_alloc | apply Kd.S_drewN | apply Kd.S_drew)); exact Kd.S_mono (Kd.S_far (p := ⟨gb284, 0, none⟩) (Kd.S_types HO298.out BK284.out (by decide)) (fun _ hk => hk.2) (.slice Ao41 y296.length co41)) (fun _ hk => hk.1)⟩, ⟨bk_ BK280⟩, ⟨bk_ BK284⟩, ⟨bl_⟩⟩
          ·rw [if_neg c33] at H
           exact absurd H (by simp)
         ·rw [if_neg c32] at H
          exact absurd H (by simp)
        ·rw [if_neg c31] at H
         exact absurd H (by simp)
       ·rw [if_neg c30] at H
        exact absurd H (by simp)
      ·rw [if_neg c29] at H
       exact absurd H (by simp)
     ·rw [if_neg c28] at H
      have c28b0 : decide (x33_1 < (t288.length : Int)) = false := decide_eq_false c28
      clear c28
      obtain rfl := Option.some.inj H
      have hnb43 := NB284_280.out
      have hnc43 := NB280_284.out
      have hcz44 := blk_cell BK284.out
      have hfz44 := blk_frozen BK284.out
      go_wp2
      go_ret
      exact ⟨_, eq_, by (with_reducible repeat (first | apply Kd.S_alloc | apply Kd.S_drewN | apply Kd.S_drew)); exact Kd.S_mono HO_285000.out (fun _ hk => trivial), bl_⟩
  ·rw [if_neg c16] at H
   have c16b0 : (a1_0 == 2) = false := beq_eq_false_iff_ne.mpr c16
   have c16b1 : (a1_0 != 2) = true := bne_iff_ne.mpr c16
   by_cases c45 : a1_0 = 3
   ·rw [if_pos c45] at H
    have c45b0 : (a1_0 == 3) = true := beq_iff_eq.mpr c45
    have c45b1 : (a1_0 != 3) = false := bne_eq_false_iff_eq.mpr c45
    clear c45
    obtain ⟨t299, A46, H⟩ := bindE_ H
    have H' := Aside0.mk H
    clear H
    go_enter Try.func147, Try.ntmps147
    go_wp2_with (first | (go_at_call 155; go_in) | (go_end0; simp only []; go_at_K) | ((with_reducible refine gate_dst (N := 3) rfl ?_); refine box_event ?hg (N := 3) ?hd (cs := #[.int .i64 a1_0, .int .i64 a1_1, .int .i64 a1_2, .int .i64 a1_3, .int .i64 a1_4, .int .i64 a1_5, .int .i64 a1_6, .int .i64 a1_7, .int .i64 a1_8, .int .i64 a1_9]) (t := 46) ?hr ?_; (case hd => rfl); (case hg => rfl); (case hr => first | (go_simp; done) | (go_simp; rfl)); intro gb280 hg w47 hbox hb; have BK280 := Aside0.mk (hbox); have GW280 := gs_ hg; have GE280 := gs_ hg; replace HB := hbs_ hb; clear hb hbox hg) | ((with_reducible refine gate_dst (N := 16) rfl ?_); refine Kd.S_lit k177 _ 177 ?hg (N := 16) ?hd (xs := ([] : List (S177))) (inner := []) (ok := fun _ => True) (okp := fun _ => True) ?hr ?hp (fun _ hk => hk) trivial (Below.refl _ _) (Nat.le_refl _) (by simp) ?_; (case hd => rfl); (case hg => rfl); (case hr => first | (go_simp; done) | (go_simp; rfl)); (case hp => exact (Reps.none _ _)); intro v282 w48 ho49 hb hg_ hnew_; clear hg_ hnew_; (first | rw [← Ny281.out] at ho49 | (simp only [Int.reduceToNat] at ho49; rw [← Ny281.out] at ho49)); have HO283 := Aside0.mk (Kd.S_lower ho49 bls_); replace BK280 := bkb_ BK280 hb; replace HB := hbs_ hb; clear hb ho49) | ((with_reducible refine gate_dst (N := 5) rfl ?_); refine box_event ?hg (N := 5) ?hd (cs := #[.slice none 0 0]) (t := 173) ?hr ?_; (case hd => rfl); (case hg => rfl); (case hr => first | (go_simp; done) | (go_simp; rfl)); intro gb284 hg w50 hbox hb; replace HO283 := Aside0.mk (Kd.S_below (by (with_reducible repeat (first | apply Kd.S_alloc | apply Kd.S_drewN | apply Kd.S_drew)); exact HO283.out) hb); have BK284 := Aside0.mk (hbox); have GW284 := gs_ hg; have GE284 := gs_ hg; replace HB := hbs_ hb; have NB280_284 := Aside0.mk ((by rw [hg]; exact Nat.ne_of_lt (blk_lt (g := gb280) (o := .cells #[.int .i64 a1_0, .int .i64 a1_1, .int .i64 a1_2, .int .i64 a1_3, .int .i64 a1_4, .int .i64 a1_5, .int .i64 a1_6, .int .i64 a1_7, .int .i64 a1_8, .int .i64 a1_9] 46 (0, 0)) (bk_ BK280)) : gb280 ≠ gb284)); have NB284_280 := Aside0.mk ((by rw [hg]; exact Nat.ne_of_gt (blk_lt (g := gb280) (o := .cells #[.int .i64 a1_0, .int .i64 a1_1, .int .i64 a1_2, .int .i64 a1_3, .int .i64 a1_4, .int .i64 a1_5, .int .i64 a1_6, .int .i64 a1_7, .int .i64 a1_8, .int .i64 a1_9] 46 (0, 0)) (bk_ BK280)) : gb284 ≠ gb280)); replace BK280 := bkb_ BK280 hb; clear hb hbox hg; obtain ⟨Ao51, co51, eo51⟩ := Kd.S_slice HO283.out; subst eo51; have hnb52 := NB284_280.out; have hnc52 := NB280_284.out; have hcz53 := blk_cell BK284.out; have hfz53 := blk_frozen BK284.out; have hcz54 := blk_cell BK280.out; have hfz54 := blk_frozen BK280.out) | ((with_reducible refine gate_callee (f := 156) rfl ?_); refine goesC_ (some 52) Try.func156 #[.slice A0 l0.length c0, .agg #[.int .i64 a1_4, .int .i64 a1_5]] ?_; (with_reducible refine (impl_whoOf.calls k _ _ l0 a1_4 a1_5 t299 _ ?side1 ?side2 A46.out).mono ?_); (case side1 => exact Kd.C_below HR0.out bl_); (case side2 => exact HC0.out); rintro e w55 ⟨v300, rfl, ho0, hb⟩; refine ⟨_, rfl, ?_⟩; replace HO283 := Aside0.mk (Kd.S_elder' (by (with_reducible repeat (first | apply Kd.S_alloc | apply Kd.S_drewN | apply Kd.S_drew)); exact (Kd.S_mono (Kd.S_far (p := ⟨gb284, 0, none⟩) (Kd.S_types HO283.out BK284.out (by decide)) (fun _ hk => hk.2) (.slice Ao51 y281.length co51)) (fun _ h_ => h_.1))) (Kd.R_base ho0) hb); have HO301 := Aside0.mk (Kd.R_lower ho0 bls_); replace BK280 := Aside0.mk (blk_below (g := gb280) (o := .cells #[.int .i64 a1_0, .int .i64 a1_1, .int .i64 a1_2, .int .i64 a1_3, .int .i64 a1_4, .int .i64 a1_5, .int .i64 a1_6, .int .i64 a1_7, .int .i64 a1_8, .int .i64 a1_9] 46 (0, 0)) (bk_ BK280) hb); replace BK284 := Aside0.mk (blk_below (g := gb284) (o := .cells #[.slice Ao51 y281.length co51] 173 (0, 0)) (bk_ BK284) hb); replace HB := hbs_ hb; (try clear hb); (try clear hb2); (try clear hk); (try clear hi); (try clear ho0); obtain ⟨Ao56, co56, eo56⟩ := Kd.R_slice HO301.out; subst eo56))
    go_loopg [54] k (fun kq v54 w' => ∃ (x54_1 : Int) (x285000_1 : List (S177)) (u285000 : Value), v54 = .int .i64 x54_1 ∧ Aside0 (impl_derive.l1 kq l0 t299 (t299.length : Int) x54_1 a1_0 a1_1 a1_2 a1_3 a1_4 a1_5 a1_6 a1_7 a1_8 a1_9 x285000_1 = some r) ∧ Aside0 (kq ≤ k) ∧ Aside0 (Kd.R (Kd.int .i64) 3 w' w.heap.size (fun _ => True) (.slice Ao56 t299.length co56) t299) ∧ Aside0 (Kd.S k177 177 w' w.heap.size (fun k_ => some k_ ≠ ((.slice Ao56 t299.length co56) : Value).ownBlock) u285000 x285000_1) ∧ Aside0 (w'.heap[gb280]? = some (.cells #[.int .i64 a1_0, .int .i64 a1_1, .int .i64 a1_2, .int .i64 a1_3, .int .i64 a1_4, .int .i64 a1_5, .int .i64 a1_6, .int .i64 a1_7, .int .i64 a1_8, .int .i64 a1_9] 46 (0, 0))) ∧ Aside0 (w'.heap[gb284]? = some (.cells #[u285000] 173 (0, 0))) ∧ Aside0 (Below w.heap.size w w'))
    case atStart => exact ⟨(0), (y281), (.slice Ao51 y281.length co51), (by first | rfl | (simp; done) | (simp [*]; done)), H', ⟨Nat.le_refl _⟩, ⟨by (with_reducible repeat (first | apply Kd.R_alloc | apply Kd.R_drewN | apply Kd.R_drew)); exact HO301.out⟩, ⟨by (with_reducible repeat (first | apply Kd.S_alloc | apply Kd.S_drewN | apply Kd.S_drew)); exact Kd.S_mono HO283.out (fun _ hk => hk.2)⟩, ⟨bk_ BK280⟩, ⟨bk_ BK284⟩, ⟨bl_⟩⟩
    case round =>
     clear H'
     try clear c1
     try clear c2
     try clear p2
     try clear q2
     try clear hx2
     try clear c3
     try clear c3b0
     try clear c3b1
     try clear c4
     try clear c5
     try clear p6
     try clear c10
     try clear c14
     try clear c15
     try clear c16
     try clear c16b0
     try clear c16b1
     try clear c23
     try clear c28
     try clear c28b0
     try clear c29
     try clear c29b0
     try clear p29
     try clear q29
     try clear hx29
     try clear c30
     try clear c30b0
     try clear c31
     try clear c31b0
     try clear c32
     try clear c32b0
     try clear c33
     try clear c36
     try clear c43
     try clear c45
     try clear c45b0
     try clear c45b1
     try clear c52
     try clear hcz11
     try clear hcz12
     try clear hcz15
     try clear hcz24
     try clear hcz25
     try clear hcz37
     try clear hcz38
     try clear hcz42
     try clear hcz44
     try clear hcz53
     try clear hcz54
     try clear hfz11
     try clear hfz12
     try clear hfz15
     try clear hfz24
     try clear hfz25
     try clear hfz37
     try clear hfz38
     try clear hfz42
     try clear hfz44
     try clear hfz53
     try clear hfz54
     try clear hx291_0
     try clear hx292_0
     try clear hx292_1
     try clear hx292_2
     try clear p2
     try clear p291
     try clear p292
     try clear q291
     try clear q292
     obtain ⟨x54_1, x285000_1, u285000, rfl, HA, HK1, HO_52, HO_285000, BK280, BK284, HB⟩ := hrel
     cases gk with
     | zero => exact absurd HA.out (by simp [impl_derive.l1])
     | succ k1 =>
      have H := HA.out
      clear HA
      simp only [impl_derive.l1] at H
      by_cases c57 : x54_1 < (t299.length : Int)
      ·rw [if_pos c57] at H
       have c57b0 : decide (x54_1 < (t299.length : Int)) = true := decide_eq_true c57
       clear c57
       by_cases c58 : 0 ≤ x54_1
       ·rw [if_pos c58] at H
        have c58b0 : decide (0 ≤ x54_1) = true := decide_eq_true c58
        clear c58
        by_cases c59 : x54_1 < (t299.length : Int)
        ·rw [if_pos c59] at H
         have c59b0 : decide (x54_1 < (t299.length : Int)) = true := decide_eq_true c59
         clear c59
         by_cases c60 : 0 ≤ (rd t299 x54_1)
         ·rw [if_pos c60] at H
          have c60b0 : decide (0 ≤ (rd t299 x54_1)) = true := decide_eq_true c60
          clear c60
          by_cases c61 : (rd t299 x54_1) < (l0.length : Int)
          ·rw [if_pos c61] at H
           have c61b0 : decide ((rd t299 x54_1) < (l0.length : Int)) = true := decide_eq_true c61
           clear c61
           obtain ⟨t304, A62, H⟩ := bindE_ H
           have H' := Aside0.mk H
           clear H
           have p302 : 0 ≤ (x54_1 : Int) := of_decide_eq_true (by first | (with_reducible assumption) | assumption)
           have q302 : x54_1 < (t299.length : Int) := of_decide_eq_true (by first | (with_reducible assumption) | assumption)
           obtain ⟨ad302, e302, hx302_0⟩ := Kd.at_int (Kd.R_reads' HO_52.out).2.2 x54_1 p302 q302
           cases e302
           replace p302 := eq_true p302
           replace q302 := eq_true q302
           try go_wp2
           replace HO_52 := Aside0.mk (Kd.R_drew HO_52.out)
           replace HO_285000 := Aside0.mk (Kd.S_drew HO_285000.out)
           replace BK280 := Aside0.mk (blk_drew BK280.out)
           replace BK284 := Aside0.mk (blk_drew BK284.out)
           replace HB := Aside0.mk (below_drew1 HB.out)
           have p303 : 0 ≤ ((rd t299 x54_1) : Int) := of_decide_eq_true (by first | (with_reducible assumption) | assumption)
           have q303 : (rd t299 x54_1) < (l0.length : Int) := of_decide_eq_true (by first | (with_reducible assumption) | assumption)
           obtain ⟨ad303, e303, hx303_0, hx303_1, hx303_2⟩ := at_T29 HR0.out (rd t299 x54_1) p303 q303
           have hw303_2 := hx303_2
           have hw303_1 := hx303_1
           have hw303_0 := hx303_0
           cases e303
           replace hx303_0 := cb_ HB hx303_0
           replace hx303_1 := cb_ HB hx303_1
           replace hx303_2 := cb_ HB hx303_2
           replace p303 := eq_true p303
           replace q303 := eq_true q303
           refine start_ (n := 13) (S := fun w' => w'.cell? ⟨gb280, 0, none⟩ = some (.int .i64 a1_0) ∧ w'.cell? ⟨gb280, 1, none⟩ = some (.int .i64 a1_1) ∧ w'.cell? ⟨gb280, 2, none⟩ = some (.int .i64 a1_2) ∧ w'.cell? ⟨gb280, 3, none⟩ = some (.int .i64 a1_3) ∧ w'.cell? ⟨gb280, 4, none⟩ = some (.int .i64 a1_4) ∧ w'.cell? ⟨gb280, 5, none⟩ = some (.int .i64 a1_5) ∧ w'.cell? ⟨gb280, 6, none⟩ = some (.int .i64 a1_6) ∧ w'.cell? ⟨gb280, 7, none⟩ = some (.int .i64 a1_7) ∧ w'.cell? ⟨gb280, 8, none⟩ = some (.int .i64 a1_8) ∧ w'.cell? ⟨gb280, 9, none⟩ = some (.int .i64 a1_9) ∧ w'.cell? (ad303.add (((rd t299 x54_1)).toNat * 3)) = some (.int .i64 ((rd_T29 l0 (rd t299 x54_1)).f0.f0)) ∧ w'.cell? ⟨(ad303.add (((rd t299 x54_1)).toNat * 3)).block, (ad303.add (((rd t299 x54_1)).toNat * 3)).off + 1, none⟩ = some (.int .i64 ((rd_T29 l0 (rd t299 x54_1)).f0.f1)) ∧ w'.cell? ⟨(ad303.add (((rd t299 x54_1)).toNat * 3)).block, (ad303.add (((rd t299 x54_1)).toNat * 3)).off + 2, none⟩ = some (.int .i64 ((rd_T29 l0 (rd t299 x54_1)).f1))) (ds := []) #[false, false, false, false, false, false, false, false, false, false, false, false, false] (by kernel_rfl) rfl rfl ⟨(blk_cell BK280.out 0).trans rfl, (blk_cell BK280.out 1).trans rfl, (blk_cell BK280.out 2).trans rfl, (blk_cell BK280.out 3).trans rfl, (blk_cell BK280.out 4).trans rfl, (blk_cell BK280.out 5).trans rfl, (blk_cell BK280.out 6).trans rfl, (blk_cell BK280.out 7).trans rfl, (blk_cell BK280.out 8).trans rfl, (blk_cell BK280.out 9).trans rfl, ((HB.out.cell (World.block_lt_of_cell? w _ hw303_0)).trans hw303_0), ((HB.out.cell (World.block_lt_of_cell? w _ hw303_1)).trans hw303_1), ((HB.out.cell (World.block_lt_of_cell? w _ hw303_2)).trans hw303_2)⟩ (fun hHeld => ?_); refine with_tabW impl_derive.tab16 impl_derive.bits16 (fun HT_ HW_ => ?_)
           generalize wr.drew = w63 at HO_52 HO_285000 BK280 BK284 HB hx303_0 hx303_1 hx303_2 hHeld ⊢
           refine pureZ_ (i := 0) (some 58) #[true, false, false, false, false, false, false, false, false, false, false, false, false] (any_of HT_.out (by kernel_rfl)) ?_
           refine pureZ_ (i := 1) (some 59) #[true, true, false, false, false, false, false, false, false, false, false, false, false] (any_of HT_.out (by kernel_rfl)) ?_
           refine pureZ_ (i := 2) (some 60) #[true, true, true, false, false, false, false, false, false, false, false, false, false] (any_of HT_.out (by kernel_rfl)) ?_
           refine pureZ_ (i := 3) (some 61) #[true, true, true, true, false, false, false, false, false, false, false, false, false] (any_of HT_.out (by kernel_rfl)) ?_
           refine pureZ_ (i := 4) (some 62) #[true, true, true, true, true, false, false, false, false, false, false, false, false] (any_of HT_.out (by kernel_rfl)) ?_
           refine pureZ_ (i := 6) (some 64) #[true, true, true, true, true, false, true, false, false, false, false, false, false] (any_of HT_.out (by kernel_rfl)) ?_
           refine pureZ_ (i := 7) (some 65) #[true, true, true, true, true, false, true, true, false, false, false, false, false] (any_of HT_.out (by kernel_rfl)) ?_
           refine pureZ_ (i := 12) (some 70) #[true, true, true, true, true, false, true, true, false, false, false, false, true] (any_of HT_.out (by kernel_rfl)) ?_
           refine takeZ_ (i := 5) (some 63) #[true, true, true, true, true, true, true, true, false, false, false, false, true] (take_ofW HT_.out HW_.out (by kernel_rfl)) hHeld ?_
           refine takeZ_ (i := 8) (some 66) #[true, true, true, true, true, true, true, true, true, false, false, false, true] (take_ofW HT_.out HW_.out (by kernel_rfl)) hHeld ?_
           refine pureZ_ (i := 9) (some 67) #[true, true, true, true, true, true, true, true, true, true, false, false, true] (any_of HT_.out (by kernel_rfl)) ?_
           refine one_ (i := 10) (N := some 68) #[true, true, true, true, true, true, true, true, true, true, true, false, true] rfl rfl (one_of HT_.out (by kernel_rfl)) (by decide) (fun K hK => ?_)
           refine goes_ Try.func156 (by kernel_rfl) rfl #[.slice (some ad303) l0.length c0, .agg #[.int .i64 ((rd_T29 l0 (rd t299 x54_1)).f1), .int .i64 a1_7]] (by rfl) rfl rfl (by (try simp only [List.map_toArray, List.map_cons, List.map_nil]); first | done | rfl | (simp only [List.length_drop, List.length_take]; rfl)) ?_
           with_reducible refine (impl_whoOf.calls k1 _ _ l0 ((rd_T29 l0 (rd t299 x54_1)).f1) a1_7 t304 _ ?side1 ?side2 A62.out).mono ?_
           (case side1 => repeat (first | exact (Kd.C_below HR0.out HB.out) | (with_reducible refine Kd.C_alloc ?_ _) | (with_reducible refine Kd.C_drewN ?_ _) | (with_reducible refine Kd.C_drew ?_)))
           (case side2 => exact HC0.out)
           rintro e w64 ⟨v305, rfl, ho0, hb⟩
           refine ⟨_, rfl, ?_⟩
           replace HO_285000 := Aside0.mk (Kd.S_elder' (by (with_reducible repeat (first | apply Kd.S_alloc | apply Kd.S_drewN | apply Kd.S_drew)); exact HO_285000.out) (Kd.R_base ho0) hb)
           have HO306 := Aside0.mk (Kd.R_lower (Kd.R_new' ho0 (Kd.R_lt (by (with_reducible repeat (first | apply Kd.R_alloc | apply Kd.R_drewN | apply Kd.R_drew)); exact HO_52.out))) bls_)
           replace HO_52 := Aside0.mk (Kd.R_elder' (by (with_reducible repeat (first | apply Kd.R_alloc | apply Kd.R_drewN | apply Kd.R_drew)); exact HO_52.out) (Kd.R_base ho0) hb)
           replace BK280 := bkb_ BK280 hb
           replace BK284 := bkb_ BK284 hb
           replace HB := hbs_ hb
           (try clear hb)
           (try clear hb2)
           (try clear hk)
           (try clear hi)
           (try clear ho0)
           obtain ⟨Ao65, co65, eo65⟩ := Kd.R_slice HO306.out
           (first | subst eo65 | (injection eo65 with f1_ f2_ f3_; have f4_ := f1_.symm; have f5_ := f3_.symm; clear f1_ f2_ f3_; subst f4_; subst f5_))
           refine hK.out _ _ ⟨(blk_cell BK280.out 0).trans rfl, (blk_cell BK280.out 1).trans rfl, (blk_cell BK280.out 2).trans rfl, (blk_cell BK280.out 3).trans rfl, (blk_cell BK280.out 4).trans rfl, (blk_cell BK280.out 5).trans rfl, (blk_cell BK280.out 6).trans rfl, (blk_cell BK280.out 7).trans rfl, (blk_cell BK280.out 8).trans rfl, (blk_cell BK280.out 9).trans rfl, ((HB.out.cell (World.block_lt_of_cell? w _ hw303_0)).trans hw303_0), ((HB.out.cell (World.block_lt_of_cell? w _ hw303_1)).trans hw303_1), ((HB.out.cell (World.block_lt_of_cell? w _ hw303_2)).trans hw303_2)⟩ (fun hHeld => ?_)
           clear hK K
           refine norm_ (a' := ?_) ?_ ?_
           rotate_left
           ·show Act.put _ (some 68) _ = _
            simp only [Act.put, List.setIfInBounds_toArray, List.set_cons_zero, List.set_cons_succ, i64_w, i32_w]
            rfl
           refine pureZ_ (i := 11) (some 69) #[true, true, true, true, true, true, true, true, true, true, true, true, true] (any_of HT_.out (by kernel_rfl)) ?_
           refine done_ (done_of HT_.out (by kernel_rfl)) ?_
           try go_wp2
           go_loopg [70] k1 (fun kq v70 w' => ∃ (x70_2 : Int) (x285000_2 : List (S177)) (u285000 : Value), v70 = .int .i64 x70_2 ∧ Aside0 (impl_derive.l2 kq l0 (rd t299 x54_1) t299 (t299.length : Int) x54_1 t304 (t304.length : Int) x70_2 a1_0 a1_1 a1_2 a1_3 a1_4 a1_5 a1_6 a1_7 a1_8 a1_9 x285000_2 = some r) ∧ Aside0 (kq ≤ k1) ∧ Aside0 (Kd.R (Kd.int .i64) 3 w' w.heap.size (fun k_ => some k_ ≠ ((.slice Ao65 t304.length co65) : Value).ownBlock) (.slice (some ad302) t299.length co56) t299) ∧ Aside0 (Kd.R (Kd.int .i64) 3 w' w.heap.size (fun k_ => some k_ ≠ ((.slice (some ad302) t299.length co56) : Value).ownBlock) (.slice Ao65 t304.length co65) t304) ∧ Aside0 (Kd.S k177 177 w' w.heap.size (fun k_ => some k_ ≠ ((.slice (some ad302) t299.length co56) : Value).ownBlock ∧ some k_ ≠ ((.slice Ao65 t304.length co65) : Value).ownBlock) u285000 x285000_2) ∧ Aside0 (w'.heap[gb280]? = some (.cells #[.int .i64 a1_0, .int .i64 a1_1, .int .i64 a1_2, .int .i64 a1_3, .int .i64 a1_4, .int .i64 a1_5, .int .i64 a1_6, .int .i64 a1_7, .int .i64 a1_8, .int .i64 a1_9] 46 (0, 0))) ∧ Aside0 (w'.heap[gb284]? = some (.cells #[u285000] 173 (0, 0))) ∧ Aside0 (Below w.heap.size w w'))
           case atStart => exact ⟨(0), (x285000_1), (u285000), (by first | rfl | (simp; done) | (simp [*]; done)), H', ⟨Nat.le_refl _⟩, ⟨by (with_reducible repeat (first | apply Kd.R_alloc | apply Kd.R_drewN | apply Kd.R_drew)); exact Kd.R_mono HO_52.out (fun _ hk => hk.2)⟩, ⟨by (with_reducible repeat (first | apply Kd.R_alloc | apply Kd.R_drewN | apply Kd.R_drew)); exact Kd.R_mono HO306.out (fun _ hk => hk.2)⟩, ⟨by (with_reducible repeat (first | apply Kd.S_alloc | apply Kd.S_drewN | apply Kd.S_drew)); exact HO_285000.out⟩, ⟨bk_ BK280⟩, ⟨bk_ BK284⟩, ⟨bl_⟩⟩
           case round =>
            clear H'
            try clear c1
            try clear c2
            try clear p2
            try clear q2
            try clear hx2
            try clear c3
            try clear c3b0
            try clear c3b1
            try clear p3
            try clear q3
            try clear hx3
            try clear c4
            try clear c5
            try clear c6
            try clear p6
            try clear c10
            try clear c14
            try clear c15
            try clear c16
            try clear c16b0
            try clear c16b1
            try clear c23
            try clear c28
            try clear c28b0
            try clear c29
            try clear c29b0
            try clear p29
            try clear q29
            try clear hx29
            try clear c30
            try clear c30b0
            try clear p30
            try clear q30
            try clear hx30
            try clear c31
            try clear c31b0
            try clear c32
            try clear c32b0
            try clear c33
            try clear c36
            try clear c43
            try clear c45
            try clear c45b0
            try clear c45b1
            try clear c52
            try clear c57
            try clear c57b0
            try clear c58
            try clear c58b0
            try clear c59
            try clear c59b0
            try clear c60
            try clear c60b0
            try clear c61
            try clear c61b0
            try clear p64
            try clear hcz11
            try clear hcz12
            try clear hcz15
            try clear hcz24
            try clear hcz25
            try clear hcz37
            try clear hcz38
            try clear hcz42
            try clear hcz44
            try clear hcz53
            try clear hcz54
            try clear hfz11
            try clear hfz12
            try clear hfz15
            try clear hfz24
            try clear hfz25
            try clear hfz37
            try clear hfz38
            try clear hfz42
            try clear hfz44
            try clear hfz53
            try clear hfz54
            try clear hx291_0
            try clear hx292_0
            try clear hx292_1
            try clear hx292_2
            try clear hx302_0
            try clear hx303_0
            try clear hx303_1
            try clear hx303_2
            try clear p2
            try clear p29
            try clear p291
            try clear p292
            try clear p302
            try clear p303
            try clear p6
            try clear q2
            try clear q29
            try clear q291
            try clear q292
            try clear q302
            try clear q303
            obtain ⟨x70_2, x285000_2, u285000, rfl, HA, HK2, HO_52, HO_68, HO_285000, BK280, BK284, HB⟩ := hrel
            cases gk with
            | zero => exact absurd HA.out (by simp [impl_derive.l2])
            | succ k2 =>
             have H := HA.out
             clear HA
             simp only [impl_derive.l2] at H
             by_cases c66 : x70_2 < (t304.length : Int)
             ·rw [if_pos c66] at H
              have c66b0 : decide (x70_2 < (t304.length : Int)) = true := decide_eq_true c66
              clear c66
              by_cases c67 : 0 ≤ x70_2
              ·rw [if_pos c67] at H
               have c67b0 : decide (0 ≤ x70_2) = true := decide_eq_true c67
               clear c67
               by_cases c68 : x70_2 < (t304.length : Int)
               ·rw [if_pos c68] at H
                have c68b0 : decide (x70_2 < (t304.length : Int)) = true := decide_eq_true c68
                clear c68
                by_cases c69 : 0 ≤ (rd t304 x70_2)
                ·rw [if_pos c69] at H
                 have c69b0 : decide (0 ≤ (rd t304 x70_2)) = true := decide_eq_true c69
                 clear c69
                 by_cases c70 : (rd t304 x70_2) < (l0.length : Int)
                 ·rw [if_pos c70] at H
                  have c70b0 : decide ((rd t304 x70_2) < (l0.length : Int)) = true := decide_eq_true c70
                  clear c70
                  obtain ⟨y309, hy309⟩ : ∃ y_ : List Int, y_ = (([(rd t299 x54_1), rd t304 x70_2] : List Int)) := ⟨_, rfl⟩
                  replace H : (if x285000_2.length < 2932031007402 then (impl_derive.l2 k2 l0 (rd t299 x54_1) t299 (t299.length : Int) x54_1 t304 (t304.length : Int) (wrap64 (x70_2 + 1)) a1_0 a1_1 a1_2 a1_3 a1_4 a1_5 a1_6 a1_7 a1_8 a1_9 (x285000_2 ++ [(⟨(⟨(⟨a1_1, a1_2⟩ : S27), (rd_T29 l0 (rd t304 x70_2)).f1⟩ : S29), y309⟩ : S177)])) else (none)) = some r := by first | (rw [hy309]; with_reducible exact H) | (have H2_ := (Option.bind_some _ _).symm.trans H; rw [hy309]; with_reducible exact H2_) | (have H2_ := (Option.bind_some _ _).symm.trans H; with_reducible exact H2_) | with_reducible exact H | (rw [hy309]; exact H) | exact H
                  have Ny309 := Aside0.mk hy309
                  clear hy309
                  by_cases c71 : x285000_2.length < 2932031007402
                  ·rw [if_pos c71] at H
                   have LMc71 := Aside0.mk c71
                   clear c71
                   obtain ⟨y312, hy312⟩ : ∃ y_ : List (S177), y_ = (x285000_2 ++ [(⟨(⟨(⟨a1_1, a1_2⟩ : S27), (rd_T29 l0 (rd t304 x70_2)).f1⟩ : S29), y309⟩ : S177)]) := ⟨_, rfl⟩
                   replace H : (impl_derive.l2 k2 l0 (rd t299 x54_1) t299 (t299.length : Int) x54_1 t304 (t304.length : Int) (wrap64 (x70_2 + 1)) a1_0 a1_1 a1_2 a1_3 a1_4 a1_5 a1_6 a1_7 a1_8 a1_9 y312) = some r := by first | (rw [hy312]; with_reducible exact H) | (have H2_ := (Option.bind_some _ _).symm.trans H; rw [hy312]; with_reducible exact H2_) | (have H2_ := (Option.bind_some _ _).symm.trans H; with_reducible exact H2_) | with_reducible exact H | (rw [hy312]; exact H) | exact H
                   have Ny312 := Aside0.mk hy312
                   clear hy312
                   have H' := Aside0.mk H
                   clear H
                   have p307 : 0 ≤ (x70_2 : Int) := of_decide_eq_true (by first | (with_reducible assumption) | assumption)
                   have q307 : x70_2 < (t304.length : Int) := of_decide_eq_true (by first | (with_reducible assumption) | assumption)
                   obtain ⟨ad307, e307, hx307_0⟩ := Kd.at_int (Kd.R_reads' HO_68.out).2.2 x70_2 p307 q307
                   cases e307
                   replace p307 := eq_true p307
                   replace q307 := eq_true q307
                   have p308 : 0 ≤ ((rd t304 x70_2) : Int) := of_decide_eq_true (by first | (with_reducible assumption) | assumption)
                   have q308 : (rd t304 x70_2) < (l0.length : Int) := of_decide_eq_true (by first | (with_reducible assumption) | assumption)
                   obtain ⟨ad308, e308, hx308_0, hx308_1, hx308_2⟩ := at_T29 HR0.out (rd t304 x70_2) p308 q308
                   obtain rfl : ad303 = ad308 := (by injection e308)
                   replace hx308_0 := cb_ HB hx308_0
                   replace hx308_1 := cb_ HB hx308_1
                   replace hx308_2 := cb_ HB hx308_2
                   replace p308 := eq_true p308
                   replace q308 := eq_true q308
                   go_wp2_with (first | (go_at_call 155; go_in) | (go_end0; simp only []; go_at_K) | ((with_reducible refine gate_dst (N := 82) rfl ?_); refine Kd.R_lit (Kd.int .i64) _ 3 ?hg (N := 82) ?hd (xs := ([(rd t299 x54_1), rd t304 x70_2] : List Int)) (inner := [.int .i64 (rd t299 x54_1), .int .i64 (rd t304 x70_2)]) (ok := fun _ => True) (okp := fun _ => True) ?hr ?hp (fun _ hk => hk) trivial (Below.refl _ _) (Nat.le_refl _) (by simp) ?_; (case hd => rfl); (case hg => rfl); (case hr => first | (go_simp; done) | (go_simp; rfl)); (case hp => exact (Reps.one (show Kd.M (Kd.int .i64) _ _ _ (rd t299 x54_1) [.int .i64 (rd t299 x54_1)] from rfl) (Reps.one (show Kd.M (Kd.int .i64) _ _ _ (rd t304 x70_2) [.int .i64 (rd t304 x70_2)] from rfl) (Reps.none _ _)))); intro v310 w72 ho73 hb hg_ hnew_; clear hg_ hnew_; (first | rw [← Ny309.out] at ho73 | (simp only [Int.reduceToNat] at ho73; rw [← Ny309.out] at ho73)); replace HO_285000 := Aside0.mk (Kd.S_elder' (by (with_reducible repeat (first | apply Kd.S_alloc | apply Kd.S_drewN | apply Kd.S_drew)); exact HO_285000.out) (Kd.R_base ho73) hb); have HO311 := Aside0.mk (Kd.R_lower (Kd.R_new' (Kd.R_new' ho73 (Kd.R_lt (by (with_reducible repeat (first | apply Kd.R_alloc | apply Kd.R_drewN | apply Kd.R_drew)); exact HO_52.out))) (Kd.R_lt (by (with_reducible repeat (first | apply Kd.R_alloc | apply Kd.R_drewN | apply Kd.R_drew)); exact HO_68.out))) bls_); replace HO_52 := Aside0.mk (Kd.R_elder' (by (with_reducible repeat (first | apply Kd.R_alloc | apply Kd.R_drewN | apply Kd.R_drew)); exact HO_52.out) (Kd.R_base ho73) hb); replace HO_68 := Aside0.mk (Kd.R_elder' (by (with_reducible repeat (first | apply Kd.R_alloc | apply Kd.R_drewN | apply Kd.R_drew)); exact HO_68.out) (Kd.R_base ho73) hb); replace BK280 := bkb_ BK280 hb; replace BK284 := bkb_ BK284 hb; replace HB := hbs_ hb; clear hb ho73; have hnb74 := NB284_280.out; have hnc74 := NB280_284.out; have hcz75 := blk_cell BK284.out; have hfz75 := blk_frozen BK284.out; have hcz76 := blk_cell BK280.out; have hfz76 := blk_frozen BK280.out; obtain ⟨Ao77, co77, eo77⟩ := Kd.R_slice HO311.out; subst eo77) | ((with_reducible refine gate_builtin (b := .append) (xs := #[.tmp 6, .tmp 13]) rfl ?_); at_builtin; refine Kd.S_append k177 (w0 := w) w.heap.size rfl (.tmp 6) (.tmp 13) 173 177 (.agg #[(.int .i64 0), (.int .i64 0), (.int .i64 0), (.slice none 0 0)]) 48 rfl Try.underlying173 info177 rfl (by decide) (by omega) u285000 x285000_2 (⟨(⟨(⟨a1_1, a1_2⟩ : S27), (rd_T29 l0 (rd t304 x70_2)).f1⟩ : S29), y309⟩ : S177) [.int .i64 a1_1, .int .i64 a1_2, .int .i64 ((rd_T29 l0 (rd t304 x70_2)).f1), .slice Ao77 y309.length co77] (fun k_ => some k_ ≠ (.slice (some ad302) t299.length co56 : Value).ownBlock ∧ some k_ ≠ (.slice (some ad307) t304.length co65 : Value).ownBlock) (fun k_ => some k_ = (.slice Ao77 y309.length co77 : Value).ownBlock) rfl rfl ?aP (fun k_ hk_ => ((Kd.R_mono (ok' := fun k_ => ((fun k_ => some k_ ≠ (.slice (some ad302) t299.length co56 : Value).ownBlock ∧ some k_ ≠ (.slice (some ad307) t304.length co65 : Value).ownBlock)) k_ ∧ some k_ ≠ (u285000 : Value).ownBlock) (Kd.R_apart' (HO311.out) (Kd.S_typed HO_285000.out) (by decide)) (fun k_ hk => ⟨⟨hk.1.1.2, hk.1.2⟩, hk.2⟩))).1 k_ hk_.symm) ?aF ?aO ?aB ?aS ?aL ?_; (case aP => exact k177_mkM _ _ _ (⟨(⟨(⟨a1_1, a1_2⟩ : S27), (rd_T29 l0 (rd t304 x70_2)).f1⟩ : S29), y309⟩ : S177) (Kd.R_mono (Kd.R_tight rfl (Kd.R_mono (ok' := fun k_ => ((fun k_ => some k_ ≠ (.slice (some ad302) t299.length co56 : Value).ownBlock ∧ some k_ ≠ (.slice (some ad307) t304.length co65 : Value).ownBlock)) k_ ∧ some k_ ≠ (u285000 : Value).ownBlock) (Kd.R_apart' (HO311.out) (Kd.S_typed HO_285000.out) (by decide)) (fun k_ hk => ⟨⟨hk.1.1.2, hk.1.2⟩, hk.2⟩))) (fun _ h_ => h_))); (case aB => exact bl_); (case aF => exact (fun k_ hk => ⟨Kd.fresh' (Kd.R_lt (by (with_reducible repeat (first | apply Kd.R_alloc | apply Kd.R_drewN | apply Kd.R_drew)); exact HO_52.out)) k_ hk, Kd.fresh' (Kd.R_lt (by (with_reducible repeat (first | apply Kd.R_alloc | apply Kd.R_drewN | apply Kd.R_drew)); exact HO_68.out)) k_ hk⟩)); (case aO => exact (by (with_reducible repeat (first | apply Kd.S_alloc | apply Kd.S_drewN | apply Kd.S_drew)); exact Kd.S_mono HO_285000.out (fun k_ hk => ⟨⟨hk.1.1, hk.1.2⟩, fun e_ => hk.2 e_⟩))); (case aS => exact bls_); (case aL => have := LMc71.out; omega); intro v313 w78 ho hb hg hat; rw [← Ny312.out] at ho; replace HO_52 := Aside0.mk (Kd.R_over' (by (with_reducible repeat (first | apply Kd.R_alloc | apply Kd.R_drewN | apply Kd.R_drew)); exact HO_52.out) (Kd.S_typed (by (with_reducible repeat (first | apply Kd.S_alloc | apply Kd.S_drewN | apply Kd.S_drew)); exact HO_285000.out)) (by decide) hg); replace HO_68 := Aside0.mk (Kd.R_over' (by (with_reducible repeat (first | apply Kd.R_alloc | apply Kd.R_drewN | apply Kd.R_drew)); exact HO_68.out) (Kd.S_typed (by (with_reducible repeat (first | apply Kd.S_alloc | apply Kd.S_drewN | apply Kd.S_drew)); exact HO_285000.out)) (by decide) hg); replace BK280 := Aside0.mk (blk_grown (g := gb280) (o := .cells #[.int .i64 a1_0, .int .i64 a1_1, .int .i64 a1_2, .int .i64 a1_3, .int .i64 a1_4, .int .i64 a1_5, .int .i64 a1_6, .int .i64 a1_7, .int .i64 a1_8, .int .i64 a1_9] 46 (0, 0)) (bk_ BK280) hg (Kd.S_ne HO_285000.out BK280.out (by decide))); replace BK284 := Aside0.mk (blk_grown (g := gb284) (o := .cells #[u285000] 173 (0, 0)) (bk_ BK284) hg (Kd.S_ne HO_285000.out BK284.out (by decide))); replace HB := Aside0.mk (hb); have HO314 := Aside0.mk (ho); clear HO_285000; clear HO311; clear ho hb hg hat; obtain ⟨Ao79, co79, eo79⟩ := Kd.S_slice HO314.out; subst eo79; have hcz80 := blk_cell BK284.out; have hfz80 := blk_frozen BK284.out))
                   go_roundg k2
                   case measure => have := HK1.out; have := HK2.out; omega
                   case rel => exact ⟨(wrap64 (x70_2 + 1)), (y312), (.slice Ao79 y312.length co79), (by first | rfl | (simp; done) | (simp [*]; done)), H', ⟨by have := HK1.out; have := HK2.out; omega⟩, ⟨by (with_reducible repeat (first | apply Kd.R_alloc | apply Kd.R_drewN | apply Kd.R_drew)); exact Kd.R_mono (Kd.R_far (p := ⟨gb284, 0, none⟩) (Kd.R_types HO_52.out BK284.out (by decide)) (fun _ hk => hk.2) (.slice Ao79 y312.length co79)) (fun _ hk => hk.1.1)⟩, ⟨by (with_reducible repeat (first | apply Kd.R_alloc | apply Kd.R_drewN | apply Kd.R_drew)); exact Kd.R_mono (Kd.R_far (p := ⟨gb284, 0, none⟩) (Kd.R_types HO_68.out BK284.out (by decide)) (fun _ hk => hk.2) (.slice Ao79 y312.length co79)) (fun _ hk => hk.1.1)⟩, ⟨by (with_reducible repeat (first | apply Kd.S_alloc | apply Kd.S_drewN | apply Kd.S_drew)); exact Kd.S_mono (Kd.S_far (p := ⟨gb284, 0, none⟩) (Kd.S_types HO314.out BK284.out (by decide)) (fun _ hk => hk.2) (.slice Ao79 y312.length co79)) (fun _ hk => ⟨hk.1.1, hk.1.2⟩)⟩, ⟨bk_ BK280⟩, ⟨bk_ BK284⟩, ⟨bl_⟩⟩
                  ·rw [if_neg c71] at H
                   exact absurd H (by simp)
                 ·rw [if_neg c70] at H
                  exact absurd H (by simp)
                ·rw [if_neg c69] at H
                 exact absurd H (by simp)
               ·rw [if_neg c68] at H
                exact absurd H (by simp)
              ·rw [if_neg c67] at H
               exact absurd H (by simp)
             ·rw [if_neg c66] at H
              have c66b0 : decide (x70_2 < (t304.length : Int)) = false := decide_eq_false c66
              clear c66
              have H' := Aside0.mk H
              clear H
              go_wp2
              go_roundg k2
              case measure => have := HK1.out; have := HK2.out; omega
              case rel => exact ⟨(wrap64 (x54_1 + 1)), (x285000_2), (u285000), (by first | rfl | (simp; done) | (simp [*]; done)), H', ⟨by have := HK1.out; have := HK2.out; omega⟩, ⟨by (with_reducible repeat (first | apply Kd.R_alloc | apply Kd.R_drewN | apply Kd.R_drew)); exact Kd.R_mono HO_52.out (fun _ hk => trivial)⟩, ⟨by (with_reducible repeat (first | apply Kd.S_alloc | apply Kd.S_drewN | apply Kd.S_drew)); exact Kd.S_mono HO_285000.out (fun _ hk => hk.1)⟩, ⟨bk_ BK280⟩, ⟨bk_ BK284⟩, ⟨bl_⟩⟩
          ·rw [if_neg c61] at H
           exact absurd H (by simp)
         ·rw [if_neg c60] at H
          exact absurd H (by simp)
        ·rw [if_neg c59] at H
         exact absurd H (by simp)
       ·rw [if_neg c58] at H
        exact absurd H (by simp)
      ·rw [if_neg c57] at H
       have c57b0 : decide (x54_1 < (t299.length : Int)) = false := decide_eq_false c57
       clear c57
       obtain rfl := Option.some.inj H
       have hnb81 := NB284_280.out
       have hnc81 := NB280_284.out
       have hcz82 := blk_cell BK284.out
       have hfz82 := blk_frozen BK284.out
       go_wp2
       go_ret
       exact ⟨_, eq_, by (with_reducible repeat (first | apply Kd.S_alloc | apply Kd.S_drewN | apply Kd.S_drew)); exact Kd.S_mono HO_285000.out (fun _ hk => trivial), bl_⟩
   ·rw [if_neg c45] at H
    have c45b0 : (a1_0 == 3) = false := beq_eq_false_iff_ne.mpr c45
    have c45b1 : (a1_0 != 3) = true := bne_iff_ne.mpr c45
    by_cases c83 : a1_0 = 4
    ·rw [if_pos c83] at H
     have c83b0 : (a1_0 == 4) = true := beq_iff_eq.mpr c83
     have c83b1 : (a1_0 != 4) = false := bne_eq_false_iff_eq.mpr c83
     clear c83
     obtain ⟨t315, A84, H⟩ := bindE_ H
     have H' := Aside0.mk H
     clear H
     go_enter Try.func147, Try.ntmps147
     go_wp2_with (first | (go_at_call 155; go_in) | (go_end0; simp only []; go_at_K) | ((with_reducible refine gate_dst (N := 3) rfl ?_); refine box_event ?hg (N := 3) ?hd (cs := #[.int .i64 a1_0, .int .i64 a1_1, .int .i64 a1_2, .int .i64 a1_3, .int .i64 a1_4, .int .i64 a1_5, .int .i64 a1_6, .int .i64 a1_7, .int .i64 a1_8, .int .i64 a1_9]) (t := 46) ?hr ?_; (case hd => rfl); (case hg => rfl); (case hr => first | (go_simp; done) | (go_simp; rfl)); intro gb280 hg w85 hbox hb; have BK280 := Aside0.mk (hbox); have GW280 := gs_ hg; have GE280 := gs_ hg; replace HB := hbs_ hb; clear hb hbox hg) | ((with_reducible refine gate_dst (N := 16) rfl ?_); refine Kd.S_lit k177 _ 177 ?hg (N := 16) ?hd (xs := ([] : List (S177))) (inner := []) (ok := fun _ => True) (okp := fun _ => True) ?hr ?hp (fun _ hk => hk) trivial (Below.refl _ _) (Nat.le_refl _) (by simp) ?_; (case hd => rfl); (case hg => rfl); (case hr => first | (go_simp; done) | (go_simp; rfl)); (case hp => exact (Reps.none _ _)); intro v282 w86 ho87 hb hg_ hnew_; clear hg_ hnew_; (first | rw [← Ny281.out] at ho87 | (simp only [Int.reduceToNat] at ho87; rw [← Ny281.out] at ho87)); have HO283 := Aside0.mk (Kd.S_lower ho87 bls_); replace BK280 := bkb_ BK280 hb; replace HB := hbs_ hb; clear hb ho87) | ((with_reducible refine gate_dst (N := 5) rfl ?_); refine box_event ?hg (N := 5) ?hd (cs := #[.slice none 0 0]) (t := 173) ?hr ?_; (case hd => rfl); (case hg => rfl); (case hr => first | (go_simp; done) | (go_simp; rfl)); intro gb284 hg w88 hbox hb; replace HO283 := Aside0.mk (Kd.S_below (by (with_reducible repeat (first | apply Kd.S_alloc | apply Kd.S_drewN | apply Kd.S_drew)); exact HO283.out) hb); have BK284 := Aside0.mk (hbox); have GW284 := gs_ hg; have GE284 := gs_ hg; replace HB := hbs_ hb; have NB280_284 := Aside0.mk ((by rw [hg]; exact Nat.ne_of_lt (blk_lt (g := gb280) (o := .cells #[.int .i64 a1_0, .int .i64 a1_1, .int .i64 a1_2, .int .i64 a1_3, .int .i64 a1_4, .int .i64 a1_5, .int .i64 a1_6, .int .i64 a1_7, .int .i64 a1_8, .int .i64 a1_9] 46 (0, 0)) (bk_ BK280)) : gb280 ≠ gb284)); have NB284_280 := Aside0.mk ((by rw [hg]; exact Nat.ne_of_gt (blk_lt (g := gb280) (o := .cells #[.int .i64 a1_0, .int .i64 a1_1, .int .i64 a1_2, .int .i64 a1_3, .int .i64 a1_4, .int .i64 a1_5, .int .i64 a1_6, .int .i64 a1_7, .int .i64 a1_8, .int .i64 a1_9] 46 (0, 0)) (bk_ BK280)) : gb284 ≠ gb280)); replace BK280 := bkb_ BK280 hb; clear hb hbox hg; obtain ⟨Ao89, co89, eo89⟩ := Kd.S_slice HO283.out; subst eo89; have hnb90 := NB284_280.out; have hnc90 := NB280_284.out; have hcz91 := blk_cell BK284.out; have hfz91 := blk_frozen BK284.out; have hcz92 := blk_cell BK280.out; have hfz92 := blk_frozen BK280.out) | ((with_reducible refine gate_callee (f := 156) rfl ?_); refine goesC_ (some 91) Try.func156 #[.slice A0 l0.length c0, .agg #[.int .i64 a1_4, .int .i64 a1_5]] ?_; (with_reducible refine (impl_whoOf.calls k _ _ l0 a1_4 a1_5 t315 _ ?side1 ?side2 A84.out).mono ?_); (case side1 => exact Kd.C_below HR0.out bl_); (case side2 => exact HC0.out); rintro e w93 ⟨v316, rfl, ho0, hb⟩; refine ⟨_, rfl, ?_⟩; replace HO283 := Aside0.mk (Kd.S_elder' (by (with_reducible repeat (first | apply Kd.S_alloc | apply Kd.S_drewN | apply Kd.S_drew)); exact (Kd.S_mono (Kd.S_far (p := ⟨gb284, 0, none⟩) (Kd.S_types HO283.out BK284.out (by decide)) (fun _ hk => hk.2) (.slice Ao89 y281.length co89)) (fun _ h_ => h_.1))) (Kd.R_base ho0) hb); have HO317 := Aside0.mk (Kd.R_lower ho0 bls_); replace BK280 := Aside0.mk (blk_below (g := gb280) (o := .cells #[.int .i64 a1_0, .int .i64 a1_1, .int .i64 a1_2, .int .i64 a1_3, .int .i64 a1_4, .int .i64 a1_5, .int .i64 a1_6, .int .i64 a1_7, .int .i64 a1_8, .int .i64 a1_9] 46 (0, 0)) (bk_ BK280) hb); replace BK284 := Aside0.mk (blk_below (g := gb284) (o := .cells #[.slice Ao89 y281.length co89] 173 (0, 0)) (bk_ BK284) hb); replace HB := hbs_ hb; (try clear hb); (try clear hb2); (try clear hk); (try clear hi); (try clear ho0); obtain ⟨Ao94, co94, eo94⟩ := Kd.R_slice HO317.out; subst eo94))
     go_loopg [93] k (fun kq v93 w' => ∃ (x93_1 : Int) (x285000_1 : List (S177)) (u285000 : Value), v93 = .int .i64 x93_1 ∧ Aside0 (impl_derive.l3 kq l0 t315 (t315.length : Int) x93_1 a1_0 a1_1 a1_2 a1_3 a1_4 a1_5 a1_6 a1_7 a1_8 a1_9 x285000_1 = some r) ∧ Aside0 (kq ≤ k) ∧ Aside0 (Kd.R (Kd.int .i64) 3 w' w.heap.size (fun _ => True) (.slice Ao94 t315.length co94) t315) ∧ Aside0 (Kd.S k177 177 w' w.heap.size (fun k_ => some k_ ≠ ((.slice Ao94 t315.length co94) : Value).ownBlock) u285000 x285000_1) ∧ Aside0 (w'.heap[gb280]? = some (.cells #[.int .i64 a1_0, .int .i64 a1_1, .int .i64 a1_2, .int .i64 a1_3, .int .i64 a1_4, .int .i64 a1_5, .int .i64 a1_6, .int .i64 a1_7, .int .i64 a1_8, .int .i64 a1_9] 46 (0, 0))) ∧ Aside0 (w'.heap[gb284]? = some (.cells #[u285000] 173 (0, 0))) ∧ Aside0 (Below w.heap.size w w'))
     case atStart => exact ⟨(0), (y281), (.slice Ao89 y281.length co89), (by first | rfl | (simp; done) | (simp [*]; done)), H', ⟨Nat.le_refl _⟩, ⟨by (with_reducible repeat (first | apply Kd.R_alloc | apply Kd.R_drewN | apply Kd.R_drew)); exact HO317.out⟩, ⟨by (with_reducible repeat (first | apply Kd.S_alloc | apply Kd.S_drewN | apply Kd.S_drew)); exact Kd.S_mono HO283.out (fun _ hk => hk.2)⟩, ⟨bk_ BK280⟩, ⟨bk_ BK284⟩, ⟨bl_⟩⟩
     case round =>
      clear H'
      try clear c1
      try clear c2
      try clear p2
      try clear q2
      try clear hx2
      try clear c3
      try clear c3b0
      try clear c3b1
      try clear p3
      try clear q3
      try clear hx3
      try clear c4
      try clear c5
      try clear c6
      try clear p6
      try clear c7
      try clear c8
      try clear c9
      try clear c10
      try clear c14
      try clear c15
      try clear c16
      try clear c16b0
      try clear c16b1
      try clear c23
      try clear c28
      try clear c28b0
      try clear c29
      try clear c29b0
      try clear p29
      try clear q29
      try clear hx29
      try clear c30
      try clear c30b0
      try clear p30
      try clear q30
      try clear hx30
      try clear c31
      try clear c31b0
      try clear c32
      try clear c32b0
      try clear c33
      try clear c36
      try clear c43
      try clear c45
      try clear c45b0
      try clear c45b1
      try clear c52
      try clear c57
      try clear c57b0
      try clear c58
      try clear c58b0
      try clear c59
      try clear c59b0
      try clear c60
      try clear c60b0
      try clear c61
      try clear c61b0
      try clear p64
      try clear c66
      try clear c66b0
      try clear c67
      try clear c67b0
      try clear c68
      try clear c68b0
      try clear c69
      try clear c69b0
      try clear c70
      try clear c70b0
      try clear c71
      try clear c74
      try clear c81
      try clear c83
      try clear c83b0
      try clear c83b1
      try clear c90
      try clear hcz11
      try clear hcz12
      try clear hcz15
      try clear hcz24
      try clear hcz25
      try clear hcz37
      try clear hcz38
      try clear hcz42
      try clear hcz44
      try clear hcz53
      try clear hcz54
      try clear hcz75
      try clear hcz76
      try clear hcz80
      try clear hcz82
      try clear hcz91
      try clear hcz92
      try clear hfz11
      try clear hfz12
      try clear hfz15
      try clear hfz24
      try clear hfz25
      try clear hfz37
      try clear hfz38
      try clear hfz42
      try clear hfz44
      try clear hfz53
      try clear hfz54
      try clear hfz75
      try clear hfz76
      try clear hfz80
      try clear hfz82
      try clear hfz91
      try clear hfz92
      try clear hx291_0
      try clear hx292_0
      try clear hx292_1
      try clear hx292_2
      try clear hx302_0
      try clear hx303_0
      try clear hx303_1
      try clear hx303_2
      try clear hx307_0
      try clear hx308_0
      try clear hx308_1
      try clear hx308_2
      try clear p2
      try clear p29
      try clear p291
      try clear p292
      try clear p3
      try clear p30
      try clear p302
      try clear p303
      try clear p307
      try clear p308
      try clear p6
      try clear p64
      try clear q2
      try clear q29
      try clear q291
      try clear q292
      try clear q3
      try clear q30
      try clear q302
      try clear q303
      try clear q307
      try clear q308
      obtain ⟨x93_1, x285000_1, u285000, rfl, HA, HK1, HO_91, HO_285000, BK280, BK284, HB⟩ := hrel
      cases gk with
      | zero => exact absurd HA.out (by simp [impl_derive.l3])
      | succ k1 =>
       have H := HA.out
       clear HA
       simp only [impl_derive.l3] at H
       by_cases c95 : x93_1 < (t315.length : Int)
       ·rw [if_pos c95] at H
        have c95b0 : decide (x93_1 < (t315.length : Int)) = true := decide_eq_true c95
        clear c95
        by_cases c96 : 0 ≤ x93_1
        ·rw [if_pos c96] at H
         have c96b0 : decide (0 ≤ x93_1) = true := decide_eq_true c96
         clear c96
         by_cases c97 : x93_1 < (t315.length : Int)
         ·rw [if_pos c97] at H
          have c97b0 : decide (x93_1 < (t315.length : Int)) = true := decide_eq_true c97
          clear c97
          by_cases c98 : 0 ≤ (rd t315 x93_1)
          ·rw [if_pos c98] at H
           have c98b0 : decide (0 ≤ (rd t315 x93_1)) = true := decide_eq_true c98
           clear c98
           by_cases c99 : (rd t315 x93_1) < (l0.length : Int)
           ·rw [if_pos c99] at H
            have c99b0 : decide ((rd t315 x93_1) < (l0.length : Int)) = true := decide_eq_true c99
            clear c99
            obtain ⟨t320, A100, H⟩ := bindE_ H
            by_cases c101 : t320 ≥ 0
            ·rw [if_pos c101] at H
             have c101b0 : decide (0 ≤ t320) = true := decide_eq_true c101
             clear c101
             obtain ⟨y322, hy322⟩ : ∃ y_ : List Int, y_ = (([rd t315 x93_1, t320] : List Int)) := ⟨_, rfl⟩
             replace H : (if x285000_1.length < 2932031007402 then (impl_derive.l3 k1 l0 t315 (t315.length : Int) (wrap64 (x93_1 + 1)) a1_0 a1_1 a1_2 a1_3 a1_4 a1_5 a1_6 a1_7 a1_8 a1_9 (x285000_1 ++ [(⟨(⟨(⟨a1_1, a1_2⟩ : S27), (rd_T29 l0 (rd t315 x93_1)).f1⟩ : S29), y322⟩ : S177)])) else (none)) = some r := by first | (rw [hy322]; with_reducible exact H) | (have H2_ := (Option.bind_some _ _).symm.trans H; rw [hy322]; with_reducible exact H2_) | (have H2_ := (Option.bind_some _ _).symm.trans H; with_reducible exact H2_) | with_reducible exact H | (rw [hy322]; exact H) | exact H
             have Ny322 := Aside0.mk hy322
             clear hy322
             by_cases c102 : x285000_1.length < 2932031007402
             ·rw [if_pos c102] at H
              have LMc102 := Aside0.mk c102
              clear c102
              obtain ⟨y325, hy325⟩ : ∃ y_ : List (S177), y_ = (x285000_1 ++ [(⟨(⟨(⟨a1_1, a1_2⟩ : S27), (rd_T29 l0 (rd t315 x93_1)).f1⟩ : S29), y322⟩ : S177)]) := ⟨_, rfl⟩
              replace H : (impl_derive.l3 k1 l0 t315 (t315.length : Int) (wrap64 (x93_1 + 1)) a1_0 a1_1 a1_2 a1_3 a1_4 a1_5 a1_6 a1_7 a1_8 a1_9 y325) = some r := by first | (rw [hy325]; with_reducible exact H) | (have H2_ := (Option.bind_some _ _).symm.trans H; rw [hy325]; with_reducible exact H2_) | (have H2_ := (Option.bind_some _ _).symm.trans H; with_reducible exact H2_) | with_reducible exact H | (rw [hy325]; exact H) | exact H
              have Ny325 := Aside0.mk hy325
              clear hy325
              have H' := Aside0.mk H
              clear H
              have p318 : 0 ≤ (x93_1 : Int) := of_decide_eq_true (by first | (with_reducible assumption) | assumption)
              have q318 : x93_1 < (t315.length : Int) := of_decide_eq_true (by first | (with_reducible assumption) | assumption)
              obtain ⟨ad318, e318, hx318_0⟩ := Kd.at_int (Kd.R_reads' HO_91.out).2.2 x93_1 p318 q318
              cases e318
              replace p318 := eq_true p318
              replace q318 := eq_true q318
              try go_wp2
              replace HO_91 := Aside0.mk (Kd.R_drew HO_91.out)
              replace HO_285000 := Aside0.mk (Kd.S_drew HO_285000.out)
              replace BK280 := Aside0.mk (blk_drew BK280.out)
              replace BK284 := Aside0.mk (blk_drew BK284.out)
              replace HB := Aside0.mk (below_drew1 HB.out)
              have p319 : 0 ≤ ((rd t315 x93_1) : Int) := of_decide_eq_true (by first | (with_reducible assumption) | assumption)
              have q319 : (rd t315 x93_1) < (l0.length : Int) := of_decide_eq_true (by first | (with_reducible assumption) | assumption)
              obtain ⟨ad319, e319, hx319_0, hx319_1, hx319_2⟩ := at_T29 HR0.out (rd t315 x93_1) p319 q319
              have hw319_2 := hx319_2
              have hw319_1 := hx319_1
              have hw319_0 := hx319_0
              cases e319
              replace hx319_0 := cb_ HB hx319_0
              replace hx319_1 := cb_ HB hx319_1
              replace hx319_2 := cb_ HB hx319_2
              replace p319 := eq_true p319
              replace q319 := eq_true q319
              refine start_ (n := 11) (S := fun w' => w'.cell? ⟨gb280, 0, none⟩ = some (.int .i64 a1_0) ∧ w'.cell? ⟨gb280, 1, none⟩ = some (.int .i64 a1_1) ∧ w'.cell? ⟨gb280, 2, none⟩ = some (.int .i64 a1_2) ∧ w'.cell? ⟨gb280, 3, none⟩ = some (.int .i64 a1_3) ∧ w'.cell? ⟨gb280, 4, none⟩ = some (.int .i64 a1_4) ∧ w'.cell? ⟨gb280, 5, none⟩ = some (.int .i64 a1_5) ∧ w'.cell? ⟨gb280, 6, none⟩ = some (.int .i64 a1_6) ∧ w'.cell? ⟨gb280, 7, none⟩ = some (.int .i64 a1_7) ∧ w'.cell? ⟨gb280, 8, none⟩ = some (.int .i64 a1_8) ∧ w'.cell? ⟨gb280, 9, none⟩ = some (.int .i64 a1_9) ∧ w'.cell? (ad319.add (((rd t315 x93_1)).toNat * 3)) = some (.int .i64 ((rd_T29 l0 (rd t315 x93_1)).f0.f0)) ∧ w'.cell? ⟨(ad319.add (((rd t315 x93_1)).toNat * 3)).block, (ad319.add (((rd t315 x93_1)).toNat * 3)).off + 1, none⟩ = some (.int .i64 ((rd_T29 l0 (rd t315 x93_1)).f0.f1)) ∧ w'.cell? ⟨(ad319.add (((rd t315 x93_1)).toNat * 3)).block, (ad319.add (((rd t315 x93_1)).toNat * 3)).off + 2, none⟩ = some (.int .i64 ((rd_T29 l0 (rd t315 x93_1)).f1))) (ds := []) #[false, false, false, false, false, false, false, false, false, false, false] (by kernel_rfl) rfl rfl ⟨(blk_cell BK280.out 0).trans rfl, (blk_cell BK280.out 1).trans rfl, (blk_cell BK280.out 2).trans rfl, (blk_cell BK280.out 3).trans rfl, (blk_cell BK280.out 4).trans rfl, (blk_cell BK280.out 5).trans rfl, (blk_cell BK280.out 6).trans rfl, (blk_cell BK280.out 7).trans rfl, (blk_cell BK280.out 8).trans rfl, (blk_cell BK280.out 9).trans rfl, ((HB.out.cell (World.block_lt_of_cell? w _ hw319_0)).trans hw319_0), ((HB.out.cell (World.block_lt_of_cell? w _ hw319_1)).trans hw319_1), ((HB.out.cell (World.block_lt_of_cell? w _ hw319_2)).trans hw319_2)⟩ (fun hHeld => ?_); refine with_tabW impl_derive.tab26 impl_derive.bits26 (fun HT_ HW_ => ?_)
              generalize wr.drew = w103 at HO_91 HO_285000 BK280 BK284 HB hx319_0 hx319_1 hx319_2 hHeld ⊢
              refine pureZ_ (i := 0) (some 97) #[true, false, false, false, false, false, false, false, false, false, false] (any_of HT_.out (by kernel_rfl)) ?_
              refine pureZ_ (i := 1) (some 98) #[true, true, false, false, false, false, false, false, false, false, false] (any_of HT_.out (by kernel_rfl)) ?_
              refine pureZ_ (i := 3) (some 100) #[true, true, false, true, false, false, false, false, false, false, false] (any_of HT_.out (by kernel_rfl)) ?_
              refine pureZ_ (i := 4) (some 101) #[true, true, false, true, true, false, false, false, false, false, false] (any_of HT_.out (by kernel_rfl)) ?_
              refine pureZ_ (i := 5) (some 102) #[true, true, false, true, true, true, false, false, false, false, false] (any_of HT_.out (by kernel_rfl)) ?_
              refine pureZ_ (i := 6) (some 103) #[true, true, false, true, true, true, true, false, false, false, false] (any_of HT_.out (by kernel_rfl)) ?_
              refine takeZ_ (i := 2) (some 99) #[true, true, true, true, true, true, true, false, false, false, false] (take_ofW HT_.out HW_.out (by kernel_rfl)) hHeld ?_
              refine takeZ_ (i := 7) (some 104) #[true, true, true, true, true, true, true, true, false, false, false] (take_ofW HT_.out HW_.out (by kernel_rfl)) hHeld ?_
              refine pureZ_ (i := 8) (some 105) #[true, true, true, true, true, true, true, true, true, false, false] (any_of HT_.out (by kernel_rfl)) ?_
              refine one_ (i := 9) (N := some 106) #[true, true, true, true, true, true, true, true, true, true, false] rfl rfl (one_of HT_.out (by kernel_rfl)) (by decide) (fun K hK => ?_)
              refine goes_ Try.func134 (by kernel_rfl) rfl #[.slice (some ad319) l0.length c0, .agg #[.int .i64 a1_6, .int .i64 a1_7, .int .i64 ((rd_T29 l0 (rd t315 x93_1)).f1)]] (by rfl) rfl rfl (by (try simp only [List.map_toArray, List.map_cons, List.map_nil]); first | done | rfl | (simp only [List.length_drop, List.length_take]; rfl)) ?_
              with_reducible refine (impl_Fact_134.calls k1 _ _ l0 a1_6 a1_7 ((rd_T29 l0 (rd t315 x93_1)).f1) t320 _ ?side1 ?side2 A100.out).mono ?_
              (case side1 => repeat (first | exact (Kd.C_below HR0.out HB.out) | (with_reducible refine Kd.C_alloc ?_ _) | (with_reducible refine Kd.C_drewN ?_ _) | (with_reducible refine Kd.C_drew ?_)))
              (case side2 => exact HC0.out)
              rintro e w104 ⟨rfl, hb⟩
              refine ⟨_, rfl, ?_⟩
              replace HO_91 := Aside0.mk (Kd.R_below (by (with_reducible repeat (first | apply Kd.R_alloc | apply Kd.R_drewN | apply Kd.R_drew)); exact HO_91.out) hb)
              replace HO_285000 := Aside0.mk (Kd.S_below (by (with_reducible repeat (first | apply Kd.S_alloc | apply Kd.S_drewN | apply Kd.S_drew)); exact HO_285000.out) hb)
              replace BK280 := bkb_ BK280 hb
              replace BK284 := bkb_ BK284 hb
              replace HB := hbs_ hb
              (try clear hb)
              (try clear hb2)
              (try clear hk)
              (try clear hi)
              refine hK.out _ _ ⟨(blk_cell BK280.out 0).trans rfl, (blk_cell BK280.out 1).trans rfl, (blk_cell BK280.out 2).trans rfl, (blk_cell BK280.out 3).trans rfl, (blk_cell BK280.out 4).trans rfl, (blk_cell BK280.out 5).trans rfl, (blk_cell BK280.out 6).trans rfl, (blk_cell BK280.out 7).trans rfl, (blk_cell BK280.out 8).trans rfl, (blk_cell BK280.out 9).trans rfl, ((HB.out.cell (World.block_lt_of_cell? w _ hw319_0)).trans hw319_0), ((HB.out.cell (World.block_lt_of_cell? w _ hw319_1)).trans hw319_1), ((HB.out.cell (World.block_lt_of_cell? w _ hw319_2)).trans hw319_2)⟩ (fun hHeld => ?_)
              clear hK K
              refine norm_ (a' := ?_) ?_ ?_
              rotate_left
              ·show Act.put _ (some 106) _ = _
               simp only [Act.put, List.setIfInBounds_toArray, List.set_cons_zero, List.set_cons_succ, i64_w, i32_w]
               rfl
              refine pureZ_ (i := 10) (some 15) #[true, true, true, true, true, true, true, true, true, true, true] (any_of HT_.out (by kernel_rfl)) ?_
              refine done_ (done_of HT_.out (by kernel_rfl)) ?_
              have p321 : 0 ≤ ((rd t315 x93_1) : Int) := of_decide_eq_true (by first | (with_reducible assumption) | assumption)
              have q321 : (rd t315 x93_1) < (l0.length : Int) := of_decide_eq_true (by first | (with_reducible assumption) | assumption)
              obtain ⟨ad321, e321, hx321_0, hx321_1, hx321_2⟩ := at_T29 HR0.out (rd t315 x93_1) p321 q321
              obtain rfl : ad319 = ad321 := (by injection e321)
              replace hx321_0 := cb_ HB hx321_0
              replace hx321_1 := cb_ HB hx321_1
              replace hx321_2 := cb_ HB hx321_2
              replace p321 := eq_true p321
              replace q321 := eq_true q321
              try go_wp2_with (first | (go_at_call 155; go_in) | (go_end0; simp only []; go_at_K) | ((with_reducible refine gate_dst (N := 117) rfl ?_); refine Kd.R_lit (Kd.int .i64) _ 3 ?hg (N := 117) ?hd (xs := ([rd t315 x93_1, t320] : List Int)) (inner := [.int .i64 (rd t315 x93_1), .int .i64 t320]) (ok := fun _ => True) (okp := fun _ => True) ?hr ?hp (fun _ hk => hk) trivial (Below.refl _ _) (Nat.le_refl _) (by simp) ?_; (case hd => rfl); (case hg => rfl); (case hr => first | (go_simp; done) | (go_simp; rfl)); (case hp => exact (Reps.one (show Kd.M (Kd.int .i64) _ _ _ (rd t315 x93_1) [.int .i64 (rd t315 x93_1)] from rfl) (Reps.one (show Kd.M (Kd.int .i64) _ _ _ t320 [.int .i64 t320] from rfl) (Reps.none _ _)))); intro v323 w105 ho106 hb hg_ hnew_; clear hg_ hnew_; (first | rw [← Ny322.out] at ho106 | (simp only [Int.reduceToNat] at ho106; rw [← Ny322.out] at ho106)); replace HO_285000 := Aside0.mk (Kd.S_elder' (by (with_reducible repeat (first | apply Kd.S_alloc | apply Kd.S_drewN | apply Kd.S_drew)); exact HO_285000.out) (Kd.R_base ho106) hb); have HO324 := Aside0.mk (Kd.R_lower (Kd.R_new' ho106 (Kd.R_lt (by (with_reducible repeat (first | apply Kd.R_alloc | apply Kd.R_drewN | apply Kd.R_drew)); exact HO_91.out))) bls_); replace HO_91 := Aside0.mk (Kd.R_elder' (by (with_reducible repeat (first | apply Kd.R_alloc | apply Kd.R_drewN | apply Kd.R_drew)); exact HO_91.out) (Kd.R_base ho106) hb); replace BK280 := bkb_ BK280 hb; replace BK284 := bkb_ BK284 hb; replace HB := hbs_ hb; clear hb ho106; have hnb107 := NB284_280.out; have hnc107 := NB280_284.out; have hcz108 := blk_cell BK284.out; have hfz108 := blk_frozen BK284.out; have hcz109 := blk_cell BK280.out; have hfz109 := blk_frozen BK280.out; obtain ⟨Ao110, co110, eo110⟩ := Kd.R_slice HO324.out; subst eo110) | ((with_reducible refine gate_builtin (b := .append) (xs := #[.tmp 6, .tmp 13]) rfl ?_); at_builtin; refine Kd.S_append k177 (w0 := w) w.heap.size rfl (.tmp 6) (.tmp 13) 173 177 (.agg #[(.int .i64 0), (.int .i64 0), (.int .i64 0), (.slice none 0 0)]) 48 rfl Try.underlying173 info177 rfl (by decide) (by omega) u285000 x285000_1 (⟨(⟨(⟨a1_1, a1_2⟩ : S27), (rd_T29 l0 (rd t315 x93_1)).f1⟩ : S29), y322⟩ : S177) [.int .i64 a1_1, .int .i64 a1_2, .int .i64 ((rd_T29 l0 (rd t315 x93_1)).f1), .slice Ao110 y322.length co110] (fun k_ => some k_ ≠ (.slice (some ad318) t315.length co94 : Value).ownBlock) (fun k_ => some k_ = (.slice Ao110 y322.length co110 : Value).ownBlock) rfl rfl ?aP (fun k_ hk_ => ((Kd.R_mono (ok' := fun k_ => ((fun k_ => some k_ ≠ (.slice (some ad318) t315.length co94 : Value).ownBlock)) k_ ∧ some k_ ≠ (u285000 : Value).ownBlock) (Kd.R_apart' (HO324.out) (Kd.S_typed HO_285000.out) (by decide)) (fun k_ hk => ⟨hk.1.2, hk.2⟩))).1 k_ hk_.symm) ?aF ?aO ?aB ?aS ?aL ?_; (case aP => exact k177_mkM _ _ _ (⟨(⟨(⟨a1_1, a1_2⟩ : S27), (rd_T29 l0 (rd t315 x93_1)).f1⟩ : S29), y322⟩ : S177) (Kd.R_mono (Kd.R_tight rfl (Kd.R_mono (ok' := fun k_ => ((fun k_ => some k_ ≠ (.slice (some ad318) t315.length co94 : Value).ownBlock)) k_ ∧ some k_ ≠ (u285000 : Value).ownBlock) (Kd.R_apart' (HO324.out) (Kd.S_typed HO_285000.out) (by decide)) (fun k_ hk => ⟨hk.1.2, hk.2⟩))) (fun _ h_ => h_))); (case aB => exact bl_); (case aF => exact (fun k_ hk => Kd.fresh' (Kd.R_lt (by (with_reducible repeat (first | apply Kd.R_alloc | apply Kd.R_drewN | apply Kd.R_drew)); exact HO_91.out)) k_ hk)); (case aO => exact (by (with_reducible repeat (first | apply Kd.S_alloc | apply Kd.S_drewN | apply Kd.S_drew)); exact Kd.S_mono HO_285000.out (fun k_ hk => ⟨hk.1, fun e_ => hk.2 e_⟩))); (case aS => exact bls_); (case aL => have := LMc102.out; omega); intro v326 w111 ho hb hg hat; rw [← Ny325.out] at ho; replace HO_91 := Aside0.mk (Kd.R_over' (by (with_reducible repeat (first | apply Kd.R_alloc | apply Kd.R_drewN | apply Kd.R_drew)); exact HO_91.out) (Kd.S_typed (by (with_reducible repeat (first | apply Kd.S_alloc | apply Kd.S_drewN | apply Kd.S_drew)); exact HO_285000.out)) (by decide) hg); replace BK280 := Aside0.mk (blk_grown (g := gb280) (o := .cells #[.int .i64 a1_0, .int .i64 a1_1, .int .i64 a1_2, .int .i64 a1_3, .int .i64 a1_4, .int .i64 a1_5, .int .i64 a1_6, .int .i64 a1_7, .int .i64 a1_8, .int .i64 a1_9] 46 (0, 0)) (bk_ BK280) hg (Kd.S_ne HO_285000.out BK280.out (by decide))); replace BK284 := Aside0.mk (blk_grown (g := gb284) (o := .cells #[u285000] 173 (0, 0)) (bk_ BK284) hg (Kd.S_ne HO_285000.out BK284.out (by decide))); replace HB := Aside0.mk (hb); have HO327 := Aside0.mk (ho); clear HO_285000; clear HO324; clear ho hb hg hat; obtain ⟨Ao112, co112, eo112⟩ := Kd.S_slice HO327.out; subst eo112; have hcz113 := blk_cell BK284.out; have hfz113 := blk_frozen BK284.out))
              go_roundg k1
              case measure => have := HK1.out; omega
              case rel => exact ⟨(wrap64 (x93_1 + 1)), (y325), (.slice Ao112 y325.length co112), (by first | rfl | (simp; done) | (simp [*]; done)), H', ⟨by have := HK1.out; omega⟩, ⟨by (with_reducible repeat (first | apply Kd.R_alloc | apply Kd.R_drewN | apply Kd.R_drew)); exact Kd.R_mono (Kd.R_far (p := ⟨gb284, 0, none⟩) (Kd.R_types HO_91.out BK284.out (by decide)) (fun _ hk => hk.2) (.slice Ao112 y325.length co112)) (fun _ hk => trivial)⟩, ⟨by (with_reducible repeat (first | apply Kd.S_alloc | apply Kd.S_drewN | apply Kd.S_drew)); exact Kd.S_mono (Kd.S_far (p := ⟨gb284, 0, none⟩) (Kd.S_types HO327.out BK284.out (by decide)) (fun _ hk => hk.2) (.slice Ao112 y325.length co112)) (fun _ hk => hk.1)⟩, ⟨bk_ BK280⟩, ⟨bk_ BK284⟩, ⟨bl_⟩⟩
             ·rw [if_neg c102] at H
              exact absurd H (by simp)
            ·rw [if_neg c101] at H
             have c101b0 : decide (0 ≤ t320) = false := decide_eq_false c101
             clear c101
             have H' := Aside0.mk H
             clear H
             have p318 : 0 ≤ (x93_1 : Int) := of_decide_eq_true (by first | (with_reducible assumption) | assumption)
             have q318 : x93_1 < (t315.length : Int) := of_decide_eq_true (by first | (with_reducible assumption) | assumption)
             obtain ⟨ad318, e318, hx318_0⟩ := Kd.at_int (Kd.R_reads' HO_91.out).2.2 x93_1 p318 q318
             cases e318
             replace p318 := eq_true p318
             replace q318 := eq_true q318
             try go_wp2
             replace HO_91 := Aside0.mk (Kd.R_drew HO_91.out)
             replace HO_285000 := Aside0.mk (Kd.S_drew HO_285000.out)
             replace BK280 := Aside0.mk (blk_drew BK280.out)
             replace BK284 := Aside0.mk (blk_drew BK284.out)
             replace HB := Aside0.mk (below_drew1 HB.out)
             have p319 : 0 ≤ ((rd t315 x93_1) : Int) := of_decide_eq_true (by first | (with_reducible assumption) | assumption)
             have q319 : (rd t315 x93_1) < (l0.length : Int) := of_decide_eq_true (by first | (with_reducible assumption) | assumption)
             obtain ⟨ad319, e319, hx319_0, hx319_1, hx319_2⟩ := at_T29 HR0.out (rd t315 x93_1) p319 q319
             have hw319_2 := hx319_2
             have hw319_1 := hx319_1
             have hw319_0 := hx319_0
             cases e319
             replace hx319_0 := cb_ HB hx319_0
             replace hx319_1 := cb_ HB hx319_1
             replace hx319_2 := cb_ HB hx319_2
             replace p319 := eq_true p319
             replace q319 := eq_true q319
             refine start_ (n := 11) (S := fun w' => w'.cell? ⟨gb280, 0, none⟩ = some (.int .i64 a1_0) ∧ w'.cell? ⟨gb280, 1, none⟩ = some (.int .i64 a1_1) ∧ w'.cell? ⟨gb280, 2, none⟩ = some (.int .i64 a1_2) ∧ w'.cell? ⟨gb280, 3, none⟩ = some (.int .i64 a1_3) ∧ w'.cell? ⟨gb280, 4, none⟩ = some (.int .i64 a1_4) ∧ w'.cell? ⟨gb280, 5, none⟩ = some (.int .i64 a1_5) ∧ w'.cell? ⟨gb280, 6, none⟩ = some (.int .i64 a1_6) ∧ w'.cell? ⟨gb280, 7, none⟩ = some (.int .i64 a1_7) ∧ w'.cell? ⟨gb280, 8, none⟩ = some (.int .i64 a1_8) ∧ w'.cell? ⟨gb280, 9, none⟩ = some (.int .i64 a1_9) ∧ w'.cell? (ad319.add (((rd t315 x93_1)).toNat * 3)) = some (.int .i64 ((rd_T29 l0 (rd t315 x93_1)).f0.f0)) ∧ w'.cell? ⟨(ad319.add (((rd t315 x93_1)).toNat * 3)).block, (ad319.add (((rd t315 x93_1)).toNat * 3)).off + 1, none⟩ = some (.int .i64 ((rd_T29 l0 (rd t315 x93_1)).f0.f1)) ∧ w'.cell? ⟨(ad319.add (((rd t315 x93_1)).toNat * 3)).block, (ad319.add (((rd t315 x93_1)).toNat * 3)).off + 2, none⟩ = some (.int .i64 ((rd_T29 l0 (rd t315 x93_1)).f1))) (ds := []) #[false, false, false, false, false, false, false, false, false, false, false] (by kernel_rfl) rfl rfl ⟨(blk_cell BK280.out 0).trans rfl, (blk_cell BK280.out 1).trans rfl, (blk_cell BK280.out 2).trans rfl, (blk_cell BK280.out 3).trans rfl, (blk_cell BK280.out 4).trans rfl, (blk_cell BK280.out 5).trans rfl, (blk_cell BK280.out 6).trans rfl, (blk_cell BK280.out 7).trans rfl, (blk_cell BK280.out 8).trans rfl, (blk_cell BK280.out 9).trans rfl, ((HB.out.cell (World.block_lt_of_cell? w _ hw319_0)).trans hw319_0), ((HB.out.cell (World.block_lt_of_cell? w _ hw319_1)).trans hw319_1), ((HB.out.cell (World.block_lt_of_cell? w _ hw319_2)).trans hw319_2)⟩ (fun hHeld => ?_); refine with_tabW impl_derive.tab26 impl_derive.bits26 (fun HT_ HW_ => ?_)
             generalize wr.drew = w114 at HO_91 HO_285000 BK280 BK284 HB hx319_0 hx319_1 hx319_2 hHeld ⊢
             refine pureZ_ (i := 0) (some 97) #[true, false, false, false, false, false, false, false, false, false, false] (any_of HT_.out (by kernel_rfl)) ?_
             refine pureZ_ (i := 1) (some 98) #[true, true, false, false, false, false, false, false, false, false, false] (any_of HT_.out (by kernel_rfl)) ?_
             refine pureZ_ (i := 3) (some 100) #[true, true, false, true, false, false, false, false, false, false, false] (any_of HT_.out (by kernel_rfl)) ?_
             refine pureZ_ (i := 4) (some 101) #[true, true, false, true, true, false, false, false, false, false, false] (any_of HT_.out (by kernel_rfl)) ?_
             refine pureZ_ (i := 5) (some 102) #[true, true, false, true, true, true, false, false, false, false, false] (any_of HT_.out (by kernel_rfl)) ?_
             refine pureZ_ (i := 6) (some 103) #[true, true, false, true, true, true, true, false, false, false, false] (any_of HT_.out (by kernel_rfl)) ?_
             refine takeZ_ (i := 2) (some 99) #[true, true, true, true, true, true, true, false, false, false, false] (take_ofW HT_.out HW_.out (by kernel_rfl)) hHeld ?_
             refine takeZ_ (i := 7) (some 104) #[true, true, true, true, true, true, true, true, false, false, false] (take_ofW HT_.out HW_.out (by kernel_rfl)) hHeld ?_
             refine pureZ_ (i := 8) (some 105) #[true, true, true, true, true, true, true, true, true, false, false] (any_of HT_.out (by kernel_rfl)) ?_
             refine one_ (i := 9) (N := some 106) #[true, true, true, true, true, true, true, true, true, true, false] rfl rfl (one_of HT_.out (by kernel_rfl)) (by decide) (fun K hK => ?_)
             refine goes_ Try.func134 (by kernel_rfl) rfl #[.slice (some ad319) l0.length c0, .agg #[.int .i64 a1_6, .int .i64 a1_7, .int .i64 ((rd_T29 l0 (rd t315 x93_1)).f1)]] (by rfl) rfl rfl (by (try simp only [List.map_toArray, List.map_cons, List.map_nil]); first | done | rfl | (simp only [List.length_drop, List.length_take]; rfl)) ?_
             with_reducible refine (impl_Fact_134.calls k1 _ _ l0 a1_6 a1_7 ((rd_T29 l0 (rd t315 x93_1)).f1) t320 _ ?side1 ?side2 A100.out).mono ?_
             (case side1 => repeat (first | exact (Kd.C_below HR0.out HB.out) | (with_reducible refine Kd.C_alloc ?_ _) | (with_reducible refine Kd.C_drewN ?_ _) | (with_reducible refine Kd.C_drew ?_)))
             (case side2 => exact HC0.out)
             rintro e w115 ⟨rfl, hb⟩
             refine ⟨_, rfl, ?_⟩
             replace HO_91 := Aside0.mk (Kd.R_below (by (with_reducible repeat (first | apply Kd.R_alloc | apply Kd.R_drewN | apply Kd.R_drew)); exact HO_91.out) hb)
             replace HO_285000 := Aside0.mk (Kd.S_below (by (with_reducible repeat (first | apply Kd.S_alloc | apply Kd.S_drewN | apply Kd.S_drew)); exact HO_285000.out) hb)
             replace BK280 := bkb_ BK280 hb
             replace BK284 := bkb_ BK284 hb
             replace HB := hbs_ hb
             (try clear hb)
             (try clear hb2)
             (try clear hk)
             (try clear hi)
             refine hK.out _ _ ⟨(blk_cell BK280.out 0).trans rfl, (blk_cell BK280.out 1).trans rfl, (blk_cell BK280.out 2).trans rfl, (blk_cell BK280.out 3).trans rfl, (blk_cell BK280.out 4).trans rfl, (blk_cell BK280.out 5).trans rfl, (blk_cell BK280.out 6).trans rfl, (blk_cell BK280.out 7).trans rfl, (blk_cell BK280.out 8).trans rfl, (blk_cell BK280.out 9).trans rfl, ((HB.out.cell (World.block_lt_of_cell? w _ hw319_0)).trans hw319_0), ((HB.out.cell (World.block_lt_of_cell? w _ hw319_1)).trans hw319_1), ((HB.out.cell (World.block_lt_of_cell? w _ hw319_2)).trans hw319_2)⟩ (fun hHeld => ?_)
             clear hK K
             refine norm_ (a' := ?_) ?_ ?_
             rotate_left
             ·show Act.put _ (some 106) _ = _
              simp only [Act.put, List.setIfInBounds_toArray, List.set_cons_zero, List.set_cons_succ, i64_w, i32_w]
              rfl
             refine pureZ_ (i := 10) (some 15) #[true, true, true, true, true, true, true, true, true, true, true] (any_of HT_.out (by kernel_rfl)) ?_
             refine done_ (done_of HT_.out (by kernel_rfl)) ?_
             try go_wp2
             go_roundg k1
             case measure => have := HK1.out; omega
             case rel => exact ⟨(wrap64 (x93_1 + 1)), (x285000_1), (u285000), (by first | rfl | (simp; done) | (simp [*]; done)), H', ⟨by have := HK1.out; omega⟩, ⟨by (with_reducible repeat (first | apply Kd.R_alloc | apply Kd.R_drewN | apply Kd.R_drew)); exact HO_91.out⟩, ⟨by (with_reducible repeat (first | apply Kd.S_alloc | apply Kd.S_drewN | apply Kd.S_drew)); exact HO_285000.out⟩, ⟨bk_ BK280⟩, ⟨bk_ BK284⟩, ⟨bl_⟩⟩
           ·rw [if_neg c99] at H
            exact absurd H (by simp)
          ·rw [if_neg c98] at H
           exact absurd H (by simp)
         ·rw [if_neg c97] at H
          exact absurd H (by simp)
        ·rw [if_neg c96] at H
         exact absurd H (by simp)
       ·rw [if_neg c95] at H
        have c95b0 : decide (x93_1 < (t315.length : Int)) = false := decide_eq_false c95
        clear c95
        obtain rfl := Option.some.inj H
        have hnb116 := NB284_280.out
        have hnc116 := NB280_284.out
        have hcz117 := blk_cell BK284.out
        have hfz117 := blk_frozen BK284.out
        go_wp2
        go_ret
        exact ⟨_, eq_, by (with_reducible repeat (first | apply Kd.S_alloc | apply Kd.S_drewN | apply Kd.S_drew)); exact Kd.S_mono HO_285000.out (fun _ hk => trivial), bl_⟩
    ·rw [if_neg c83] at H
     have c83b0 : (a1_0 == 4) = false := beq_eq_false_iff_ne.mpr c83
     have c83b1 : (a1_0 != 4) = true := bne_iff_ne.mpr c83
     obtain rfl := Option.some.inj H
     go_enter Try.func147, Try.ntmps147
     go_wp2_with (first | (go_at_call 155; go_in) | (go_end0; simp only []; go_at_K) | ((with_reducible refine gate_dst (N := 3) rfl ?_); refine box_event ?hg (N := 3) ?hd (cs := #[.int .i64 a1_0, .int .i64 a1_1, .int .i64 a1_2, .int .i64 a1_3, .int .i64 a1_4, .int .i64 a1_5, .int .i64 a1_6, .int .i64 a1_7, .int .i64 a1_8, .int .i64 a1_9]) (t := 46) ?hr ?_; (case hd => rfl); (case hg => rfl); (case hr => first | (go_simp; done) | (go_simp; rfl)); intro gb280 hg w118 hbox hb; have BK280 := Aside0.mk (hbox); have GW280 := gs_ hg; have GE280 := gs_ hg; replace HB := hbs_ hb; clear hb hbox hg) | ((with_reducible refine gate_dst (N := 16) rfl ?_); refine Kd.S_lit k177 _ 177 ?hg (N := 16) ?hd (xs := ([] : List (S177))) (inner := []) (ok := fun _ => True) (okp := fun _ => True) ?hr ?hp (fun _ hk => hk) trivial (Below.refl _ _) (Nat.le_refl _) (by simp) ?_; (case hd => rfl); (case hg => rfl); (case hr => first | (go_simp; done) | (go_simp; rfl)); (case hp => exact (Reps.none _ _)); intro v282 w119 ho120 hb hg_ hnew_; clear hg_ hnew_; (first | rw [← Ny281.out] at ho120 | (simp only [Int.reduceToNat] at ho120; rw [← Ny281.out] at ho120)); have HO283 := Aside0.mk (Kd.S_lower ho120 bls_); replace BK280 := bkb_ BK280 hb; replace HB := hbs_ hb; clear hb ho120) | ((with_reducible refine gate_dst (N := 5) rfl ?_); refine box_event ?hg (N := 5) ?hd (cs := #[.slice none 0 0]) (t := 173) ?hr ?_; (case hd => rfl); (case hg => rfl); (case hr => first | (go_simp; done) | (go_simp; rfl)); intro gb284 hg w121 hbox hb; replace HO283 := Aside0.mk (Kd.S_below (by (with_reducible repeat (first | apply Kd.S_alloc | apply Kd.S_drewN | apply Kd.S_drew)); exact HO283.out) hb); have BK284 := Aside0.mk (hbox); have GW284 := gs_ hg; have GE284 := gs_ hg; replace HB := hbs_ hb; have NB280_284 := Aside0.mk ((by rw [hg]; exact Nat.ne_of_lt (blk_lt (g := gb280) (o := .cells #[.int .i64 a1_0, .int .i64 a1_1, .int .i64 a1_2, .int .i64 a1_3, .int .i64 a1_4, .int .i64 a1_5, .int .i64 a1_6, .int .i64 a1_7, .int .i64 a1_8, .int .i64 a1_9] 46 (0, 0)) (bk_ BK280)) : gb280 ≠ gb284)); have NB284_280 := Aside0.mk ((by rw [hg]; exact Nat.ne_of_gt (blk_lt (g := gb280) (o := .cells #[.int .i64 a1_0, .int .i64 a1_1, .int .i64 a1_2, .int .i64 a1_3, .int .i64 a1_4, .int .i64 a1_5, .int .i64 a1_6, .int .i64 a1_7, .int .i64 a1_8, .int .i64 a1_9] 46 (0, 0)) (bk_ BK280)) : gb284 ≠ gb280)); replace BK280 := bkb_ BK280 hb; clear hb hbox hg; obtain ⟨Ao122, co122, eo122⟩ := Kd.S_slice HO283.out; subst eo122; have hnb123 := NB284_280.out; have hnc123 := NB280_284.out; have hcz124 := blk_cell BK284.out; have hfz124 := blk_frozen BK284.out; have hcz125 := blk_cell BK280.out; have hfz125 := blk_frozen BK280.out))
     go_ret
     exact ⟨_, eq_, by (with_reducible repeat (first | apply Kd.S_alloc | apply Kd.S_drewN | apply Kd.S_drew)); exact Kd.S_mono (Kd.S_far (p := ⟨gb284, 0, none⟩) (Kd.S_types HO283.out BK284.out (by decide)) (fun _ hk => hk.2) (.slice Ao122 y281.length co122)) (fun _ hk => trivial), bl_⟩
end Go.Proofs.Ytppdmcimddhbaaa.PH
