import Derived.Test.YteehgihclnlaoaaKDPAx8
-- printed by wip/tools
namespace Go.Proofs.Yteehgihclnlaoaa.PA
open Go.RowKit Go.Proofs.YteehgihclnlaoaaW.PrintWords Go.Proofs.YteehgihclnlaoaaW.PrintLast Go.Proofs.YteehgihclnlaoaaW.PrintMore
attribute [local go_sem] max2_int min2_int max_two min_two max_three min_three max_four min_four
set_option linter.unusedVariables false
set_option linter.unusedSimpArgs false
mutual
def impl_derive.l0 : Nat → List (S54) → List Int → Int → Int → Int → Int → Int → Int → Int → Int → Int → Int → Int → Int → List (S97) → Option ((List (S97)))
 | 0, _, _, _, _, _, _, _, _, _, _, _, _, _, _, _ => none
 | k + 1, x0, x31, x32, x33, x366000, x366001, x366002, x366003, x366004, x366005, x366006, x366007, x366008, x366009, x370000 => if x33 < x32 then (if 0 ≤ x33 then (if x33 < (x31.length : Int) then (if 0 ≤ (rd x31 x33) then (if (rd x31 x33) < (x0.length : Int) then (if x370000.length < 2932031007402 then (impl_derive.l0 k x0 x31 x32 (wrap64 (x33 + 1)) x366000 x366001 x366002 x366003 x366004 x366005 x366006 x366007 x366008 x366009 (x370000 ++ [(⟨(⟨(⟨x366001, x366002⟩ : S26), (rd_T54 x0 (rd x31 x33)).f1⟩ : S54), (([rd x31 x33] : List Int))⟩ : S97)])) else (none)) else (none)) else (none)) else (none)) else (none)) else (some x370000)
def impl_derive.l1 : Nat → List (S54) → List Int → Int → Int → Int → Int → Int → Int → Int → Int → Int → Int → Int → Int → List (S97) → Option ((List (S97)))
 | 0, _, _, _, _, _, _, _, _, _, _, _, _, _, _, _ => none
 | k + 1, x0, x52, x53, x54, x366000, x366001, x366002, x366003, x366004, x366005, x366006, x366007, x366008, x366009, x370000 => if x54 < x53 then (if 0 ≤ x54 then (if x54 < (x52.length : Int) then (if 0 ≤ (rd x52 x54) then (if (rd x52 x54) < (x0.length : Int) then ((impl_whoOf.f k x0 ((rd_T54 x0 (rd x52 x54)).f1) x366007).bind fun t389 => (impl_derive.l2 k x0 (rd x52 x54) x52 x53 x54 t389 (t389.length : Int) 0 x366000 x366001 x366002 x366003 x366004 x366005 x366006 x366007 x366008 x366009 x370000)) else (none)) else (none)) else (none)) else (none)) else (some x370000)
def impl_derive.l2 : Nat → List (S54) → Int → List Int → Int → Int → List Int → Int → Int → Int → Int → Int → Int → Int → Int → Int → Int → Int → Int → List (S97) → Option ((List (S97)))
 | 0, _, _, _, _, _, _, _, _, _, _, _, _, _, _, _, _, _, _, _ => none
 | k + 1, x0, x10, x52, x53, x54, x68, x69, x70, x366000, x366001, x366002, x366003, x366004, x366005, x366006, x366007, x366008, x366009, x370000 => if x70 < x69 then (if 0 ≤ x70 then (if x70 < (x68.length : Int) then (if 0 ≤ (rd x68 x70) then (if (rd x68 x70) < (x0.length : Int) then (if x370000.length < 2932031007402 then (impl_derive.l2 k x0 x10 x52 x53 x54 x68 x69 (wrap64 (x70 + 1)) x366000 x366001 x366002 x366003 x366004 x366005 x366006 x366007 x366008 x366009 (x370000 ++ [(⟨(⟨(⟨x366001, x366002⟩ : S26), (rd_T54 x0 (rd x68 x70)).f1⟩ : S54), (([x10, rd x68 x70] : List Int))⟩ : S97)])) else (none)) else (none)) else (none)) else (none)) else (none)) else (impl_derive.l1 k x0 x52 x53 (wrap64 (x54 + 1)) x366000 x366001 x366002 x366003 x366004 x366005 x366006 x366007 x366008 x366009 x370000)
def impl_derive.l3 : Nat → List (S54) → List Int → Int → Int → Int → Int → Int → Int → Int → Int → Int → Int → Int → Int → List (S97) → Option ((List (S97)))
 | 0, _, _, _, _, _, _, _, _, _, _, _, _, _, _, _ => none
 | k + 1, x0, x91, x92, x93, x366000, x366001, x366002, x366003, x366004, x366005, x366006, x366007, x366008, x366009, x370000 => if x93 < x92 then (if 0 ≤ x93 then (if x93 < (x91.length : Int) then (if 0 ≤ (rd x91 x93) then (if (rd x91 x93) < (x0.length : Int) then ((impl_Fact_54.f k x0 x366006 x366007 ((rd_T54 x0 (rd x91 x93)).f1)).bind fun t405 => (if t405 ≥ 0 then (if x370000.length < 2932031007402 then (impl_derive.l3 k x0 x91 x92 (wrap64 (x93 + 1)) x366000 x366001 x366002 x366003 x366004 x366005 x366006 x366007 x366008 x366009 (x370000 ++ [(⟨(⟨(⟨x366001, x366002⟩ : S26), (rd_T54 x0 (rd x91 x93)).f1⟩ : S54), (([rd x91 x93, t405] : List Int))⟩ : S97)])) else (none)) else (impl_derive.l3 k x0 x91 x92 (wrap64 (x93 + 1)) x366000 x366001 x366002 x366003 x366004 x366005 x366006 x366007 x366008 x366009 x370000))) else (none)) else (none)) else (none)) else (none)) else (some x370000)
end
def impl_derive.f (k : Nat) (l0 : List (S54)) (a1_0 : Int) (a1_1 : Int) (a1_2 : Int) (a1_3 : Int) (a1_4 : Int) (a1_5 : Int) (a1_6 : Int) (a1_7 : Int) (a1_8 : Int) (a1_9 : Int) : Option ((List (S97))) := (some (([] : List (S97)) : List (S97))).bind fun y366 => (if a1_0 = 1 then (if y366.length < 2932031007402 then (some (y366 ++ [(⟨(⟨(⟨a1_1, a1_2⟩ : S26), a1_3⟩ : S54), ([] : List Int)⟩ : S97)])) else (none)) else (if a1_0 = 2 then ((impl_whoOf.f k l0 a1_4 a1_5).bind fun t373 => (impl_derive.l0 k l0 t373 (t373.length : Int) 0 a1_0 a1_1 a1_2 a1_3 a1_4 a1_5 a1_6 a1_7 a1_8 a1_9 y366)) else (if a1_0 = 3 then ((impl_whoOf.f k l0 a1_4 a1_5).bind fun t384 => (impl_derive.l1 k l0 t384 (t384.length : Int) 0 a1_0 a1_1 a1_2 a1_3 a1_4 a1_5 a1_6 a1_7 a1_8 a1_9 y366)) else (if a1_0 = 4 then ((impl_whoOf.f k l0 a1_4 a1_5).bind fun t400 => (impl_derive.l3 k l0 t400 (t400.length : Int) 0 a1_0 a1_1 a1_2 a1_3 a1_4 a1_5 a1_6 a1_7 a1_8 a1_9 y366)) else (some y366)))))
def impl_derive.T16 : Bool × List (List Nat × List Nat) := (true, [([], []), ([], []), ([], []), ([1, 2], [1, 2]), ([3], [3]), ([4], [4]), ([], []), ([6], [6]), ([7], [7]), ([5, 8], [5, 8]), ([0, 9], [0, 9]), ([10], [10]), ([], [])])
def impl_derive.B16 : List Nat := [0, 0, 0, 6, 14, 30, 0, 64, 192, 510, 1023, 2047, 0]
theorem impl_derive.tab16 : rtab .any (opsOf Try.f71 16) = impl_derive.T16 := by kernel_rfl
theorem impl_derive.bits16 : waitsOk impl_derive.T16.2 impl_derive.B16 = true := by kernel_rfl
def impl_derive.T26 : Bool × List (List Nat × List Nat) := (true, [([], []), ([], []), ([1], [1]), ([], []), ([], []), ([3, 4], [3, 4]), ([5], [5]), ([6], [6]), ([2, 7], [2, 7]), ([0, 8], [0, 8]), ([9, 9, 0, 1, 2, 3, 4, 5, 6, 7, 8, 9], [9])])
def impl_derive.B26 : List Nat := [0, 0, 2, 0, 0, 24, 56, 120, 254, 511, 1023]
theorem impl_derive.tab26 : rtab .any (opsOf Try.f71 26) = impl_derive.T26 := by kernel_rfl
theorem impl_derive.bits26 : waitsOk impl_derive.T26.2 impl_derive.B26 = true := by kernel_rfl
set_option maxHeartbeats 8000000 in
set_option maxRecDepth 100000 in
theorem impl_derive.calls (k : Nat) (A0 : Option Addr) (c0 : Nat) (l0 : List (S54)) (a1_0 : Int) (a1_1 : Int) (a1_2 : Int) (a1_3 : Int) (a1_4 : Int) (a1_5 : Int) (a1_6 : Int) (a1_7 : Int) (a1_8 : Int) (a1_9 : Int) (r : List (S97)) (w : World) (hr0 : Kd.C k54 w A0 l0.length l0) (hc0 : l0.length ≤ c0) (h : impl_derive.f k l0 a1_0 a1_1 a1_2 a1_3 a1_4 a1_5 a1_6 a1_7 a1_8 a1_9 = some r) :
  Calls Try.prog 71 #[.slice A0 l0.length c0, .agg #[.int .i64 a1_0, .int .i64 a1_1, .int .i64 a1_2, .int .i64 a1_3, .int .i64 a1_4, .int .i64 a1_5, .int .i64 a1_6, .int .i64 a1_7, .int .i64 a1_8, .int .i64 a1_9]] w fun e w' => ∃ v0_ : Value, e = .returned (v0_) ∧ Kd.S k97 97 w' w.heap.size (fun _ => True) v0_ r ∧ Below w.heap.size w w' := by
 have hu48 := Try.underlying48
 have hu26 := Try.underlying26
 have hu54 := Try.underlying54
 have hmf : ∀ (fn : Fn) (first cap : Array Value) (w : World), (Instr.makeFunc fn first cap).run Try.prog w = .ok (.func fn first cap) w := fun _ _ _ _ => rfl
 have hu93 := Try.underlying93
 have HR0 := Aside0.mk hr0
 have HC0 := Aside0.mk hc0
 clear hr0 hc0
 have HB := Aside0.mk (Below.refl w.heap.size w)
 have H : ((some (([] : List (S97)) : List (S97))).bind fun y366 => (if a1_0 = 1 then (if y366.length < 2932031007402 then (some (y366 ++ [(⟨(⟨(⟨a1_1, a1_2⟩ : S26), a1_3⟩ : S54), ([] : List Int)⟩ : S97)])) else (none)) else (if a1_0 = 2 then ((impl_whoOf.f k l0 a1_4 a1_5).bind fun t373 => (impl_derive.l0 k l0 t373 (t373.length : Int) 0 a1_0 a1_1 a1_2 a1_3 a1_4 a1_5 a1_6 a1_7 a1_8 a1_9 y366)) else (if a1_0 = 3 then ((impl_whoOf.f k l0 a1_4 a1_5).bind fun t384 => (impl_derive.l1 k l0 t384 (t384.length : Int) 0 a1_0 a1_1 a1_2 a1_3 a1_4 a1_5 a1_6 a1_7 a1_8 a1_9 y366)) else (if a1_0 = 4 then ((impl_whoOf.f k l0 a1_4 a1_5).bind fun t400 => (impl_derive.l3 k l0 t400 (t400.length : Int) 0 a1_0 a1_1 a1_2 a1_3 a1_4 a1_5 a1_6 a1_7 a1_8 a1_9 y366)) else (some y366)))))) = some r := h
 clear h
 obtain ⟨y366, hy366⟩ : ∃ y_ : List (S97), y_ = (([] : List (S97))) := ⟨_, rfl⟩
 replace H : (if a1_0 = 1 then (if y366.length < 2932031007402 then (some (y366 ++ [(⟨(⟨(⟨a1_1, a1_2⟩ : S26), a1_3⟩ : S54), ([] : List Int)⟩ : S97)])) else (none)) else (if a1_0 = 2 then ((impl_whoOf.f k l0 a1_4 a1_5).bind fun t373 => (impl_derive.l0 k l0 t373 (t373.length : Int) 0 a1_0 a1_1 a1_2 a1_3 a1_4 a1_5 a1_6 a1_7 a1_8 a1_9 y366)) else (if a1_0 = 3 then ((impl_whoOf.f k l0 a1_4 a1_5).bind fun t384 => (impl_derive.l1 k l0 t384 (t384.length : Int) 0 a1_0 a1_1 a1_2 a1_3 a1_4 a1_5 a1_6 a1_7 a1_8 a1_9 y366)) else (if a1_0 = 4 then ((impl_whoOf.f k l0 a1_4 a1_5).bind fun t400 => (impl_derive.l3 k l0 t400 (t400.length : Int) 0 a1_0 a1_1 a1_2 a1_3 a1_4 a1_5 a1_6 a1_7 a1_8 a1_9 y366)) else (some y366))))) = some r := by first | (rw [hy366]; with_reducible exact H) | (have H2_ := (Option.bind_some _ _).symm.trans H; rw [hy366]; with_reducible exact H2_) | (have H2_ := (Option.bind_some _ _).symm.trans H; with_reducible exact H2_) | with_reducible exact H | (rw [hy366]; exact H) | exact H
 have Ny366 := Aside0.mk hy366
 clear hy366
 by_cases c3 : a1_0 = 1
 ·rw [if_pos c3] at H
  have c3b0 : (a1_0 == 1) = true := beq_iff_eq.mpr c3
  have c3b1 : (a1_0 != 1) = false := bne_eq_false_iff_eq.mpr c3
  clear c3
  obtain ⟨c4, H⟩ := ifn_ H
  have LMc4 := Aside0.mk c4
  clear c4
  obtain ⟨y370, hy370⟩ : ∃ y_ : List (S97), y_ = (y366 ++ [(⟨(⟨(⟨a1_1, a1_2⟩ : S26), a1_3⟩ : S54), ([] : List Int)⟩ : S97)]) := ⟨_, rfl⟩
  replace H : (some y370) = some r := by first | (rw [hy370]; with_reducible exact H) | (have H2_ := (Option.bind_some _ _).symm.trans H; rw [hy370]; with_reducible exact H2_) | (have H2_ := (Option.bind_some _ _).symm.trans H; with_reducible exact H2_) | with_reducible exact H | (rw [hy370]; exact H) | exact H
  have Ny370 := Aside0.mk hy370
  clear hy370
  obtain rfl := Option.some.inj H
  go_enter Try.func71, Try.ntmps71
  go_wp2_with (first | (go_at_call 81; go_in) | (go_end0; simp only []; go_at_K) | ((with_reducible refine gate_dst (N := 3) rfl ?_); refine box_event ?hg (N := 3) ?hd (cs := #[.int .i64 a1_0, .int .i64 a1_1, .int .i64 a1_2, .int .i64 a1_3, .int .i64 a1_4, .int .i64 a1_5, .int .i64 a1_6, .int .i64 a1_7, .int .i64 a1_8, .int .i64 a1_9]) (t := 48) ?hr ?_; (case hd => rfl); (case hg => rfl); (case hr => first | (go_simp; done) | (go_simp; rfl)); intro gb365 hg w5 hbox hb; have BK365 := Aside0.mk (hbox); have GW365 := gs_ hg; have GE365 := gs_ hg; replace HB := hbs_ hb; clear hb hbox hg) | ((with_reducible refine gate_dst (N := 16) rfl ?_); refine Kd.S_lit k97 _ 97 ?hg (N := 16) ?hd (xs := ([] : List (S97))) (inner := []) (ok := fun _ => True) (okp := fun _ => True) ?hr ?hp (fun _ hk => hk) trivial (Below.refl _ _) (Nat.le_refl _) (by simp) ?_; (case hd => rfl); (case hg => rfl); (case hr => first | (go_simp; done) | (go_simp; rfl)); (case hp => exact (Reps.none _ _)); intro v367 w6 ho7 hb hg_ hnew_; clear hg_ hnew_; (first | rw [← Ny366.out] at ho7 | (simp only [Int.reduceToNat] at ho7; rw [← Ny366.out] at ho7)); have HO368 := Aside0.mk (Kd.S_lower ho7 bls_); replace BK365 := bkb_ BK365 hb; replace HB := hbs_ hb; clear hb ho7) | ((with_reducible refine gate_dst (N := 5) rfl ?_); refine box_event ?hg (N := 5) ?hd (cs := #[.slice none 0 0]) (t := 93) ?hr ?_; (case hd => rfl); (case hg => rfl); (case hr => first | (go_simp; done) | (go_simp; rfl)); intro gb369 hg w8 hbox hb; replace HO368 := Aside0.mk (Kd.S_below (by (with_reducible repeat (first | apply Kd.S_alloc | apply Kd.S_drewN | apply Kd.S_drew)); exact HO368.out) hb); have BK369 := Aside0.mk (hbox); have GW369 := gs_ hg; have GE369 := gs_ hg; replace HB := hbs_ hb; have NB365_369 := nl_ hg BK365; have NB369_365 := nr_ hg BK365; replace BK365 := bkb_ BK365 hb; clear hb hbox hg; obtain ⟨Ao9, co9, eo9⟩ := Kd.S_slice HO368.out; subst eo9; have hnb10 := NB369_365.out; have hnc10 := NB365_369.out; have hcz11 := blk_cell BK369.out; have hfz11 := blk_frozen BK369.out; have hcz12 := blk_cell BK365.out; have hfz12 := blk_frozen BK365.out) | ((with_reducible refine gate_builtin (b := .append) (xs := #[.tmp 6, .tmp 13]) rfl ?_); at_builtin; refine Kd.S_append k97 (w0 := w) w.heap.size rfl (.tmp 6) (.tmp 13) 93 97 (.agg #[(.int .i64 0), (.int .i64 0), (.int .i64 0), (.slice none 0 0)]) 48 rfl Try.underlying93 info97 rfl (by decide) (by omega) (.slice Ao9 y366.length co9) y366 (⟨(⟨(⟨a1_1, a1_2⟩ : S26), a1_3⟩ : S54), ([] : List Int)⟩ : S97) [.int .i64 a1_1, .int .i64 a1_2, .int .i64 a1_3, .slice none 0 0] (fun _ => True) (fun _ => False) rfl (by first | (go_simp; done) | (go_simp; rfl)) ?aP (fun k_ hk_ => hk_.elim) ?aF ?aO ?aB ?aS ?aL ?_; (case aP => exact k97_mkM _ _ _ (⟨(⟨(⟨a1_1, a1_2⟩ : S26), a1_3⟩ : S54), ([] : List Int)⟩ : S97) (Kd.R_nil _ _ _ _ _)); (case aB => exact bl_); (case aF => exact (fun _ _ => trivial)); (case aO => exact (by (with_reducible repeat (first | apply Kd.S_alloc | apply Kd.S_drewN | apply Kd.S_drew)); exact Kd.S_mono (Kd.S_far (p := ⟨gb369, 0, none⟩) (Kd.S_types HO368.out BK369.out (by decide)) (fun _ hk => hk.2) (.slice Ao9 y366.length co9)) (fun k_ hk => ⟨trivial, fun e_ => e_⟩))); (case aS => exact bls_); (case aL => have := LMc4.out; omega); intro v371 w13 ho hb hg hat; rw [← Ny370.out] at ho; replace BK365 := Aside0.mk (blk_grown (g := gb365) (o := .cells #[.int .i64 a1_0, .int .i64 a1_1, .int .i64 a1_2, .int .i64 a1_3, .int .i64 a1_4, .int .i64 a1_5, .int .i64 a1_6, .int .i64 a1_7, .int .i64 a1_8, .int .i64 a1_9] 48 (0, 0)) (bk_ BK365) hg (Kd.S_ne HO368.out BK365.out (by decide))); replace BK369 := Aside0.mk (blk_grown (g := gb369) (o := .cells #[.slice Ao9 y366.length co9] 93 (0, 0)) (bk_ BK369) hg (Kd.S_ne HO368.out BK369.out (by decide))); replace HB := Aside0.mk (hb); have HO372 := Aside0.mk (ho); clear HO368; clear ho hb hg hat; obtain ⟨Ao14, co14, eo14⟩ := Kd.S_slice HO372.out; subst eo14; have hcz15 := blk_cell BK369.out; have hfz15 := blk_frozen BK369.out))
  go_ret
  exact ⟨_, eq_, by (with_reducible repeat (first | apply Kd.S_alloc | apply Kd.S_drewN | apply Kd.S_drew)); exact Kd.S_mono (Kd.S_far (p := ⟨gb369, 0, none⟩) (Kd.S_types HO372.out BK369.out (by decide)) (fun _ hk => hk.2) (.slice Ao14 y370.length co14)) (fun _ hk => trivial), bl_⟩
 ·rw [if_neg c3] at H
  have c3b0 : (a1_0 == 1) = false := beq_eq_false_iff_ne.mpr c3
  have c3b1 : (a1_0 != 1) = true := bne_iff_ne.mpr c3
  by_cases c16 : a1_0 = 2
  ·rw [if_pos c16] at H
   have c16b0 : (a1_0 == 2) = true := beq_iff_eq.mpr c16
   have c16b1 : (a1_0 != 2) = false := bne_eq_false_iff_eq.mpr c16
   clear c16
   obtain ⟨t373, A17, H⟩ := bindE_ H
   have H' := Aside0.mk H
   clear H
   go_enter Try.func71, Try.ntmps71
   go_wp2_with (first | (go_at_call 81; go_in) | (go_end0; simp only []; go_at_K) | ((with_reducible refine gate_dst (N := 3) rfl ?_); refine box_event ?hg (N := 3) ?hd (cs := #[.int .i64 a1_0, .int .i64 a1_1, .int .i64 a1_2, .int .i64 a1_3, .int .i64 a1_4, .int .i64 a1_5, .int .i64 a1_6, .int .i64 a1_7, .int .i64 a1_8, .int .i64 a1_9]) (t := 48) ?hr ?_; (case hd => rfl); (case hg => rfl); (case hr => first | (go_simp; done) | (go_simp; rfl)); intro gb365 hg w18 hbox hb; have BK365 := Aside0.mk (hbox); have GW365 := gs_ hg; have GE365 := gs_ hg; replace HB := hbs_ hb; clear hb hbox hg) | ((with_reducible refine gate_dst (N := 16) rfl ?_); refine Kd.S_lit k97 _ 97 ?hg (N := 16) ?hd (xs := ([] : List (S97))) (inner := []) (ok := fun _ => True) (okp := fun _ => True) ?hr ?hp (fun _ hk => hk) trivial (Below.refl _ _) (Nat.le_refl _) (by simp) ?_; (case hd => rfl); (case hg => rfl); (case hr => first | (go_simp; done) | (go_simp; rfl)); (case hp => exact (Reps.none _ _)); intro v367 w19 ho20 hb hg_ hnew_; clear hg_ hnew_; (first | rw [← Ny366.out] at ho20 | (simp only [Int.reduceToNat] at ho20; rw [← Ny366.out] at ho20)); have HO368 := Aside0.mk (Kd.S_lower ho20 bls_); replace BK365 := bkb_ BK365 hb; replace HB := hbs_ hb; clear hb ho20) | ((with_reducible refine gate_dst (N := 5) rfl ?_); refine box_event ?hg (N := 5) ?hd (cs := #[.slice none 0 0]) (t := 93) ?hr ?_; (case hd => rfl); (case hg => rfl); (case hr => first | (go_simp; done) | (go_simp; rfl)); intro gb369 hg w21 hbox hb; replace HO368 := Aside0.mk (Kd.S_below (by (with_reducible repeat (first | apply Kd.S_alloc | apply Kd.S_drewN | apply Kd.S_drew)); exact HO368.out) hb); have BK369 := Aside0.mk (hbox); have GW369 := gs_ hg; have GE369 := gs_ hg; replace HB := hbs_ hb; have NB365_369 := nl_ hg BK365; have NB369_365 := nr_ hg BK365; replace BK365 := bkb_ BK365 hb; clear hb hbox hg; obtain ⟨Ao22, co22, eo22⟩ := Kd.S_slice HO368.out; subst eo22; have hnb23 := NB369_365.out; have hnc23 := NB365_369.out; have hcz24 := blk_cell BK369.out; have hfz24 := blk_frozen BK369.out; have hcz25 := blk_cell BK365.out; have hfz25 := blk_frozen BK365.out) | ((with_reducible refine gate_callee (f := 82) rfl ?_); refine goesC_ (some 31) Try.func82 #[.slice A0 l0.length c0, .agg #[.int .i64 a1_4, .int .i64 a1_5]] ?_; (with_reducible refine (impl_whoOf.calls k _ _ l0 a1_4 a1_5 t373 _ ?side1 ?side2 A17.out).mono ?_); (case side1 => exact Kd.C_below HR0.out bl_); (case side2 => exact HC0.out); rintro e w26 ⟨v374, rfl, ho0, hb⟩; refine ⟨_, rfl, ?_⟩; replace HO368 := Aside0.mk (Kd.S_elder' (by (with_reducible repeat (first | apply Kd.S_alloc | apply Kd.S_drewN | apply Kd.S_drew)); exact (Kd.S_mono (Kd.S_far (p := ⟨gb369, 0, none⟩) (Kd.S_types HO368.out BK369.out (by decide)) (fun _ hk => hk.2) (.slice Ao22 y366.length co22)) (fun _ h_ => h_.1))) (Kd.R_base ho0) hb); have HO375 := Aside0.mk (Kd.R_lower ho0 bls_); replace BK365 := Aside0.mk (blk_below (g := gb365) (o := .cells #[.int .i64 a1_0, .int .i64 a1_1, .int .i64 a1_2, .int .i64 a1_3, .int .i64 a1_4, .int .i64 a1_5, .int .i64 a1_6, .int .i64 a1_7, .int .i64 a1_8, .int .i64 a1_9] 48 (0, 0)) (bk_ BK365) hb); replace BK369 := Aside0.mk (blk_below (g := gb369) (o := .cells #[.slice Ao22 y366.length co22] 93 (0, 0)) (bk_ BK369) hb); replace HB := hbs_ hb; (try clear hb); (try clear hb2); (try clear hk); (try clear hi); (try clear ho0); obtain ⟨Ao27, co27, eo27⟩ := Kd.R_slice HO375.out; subst eo27))
   go_loopg [33] k (fun kq v33 w' => ∃ (x33_1 : Int) (x370000_1 : List (S97)) (u370000 : Value), v33 = .int .i64 x33_1 ∧ Aside0 (impl_derive.l0 kq l0 t373 (t373.length : Int) x33_1 a1_0 a1_1 a1_2 a1_3 a1_4 a1_5 a1_6 a1_7 a1_8 a1_9 x370000_1 = some r) ∧ Aside0 (kq ≤ k) ∧ Aside0 (Kd.R (Kd.int .i64) 3 w' w.heap.size (fun _ => True) (.slice Ao27 t373.length co27) t373) ∧ Aside0 (Kd.S k97 97 w' w.heap.size (fun k_ => some k_ ≠ ((.slice Ao27 t373.length co27) : Value).ownBlock) u370000 x370000_1) ∧ Aside0 (w'.heap[gb365]? = some (.cells #[.int .i64 a1_0, .int .i64 a1_1, .int .i64 a1_2, .int .i64 a1_3, .int .i64 a1_4, .int .i64 a1_5, .int .i64 a1_6, .int .i64 a1_7, .int .i64 a1_8, .int .i64 a1_9] 48 (0, 0))) ∧ Aside0 (w'.heap[gb369]? = some (.cells #[u370000] 93 (0, 0))) ∧ Aside0 (Below w.heap.size w w'))
   case atStart => exact ⟨(0), (y366), (.slice Ao22 y366.length co22), rf_, H', ⟨Nat.le_refl _⟩, ⟨by (with_reducible repeat (first | apply Kd.R_alloc | apply Kd.R_drewN | apply Kd.R_drew)); exact HO375.out⟩, ⟨by (with_reducible repeat (first | apply Kd.S_alloc | apply Kd.S_drewN | apply Kd.S_drew)); exact Kd.S_mono HO368.out (fun _ hk => hk.2)⟩, ⟨bk_ BK365⟩, ⟨bk_ BK369⟩, ⟨bl_⟩⟩
   case round =>
    clear H'
    try clear c1
    try clear c2
    try clear p2
    try clear c3
    try clear c3b0
    try clear c3b1
    try clear c4
    try clear c7
    try clear c8
    try clear c10
    try clear c16
    try clear c16b0
    try clear c16b1
    try clear c23
    try clear hcz11
    try clear hcz12
    try clear hcz15
    try clear hcz24
    try clear hcz25
    try clear hfz11
    try clear hfz12
    try clear hfz15
    try clear hfz24
    try clear hfz25
    obtain ⟨x33_1, x370000_1, u370000, rfl, HA, HK1, HO_31, HO_370000, BK365, BK369, HB⟩ := hrel
    cases gk with
    | zero => exact absurd HA.out (by simp [impl_derive.l0])
    | succ k1 =>
     have H := HA.out
     clear HA
     simp only [impl_derive.l0] at H
     by_cases c28 : x33_1 < (t373.length : Int)
     ·rw [if_pos c28] at H
      have c28b0 : decide (x33_1 < (t373.length : Int)) = true := decide_eq_true c28
      clear c28
      obtain ⟨c29b0, H⟩ := ifd_ H
      obtain ⟨c30b0, H⟩ := ifd_ H
      obtain ⟨c31b0, H⟩ := ifd_ H
      obtain ⟨c32b0, H⟩ := ifd_ H
      obtain ⟨y378, hy378⟩ : ∃ y_ : List Int, y_ = (([rd t373 x33_1] : List Int)) := ⟨_, rfl⟩
      replace H : (if x370000_1.length < 2932031007402 then (impl_derive.l0 k1 l0 t373 (t373.length : Int) (wrap64 (x33_1 + 1)) a1_0 a1_1 a1_2 a1_3 a1_4 a1_5 a1_6 a1_7 a1_8 a1_9 (x370000_1 ++ [(⟨(⟨(⟨a1_1, a1_2⟩ : S26), (rd_T54 l0 (rd t373 x33_1)).f1⟩ : S54), y378⟩ : S97)])) else (none)) = some r := by first | (rw [hy378]; with_reducible exact H) | (have H2_ := (Option.bind_some _ _).symm.trans H; rw [hy378]; with_reducible exact H2_) | (have H2_ := (Option.bind_some _ _).symm.trans H; with_reducible exact H2_) | with_reducible exact H | (rw [hy378]; exact H) | exact H
      have Ny378 := Aside0.mk hy378
      clear hy378
      obtain ⟨c33, H⟩ := ifn_ H
      have LMc33 := Aside0.mk c33
      clear c33
      obtain ⟨y381, hy381⟩ : ∃ y_ : List (S97), y_ = (x370000_1 ++ [(⟨(⟨(⟨a1_1, a1_2⟩ : S26), (rd_T54 l0 (rd t373 x33_1)).f1⟩ : S54), y378⟩ : S97)]) := ⟨_, rfl⟩
      replace H : (impl_derive.l0 k1 l0 t373 (t373.length : Int) (wrap64 (x33_1 + 1)) a1_0 a1_1 a1_2 a1_3 a1_4 a1_5 a1_6 a1_7 a1_8 a1_9 y381) = some r := by first | (rw [hy381]; with_reducible exact H) | (have H2_ := (Option.bind_some _ _).symm.trans H; rw [hy381]; with_reducible exact H2_) | (have H2_ := (Option.bind_some _ _).symm.trans H; with_reducible exact H2_) | with_reducible exact H | (rw [hy381]; exact H) | exact H
      have Ny381 := Aside0.mk hy381
      clear hy381
      have H' := Aside0.mk H
      clear H
      have p376 : 0 ≤ (x33_1 : Int) := od_
      have q376 : x33_1 < (t373.length : Int) := od_
      obtain ⟨ad376, e376, hx376_0⟩ := Kd.at_int (Kd.R_reads' HO_31.out).2.2 x33_1 p376 q376
      cases e376
      replace p376 := eq_true p376
      replace q376 := eq_true q376
      have p377 : 0 ≤ ((rd t373 x33_1) : Int) := od_
      have q377 : (rd t373 x33_1) < (l0.length : Int) := od_
      obtain ⟨ad377, e377, hx377_0, hx377_1, hx377_2⟩ := at_T54 (Kd.C_below HR0.out HB.out) (rd t373 x33_1) p377 q377
      cases e377
      replace p377 := eq_true p377
      replace q377 := eq_true q377
      go_wp2_with (first | (go_at_call 81; go_in) | (go_end0; simp only []; go_at_K) | ((with_reducible refine gate_dst (N := 44) rfl ?_); refine Kd.R_lit (Kd.int .i64) _ 3 ?hg (N := 44) ?hd (xs := ([rd t373 x33_1] : List Int)) (inner := [.int .i64 (rd t373 x33_1)]) (ok := fun _ => True) (okp := fun _ => True) ?hr ?hp (fun _ hk => hk) trivial (Below.refl _ _) (Nat.le_refl _) (by simp) ?_; (case hd => rfl); (case hg => rfl); (case hr => first | (go_simp; done) | (go_simp; rfl)); (case hp => exact (Reps.one (show Kd.M (Kd.int .i64) _ _ _ (rd t373 x33_1) [.int .i64 (rd t373 x33_1)] from rfl) (Reps.none _ _))); intro v379 w34 ho35 hb hg_ hnew_; clear hg_ hnew_; (first | rw [← Ny378.out] at ho35 | (simp only [Int.reduceToNat] at ho35; rw [← Ny378.out] at ho35)); replace HO_370000 := Aside0.mk (Kd.S_elder' (by (with_reducible repeat (first | apply Kd.S_alloc | apply Kd.S_drewN | apply Kd.S_drew)); exact HO_370000.out) (Kd.R_base ho35) hb); have HO380 := Aside0.mk (Kd.R_lower (Kd.R_new' ho35 (Kd.R_lt (by (with_reducible repeat (first | apply Kd.R_alloc | apply Kd.R_drewN | apply Kd.R_drew)); exact HO_31.out))) bls_); replace HO_31 := Aside0.mk (Kd.R_elder' (by (with_reducible repeat (first | apply Kd.R_alloc | apply Kd.R_drewN | apply Kd.R_drew)); exact HO_31.out) (Kd.R_base ho35) hb); replace BK365 := bkb_ BK365 hb; replace BK369 := bkb_ BK369 hb; replace HB := hbs_ hb; clear hb ho35; have hnb36 := NB369_365.out; have hnc36 := NB365_369.out; have hcz37 := blk_cell BK369.out; have hfz37 := blk_frozen BK369.out; have hcz38 := blk_cell BK365.out; have hfz38 := blk_frozen BK365.out; obtain ⟨Ao39, co39, eo39⟩ := Kd.R_slice HO380.out; subst eo39) | ((with_reducible refine gate_builtin (b := .append) (xs := #[.tmp 6, .tmp 13]) rfl ?_); at_builtin; refine Kd.S_append k97 (w0 := w) w.heap.size rfl (.tmp 6) (.tmp 13) 93 97 (.agg #[(.int .i64 0), (.int .i64 0), (.int .i64 0), (.slice none 0 0)]) 48 rfl Try.underlying93 info97 rfl (by decide) (by omega) u370000 x370000_1 (⟨(⟨(⟨a1_1, a1_2⟩ : S26), (rd_T54 l0 (rd t373 x33_1)).f1⟩ : S54), y378⟩ : S97) [.int .i64 a1_1, .int .i64 a1_2, .int .i64 ((rd_T54 l0 (rd t373 x33_1)).f1), .slice Ao39 y378.length co39] (fun k_ => some k_ ≠ (.slice (some ad376) t373.length co27 : Value).ownBlock) (fun k_ => some k_ = (.slice Ao39 y378.length co39 : Value).ownBlock) rfl rfl ?aP (fun k_ hk_ => ((Kd.R_mono (ok' := fun k_ => ((fun k_ => some k_ ≠ (.slice (some ad376) t373.length co27 : Value).ownBlock)) k_ ∧ some k_ ≠ (u370000 : Value).ownBlock) (Kd.R_apart' (HO380.out) (Kd.S_typed HO_370000.out) (by decide)) (fun k_ hk => ⟨hk.1.2, hk.2⟩))).1 k_ hk_.symm) ?aF ?aO ?aB ?aS ?aL ?_; (case aP => exact k97_mkM _ _ _ (⟨(⟨(⟨a1_1, a1_2⟩ : S26), (rd_T54 l0 (rd t373 x33_1)).f1⟩ : S54), y378⟩ : S97) (Kd.R_mono (Kd.R_tight rfl (Kd.R_mono (ok' := fun k_ => ((fun k_ => some k_ ≠ (.slice (some ad376) t373.length co27 : Value).ownBlock)) k_ ∧ some k_ ≠ (u370000 : Value).ownBlock) (Kd.R_apart' (HO380.out) (Kd.S_typed HO_370000.out) (by decide)) (fun k_ hk => ⟨hk.1.2, hk.2⟩))) (fun _ h_ => h_))); (case aB => exact bl_); (case aF => exact (fun k_ hk => Kd.fresh' (Kd.R_lt (by (with_reducible repeat (first | apply Kd.R_alloc | apply Kd.R_drewN | apply Kd.R_drew)); exact HO_31.out)) k_ hk)); (case aO => exact (by (with_reducible repeat (first | apply Kd.S_alloc | apply Kd.S_drewN | apply Kd.S_drew)); exact Kd.S_mono HO_370000.out (fun k_ hk => ⟨hk.1, fun e_ => hk.2 e_⟩))); (case aS => exact bls_); (case aL => have := LMc33.out; omega); intro v382 w40 ho hb hg hat; rw [← Ny381.out] at ho; replace HO_31 := Aside0.mk (Kd.R_over' (by (with_reducible repeat (first | apply Kd.R_alloc | apply Kd.R_drewN | apply Kd.R_drew)); exact HO_31.out) (Kd.S_typed (by (with_reducible repeat (first | apply Kd.S_alloc | apply Kd.S_drewN | apply Kd.S_drew)); exact HO_370000.out)) (by decide) hg); replace BK365 := Aside0.mk (blk_grown (g := gb365) (o := .cells #[.int .i64 a1_0, .int .i64 a1_1, .int .i64 a1_2, .int .i64 a1_3, .int .i64 a1_4, .int .i64 a1_5, .int .i64 a1_6, .int .i64 a1_7, .int .i64 a1_8, .int .i64 a1_9] 48 (0, 0)) (bk_ BK365) hg (Kd.S_ne HO_370000.out BK365.out (by decide))); replace BK369 := Aside0.mk (blk_grown (g := gb369) (o := .cells #[u370000] 93 (0, 0)) (bk_ BK369) hg (Kd.S_ne HO_370000.out BK369.out (by decide))); replace HB := Aside0.mk (hb); have HO383 := Aside0.mk (ho); clear HO_370000; clear HO380; clear ho hb hg hat; obtain ⟨Ao41, co41, eo41⟩ := Kd.S_slice HO383.out; subst eo41; have hcz42 := blk_cell BK369.out; have hfz42 := blk_frozen BK369.out))
      go_roundg k1
      case measure => have := HK1.out; omega
      case rel => exact ⟨(wrap64 (x33_1 + 1)), (y381), (.slice Ao41 y381.length co41), rf_, H', ⟨by have := HK1.out; omega⟩, ⟨by (with_reducible repeat (first | apply Kd.R_alloc | apply Kd.R_drewN | apply Kd.R_drew)); exact Kd.R_mono (Kd.R_far (p := ⟨gb369, 0, none⟩) (Kd.R_types HO_31.out BK369.out (by decide)) (fun _ hk => hk.2) (.slice Ao41 y381.length co41)) (fun _ hk => trivial)⟩, ⟨by (with_reducible repeat (first | apply Kd.S_alloc | apply Kd.S_drewN | apply Kd.S_drew)); exact Kd.S_mono (Kd.S_far (p := ⟨gb369, 0, none⟩) (Kd.S_types HO383.out BK369.out (by decide)) (fun _ hk => hk.2) (.slice Ao41 y381.length co41)) (fun _ hk => hk.1)⟩, ⟨bk_ BK365⟩, ⟨bk_ BK369⟩, ⟨bl_⟩⟩
     ·rw [if_neg c28] at H
      have c28b0 : decide (x33_1 < (t373.length : Int)) = false := decide_eq_false c28
      clear c28
      obtain rfl := Option.some.inj H
      have hnb43 := NB369_365.out
      have hnc43 := NB365_369.out
      have hcz44 := blk_cell BK369.out
      have hfz44 := blk_frozen BK369.out
      go_wp2
      go_ret
      exact ⟨_, eq_, by (with_reducible repeat (first | apply Kd.S_alloc | apply Kd.S_drewN | apply Kd.S_drew)); exact Kd.S_mono HO_370000.out (fun _ hk => trivial), bl_⟩
  ·rw [if_neg c16] at H
   have c16b0 : (a1_0 == 2) = false := beq_eq_false_iff_ne.mpr c16
   have c16b1 : (a1_0 != 2) = true := bne_iff_ne.mpr c16
   by_cases c45 : a1_0 = 3
   ·rw [if_pos c45] at H
    have c45b0 : (a1_0 == 3) = true := beq_iff_eq.mpr c45
    have c45b1 : (a1_0 != 3) = false := bne_eq_false_iff_eq.mpr c45
    clear c45
    obtain ⟨t384, A46, H⟩ := bindE_ H
    have H' := Aside0.mk H
    clear H
    go_enter Try.func71, Try.ntmps71
    go_wp2_with (first | (go_at_call 81; go_in) | (go_end0; simp only []; go_at_K) | ((with_reducible refine gate_dst (N := 3) rfl ?_); refine box_event ?hg (N := 3) ?hd (cs := #[.int .i64 a1_0, .int .i64 a1_1, .int .i64 a1_2, .int .i64 a1_3, .int .i64 a1_4, .int .i64 a1_5, .int .i64 a1_6, .int .i64 a1_7, .int .i64 a1_8, .int .i64 a1_9]) (t := 48) ?hr ?_; (case hd => rfl); (case hg => rfl); (case hr => first | (go_simp; done) | (go_simp; rfl)); intro gb365 hg w47 hbox hb; have BK365 := Aside0.mk (hbox); have GW365 := gs_ hg; have GE365 := gs_ hg; replace HB := hbs_ hb; clear hb hbox hg) | ((with_reducible refine gate_dst (N := 16) rfl ?_); refine Kd.S_lit k97 _ 97 ?hg (N := 16) ?hd (xs := ([] : List (S97))) (inner := []) (ok := fun _ => True) (okp := fun _ => True) ?hr ?hp (fun _ hk => hk) trivial (Below.refl _ _) (Nat.le_refl _) (by simp) ?_; (case hd => rfl); (case hg => rfl); (case hr => first | (go_simp; done) | (go_simp; rfl)); (case hp => exact (Reps.none _ _)); intro v367 w48 ho49 hb hg_ hnew_; clear hg_ hnew_; (first | rw [← Ny366.out] at ho49 | (simp only [Int.reduceToNat] at ho49; rw [← Ny366.out] at ho49)); have HO368 := Aside0.mk (Kd.S_lower ho49 bls_); replace BK365 := bkb_ BK365 hb; replace HB := hbs_ hb; clear hb ho49) | ((with_reducible refine gate_dst (N := 5) rfl ?_); refine box_event ?hg (N := 5) ?hd (cs := #[.slice none 0 0]) (t := 93) ?hr ?_; (case hd => rfl); (case hg => rfl); (case hr => first | (go_simp; done) | (go_simp; rfl)); intro gb369 hg w50 hbox hb; replace HO368 := Aside0.mk (Kd.S_below (by (with_reducible repeat (first | apply Kd.S_alloc | apply Kd.S_drewN | apply Kd.S_drew)); exact HO368.out) hb); have BK369 := Aside0.mk (hbox); have GW369 := gs_ hg; have GE369 := gs_ hg; replace HB := hbs_ hb; have NB365_369 := nl_ hg BK365; have NB369_365 := nr_ hg BK365; replace BK365 := bkb_ BK365 hb; clear hb hbox hg; obtain ⟨Ao51, co51, eo51⟩ := Kd.S_slice HO368.out; subst eo51; have hnb52 := NB369_365.out; have hnc52 := NB365_369.out; have hcz53 := blk_cell BK369.out; have hfz53 := blk_frozen BK369.out; have hcz54 := blk_cell BK365.out; have hfz54 := blk_frozen BK365.out) | ((with_reducible refine gate_callee (f := 82) rfl ?_); refine goesC_ (some 52) Try.func82 #[.slice A0 l0.length c0, .agg #[.int .i64 a1_4, .int .i64 a1_5]] ?_; (with_reducible refine (impl_whoOf.calls k _ _ l0 a1_4 a1_5 t384 _ ?side1 ?side2 A46.out).mono ?_); (case side1 => exact Kd.C_below HR0.out bl_); (case side2 => exact HC0.out); rintro e w55 ⟨v385, rfl, ho0, hb⟩; refine ⟨_, rfl, ?_⟩; replace HO368 := Aside0.mk (Kd.S_elder' (by (with_reducible repeat (first | apply Kd.S_alloc | apply Kd.S_drewN | apply Kd.S_drew)); exact (Kd.S_mono (Kd.S_far (p := ⟨gb369, 0, none⟩) (Kd.S_types HO368.out BK369.out (by decide)) (fun _ hk => hk.2) (.slice Ao51 y366.length co51)) (fun _ h_ => h_.1))) (Kd.R_base ho0) hb); have HO386 := Aside0.mk (Kd.R_lower ho0 bls_); replace BK365 := Aside0.mk (blk_below (g := gb365) (o := .cells #[.int .i64 a1_0, .int .i64 a1_1, .int .i64 a1_2, .int .i64 a1_3, .int .i64 a1_4, .int .i64 a1_5, .int .i64 a1_6, .int .i64 a1_7, .int .i64 a1_8, .int .i64 a1_9] 48 (0, 0)) (bk_ BK365) hb); replace BK369 := Aside0.mk (blk_below (g := gb369) (o := .cells #[.slice Ao51 y366.length co51] 93 (0, 0)) (bk_ BK369) hb); replace HB := hbs_ hb; (try clear hb); (try clear hb2); (try clear hk); (try clear hi); (try clear ho0); obtain ⟨Ao56, co56, eo56⟩ := Kd.R_slice HO386.out; subst eo56))
    go_loopg [54] k (fun kq v54 w' => ∃ (x54_1 : Int) (x370000_1 : List (S97)) (u370000 : Value), v54 = .int .i64 x54_1 ∧ Aside0 (impl_derive.l1 kq l0 t384 (t384.length : Int) x54_1 a1_0 a1_1 a1_2 a1_3 a1_4 a1_5 a1_6 a1_7 a1_8 a1_9 x370000_1 = some r) ∧ Aside0 (kq ≤ k) ∧ Aside0 (Kd.R (Kd.int .i64) 3 w' w.heap.size (fun _ => True) (.slice Ao56 t384.length co56) t384) ∧ Aside0 (Kd.S k97 97 w' w.heap.size (fun k_ => some k_ ≠ ((.slice Ao56 t384.length co56) : Value).ownBlock) u370000 x370000_1) ∧ Aside0 (w'.heap[gb365]? = some (.cells #[.int .i64 a1_0, .int .i64 a1_1, .int .i64 a1_2, .int .i64 a1_3, .int .i64 a1_4, .int .i64 a1_5, .int .i64 a1_6, .int .i64 a1_7, .int .i64 a1_8, .int .i64 a1_9] 48 (0, 0))) ∧ Aside0 (w'.heap[gb369]? = some (.cells #[u370000] 93 (0, 0))) ∧ Aside0 (Below w.heap.size w w'))
    case atStart => exact ⟨(0), (y366), (.slice Ao51 y366.length co51), rf_, H', ⟨Nat.le_refl _⟩, ⟨by (with_reducible repeat (first | apply Kd.R_alloc | apply Kd.R_drewN | apply Kd.R_drew)); exact HO386.out⟩, ⟨by (with_reducible repeat (first | apply Kd.S_alloc | apply Kd.S_drewN | apply Kd.S_drew)); exact Kd.S_mono HO368.out (fun _ hk => hk.2)⟩, ⟨bk_ BK365⟩, ⟨bk_ BK369⟩, ⟨bl_⟩⟩
    case round =>
     clear H'
     try clear c1
     try clear c2
     try clear p2
     try clear c3
     try clear c3b0
     try clear c3b1
     try clear p3
     try clear q3
     try clear hx3
     try clear c4
     try clear c5
     try clear p6
     try clear c7
     try clear c8
     try clear c10
     try clear c16
     try clear c16b0
     try clear c16b1
     try clear c23
     try clear c28
     try clear c28b0
     try clear c29
     try clear c29b0
     try clear c30
     try clear c30b0
     try clear c31
     try clear c31b0
     try clear c32
     try clear c32b0
     try clear c33
     try clear c36
     try clear p37
     try clear q37
     try clear hx37
     try clear c43
     try clear c45
     try clear c45b0
     try clear c45b1
     try clear c52
     try clear hcz11
     try clear hcz12
     try clear hcz15
     try clear hcz24
     try clear hcz25
     try clear hcz37
     try clear hcz38
     try clear hcz42
     try clear hcz44
     try clear hcz53
     try clear hcz54
     try clear hfz11
     try clear hfz12
     try clear hfz15
     try clear hfz24
     try clear hfz25
     try clear hfz37
     try clear hfz38
     try clear hfz42
     try clear hfz44
     try clear hfz53
     try clear hfz54
     try clear hx376_0
     try clear hx377_0
     try clear hx377_1
     try clear hx377_2
     try clear p2
     try clear p376
     try clear p377
     try clear q376
     try clear q377
     obtain ⟨x54_1, x370000_1, u370000, rfl, HA, HK1, HO_52, HO_370000, BK365, BK369, HB⟩ := hrel
     cases gk with
     | zero => exact absurd HA.out (by simp [impl_derive.l1])
     | succ k1 =>
      have H := HA.out
      clear HA
      simp only [impl_derive.l1] at H
      by_cases c57 : x54_1 < (t384.length : Int)
      ·rw [if_pos c57] at H
       have c57b0 : decide (x54_1 < (t384.length : Int)) = true := decide_eq_true c57
       clear c57
       obtain ⟨c58b0, H⟩ := ifd_ H
       obtain ⟨c59b0, H⟩ := ifd_ H
       obtain ⟨c60b0, H⟩ := ifd_ H
       obtain ⟨c61b0, H⟩ := ifd_ H
       obtain ⟨t389, A62, H⟩ := bindE_ H
       have H' := Aside0.mk H
       clear H
       have p387 : 0 ≤ (x54_1 : Int) := od_
       have q387 : x54_1 < (t384.length : Int) := od_
       obtain ⟨ad387, e387, hx387_0⟩ := Kd.at_int (Kd.R_reads' HO_52.out).2.2 x54_1 p387 q387
       cases e387
       replace p387 := eq_true p387
       replace q387 := eq_true q387
       try go_wp2
       replace HO_52 := Aside0.mk (Kd.R_drew HO_52.out)
       replace HO_370000 := Aside0.mk (Kd.S_drew HO_370000.out)
       replace BK365 := Aside0.mk (blk_drew BK365.out)
       replace BK369 := Aside0.mk (blk_drew BK369.out)
       replace HB := Aside0.mk (below_drew1 HB.out)
       have p388 : 0 ≤ ((rd t384 x54_1) : Int) := od_
       have q388 : (rd t384 x54_1) < (l0.length : Int) := od_
       obtain ⟨ad388, e388, hx388_0, hx388_1, hx388_2⟩ := at_T54 HR0.out (rd t384 x54_1) p388 q388
       have hw388_2 := hx388_2
       have hw388_1 := hx388_1
       have hw388_0 := hx388_0
       cases e388
       replace hx388_0 := cb_ HB hx388_0
       replace hx388_1 := cb_ HB hx388_1
       replace hx388_2 := cb_ HB hx388_2
       replace p388 := eq_true p388
       replace q388 := eq_true q388
       refine start_ (n := 13) (S := fun w' => w'.cell? ⟨gb365, 0, none⟩ = some (.int .i64 a1_0) ∧ w'.cell? ⟨gb365, 1, none⟩ = some (.int .i64 a1_1) ∧ w'.cell? ⟨gb365, 2, none⟩ = some (.int .i64 a1_2) ∧ w'.cell? ⟨gb365, 3, none⟩ = some (.int .i64 a1_3) ∧ w'.cell? ⟨gb365, 4, none⟩ = some (.int .i64 a1_4) ∧ w'.cell? ⟨gb365, 5, none⟩ = some (.int .i64 a1_5) ∧ w'.cell? ⟨gb365, 6, none⟩ = some (.int .i64 a1_6) ∧ w'.cell? ⟨gb365, 7, none⟩ = some (.int .i64 a1_7) ∧ w'.cell? ⟨gb365, 8, none⟩ = some (.int .i64 a1_8) ∧ w'.cell? ⟨gb365, 9, none⟩ = some (.int .i64 a1_9) ∧ w'.cell? (ad388.add (((rd t384 x54_1)).toNat * 3)) = some (.int .i64 ((rd_T54 l0 (rd t384 x54_1)).f0.f0)) ∧ w'.cell? ⟨(ad388.add (((rd t384 x54_1)).toNat * 3)).block, (ad388.add (((rd t384 x54_1)).toNat * 3)).off + 1, none⟩ = some (.int .i64 ((rd_T54 l0 (rd t384 x54_1)).f0.f1)) ∧ w'.cell? ⟨(ad388.add (((rd t384 x54_1)).toNat * 3)).block, (ad388.add (((rd t384 x54_1)).toNat * 3)).off + 2, none⟩ = some (.int .i64 ((rd_T54 l0 (rd t384 x54_1)).f1))) (ds := []) #[false, false, false, false, false, false, false, false, false, false, false, false, false] (by kernel_rfl) rfl rfl ⟨(blk_cell BK365.out 0).trans rfl, (blk_cell BK365.out 1).trans rfl, (blk_cell BK365.out 2).trans rfl, (blk_cell BK365.out 3).trans rfl, (blk_cell BK365.out 4).trans rfl, (blk_cell BK365.out 5).trans rfl, (blk_cell BK365.out 6).trans rfl, (blk_cell BK365.out 7).trans rfl, (blk_cell BK365.out 8).trans rfl, (blk_cell BK365.out 9).trans rfl, (cb_ HB hw388_0 :), (cb_ HB hw388_1 :), (cb_ HB hw388_2 :)⟩ (fun hHeld => ?_); refine with_tabW impl_derive.tab16 impl_derive.bits16 (fun HT_ HW_ => ?_)
       generalize wr.drew = w63 at HO_52 HO_370000 BK365 BK369 HB hx388_0 hx388_1 hx388_2 hHeld ⊢
       refine pureZ_ (i := 0) (some 58) #[true, false, false, false, false, false, false, false, false, false, false, false, false] (any_of HT_.out (by kernel_rfl)) ?_
       refine pureZ_ (i := 1) (some 59) #[true, true, false, false, false, false, false, false, false, false, false, false, false] (any_of HT_.out (by kernel_rfl)) ?_
       refine pureZ_ (i := 2) (some 60) #[true, true, true, false, false, false, false, false, false, false, false, false, false] (any_of HT_.out (by kernel_rfl)) ?_
       refine pureZ_ (i := 3) (some 61) #[true, true, true, true, false, false, false, false, false, false, false, false, false] (any_of HT_.out (by kernel_rfl)) ?_
       refine pureZ_ (i := 4) (some 62) #[true, true, true, true, true, false, false, false, false, false, false, false, false] (any_of HT_.out (by kernel_rfl)) ?_
       refine pureZ_ (i := 6) (some 64) #[true, true, true, true, true, false, true, false, false, false, false, false, false] (any_of HT_.out (by kernel_rfl)) ?_
       refine pureZ_ (i := 7) (some 65) #[true, true, true, true, true, false, true, true, false, false, false, false, false] (any_of HT_.out (by kernel_rfl)) ?_
       refine pureZ_ (i := 12) (some 70) #[true, true, true, true, true, false, true, true, false, false, false, false, true] (any_of HT_.out (by kernel_rfl)) ?_
       refine takeZ_ (i := 5) (some 63) #[true, true, true, true, true, true, true, true, false, false, false, false, true] (take_ofW HT_.out HW_.out (by kernel_rfl)) hHeld ?_
       refine takeZ_ (i := 8) (some 66) #[true, true, true, true, true, true, true, true, true, false, false, false, true] (take_ofW HT_.out HW_.out (by kernel_rfl)) hHeld ?_
       refine pureZ_ (i := 9) (some 67) #[true, true, true, true, true, true, true, true, true, true, false, false, true] (any_of HT_.out (by kernel_rfl)) ?_
       refine one_ (i := 10) (N := some 68) #[true, true, true, true, true, true, true, true, true, true, true, false, true] rfl rfl (one_of HT_.out (by kernel_rfl)) (by decide) (fun K hK => ?_)
       refine goes_ Try.func82 (by kernel_rfl) rfl #[.slice (some ad388) l0.length c0, .agg #[.int .i64 ((rd_T54 l0 (rd t384 x54_1)).f1), .int .i64 a1_7]] (by rfl) rfl rfl (by (try simp only [List.map_toArray, List.map_cons, List.map_nil]); first | done | rfl | (simp only [List.length_drop, List.length_take]; rfl)) ?_
       with_reducible refine (impl_whoOf.calls k1 _ _ l0 ((rd_T54 l0 (rd t384 x54_1)).f1) a1_7 t389 _ ?side1 ?side2 A62.out).mono ?_
       (case side1 => repeat (first | exact (Kd.C_below HR0.out HB.out) | (with_reducible refine Kd.C_alloc ?_ _) | (with_reducible refine Kd.C_drewN ?_ _) | (with_reducible refine Kd.C_drew ?_)))
       (case side2 => exact HC0.out)
       rintro e w64 ⟨v390, rfl, ho0, hb⟩
       refine ⟨_, rfl, ?_⟩
       replace HO_370000 := Aside0.mk (Kd.S_elder' (by (with_reducible repeat (first | apply Kd.S_alloc | apply Kd.S_drewN | apply Kd.S_drew)); exact HO_370000.out) (Kd.R_base ho0) hb)
       have HO391 := Aside0.mk (Kd.R_lower (Kd.R_new' ho0 (Kd.R_lt (by (with_reducible repeat (first | apply Kd.R_alloc | apply Kd.R_drewN | apply Kd.R_drew)); exact HO_52.out))) bls_)
       replace HO_52 := Aside0.mk (Kd.R_elder' (by (with_reducible repeat (first | apply Kd.R_alloc | apply Kd.R_drewN | apply Kd.R_drew)); exact HO_52.out) (Kd.R_base ho0) hb)
       replace BK365 := bkb_ BK365 hb
       replace BK369 := bkb_ BK369 hb
       replace HB := hbs_ hb
       (try clear hb)
       (try clear hb2)
       (try clear hk)
       (try clear hi)
       (try clear ho0)
       obtain ⟨Ao65, co65, eo65⟩ := Kd.R_slice HO391.out
       (first | subst eo65 | (injection eo65 with f1_ f2_ f3_; have f4_ := f1_.symm; have f5_ := f3_.symm; clear f1_ f2_ f3_; subst f4_; subst f5_))
       refine hK.out _ _ ⟨(blk_cell BK365.out 0).trans rfl, (blk_cell BK365.out 1).trans rfl, (blk_cell BK365.out 2).trans rfl, (blk_cell BK365.out 3).trans rfl, (blk_cell BK365.out 4).trans rfl, (blk_cell BK365.out 5).trans rfl, (blk_cell BK365.out 6).trans rfl, (blk_cell BK365.out 7).trans rfl, (blk_cell BK365.out 8).trans rfl, (blk_cell BK365.out 9).trans rfl, (cb_ HB hw388_0 :), (cb_ HB hw388_1 :), (cb_ HB hw388_2 :)⟩ (fun hHeld => ?_)
       clear hK K
       refine norm_ (a' := ?_) ?_ ?_
       rotate_left
       ·show Act.put _ (some 68) _ = _
        simp only [Act.put, List.setIfInBounds_toArray, List.set_cons_zero, List.set_cons_succ, i64_w, i32_w]
        rfl
       refine pureZ_ (i := 11) (some 69) #[true, true, true, true, true, true, true, true, true, true, true, true, true] (any_of HT_.out (by kernel_rfl)) ?_
       refine done_ (done_of HT_.out (by kernel_rfl)) ?_
       try go_wp2
       go_loopg [70] k1 (fun kq v70 w' => ∃ (x70_2 : Int) (x370000_2 : List (S97)) (u370000 : Value), v70 = .int .i64 x70_2 ∧ Aside0 (impl_derive.l2 kq l0 (rd t384 x54_1) t384 (t384.length : Int) x54_1 t389 (t389.length : Int) x70_2 a1_0 a1_1 a1_2 a1_3 a1_4 a1_5 a1_6 a1_7 a1_8 a1_9 x370000_2 = some r) ∧ Aside0 (kq ≤ k1) ∧ Aside0 (Kd.R (Kd.int .i64) 3 w' w.heap.size (fun k_ => some k_ ≠ ((.slice Ao65 t389.length co65) : Value).ownBlock) (.slice (some ad387) t384.length co56) t384) ∧ Aside0 (Kd.R (Kd.int .i64) 3 w' w.heap.size (fun k_ => some k_ ≠ ((.slice (some ad387) t384.length co56) : Value).ownBlock) (.slice Ao65 t389.length co65) t389) ∧ Aside0 (Kd.S k97 97 w' w.heap.size (fun k_ => some k_ ≠ ((.slice (some ad387) t384.length co56) : Value).ownBlock ∧ some k_ ≠ ((.slice Ao65 t389.length co65) : Value).ownBlock) u370000 x370000_2) ∧ Aside0 (w'.heap[gb365]? = some (.cells #[.int .i64 a1_0, .int .i64 a1_1, .int .i64 a1_2, .int .i64 a1_3, .int .i64 a1_4, .int .i64 a1_5, .int .i64 a1_6, .int .i64 a1_7, .int .i64 a1_8, .int .i64 a1_9] 48 (0, 0))) ∧ Aside0 (w'.heap[gb369]? = some (.cells #[u370000] 93 (0, 0))) ∧ Aside0 (Below w.heap.size w w'))
       case atStart => exact ⟨(0), (x370000_1), (u370000), rf_, H', ⟨Nat.le_refl _⟩, ⟨by (with_reducible repeat (first | apply Kd.R_alloc | apply Kd.R_drewN | apply Kd.R_drew)); exact Kd.R_mono HO_52.out (fun _ hk => hk.2)⟩, ⟨by (with_reducible repeat (first | apply Kd.R_alloc | apply Kd.R_drewN | apply Kd.R_drew)); exact Kd.R_mono HO391.out (fun _ hk => hk.2)⟩, ⟨by (with_reducible repeat (first | apply Kd.S_alloc | apply Kd.S_drewN | apply Kd.S_drew)); exact HO_370000.out⟩, ⟨bk_ BK365⟩, ⟨bk_ BK369⟩, ⟨bl_⟩⟩
       case round =>
        clear H'
        try clear c1
        try clear c2
        try clear p2
        try clear c3
        try clear c3b0
        try clear c3b1
        try clear p3
        try clear q3
        try clear hx3
        try clear c4
        try clear c5
        try clear c6
        try clear p6
        try clear c7
        try clear c8
        try clear c10
        try clear c16
        try clear c16b0
        try clear c16b1
        try clear c23
        try clear c28
        try clear c28b0
        try clear c29
        try clear c29b0
        try clear c30
        try clear c30b0
        try clear c31
        try clear c31b0
        try clear c32
        try clear c32b0
        try clear c33
        try clear c36
        try clear p37
        try clear q37
        try clear hx37
        try clear p38
        try clear q38
        try clear hx38
        try clear c43
        try clear c45
        try clear c45b0
        try clear c45b1
        try clear c52
        try clear c57
        try clear c57b0
        try clear c58
        try clear c58b0
        try clear c59
        try clear c59b0
        try clear c60
        try clear c60b0
        try clear c61
        try clear c61b0
        try clear p64
        try clear hcz11
        try clear hcz12
        try clear hcz15
        try clear hcz24
        try clear hcz25
        try clear hcz37
        try clear hcz38
        try clear hcz42
        try clear hcz44
        try clear hcz53
        try clear hcz54
        try clear hfz11
        try clear hfz12
        try clear hfz15
        try clear hfz24
        try clear hfz25
        try clear hfz37
        try clear hfz38
        try clear hfz42
        try clear hfz44
        try clear hfz53
        try clear hfz54
        try clear hx376_0
        try clear hx377_0
        try clear hx377_1
        try clear hx377_2
        try clear hx387_0
        try clear hx388_0
        try clear hx388_1
        try clear hx388_2
        try clear p2
        try clear p3
        try clear p37
        try clear p376
        try clear p377
        try clear p387
        try clear p388
        try clear p6
        try clear q3
        try clear q37
        try clear q376
        try clear q377
        try clear q387
        try clear q388
        obtain ⟨x70_2, x370000_2, u370000, rfl, HA, HK2, HO_52, HO_68, HO_370000, BK365, BK369, HB⟩ := hrel
        cases gk with
        | zero => exact absurd HA.out (by simp [impl_derive.l2])
        | succ k2 =>
         have H := HA.out
         clear HA
         simp only [impl_derive.l2] at H
         by_cases c66 : x70_2 < (t389.length : Int)
         ·rw [if_pos c66] at H
          have c66b0 : decide (x70_2 < (t389.length : Int)) = true := decide_eq_true c66
          clear c66
          obtain ⟨c67b0, H⟩ := ifd_ H
          obtain ⟨c68b0, H⟩ := ifd_ H
          obtain ⟨c69b0, H⟩ := ifd_ H
          obtain ⟨c70b0, H⟩ := ifd_ H
          obtain ⟨y394, hy394⟩ : ∃ y_ : List Int, y_ = (([(rd t384 x54_1), rd t389 x70_2] : List Int)) := ⟨_, rfl⟩
          replace H : (if x370000_2.length < 2932031007402 then (impl_derive.l2 k2 l0 (rd t384 x54_1) t384 (t384.length : Int) x54_1 t389 (t389.length : Int) (wrap64 (x70_2 + 1)) a1_0 a1_1 a1_2 a1_3 a1_4 a1_5 a1_6 a1_7 a1_8 a1_9 (x370000_2 ++ [(⟨(⟨(⟨a1_1, a1_2⟩ : S26), (rd_T54 l0 (rd t389 x70_2)).f1⟩ : S54), y394⟩ : S97)])) else (none)) = some r := by first | (rw [hy394]; with_reducible exact H) | (have H2_ := (Option.bind_some _ _).symm.trans H; rw [hy394]; with_reducible exact H2_) | (have H2_ := (Option.bind_some _ _).symm.trans H; with_reducible exact H2_) | with_reducible exact H | (rw [hy394]; exact H) | exact H
          have Ny394 := Aside0.mk hy394
          clear hy394
          obtain ⟨c71, H⟩ := ifn_ H
          have LMc71 := Aside0.mk c71
          clear c71
          obtain ⟨y397, hy397⟩ : ∃ y_ : List (S97), y_ = (x370000_2 ++ [(⟨(⟨(⟨a1_1, a1_2⟩ : S26), (rd_T54 l0 (rd t389 x70_2)).f1⟩ : S54), y394⟩ : S97)]) := ⟨_, rfl⟩
          replace H : (impl_derive.l2 k2 l0 (rd t384 x54_1) t384 (t384.length : Int) x54_1 t389 (t389.length : Int) (wrap64 (x70_2 + 1)) a1_0 a1_1 a1_2 a1_3 a1_4 a1_5 a1_6 a1_7 a1_8 a1_9 y397) = some r := by first | (rw [hy397]; with_reducible exact H) | (have H2_ := (Option.bind_some _ _).symm.trans H; rw [hy397]; with_reducible exact H2_) | (have H2_ := (Option.bind_some _ _).symm.trans H; with_reducible exact H2_) | with_reducible exact H | (rw [hy397]; exact H) | exact H
          have Ny397 := Aside0.mk hy397
          clear hy397
          have H' := Aside0.mk H
          clear H
          have p392 : 0 ≤ (x70_2 : Int) := od_
          have q392 : x70_2 < (t389.length : Int) := od_
          obtain ⟨ad392, e392, hx392_0⟩ := Kd.at_int (Kd.R_reads' HO_68.out).2.2 x70_2 p392 q392
          cases e392
          replace p392 := eq_true p392
          replace q392 := eq_true q392
          have p393 : 0 ≤ ((rd t389 x70_2) : Int) := od_
          have q393 : (rd t389 x70_2) < (l0.length : Int) := od_
          obtain ⟨ad393, e393, hx393_0, hx393_1, hx393_2⟩ := at_T54 HR0.out (rd t389 x70_2) p393 q393
          obtain rfl : ad388 = ad393 := (by injection e393)
          replace hx393_0 := cb_ HB hx393_0
          replace hx393_1 := cb_ HB hx393_1
          replace hx393_2 := cb_ HB hx393_2
          replace p393 := eq_true p393
          replace q393 := eq_true q393
          go_wp2_with (first | (go_at_call 81; go_in) | (go_end0; simp only []; go_at_K) | ((with_reducible refine gate_dst (N := 82) rfl ?_); refine Kd.R_lit (Kd.int .i64) _ 3 ?hg (N := 82) ?hd (xs := ([(rd t384 x54_1), rd t389 x70_2] : List Int)) (inner := [.int .i64 (rd t384 x54_1), .int .i64 (rd t389 x70_2)]) (ok := fun _ => True) (okp := fun _ => True) ?hr ?hp (fun _ hk => hk) trivial (Below.refl _ _) (Nat.le_refl _) (by simp) ?_; (case hd => rfl); (case hg => rfl); (case hr => first | (go_simp; done) | (go_simp; rfl)); (case hp => exact (Reps.one (show Kd.M (Kd.int .i64) _ _ _ (rd t384 x54_1) [.int .i64 (rd t384 x54_1)] from rfl) (Reps.one (show Kd.M (Kd.int .i64) _ _ _ (rd t389 x70_2) [.int .i64 (rd t389 x70_2)] from rfl) (Reps.none _ _)))); intro v395 w72 ho73 hb hg_ hnew_; clear hg_ hnew_; (first | rw [← Ny394.out] at ho73 | (simp only [Int.reduceToNat] at ho73; rw [← Ny394.out] at ho73)); replace HO_370000 := Aside0.mk (Kd.S_elder' (by (with_reducible repeat (first | apply Kd.S_alloc | apply Kd.S_drewN | apply Kd.S_drew)); exact HO_370000.out) (Kd.R_base ho73) hb); have HO396 := Aside0.mk (Kd.R_lower (Kd.R_new' (Kd.R_new' ho73 (Kd.R_lt (by (with_reducible repeat (first | apply Kd.R_alloc | apply Kd.R_drewN | apply Kd.R_drew)); exact HO_52.out))) (Kd.R_lt (by (with_reducible repeat (first | apply Kd.R_alloc | apply Kd.R_drewN | apply Kd.R_drew)); exact HO_68.out))) bls_); replace HO_52 := Aside0.mk (Kd.R_elder' (by (with_reducible repeat (first | apply Kd.R_alloc | apply Kd.R_drewN | apply Kd.R_drew)); exact HO_52.out) (Kd.R_base ho73) hb); replace HO_68 := Aside0.mk (Kd.R_elder' (by (with_reducible repeat (first | apply Kd.R_alloc | apply Kd.R_drewN | apply Kd.R_drew)); exact HO_68.out) (Kd.R_base ho73) hb); replace BK365 := bkb_ BK365 hb; replace BK369 := bkb_ BK369 hb; replace HB := hbs_ hb; clear hb ho73; have hnb74 := NB369_365.out; have hnc74 := NB365_369.out; have hcz75 := blk_cell BK369.out; have hfz75 := blk_frozen BK369.out; have hcz76 := blk_cell BK365.out; have hfz76 := blk_frozen BK365.out; obtain ⟨Ao77, co77, eo77⟩ := Kd.R_slice HO396.out; subst eo77) | ((with_reducible refine gate_builtin (b := .append) (xs := #[.tmp 6, .tmp 13]) rfl ?_); at_builtin; refine Kd.S_append k97 (w0 := w) w.heap.size rfl (.tmp 6) (.tmp 13) 93 97 (.agg #[(.int .i64 0), (.int .i64 0), (.int .i64 0), (.slice none 0 0)]) 48 rfl Try.underlying93 info97 rfl (by decide) (by omega) u370000 x370000_2 (⟨(⟨(⟨a1_1, a1_2⟩ : S26), (rd_T54 l0 (rd t389 x70_2)).f1⟩ : S54), y394⟩ : S97) [.int .i64 a1_1, .int .i64 a1_2, .int .i64 ((rd_T54 l0 (rd t389 x70_2)).f1), .slice Ao77 y394.length co77] (fun k_ => some k_ ≠ (.slice (some ad387) t384.length co56 : Value).ownBlock ∧ some k_ ≠ (.slice (some ad392) t389.length co65 : Value).ownBlock) (fun k_ => some k_ = (.slice Ao77 y394.length co77 : Value).ownBlock) rfl rfl ?aP (fun k_ hk_ => ((Kd.R_mono (ok' := fun k_ => ((fun k_ => some k_ ≠ (.slice (some ad387) t384.length co56 : Value).ownBlock ∧ some k_ ≠ (.slice (some ad392) t389.length co65 : Value).ownBlock)) k_ ∧ some k_ ≠ (u370000 : Value).ownBlock) (Kd.R_apart' (HO396.out) (Kd.S_typed HO_370000.out) (by decide)) (fun k_ hk => ⟨⟨hk.1.1.2, hk.1.2⟩, hk.2⟩))).1 k_ hk_.symm) ?aF ?aO ?aB ?aS ?aL ?_; (case aP => exact k97_mkM _ _ _ (⟨(⟨(⟨a1_1, a1_2⟩ : S26), (rd_T54 l0 (rd t389 x70_2)).f1⟩ : S54), y394⟩ : S97) (Kd.R_mono (Kd.R_tight rfl (Kd.R_mono (ok' := fun k_ => ((fun k_ => some k_ ≠ (.slice (some ad387) t384.length co56 : Value).ownBlock ∧ some k_ ≠ (.slice (some ad392) t389.length co65 : Value).ownBlock)) k_ ∧ some k_ ≠ (u370000 : Value).ownBlock) (Kd.R_apart' (HO396.out) (Kd.S_typed HO_370000.out) (by decide)) (fun k_ hk => ⟨⟨hk.1.1.2, hk.1.2⟩, hk.2⟩))) (fun _ h_ => h_))); (case aB => exact bl_); (case aF => exact (fun k_ hk => ⟨Kd.fresh' (Kd.R_lt (by (with_reducible repeat (first | apply Kd.R_alloc | apply Kd.R_drewN | apply Kd.R_drew)); exact HO_52.out)) k_ hk, Kd.fresh' (Kd.R_lt (by (with_reducible repeat (first | apply Kd.R_alloc | apply Kd.R_drewN | apply Kd.R_drew)); exact HO_68.out)) k_ hk⟩)); (case aO => exact (by (with_reducible repeat (first | apply Kd.S_alloc | apply Kd.S_drewN | apply Kd.S_drew)); exact Kd.S_mono HO_370000.out (fun k_ hk => ⟨⟨hk.1.1, hk.1.2⟩, fun e_ => hk.2 e_⟩))); (case aS => exact bls_); (case aL => have := LMc71.out; omega); intro v398 w78 ho hb hg hat; rw [← Ny397.out] at ho; replace HO_52 := Aside0.mk (Kd.R_over' (by (with_reducible repeat (first | apply Kd.R_alloc | apply Kd.R_drewN | apply Kd.R_drew)); exact HO_52.out) (Kd.S_typed (by (with_reducible repeat (first | apply Kd.S_alloc | apply Kd.S_drewN | apply Kd.S_drew)); exact HO_370000.out)) (by decide) hg); replace HO_68 := Aside0.mk (Kd.R_over' (by (with_reducible repeat (first | apply Kd.R_alloc | apply Kd.R_drewN | apply Kd.R_drew)); exact HO_68.out) (Kd.S_typed (by (with_reducible repeat (first | apply Kd.S_alloc | apply Kd.S_drewN | apply Kd.S_drew)); exact HO_370000.out)) (by decide) hg); replace BK365 := Aside0.mk (blk_grown (g := gb365) (o := .cells #[.int .i64 a1_0, .int .i64 a1_1, .int .i64 a1_2, .int .i64 a1_3, .int .i64 a1_4, .int .i64 a1_5, .int .i64 a1_6, .int .i64 a1_7, .int .i64 a1_8, .int .i64 a1_9] 48 (0, 0)) (bk_ BK365) hg (Kd.S_ne HO_370000.out BK365.out (by decide))); replace BK369 := Aside0.mk (blk_grown (g := gb369) (o := .cells #[u370000] 93 (0, 0)) (bk_ BK369) hg (Kd.S_ne HO_370000.out BK369.out (by decide))); replace HB := Aside0.mk (hb); have HO399 := Aside0.mk (ho); clear HO_370000; clear HO396; clear ho hb hg hat; obtain ⟨Ao79, co79, eo79⟩ := Kd.S_slice HO399.out; subst eo79; have hcz80 := blk_cell BK369.out; have hfz80 := blk_frozen BK369.out))
          go_roundg k2
          case measure => have := HK1.out; have := HK2.out; omega
          case rel => exact ⟨(wrap64 (x70_2 + 1)), (y397), (.slice Ao79 y397.length co79), rf_, H', ⟨by have := HK1.out; have := HK2.out; omega⟩, ⟨by (with_reducible repeat (first | apply Kd.R_alloc | apply Kd.R_drewN | apply Kd.R_drew)); exact Kd.R_mono (Kd.R_far (p := ⟨gb369, 0, none⟩) (Kd.R_types HO_52.out BK369.out (by decide)) (fun _ hk => hk.2) (.slice Ao79 y397.length co79)) (fun _ hk => hk.1.1)⟩, ⟨by (with_reducible repeat (first | apply Kd.R_alloc | apply Kd.R_drewN | apply Kd.R_drew)); exact Kd.R_mono (Kd.R_far (p := ⟨gb369, 0, none⟩) (Kd.R_types HO_68.out BK369.out (by decide)) (fun _ hk => hk.2) (.slice Ao79 y397.length co79)) (fun _ hk => hk.1.1)⟩, ⟨by (with_reducible repeat (first | apply Kd.S_alloc | apply Kd.S_drewN | apply Kd.S_drew)); exact Kd.S_mono (Kd.S_far (p := ⟨gb369, 0, none⟩) (Kd.S_types HO399.out BK369.out (by decide)) (fun _ hk => hk.2) (.slice Ao79 y397.length co79)) (fun _ hk => ⟨hk.1.1, hk.1.2⟩)⟩, ⟨bk_ BK365⟩, ⟨bk_ BK369⟩, ⟨bl_⟩⟩
         ·rw [if_neg c66] at H
          have c66b0 : decide (x70_2 < (t389.length : Int)) = false := decide_eq_false c66
          clear c66
          have H' := Aside0.mk H
          clear H
          go_wp2
          go_roundg k2
          case measure => have := HK1.out; have := HK2.out; omega
          case rel => exact ⟨(wrap64 (x54_1 + 1)), (x370000_2), (u370000), rf_, H', ⟨by have := HK1.out; have := HK2.out; omega⟩, ⟨by (with_reducible repeat (first | apply Kd.R_alloc | apply Kd.R_drewN | apply Kd.R_drew)); exact Kd.R_mono HO_52.out (fun _ hk => trivial)⟩, ⟨by (with_reducible repeat (first | apply Kd.S_alloc | apply Kd.S_drewN | apply Kd.S_drew)); exact Kd.S_mono HO_370000.out (fun _ hk => hk.1)⟩, ⟨bk_ BK365⟩, ⟨bk_ BK369⟩, ⟨bl_⟩⟩
      ·rw [if_neg c57] at H
       have c57b0 : decide (x54_1 < (t384.length : Int)) = false := decide_eq_false c57
       clear c57
       obtain rfl := Option.some.inj H
       have hnb81 := NB369_365.out
       have hnc81 := NB365_369.out
       have hcz82 := blk_cell BK369.out
       have hfz82 := blk_frozen BK369.out
       go_wp2
       go_ret
       exact ⟨_, eq_, by (with_reducible repeat (first | apply Kd.S_alloc | apply Kd.S_drewN | apply Kd.S_drew)); exact Kd.S_mono HO_370000.out (fun _ hk => trivial), bl_⟩
   ·rw [if_neg c45] at H
    have c45b0 : (a1_0 == 3) = false := beq_eq_false_iff_ne.mpr c45
    have c45b1 : (a1_0 != 3) = true := bne_iff_ne.mpr c45
    by_cases c83 : a1_0 = 4
    ·rw [if_pos c83] at H
     have c83b0 : (a1_0 == 4) = true := beq_iff_eq.mpr c83
     have c83b1 : (a1_0 != 4) = false := bne_eq_false_iff_eq.mpr c83
     clear c83
     obtain ⟨t400, A84, H⟩ := bindE_ H
     have H' := Aside0.mk H
     clear H
     go_enter Try.func71, Try.ntmps71
     go_wp2_with (first | (go_at_call 81; go_in) | (go_end0; simp only []; go_at_K) | ((with_reducible refine gate_dst (N := 3) rfl ?_); refine box_event ?hg (N := 3) ?hd (cs := #[.int .i64 a1_0, .int .i64 a1_1, .int .i64 a1_2, .int .i64 a1_3, .int .i64 a1_4, .int .i64 a1_5, .int .i64 a1_6, .int .i64 a1_7, .int .i64 a1_8, .int .i64 a1_9]) (t := 48) ?hr ?_; (case hd => rfl); (case hg => rfl); (case hr => first | (go_simp; done) | (go_simp; rfl)); intro gb365 hg w85 hbox hb; have BK365 := Aside0.mk (hbox); have GW365 := gs_ hg; have GE365 := gs_ hg; replace HB := hbs_ hb; clear hb hbox hg) | ((with_reducible refine gate_dst (N := 16) rfl ?_); refine Kd.S_lit k97 _ 97 ?hg (N := 16) ?hd (xs := ([] : List (S97))) (inner := []) (ok := fun _ => True) (okp := fun _ => True) ?hr ?hp (fun _ hk => hk) trivial (Below.refl _ _) (Nat.le_refl _) (by simp) ?_; (case hd => rfl); (case hg => rfl); (case hr => first | (go_simp; done) | (go_simp; rfl)); (case hp => exact (Reps.none _ _)); intro v367 w86 ho87 hb hg_ hnew_; clear hg_ hnew_; (first | rw [← Ny366.out] at ho87 | (simp only [Int.reduceToNat] at ho87; rw [← Ny366.out] at ho87)); have HO368 := Aside0.mk (Kd.S_lower ho87 bls_); replace BK365 := bkb_ BK365 hb; replace HB := hbs_ hb; clear hb ho87) | ((with_reducible refine gate_dst (N := 5) rfl ?_); refine box_event ?hg (N := 5) ?hd (cs := #[.slice none 0 0]) (t := 93) ?hr ?_; (case hd => rfl); (case hg => rfl); (case hr => first | (go_simp; done) | (go_simp; rfl)); intro gb369 hg w88 hbox hb; replace HO368 := Aside0.mk (Kd.S_below (by (with_reducible repeat (first | apply Kd.S_alloc | apply Kd.S_drewN | apply Kd.S_drew)); exact HO368.out) hb); have BK369 := Aside0.mk (hbox); have GW369 := gs_ hg; have GE369 := gs_ hg; replace HB := hbs_ hb; have NB365_369 := nl_ hg BK365; have NB369_365 := nr_ hg BK365; replace BK365 := bkb_ BK365 hb; clear hb hbox hg; obtain ⟨Ao89, co89, eo89⟩ := Kd.S_slice HO368.out; subst eo89; have hnb90 := NB369_365.out; have hnc90 := NB365_369.out; have hcz91 := blk_cell BK369.out; have hfz91 := blk_frozen BK369.out; have hcz92 := blk_cell BK365.out; have hfz92 := blk_frozen BK365.out) | ((with_reducible refine gate_callee (f := 82) rfl ?_); refine goesC_ (some 91) Try.func82 #[.slice A0 l0.length c0, .agg #[.int .i64 a1_4, .int .i64 a1_5]] ?_; (with_reducible refine (impl_whoOf.calls k _ _ l0 a1_4 a1_5 t400 _ ?side1 ?side2 A84.out).mono ?_); (case side1 => exact Kd.C_below HR0.out bl_); (case side2 => exact HC0.out); rintro e w93 ⟨v401, rfl, ho0, hb⟩; refine ⟨_, rfl, ?_⟩; replace HO368 := Aside0.mk (Kd.S_elder' (by (with_reducible repeat (first | apply Kd.S_alloc | apply Kd.S_drewN | apply Kd.S_drew)); exact (Kd.S_mono (Kd.S_far (p := ⟨gb369, 0, none⟩) (Kd.S_types HO368.out BK369.out (by decide)) (fun _ hk => hk.2) (.slice Ao89 y366.length co89)) (fun _ h_ => h_.1))) (Kd.R_base ho0) hb); have HO402 := Aside0.mk (Kd.R_lower ho0 bls_); replace BK365 := Aside0.mk (blk_below (g := gb365) (o := .cells #[.int .i64 a1_0, .int .i64 a1_1, .int .i64 a1_2, .int .i64 a1_3, .int .i64 a1_4, .int .i64 a1_5, .int .i64 a1_6, .int .i64 a1_7, .int .i64 a1_8, .int .i64 a1_9] 48 (0, 0)) (bk_ BK365) hb); replace BK369 := Aside0.mk (blk_below (g := gb369) (o := .cells #[.slice Ao89 y366.length co89] 93 (0, 0)) (bk_ BK369) hb); replace HB := hbs_ hb; (try clear hb); (try clear hb2); (try clear hk); (try clear hi); (try clear ho0); obtain ⟨Ao94, co94, eo94⟩ := Kd.R_slice HO402.out; subst eo94))
     go_loopg [93] k (fun kq v93 w' => ∃ (x93_1 : Int) (x370000_1 : List (S97)) (u370000 : Value), v93 = .int .i64 x93_1 ∧ Aside0 (impl_derive.l3 kq l0 t400 (t400.length : Int) x93_1 a1_0 a1_1 a1_2 a1_3 a1_4 a1_5 a1_6 a1_7 a1_8 a1_9 x370000_1 = some r) ∧ Aside0 (kq ≤ k) ∧ Aside0 (Kd.R (Kd.int .i64) 3 w' w.heap.size (fun _ => True) (.slice Ao94 t400.length co94) t400) ∧ Aside0 (Kd.S k97 97 w' w.heap.size (fun k_ => some k_ ≠ ((.slice Ao94 t400.length co94) : Value).ownBlock) u370000 x370000_1) ∧ Aside0 (w'.heap[gb365]? = some (.cells #[.int .i64 a1_0, .int .i64 a1_1, .int .i64 a1_2, .int .i64 a1_3, .int .i64 a1_4, .int .i64 a1_5, .int .i64 a1_6, .int .i64 a1_7, .int .i64 a1_8, .int .i64 a1_9] 48 (0, 0))) ∧ Aside0 (w'.heap[gb369]? = some (.cells #[u370000] 93 (0, 0))) ∧ Aside0 (Below w.heap.size w w'))
     case atStart => exact ⟨(0), (y366), (.slice Ao89 y366.length co89), rf_, H', ⟨Nat.le_refl _⟩, ⟨by (with_reducible repeat (first | apply Kd.R_alloc | apply Kd.R_drewN | apply Kd.R_drew)); exact HO402.out⟩, ⟨by (with_reducible repeat (first | apply Kd.S_alloc | apply Kd.S_drewN | apply Kd.S_drew)); exact Kd.S_mono HO368.out (fun _ hk => hk.2)⟩, ⟨bk_ BK365⟩, ⟨bk_ BK369⟩, ⟨bl_⟩⟩
     case round =>
      clear H'
      try clear c1
      try clear c2
      try clear p2
      try clear c3
      try clear c3b0
      try clear c3b1
      try clear p3
      try clear q3
      try clear hx3
      try clear c4
      try clear c5
      try clear c6
      try clear p6
      try clear c7
      try clear c8
      try clear c9
      try clear c10
      try clear c16
      try clear c16b0
      try clear c16b1
      try clear c23
      try clear c28
      try clear c28b0
      try clear c29
      try clear c29b0
      try clear c30
      try clear c30b0
      try clear c31
      try clear c31b0
      try clear c32
      try clear c32b0
      try clear c33
      try clear c36
      try clear p37
      try clear q37
      try clear hx37
      try clear p38
      try clear q38
      try clear hx38
      try clear p39
      try clear q39
      try clear hx39
      try clear c43
      try clear c45
      try clear c45b0
      try clear c45b1
      try clear c52
      try clear c57
      try clear c57b0
      try clear c58
      try clear c58b0
      try clear c59
      try clear c59b0
      try clear c60
      try clear c60b0
      try clear c61
      try clear c61b0
      try clear p64
      try clear c66
      try clear c66b0
      try clear c67
      try clear c67b0
      try clear c68
      try clear c68b0
      try clear c69
      try clear c69b0
      try clear c70
      try clear c70b0
      try clear c71
      try clear c74
      try clear c81
      try clear c82
      try clear c83
      try clear c83b0
      try clear c83b1
      try clear c90
      try clear hcz11
      try clear hcz12
      try clear hcz15
      try clear hcz24
      try clear hcz25
      try clear hcz37
      try clear hcz38
      try clear hcz42
      try clear hcz44
      try clear hcz53
      try clear hcz54
      try clear hcz75
      try clear hcz76
      try clear hcz80
      try clear hcz82
      try clear hcz91
      try clear hcz92
      try clear hfz11
      try clear hfz12
      try clear hfz15
      try clear hfz24
      try clear hfz25
      try clear hfz37
      try clear hfz38
      try clear hfz42
      try clear hfz44
      try clear hfz53
      try clear hfz54
      try clear hfz75
      try clear hfz76
      try clear hfz80
      try clear hfz82
      try clear hfz91
      try clear hfz92
      try clear hx376_0
      try clear hx377_0
      try clear hx377_1
      try clear hx377_2
      try clear hx387_0
      try clear hx388_0
      try clear hx388_1
      try clear hx388_2
      try clear hx392_0
      try clear hx393_0
      try clear hx393_1
      try clear hx393_2
      try clear p2
      try clear p3
      try clear p37
      try clear p376
      try clear p377
      try clear p38
      try clear p387
      try clear p388
      try clear p392
      try clear p393
      try clear p6
      try clear p64
      try clear q3
      try clear q37
      try clear q376
      try clear q377
      try clear q38
      try clear q387
      try clear q388
      try clear q392
      try clear q393
      obtain ⟨x93_1, x370000_1, u370000, rfl, HA, HK1, HO_91, HO_370000, BK365, BK369, HB⟩ := hrel
      cases gk with
      | zero => exact absurd HA.out (by simp [impl_derive.l3])
      | succ k1 =>
       have H := HA.out
       clear HA
       simp only [impl_derive.l3] at H
       by_cases c95 : x93_1 < (t400.length : Int)
       ·rw [if_pos c95] at H
        have c95b0 : decide (x93_1 < (t400.length : Int)) = true := decide_eq_true c95
        clear c95
        obtain ⟨c96b0, H⟩ := ifd_ H
        obtain ⟨c97b0, H⟩ := ifd_ H
        obtain ⟨c98b0, H⟩ := ifd_ H
        obtain ⟨c99b0, H⟩ := ifd_ H
        obtain ⟨t405, A100, H⟩ := bindE_ H
        by_cases c101 : t405 ≥ 0
        ·rw [if_pos c101] at H
         have c101b0 : decide (0 ≤ t405) = true := decide_eq_true c101
         clear c101
         obtain ⟨y407, hy407⟩ : ∃ y_ : List Int, y_ = (([rd t400 x93_1, t405] : List Int)) := ⟨_, rfl⟩
         replace H : (if x370000_1.length < 2932031007402 then (impl_derive.l3 k1 l0 t400 (t400.length : Int) (wrap64 (x93_1 + 1)) a1_0 a1_1 a1_2 a1_3 a1_4 a1_5 a1_6 a1_7 a1_8 a1_9 (x370000_1 ++ [(⟨(⟨(⟨a1_1, a1_2⟩ : S26), (rd_T54 l0 (rd t400 x93_1)).f1⟩ : S54), y407⟩ : S97)])) else (none)) = some r := by first | (rw [hy407]; with_reducible exact H) | (have H2_ := (Option.bind_some _ _).symm.trans H; rw [hy407]; with_reducible exact H2_) | (have H2_ := (Option.bind_some _ _).symm.trans H; with_reducible exact H2_) | with_reducible exact H | (rw [hy407]; exact H) | exact H
         have Ny407 := Aside0.mk hy407
         clear hy407
         obtain ⟨c102, H⟩ := ifn_ H
         have LMc102 := Aside0.mk c102
         clear c102
         obtain ⟨y410, hy410⟩ : ∃ y_ : List (S97), y_ = (x370000_1 ++ [(⟨(⟨(⟨a1_1, a1_2⟩ : S26), (rd_T54 l0 (rd t400 x93_1)).f1⟩ : S54), y407⟩ : S97)]) := ⟨_, rfl⟩
         replace H : (impl_derive.l3 k1 l0 t400 (t400.length : Int) (wrap64 (x93_1 + 1)) a1_0 a1_1 a1_2 a1_3 a1_4 a1_5 a1_6 a1_7 a1_8 a1_9 y410) = some r := by first | (rw [hy410]; with_reducible exact H) | (have H2_ := (Option.bind_some _ _).symm.trans H; rw [hy410]; with_reducible exact H2_) | (have H2_ := (Option.bind_some _ _).symm.trans H; with_reducible exact H2_) | with_reducible exact H | (rw [hy410]; exact H) | exact H
         have Ny410 := Aside0.mk hy410
         clear hy410
         have H' := Aside0.mk H
         clear H
         have p403 : 0 ≤ (x93_1 : Int) := od_
         have q403 : x93_1 < (t400.length : Int) := od_
         obtain ⟨ad403, e403, hx403_0⟩ := Kd.at_int (Kd.R_reads' HO_91.out).2.2 x93_1 p403 q403
         cases e403
         replace p403 := eq_true p403
         replace q403 := eq_true q403
         try go_wp2
         replace HO_91 := Aside0.mk (Kd.R_drew HO_91.out)
         replace HO_370000 := Aside0.mk (Kd.S_drew HO_370000.out)
         replace BK365 := Aside0.mk (blk_drew BK365.out)
         replace BK369 := Aside0.mk (blk_drew BK369.out)
         replace HB := Aside0.mk (below_drew1 HB.out)
         have p404 : 0 ≤ ((rd t400 x93_1) : Int) := od_
         have q404 : (rd t400 x93_1) < (l0.length : Int) := od_
         obtain ⟨ad404, e404, hx404_0, hx404_1, hx404_2⟩ := at_T54 HR0.out (rd t400 x93_1) p404 q404
         have hw404_2 := hx404_2
         have hw404_1 := hx404_1
         have hw404_0 := hx404_0
         cases e404
         replace hx404_0 := cb_ HB hx404_0
         replace hx404_1 := cb_ HB hx404_1
         replace hx404_2 := cb_ HB hx404_2
         replace p404 := eq_true p404
         replace q404 := eq_true q404
         refine start_ (n := 11) (S := fun w' => w'.cell? ⟨gb365, 0, none⟩ = some (.int .i64 a1_0) ∧ w'.cell? ⟨gb365, 1, none⟩ = some (.int .i64 a1_1) ∧ w'.cell? ⟨gb365, 2, none⟩ = some (.int .i64 a1_2) ∧ w'.cell? ⟨gb365, 3, none⟩ = some (.int .i64 a1_3) ∧ w'.cell? ⟨gb365, 4, none⟩ = some (.int .i64 a1_4) ∧ w'.cell? ⟨gb365, 5, none⟩ = some (.int .i64 a1_5) ∧ w'.cell? ⟨gb365, 6, none⟩ = some (.int .i64 a1_6) ∧ w'.cell? ⟨gb365, 7, none⟩ = some (.int .i64 a1_7) ∧ w'.cell? ⟨gb365, 8, none⟩ = some (.int .i64 a1_8) ∧ w'.cell? ⟨gb365, 9, none⟩ = some (.int .i64 a1_9) ∧ w'.cell? (ad404.add (((rd t400 x93_1)).toNat * 3)) = some (.int .i64 ((rd_T54 l0 (rd t400 x93_1)).f0.f0)) ∧ w'.cell? ⟨(ad404.add (((rd t400 x93_1)).toNat * 3)).block, (ad404.add (((rd t400 x93_1)).toNat * 3)).off + 1, none⟩ = some (.int .i64 ((rd_T54 l0 (rd t400 x93_1)).f0.f1)) ∧ w'.cell? ⟨(ad404.add (((rd t400 x93_1)).toNat * 3)).block, (ad404.add (((rd t400 x93_1)).toNat * 3)).off + 2, none⟩ = some (.int .i64 ((rd_T54 l0 (rd t400 x93_1)).f1))) (ds := []) #[false, false, false, false, false, false, false, false, false, false, false] (by kernel_rfl) rfl rfl ⟨(blk_cell BK365.out 0).trans rfl, (blk_cell BK365.out 1).trans rfl, (blk_cell BK365.out 2).trans rfl, (blk_cell BK365.out 3).trans rfl, (blk_cell BK365.out 4).trans rfl, (blk_cell BK365.out 5).trans rfl, (blk_cell BK365.out 6).trans rfl, (blk_cell BK365.out 7).trans rfl, (blk_cell BK365.out 8).trans rfl, (blk_cell BK365.out 9).trans rfl, (cb_ HB hw404_0 :), (cb_ HB hw404_1 :), (cb_ HB hw404_2 :)⟩ (fun hHeld => ?_); refine with_tabW impl_derive.tab26 impl_derive.bits26 (fun HT_ HW_ => ?_)
         generalize wr.drew = w103 at HO_91 HO_370000 BK365 BK369 HB hx404_0 hx404_1 hx404_2 hHeld ⊢
         refine pureZ_ (i := 0) (some 97) #[true, false, false, false, false, false, false, false, false, false, false] (any_of HT_.out (by kernel_rfl)) ?_
         refine pureZ_ (i := 1) (some 98) #[true, true, false, false, false, false, false, false, false, false, false] (any_of HT_.out (by kernel_rfl)) ?_
         refine pureZ_ (i := 3) (some 100) #[true, true, false, true, false, false, false, false, false, false, false] (any_of HT_.out (by kernel_rfl)) ?_
         refine pureZ_ (i := 4) (some 101) #[true, true, false, true, true, false, false, false, false, false, false] (any_of HT_.out (by kernel_rfl)) ?_
         refine pureZ_ (i := 5) (some 102) #[true, true, false, true, true, true, false, false, false, false, false] (any_of HT_.out (by kernel_rfl)) ?_
         refine pureZ_ (i := 6) (some 103) #[true, true, false, true, true, true, true, false, false, false, false] (any_of HT_.out (by kernel_rfl)) ?_
         refine takeZ_ (i := 2) (some 99) #[true, true, true, true, true, true, true, false, false, false, false] (take_ofW HT_.out HW_.out (by kernel_rfl)) hHeld ?_
         refine takeZ_ (i := 7) (some 104) #[true, true, true, true, true, true, true, true, false, false, false] (take_ofW HT_.out HW_.out (by kernel_rfl)) hHeld ?_
         refine pureZ_ (i := 8) (some 105) #[true, true, true, true, true, true, true, true, true, false, false] (any_of HT_.out (by kernel_rfl)) ?_
         refine one_ (i := 9) (N := some 106) #[true, true, true, true, true, true, true, true, true, true, false] rfl rfl (one_of HT_.out (by kernel_rfl)) (by decide) (fun K hK => ?_)
         refine goes_ Try.func54 (by kernel_rfl) rfl #[.slice (some ad404) l0.length c0, .agg #[.int .i64 a1_6, .int .i64 a1_7, .int .i64 ((rd_T54 l0 (rd t400 x93_1)).f1)]] (by rfl) rfl rfl (by (try simp only [List.map_toArray, List.map_cons, List.map_nil]); first | done | rfl | (simp only [List.length_drop, List.length_take]; rfl)) ?_
         with_reducible refine (impl_Fact_54.calls k1 _ _ l0 a1_6 a1_7 ((rd_T54 l0 (rd t400 x93_1)).f1) t405 _ ?side1 ?side2 A100.out).mono ?_
         (case side1 => repeat (first | exact (Kd.C_below HR0.out HB.out) | (with_reducible refine Kd.C_alloc ?_ _) | (with_reducible refine Kd.C_drewN ?_ _) | (with_reducible refine Kd.C_drew ?_)))
         (case side2 => exact HC0.out)
         rintro e w104 ⟨rfl, hb⟩
         refine ⟨_, rfl, ?_⟩
         replace HO_91 := hob_ HO_91 hb
         replace HO_370000 := Aside0.mk (Kd.S_below (by (with_reducible repeat (first | apply Kd.S_alloc | apply Kd.S_drewN | apply Kd.S_drew)); exact HO_370000.out) hb)
         replace BK365 := bkb_ BK365 hb
         replace BK369 := bkb_ BK369 hb
         replace HB := hbs_ hb
         (try clear hb)
         (try clear hb2)
         (try clear hk)
         (try clear hi)
         refine hK.out _ _ ⟨(blk_cell BK365.out 0).trans rfl, (blk_cell BK365.out 1).trans rfl, (blk_cell BK365.out 2).trans rfl, (blk_cell BK365.out 3).trans rfl, (blk_cell BK365.out 4).trans rfl, (blk_cell BK365.out 5).trans rfl, (blk_cell BK365.out 6).trans rfl, (blk_cell BK365.out 7).trans rfl, (blk_cell BK365.out 8).trans rfl, (blk_cell BK365.out 9).trans rfl, (cb_ HB hw404_0 :), (cb_ HB hw404_1 :), (cb_ HB hw404_2 :)⟩ (fun hHeld => ?_)
         clear hK K
         refine norm_ (a' := ?_) ?_ ?_
         rotate_left
         ·show Act.put _ (some 106) _ = _
          simp only [Act.put, List.setIfInBounds_toArray, List.set_cons_zero, List.set_cons_succ, i64_w, i32_w]
          rfl
         refine pureZ_ (i := 10) (some 15) #[true, true, true, true, true, true, true, true, true, true, true] (any_of HT_.out (by kernel_rfl)) ?_
         refine done_ (done_of HT_.out (by kernel_rfl)) ?_
         have p406 : 0 ≤ ((rd t400 x93_1) : Int) := od_
         have q406 : (rd t400 x93_1) < (l0.length : Int) := od_
         obtain ⟨ad406, e406, hx406_0, hx406_1, hx406_2⟩ := at_T54 HR0.out (rd t400 x93_1) p406 q406
         obtain rfl : ad404 = ad406 := (by injection e406)
         replace hx406_0 := cb_ HB hx406_0
         replace hx406_1 := cb_ HB hx406_1
         replace hx406_2 := cb_ HB hx406_2
         replace p406 := eq_true p406
         replace q406 := eq_true q406
         try go_wp2_with (first | (go_at_call 81; go_in) | (go_end0; simp only []; go_at_K) | ((with_reducible refine gate_dst (N := 117) rfl ?_); refine Kd.R_lit (Kd.int .i64) _ 3 ?hg (N := 117) ?hd (xs := ([rd t400 x93_1, t405] : List Int)) (inner := [.int .i64 (rd t400 x93_1), .int .i64 t405]) (ok := fun _ => True) (okp := fun _ => True) ?hr ?hp (fun _ hk => hk) trivial (Below.refl _ _) (Nat.le_refl _) (by simp) ?_; (case hd => rfl); (case hg => rfl); (case hr => first | (go_simp; done) | (go_simp; rfl)); (case hp => exact (Reps.one (show Kd.M (Kd.int .i64) _ _ _ (rd t400 x93_1) [.int .i64 (rd t400 x93_1)] from rfl) (Reps.one (show Kd.M (Kd.int .i64) _ _ _ t405 [.int .i64 t405] from rfl) (Reps.none _ _)))); intro v408 w105 ho106 hb hg_ hnew_; clear hg_ hnew_; (first | rw [← Ny407.out] at ho106 | (simp only [Int.reduceToNat] at ho106; rw [← Ny407.out] at ho106)); replace HO_370000 := Aside0.mk (Kd.S_elder' (by (with_reducible repeat (first | apply Kd.S_alloc | apply Kd.S_drewN | apply Kd.S_drew)); exact HO_370000.out) (Kd.R_base ho106) hb); have HO409 := Aside0.mk (Kd.R_lower (Kd.R_new' ho106 (Kd.R_lt (by (with_reducible repeat (first | apply Kd.R_alloc | apply Kd.R_drewN | apply Kd.R_drew)); exact HO_91.out))) bls_); replace HO_91 := Aside0.mk (Kd.R_elder' (by (with_reducible repeat (first | apply Kd.R_alloc | apply Kd.R_drewN | apply Kd.R_drew)); exact HO_91.out) (Kd.R_base ho106) hb); replace BK365 := bkb_ BK365 hb; replace BK369 := bkb_ BK369 hb; replace HB := hbs_ hb; clear hb ho106; have hnb107 := NB369_365.out; have hnc107 := NB365_369.out; have hcz108 := blk_cell BK369.out; have hfz108 := blk_frozen BK369.out; have hcz109 := blk_cell BK365.out; have hfz109 := blk_frozen BK365.out; obtain ⟨Ao110, co110, eo110⟩ := Kd.R_slice HO409.out; subst eo110) | ((with_reducible refine gate_builtin (b := .append) (xs := #[.tmp 6, .tmp 13]) rfl ?_); at_builtin; refine Kd.S_append k97 (w0 := w) w.heap.size rfl (.tmp 6) (.tmp 13) 93 97 (.agg #[(.int .i64 0), (.int .i64 0), (.int .i64 0), (.slice none 0 0)]) 48 rfl Try.underlying93 info97 rfl (by decide) (by omega) u370000 x370000_1 (⟨(⟨(⟨a1_1, a1_2⟩ : S26), (rd_T54 l0 (rd t400 x93_1)).f1⟩ : S54), y407⟩ : S97) [.int .i64 a1_1, .int .i64 a1_2, .int .i64 ((rd_T54 l0 (rd t400 x93_1)).f1), .slice Ao110 y407.length co110] (fun k_ => some k_ ≠ (.slice (some ad403) t400.length co94 : Value).ownBlock) (fun k_ => some k_ = (.slice Ao110 y407.length co110 : Value).ownBlock) rfl rfl ?aP (fun k_ hk_ => ((Kd.R_mono (ok' := fun k_ => ((fun k_ => some k_ ≠ (.slice (some ad403) t400.length co94 : Value).ownBlock)) k_ ∧ some k_ ≠ (u370000 : Value).ownBlock) (Kd.R_apart' (HO409.out) (Kd.S_typed HO_370000.out) (by decide)) (fun k_ hk => ⟨hk.1.2, hk.2⟩))).1 k_ hk_.symm) ?aF ?aO ?aB ?aS ?aL ?_; (case aP => exact k97_mkM _ _ _ (⟨(⟨(⟨a1_1, a1_2⟩ : S26), (rd_T54 l0 (rd t400 x93_1)).f1⟩ : S54), y407⟩ : S97) (Kd.R_mono (Kd.R_tight rfl (Kd.R_mono (ok' := fun k_ => ((fun k_ => some k_ ≠ (.slice (some ad403) t400.length co94 : Value).ownBlock)) k_ ∧ some k_ ≠ (u370000 : Value).ownBlock) (Kd.R_apart' (HO409.out) (Kd.S_typed HO_370000.out) (by decide)) (fun k_ hk => ⟨hk.1.2, hk.2⟩))) (fun _ h_ => h_))); (case aB => exact bl_); (case aF => exact (fun k_ hk => Kd.fresh' (Kd.R_lt (by (with_reducible repeat (first | apply Kd.R_alloc | apply Kd.R_drewN | apply Kd.R_drew)); exact HO_91.out)) k_ hk)); (case aO => exact (by (with_reducible repeat (first | apply Kd.S_alloc | apply Kd.S_drewN | apply Kd.S_drew)); exact Kd.S_mono HO_370000.out (fun k_ hk => ⟨hk.1, fun e_ => hk.2 e_⟩))); (case aS => exact bls_); (case aL => have := LMc102.out; omega); intro v411 w111 ho hb hg hat; rw [← Ny410.out] at ho; replace HO_91 := Aside0.mk (Kd.R_over' (by (with_reducible repeat (first | apply Kd.R_alloc | apply Kd.R_drewN | apply Kd.R_drew)); exact HO_91.out) (Kd.S_typed (by (with_reducible repeat (first | apply Kd.S_alloc | apply Kd.S_drewN | apply Kd.S_drew)); exact HO_370000.out)) (by decide) hg); replace BK365 := Aside0.mk (blk_grown (g := gb365) (o := .cells #[.int .i64 a1_0, .int .i64 a1_1, .int .i64 a1_2, .int .i64 a1_3, .int .i64 a1_4, .int .i64 a1_5, .int .i64 a1_6, .int .i64 a1_7, .int .i64 a1_8, .int .i64 a1_9] 48 (0, 0)) (bk_ BK365) hg (Kd.S_ne HO_370000.out BK365.out (by decide))); replace BK369 := Aside0.mk (blk_grown (g := gb369) (o := .cells #[u370000] 93 (0, 0)) (bk_ BK369) hg (Kd.S_ne HO_370000.out BK369.out (by decide))); replace HB := Aside0.mk (hb); have HO412 := Aside0.mk (ho); clear HO_370000; clear HO409; clear ho hb hg hat; obtain ⟨Ao112, co112, eo112⟩ := Kd.S_slice HO412.out; subst eo112; have hcz113 := blk_cell BK369.out; have hfz113 := blk_frozen BK369.out))
         go_roundg k1
         case measure => have := HK1.out; omega
         case rel => exact ⟨(wrap64 (x93_1 + 1)), (y410), (.slice Ao112 y410.length co112), rf_, H', ⟨by have := HK1.out; omega⟩, ⟨by (with_reducible repeat (first | apply Kd.R_alloc | apply Kd.R_drewN | apply Kd.R_drew)); exact Kd.R_mono (Kd.R_far (p := ⟨gb369, 0, none⟩) (Kd.R_types HO_91.out BK369.out (by decide)) (fun _ hk => hk.2) (.slice Ao112 y410.length co112)) (fun _ hk => trivial)⟩, ⟨by (with_reducible repeat (first | apply Kd.S_alloc | apply Kd.S_drewN | apply Kd.S_drew)); exact Kd.S_mono (Kd.S_far (p := ⟨gb369, 0, none⟩) (Kd.S_types HO412.out BK369.out (by decide)) (fun _ hk => hk.2) (.slice Ao112 y410.length co112)) (fun _ hk => hk.1)⟩, ⟨bk_ BK365⟩, ⟨bk_ BK369⟩, ⟨bl_⟩⟩
        ·rw [if_neg c101] at H
         have c101b0 : decide (0 ≤ t405) = false := decide_eq_false c101
         clear c101
         have H' := Aside0.mk H
         clear H
         have p403 : 0 ≤ (x93_1 : Int) := od_
         have q403 : x93_1 < (t400.length : Int) := od_
         obtain ⟨ad403, e403, hx403_0⟩ := Kd.at_int (Kd.R_reads' HO_91.out).2.2 x93_1 p403 q403
         cases e403
         replace p403 := eq_true p403
         replace q403 := eq_true q403
         try go_wp2
         replace HO_91 := Aside0.mk (Kd.R_drew HO_91.out)
         replace HO_370000 := Aside0.mk (Kd.S_drew HO_370000.out)
         replace BK365 := Aside0.mk (blk_drew BK365.out)
         replace BK369 := Aside0.mk (blk_drew BK369.out)
         replace HB := Aside0.mk (below_drew1 HB.out)
         have p404 : 0 ≤ ((rd t400 x93_1) : Int) := od_
         have q404 : (rd t400 x93_1) < (l0.length : Int) := od_
         obtain ⟨ad404, e404, hx404_0, hx404_1, hx404_2⟩ := at_T54 HR0.out (rd t400 x93_1) p404 q404
         have hw404_2 := hx404_2
         have hw404_1 := hx404_1
         have hw404_0 := hx404_0
         cases e404
         replace hx404_0 := cb_ HB hx404_0
         replace hx404_1 := cb_ HB hx404_1
         replace hx404_2 := cb_ HB hx404_2
         replace p404 := eq_true p404
         replace q404 := eq_true q404
         refine start_ (n := 11) (S := fun w' => w'.cell? ⟨gb365, 0, none⟩ = some (.int .i64 a1_0) ∧ w'.cell? ⟨gb365, 1, none⟩ = some (.int .i64 a1_1) ∧ w'.cell? ⟨gb365, 2, none⟩ = some (.int .i64 a1_2) ∧ w'.cell? ⟨gb365, 3, none⟩ = some (.int .i64 a1_3) ∧ w'.cell? ⟨gb365, 4, none⟩ = some (.int .i64 a1_4) ∧ w'.cell? ⟨gb365, 5, none⟩ = some (.int .i64 a1_5) ∧ w'.cell? ⟨gb365, 6, none⟩ = some (.int .i64 a1_6) ∧ w'.cell? ⟨gb365, 7, none⟩ = some (.int .i64 a1_7) ∧ w'.cell? ⟨gb365, 8, none⟩ = some (.int .i64 a1_8) ∧ w'.cell? ⟨gb365, 9, none⟩ = some (.int .i64 a1_9) ∧ w'.cell? (ad404.add (((rd t400 x93_1)).toNat * 3)) = some (.int .i64 ((rd_T54 l0 (rd t400 x93_1)).f0.f0)) ∧ w'.cell? ⟨(ad404.add (((rd t400 x93_1)).toNat * 3)).block, (ad404.add (((rd t400 x93_1)).toNat * 3)).off + 1, none⟩ = some (.int .i64 ((rd_T54 l0 (rd t400 x93_1)).f0.f1)) ∧ w'.cell? ⟨(ad404.add (((rd t400 x93_1)).toNat * 3)).block, (ad404.add (((rd t400 x93_1)).toNat * 3)).off + 2, none⟩ = some (.int .i64 ((rd_T54 l0 (rd t400 x93_1)).f1))) (ds := []) #[false, false, false, false, false, false, false, false, false, false, false] (by kernel_rfl) rfl rfl ⟨(blk_cell BK365.out 0).trans rfl, (blk_cell BK365.out 1).trans rfl, (blk_cell BK365.out 2).trans rfl, (blk_cell BK365.out 3).trans rfl, (blk_cell BK365.out 4).trans rfl, (blk_cell BK365.out 5).trans rfl, (blk_cell BK365.out 6).trans rfl, (blk_cell BK365.out 7).trans rfl, (blk_cell BK365.out 8).trans rfl, (blk_cell BK365.out 9).trans rfl, (cb_ HB hw404_0 :), (cb_ HB hw404_1 :), (cb_ HB hw404_2 :)⟩ (fun hHeld => ?_); refine with_tabW impl_derive.tab26 impl_derive.bits26 (fun HT_ HW_ => ?_)
         generalize wr.drew = w114 at HO_91 HO_370000 BK365 BK369 HB hx404_0 hx404_1 hx404_2 hHeld ⊢
         refine pureZ_ (i := 0) (some 97) #[true, false, false, false, false, false, false, false, false, false, false] (any_of HT_.out (by kernel_rfl)) ?_
         refine pureZ_ (i := 1) (some 98) #[true, true, false, false, false, false, false, false, false, false, false] (any_of HT_.out (by kernel_rfl)) ?_
         refine pureZ_ (i := 3) (some 100) #[true, true, false, true, false, false, false, false, false, false, false] (any_of HT_.out (by kernel_rfl)) ?_
         refine pureZ_ (i := 4) (some 101) #[true, true, false, true, true, false, false, false, false, false, false] (any_of HT_.out (by kernel_rfl)) ?_
         refine pureZ_ (i := 5) (some 102) #[true, true, false, true, true, true, false, false, false, false, false] (any_of HT_.out (by kernel_rfl)) ?_
         refine pureZ_ (i := 6) (some 103) #[true, true, false, true, true, true, true, false, false, false, false] (any_of HT_.out (by kernel_rfl)) ?_
         refine takeZ_ (i := 2) (some 99) #[true, true, true, true, true, true, true, false, false, false, false] (take_ofW HT_.out HW_.out (by kernel_rfl)) hHeld ?_
         refine takeZ_ (i := 7) (some 104) #[true, true, true, true, true, true, true, true, false, false, false] (take_ofW HT_.out HW_.out (by kernel_rfl)) hHeld ?_
         refine pureZ_ (i := 8) (some 105) #[true, true, true, true, true, true, true, true, true, false, false] (any_of HT_.out (by kernel_rfl)) ?_
         refine one_ (i := 9) (N := some 106) #[true, true, true, true, true, true, true, true, true, true, false] rfl rfl (one_of HT_.out (by kernel_rfl)) (by decide) (fun K hK => ?_)
         refine goes_ Try.func54 (by kernel_rfl) rfl #[.slice (some ad404) l0.length c0, .agg #[.int .i64 a1_6, .int .i64 a1_7, .int .i64 ((rd_T54 l0 (rd t400 x93_1)).f1)]] (by rfl) rfl rfl (by (try simp only [List.map_toArray, List.map_cons, List.map_nil]); first | done | rfl | (simp only [List.length_drop, List.length_take]; rfl)) ?_
         with_reducible refine (impl_Fact_54.calls k1 _ _ l0 a1_6 a1_7 ((rd_T54 l0 (rd t400 x93_1)).f1) t405 _ ?side1 ?side2 A100.out).mono ?_
         (case side1 => repeat (first | exact (Kd.C_below HR0.out HB.out) | (with_reducible refine Kd.C_alloc ?_ _) | (with_reducible refine Kd.C_drewN ?_ _) | (with_reducible refine Kd.C_drew ?_)))
         (case side2 => exact HC0.out)
         rintro e w115 ⟨rfl, hb⟩
         refine ⟨_, rfl, ?_⟩
         replace HO_91 := hob_ HO_91 hb
         replace HO_370000 := Aside0.mk (Kd.S_below (by (with_reducible repeat (first | apply Kd.S_alloc | apply Kd.S_drewN | apply Kd.S_drew)); exact HO_370000.out) hb)
         replace BK365 := bkb_ BK365 hb
         replace BK369 := bkb_ BK369 hb
         replace HB := hbs_ hb
         (try clear hb)
         (try clear hb2)
         (try clear hk)
         (try clear hi)
         refine hK.out _ _ ⟨(blk_cell BK365.out 0).trans rfl, (blk_cell BK365.out 1).trans rfl, (blk_cell BK365.out 2).trans rfl, (blk_cell BK365.out 3).trans rfl, (blk_cell BK365.out 4).trans rfl, (blk_cell BK365.out 5).trans rfl, (blk_cell BK365.out 6).trans rfl, (blk_cell BK365.out 7).trans rfl, (blk_cell BK365.out 8).trans rfl, (blk_cell BK365.out 9).trans rfl, (cb_ HB hw404_0 :), (cb_ HB hw404_1 :), (cb_ HB hw404_2 :)⟩ (fun hHeld => ?_)
         clear hK K
         refine norm_ (a' := ?_) ?_ ?_
         rotate_left
         ·show Act.put _ (some 106) _ = _
          simp only [Act.put, List.setIfInBounds_toArray, List.set_cons_zero, List.set_cons_succ, i64_w, i32_w]
          rfl
         refine pureZ_ (i := 10) (some 15) #[true, true, true, true, true, true, true, true, true, true, true] (any_of HT_.out (by kernel_rfl)) ?_
         refine done_ (done_of HT_.out (by kernel_rfl)) ?_
         try go_wp2
         go_roundg k1
         case measure => have := HK1.out; omega
         case rel => exact ⟨(wrap64 (x93_1 + 1)), (x370000_1), (u370000), rf_, H', ⟨by have := HK1.out; omega⟩, ⟨by (with_reducible repeat (first | apply Kd.R_alloc | apply Kd.R_drewN | apply Kd.R_drew)); exact HO_91.out⟩, ⟨by (with_reducible repeat (first | apply Kd.S_alloc | apply Kd.S_drewN | apply Kd.S_drew)); exact HO_370000.out⟩, ⟨bk_ BK365⟩, ⟨bk_ BK369⟩, ⟨bl_⟩⟩
       ·rw [if_neg c95] at H
        have c95b0 : decide (x93_1 < (t400.length : Int)) = false := decide_eq_false c95
        clear c95
        obtain rfl := Option.some.inj H
        have hnb116 := NB369_365.out
        have hnc116 := NB365_369.out
        have hcz117 := blk_cell BK369.out
        have hfz117 := blk_frozen BK369.out
        go_wp2
        go_ret
        exact ⟨_, eq_, by (with_reducible repeat (first | apply Kd.S_alloc | apply Kd.S_drewN | apply Kd.S_drew)); exact Kd.S_mono HO_370000.out (fun _ hk => trivial), bl_⟩
    ·rw [if_neg c83] at H
     have c83b0 : (a1_0 == 4) = false := beq_eq_false_iff_ne.mpr c83
     have c83b1 : (a1_0 != 4) = true := bne_iff_ne.mpr c83
     obtain rfl := Option.some.inj H
     go_enter Try.func71, Try.ntmps71
     go_wp2_with (first | (go_at_call 81; go_in) | (go_end0; simp only []; go_at_K) | ((with_reducible refine gate_dst (N := 3) rfl ?_); refine box_event ?hg (N := 3) ?hd (cs := #[.int .i64 a1_0, .int .i64 a1_1, .int .i64 a1_2, .int .i64 a1_3, .int .i64 a1_4, .int .i64 a1_5, .int .i64 a1_6, .int .i64 a1_7, .int .i64 a1_8, .int .i64 a1_9]) (t := 48) ?hr ?_; (case hd => rfl); (case hg => rfl); (case hr => first | (go_simp; done) | (go_simp; rfl)); intro gb365 hg w118 hbox hb; have BK365 := Aside0.mk (hbox); have GW365 := gs_ hg; have GE365 := gs_ hg; replace HB := hbs_ hb; clear hb hbox hg) | ((with_reducible refine gate_dst (N := 16) rfl ?_); refine Kd.S_lit k97 _ 97 ?hg (N := 16) ?hd (xs := ([] : List (S97))) (inner := []) (ok := fun _ => True) (okp := fun _ => True) ?hr ?hp (fun _ hk => hk) trivial (Below.refl _ _) (Nat.le_refl _) (by simp) ?_; (case hd => rfl); (case hg => rfl); (case hr => first | (go_simp; done) | (go_simp; rfl)); (case hp => exact (Reps.none _ _)); intro v367 w119 ho120 hb hg_ hnew_; clear hg_ hnew_; (first | rw [← Ny366.out] at ho120 | (simp only [Int.reduceToNat] at ho120; rw [← Ny366.out] at ho120)); have HO368 := Aside0.mk (Kd.S_lower ho120 bls_); replace BK365 := bkb_ BK365 hb; replace HB := hbs_ hb; clear hb ho120) | ((with_reducible refine gate_dst (N := 5) rfl ?_); refine box_event ?hg (N := 5) ?hd (cs := #[.slice none 0 0]) (t := 93) ?hr ?_; (case hd => rfl); (case hg => rfl); (case hr => first | (go_simp; done) | (go_simp; rfl)); intro gb369 hg w121 hbox hb; replace HO368 := Aside0.mk (Kd.S_below (by (with_reducible repeat (first | apply Kd.S_alloc | apply Kd.S_drewN | apply Kd.S_drew)); exact HO368.out) hb); have BK369 := Aside0.mk (hbox); have GW369 := gs_ hg; have GE369 := gs_ hg; replace HB := hbs_ hb; have NB365_369 := nl_ hg BK365; have NB369_365 := nr_ hg BK365; replace BK365 := bkb_ BK365 hb; clear hb hbox hg; obtain ⟨Ao122, co122, eo122⟩ := Kd.S_slice HO368.out; subst eo122; have hnb123 := NB369_365.out; have hnc123 := NB365_369.out; have hcz124 := blk_cell BK369.out; have hfz124 := blk_frozen BK369.out; have hcz125 := blk_cell BK365.out; have hfz125 := blk_frozen BK365.out))
     go_ret
     exact ⟨_, eq_, by (with_reducible repeat (first | apply Kd.S_alloc | apply Kd.S_drewN | apply Kd.S_drew)); exact Kd.S_mono (Kd.S_far (p := ⟨gb369, 0, none⟩) (Kd.S_types HO368.out BK369.out (by decide)) (fun _ hk => hk.2) (.slice Ao122 y366.length co122)) (fun _ hk => trivial), bl_⟩
end Go.Proofs.Yteehgihclnlaoaa.PA
