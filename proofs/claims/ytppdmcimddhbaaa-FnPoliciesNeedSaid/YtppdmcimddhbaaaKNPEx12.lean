import Derived.Test.YtppdmcimddhbaaaKNPEx11
-- printed by wip/tools
namespace Go.Proofs.Ytppdmcimddhbaaa.PE
open Go.RowKit Go.Proofs.YtppdmcimddhbaaaW.PrintWords Go.Proofs.YtppdmcimddhbaaaW.PrintLast Go.Proofs.YtppdmcimddhbaaaW.PrintMore
attribute [local go_sem] max2_int min2_int max_two min_two max_three min_three max_four min_four
set_option linter.unusedVariables false
set_option linter.unusedSimpArgs false
mutual
def impl_derive.l0 : Nat → List (S29) → List Int → Int → Int → Int → Int → Int → Int → Int → Int → Int → Int → Int → Int → List (S177) → Option ((List (S177)))
 | 0, _, _, _, _, _, _, _, _, _, _, _, _, _, _, _ => none
 | k + 1, x0, x31, x32, x33, x372000, x372001, x372002, x372003, x372004, x372005, x372006, x372007, x372008, x372009, x376000 => if x33 < x32 then (if 0 ≤ x33 then (if x33 < (x31.length : Int) then (if 0 ≤ (rd x31 x33) then (if (rd x31 x33) < (x0.length : Int) then (if x376000.length < 2932031007402 then (impl_derive.l0 k x0 x31 x32 (wrap64 (x33 + 1)) x372000 x372001 x372002 x372003 x372004 x372005 x372006 x372007 x372008 x372009 (x376000 ++ [(⟨(⟨(⟨x372001, x372002⟩ : S27), (rd_T29 x0 (rd x31 x33)).f1⟩ : S29), (([rd x31 x33] : List Int))⟩ : S177)])) else (none)) else (none)) else (none)) else (none)) else (none)) else (some x376000)
def impl_derive.l1 : Nat → List (S29) → List Int → Int → Int → Int → Int → Int → Int → Int → Int → Int → Int → Int → Int → List (S177) → Option ((List (S177)))
 | 0, _, _, _, _, _, _, _, _, _, _, _, _, _, _, _ => none
 | k + 1, x0, x52, x53, x54, x372000, x372001, x372002, x372003, x372004, x372005, x372006, x372007, x372008, x372009, x376000 => if x54 < x53 then (if 0 ≤ x54 then (if x54 < (x52.length : Int) then (if 0 ≤ (rd x52 x54) then (if (rd x52 x54) < (x0.length : Int) then ((impl_whoOf.f k x0 ((rd_T29 x0 (rd x52 x54)).f1) x372007).bind fun t395 => (impl_derive.l2 k x0 (rd x52 x54) x52 x53 x54 t395 (t395.length : Int) 0 x372000 x372001 x372002 x372003 x372004 x372005 x372006 x372007 x372008 x372009 x376000)) else (none)) else (none)) else (none)) else (none)) else (some x376000)
def impl_derive.l2 : Nat → List (S29) → Int → List Int → Int → Int → List Int → Int → Int → Int → Int → Int → Int → Int → Int → Int → Int → Int → Int → List (S177) → Option ((List (S177)))
 | 0, _, _, _, _, _, _, _, _, _, _, _, _, _, _, _, _, _, _, _ => none
 | k + 1, x0, x10, x52, x53, x54, x68, x69, x70, x372000, x372001, x372002, x372003, x372004, x372005, x372006, x372007, x372008, x372009, x376000 => if x70 < x69 then (if 0 ≤ x70 then (if x70 < (x68.length : Int) then (if 0 ≤ (rd x68 x70) then (if (rd x68 x70) < (x0.length : Int) then (if x376000.length < 2932031007402 then (impl_derive.l2 k x0 x10 x52 x53 x54 x68 x69 (wrap64 (x70 + 1)) x372000 x372001 x372002 x372003 x372004 x372005 x372006 x372007 x372008 x372009 (x376000 ++ [(⟨(⟨(⟨x372001, x372002⟩ : S27), (rd_T29 x0 (rd x68 x70)).f1⟩ : S29), (([x10, rd x68 x70] : List Int))⟩ : S177)])) else (none)) else (none)) else (none)) else (none)) else (none)) else (impl_derive.l1 k x0 x52 x53 (wrap64 (x54 + 1)) x372000 x372001 x372002 x372003 x372004 x372005 x372006 x372007 x372008 x372009 x376000)
def impl_derive.l3 : Nat → List (S29) → List Int → Int → Int → Int → Int → Int → Int → Int → Int → Int → Int → Int → Int → List (S177) → Option ((List (S177)))
 | 0, _, _, _, _, _, _, _, _, _, _, _, _, _, _, _ => none
 | k + 1, x0, x91, x92, x93, x372000, x372001, x372002, x372003, x372004, x372005, x372006, x372007, x372008, x372009, x376000 => if x93 < x92 then (if 0 ≤ x93 then (if x93 < (x91.length : Int) then (if 0 ≤ (rd x91 x93) then (if (rd x91 x93) < (x0.length : Int) then ((impl_Fact_134.f k x0 x372006 x372007 ((rd_T29 x0 (rd x91 x93)).f1)).bind fun t411 => (if t411 ≥ 0 then (if x376000.length < 2932031007402 then (impl_derive.l3 k x0 x91 x92 (wrap64 (x93 + 1)) x372000 x372001 x372002 x372003 x372004 x372005 x372006 x372007 x372008 x372009 (x376000 ++ [(⟨(⟨(⟨x372001, x372002⟩ : S27), (rd_T29 x0 (rd x91 x93)).f1⟩ : S29), (([rd x91 x93, t411] : List Int))⟩ : S177)])) else (none)) else (impl_derive.l3 k x0 x91 x92 (wrap64 (x93 + 1)) x372000 x372001 x372002 x372003 x372004 x372005 x372006 x372007 x372008 x372009 x376000))) else (none)) else (none)) else (none)) else (none)) else (some x376000)
end
def impl_derive.f (k : Nat) (l0 : List (S29)) (a1_0 : Int) (a1_1 : Int) (a1_2 : Int) (a1_3 : Int) (a1_4 : Int) (a1_5 : Int) (a1_6 : Int) (a1_7 : Int) (a1_8 : Int) (a1_9 : Int) : Option ((List (S177))) := (some (([] : List (S177)) : List (S177))).bind fun y372 => (if a1_0 = 1 then (if y372.length < 2932031007402 then (some (y372 ++ [(⟨(⟨(⟨a1_1, a1_2⟩ : S27), a1_3⟩ : S29), ([] : List Int)⟩ : S177)])) else (none)) else (if a1_0 = 2 then ((impl_whoOf.f k l0 a1_4 a1_5).bind fun t379 => (impl_derive.l0 k l0 t379 (t379.length : Int) 0 a1_0 a1_1 a1_2 a1_3 a1_4 a1_5 a1_6 a1_7 a1_8 a1_9 y372)) else (if a1_0 = 3 then ((impl_whoOf.f k l0 a1_4 a1_5).bind fun t390 => (impl_derive.l1 k l0 t390 (t390.length : Int) 0 a1_0 a1_1 a1_2 a1_3 a1_4 a1_5 a1_6 a1_7 a1_8 a1_9 y372)) else (if a1_0 = 4 then ((impl_whoOf.f k l0 a1_4 a1_5).bind fun t406 => (impl_derive.l3 k l0 t406 (t406.length : Int) 0 a1_0 a1_1 a1_2 a1_3 a1_4 a1_5 a1_6 a1_7 a1_8 a1_9 y372)) else (some y372)))))
def impl_derive.T16 : Bool × List (List Nat × List Nat) := (true, [([], []), ([], []), ([], []), ([1, 2], [1, 2]), ([3], [3]), ([4], [4]), ([], []), ([6], [6]), ([7], [7]), ([5, 8], [5, 8]), ([0, 9], [0, 9]), ([10], [10]), ([], [])])
def impl_derive.B16 : List Nat := [0, 0, 0, 6, 14, 30, 0, 64, 192, 510, 1023, 2047, 0]
theorem impl_derive.tab16 : rtab .any (opsOf Try.f147 16) = impl_derive.T16 := by kernel_rfl
theorem impl_derive.bits16 : waitsOk impl_derive.T16.2 impl_derive.B16 = true := by kernel_rfl
def impl_derive.T26 : Bool × List (List Nat × List Nat) := (true, [([], []), ([], []), ([1], [1]), ([], []), ([], []), ([3, 4], [3, 4]), ([5], [5]), ([6], [6]), ([2, 7], [2, 7]), ([0, 8], [0, 8]), ([9, 9, 0, 1, 2, 3, 4, 5, 6, 7, 8, 9], [9])])
def impl_derive.B26 : List Nat := [0, 0, 2, 0, 0, 24, 56, 120, 254, 511, 1023]
theorem impl_derive.tab26 : rtab .any (opsOf Try.f147 26) = impl_derive.T26 := by kernel_rfl
theorem impl_derive.bits26 : waitsOk impl_derive.T26.2 impl_derive.B26 = true := by kernel_rfl
set_option maxHeartbeats 8000000 in
set_option maxRecDepth 100000 in
theorem impl_derive.calls (k : Nat) (A0 : Option Addr) (c0 : Nat) (l0 : List (S29)) (a1_0 : Int) (a1_1 : Int) (a1_2 : Int) (a1_3 : Int) (a1_4 : Int) (a1_5 : Int) (a1_6 : Int) (a1_7 : Int) (a1_8 : Int) (a1_9 : Int) (r : List (S177)) (w : World) (hr0 : Kd.C k29 w A0 l0.length l0) (hc0 : l0.length ≤ c0) (h : impl_derive.f k l0 a1_0 a1_1 a1_2 a1_3 a1_4 a1_5 a1_6 a1_7 a1_8 a1_9 = some r) :
  Calls Try.prog 147 #[.slice A0 l0.length c0, .agg #[.int .i64 a1_0, .int .i64 a1_1, .int .i64 a1_2, .int .i64 a1_3, .int .i64 a1_4, .int .i64 a1_5, .int .i64 a1_6, .int .i64 a1_7, .int .i64 a1_8, .int .i64 a1_9]] w fun e w' => ∃ v0_ : Value, e = .returned (v0_) ∧ Kd.S k177 177 w' w.heap.size (fun _ => True) v0_ r ∧ Below w.heap.size w w' := by
 have hu46 := Try.underlying46
 have hu27 := Try.underlying27
 have hu29 := Try.underlying29
 have hmf : ∀ (fn : Fn) (first cap : Array Value) (w : World), (Instr.makeFunc fn first cap).run Try.prog w = .ok (.func fn first cap) w := fun _ _ _ _ => rfl
 have hu173 := Try.underlying173
 have HR0 := Aside0.mk hr0
 have HC0 := Aside0.mk hc0
 clear hr0 hc0
 have HB := Aside0.mk (Below.refl w.heap.size w)
 have H : ((some (([] : List (S177)) : List (S177))).bind fun y372 => (if a1_0 = 1 then (if y372.length < 2932031007402 then (some (y372 ++ [(⟨(⟨(⟨a1_1, a1_2⟩ : S27), a1_3⟩ : S29), ([] : List Int)⟩ : S177)])) else (none)) else (if a1_0 = 2 then ((impl_whoOf.f k l0 a1_4 a1_5).bind fun t379 => (impl_derive.l0 k l0 t379 (t379.length : Int) 0 a1_0 a1_1 a1_2 a1_3 a1_4 a1_5 a1_6 a1_7 a1_8 a1_9 y372)) else (if a1_0 = 3 then ((impl_whoOf.f k l0 a1_4 a1_5).bind fun t390 => (impl_derive.l1 k l0 t390 (t390.length : Int) 0 a1_0 a1_1 a1_2 a1_3 a1_4 a1_5 a1_6 a1_7 a1_8 a1_9 y372)) else (if a1_0 = 4 then ((impl_whoOf.f k l0 a1_4 a1_5).bind fun t406 => (impl_derive.l3 k l0 t406 (t406.length : Int) 0 a1_0 a1_1 a1_2 a1_3 a1_4 a1_5 a1_6 a1_7 a1_8 a1_9 y372)) else (some y372)))))) = some r := h
 clear h
 obtain ⟨y372, hy372⟩ : ∃ y_ : List (S177), y_ = (([] : List (S177))) := ⟨_, rfl⟩
 replace H : (if a1_0 = 1 then (if y372.length < 2932031007402 then (some (y372 ++ [(⟨(⟨(⟨a1_1, a1_2⟩ : S27), a1_3⟩ : S29), ([] : List Int)⟩ : S177)])) else (none)) else (if a1_0 = 2 then ((impl_whoOf.f k l0 a1_4 a1_5).bind fun t379 => (impl_derive.l0 k l0 t379 (t379.length : Int) 0 a1_0 a1_1 a1_2 a1_3 a1_4 a1_5 a1_6 a1_7 a1_8 a1_9 y372)) else (if a1_0 = 3 then ((impl_whoOf.f k l0 a1_4 a1_5).bind fun t390 => (impl_derive.l1 k l0 t390 (t390.length : Int) 0 a1_0 a1_1 a1_2 a1_3 a1_4 a1_5 a1_6 a1_7 a1_8 a1_9 y372)) else (if a1_0 = 4 then ((impl_whoOf.f k l0 a1_4 a1_5).bind fun t406 => (impl_derive.l3 k l0 t406 (t406.length : Int) 0 a1_0 a1_1 a1_2 a1_3 a1_4 a1_5 a1_6 a1_7 a1_8 a1_9 y372)) else (some y372))))) = some r := by first | (rw [hy372]; with_reducible exact H) | (have H2_ := (Option.bind_some _ _).symm.trans H; rw [hy372]; with_reducible exact H2_) | (have H2_ := (Option.bind_some _ _).symm.trans H; with_reducible exact H2_) | with_reducible exact H | (rw [hy372]; exact H) | exact H
 have Ny372 := Aside0.mk hy372
 clear hy372
 by_cases c3 : a1_0 = 1
 ·rw [if_pos c3] at H
  have c3b0 : (a1_0 == 1) = true := beq_iff_eq.mpr c3
  have c3b1 : (a1_0 != 1) = false := bne_eq_false_iff_eq.mpr c3
  clear c3
  obtain ⟨c4, H⟩ := ifn_ H
  have LMc4 := Aside0.mk c4
  clear c4
  obtain ⟨y376, hy376⟩ : ∃ y_ : List (S177), y_ = (y372 ++ [(⟨(⟨(⟨a1_1, a1_2⟩ : S27), a1_3⟩ : S29), ([] : List Int)⟩ : S177)]) := ⟨_, rfl⟩
  replace H : (some y376) = some r := by first | (rw [hy376]; with_reducible exact H) | (have H2_ := (Option.bind_some _ _).symm.trans H; rw [hy376]; with_reducible exact H2_) | (have H2_ := (Option.bind_some _ _).symm.trans H; with_reducible exact H2_) | with_reducible exact H | (rw [hy376]; exact H) | exact H
  have Ny376 := Aside0.mk hy376
  clear hy376
  obtain rfl := Option.some.inj H
  go_enter Try.func147, Try.ntmps147
  go_wp2_with (first | (go_at_call 155; go_in) | (go_end0; simp only []; go_at_K) | ((with_reducible refine gate_dst (N := 3) rfl ?_); refine box_event ?hg (N := 3) ?hd (cs := #[.int .i64 a1_0, .int .i64 a1_1, .int .i64 a1_2, .int .i64 a1_3, .int .i64 a1_4, .int .i64 a1_5, .int .i64 a1_6, .int .i64 a1_7, .int .i64 a1_8, .int .i64 a1_9]) (t := 46) ?hr ?_; (case hd => rfl); (case hg => rfl); (case hr => first | (go_simp; done) | (go_simp; rfl)); intro gb371 hg w5 hbox hb; have BK371 := Aside0.mk (hbox); have GW371 := gs_ hg; have GE371 := gs_ hg; replace HB := hbs_ hb; clear hb hbox hg) | ((with_reducible refine gate_dst (N := 16) rfl ?_); refine Kd.S_lit k177 _ 177 ?hg (N := 16) ?hd (xs := ([] : List (S177))) (inner := []) (ok := fun _ => True) (okp := fun _ => True) ?hr ?hp (fun _ hk => hk) trivial (Below.refl _ _) (Nat.le_refl _) (by simp) ?_; (case hd => rfl); (case hg => rfl); (case hr => first | (go_simp; done) | (go_simp; rfl)); (case hp => exact (Reps.none _ _)); intro v373 w6 ho7 hb hg_ hnew_; clear hg_ hnew_; (first | rw [← Ny372.out] at ho7 | (simp only [Int.reduceToNat] at ho7; rw [← Ny372.out] at ho7)); have HO374 := Aside0.mk (Kd.S_lower ho7 bls_); replace BK371 := bkb_ BK371 hb; replace HB := hbs_ hb; clear hb ho7) | ((with_reducible refine gate_dst (N := 5) rfl ?_); refine box_event ?hg (N := 5) ?hd (cs := #[.slice none 0 0]) (t := 173) ?hr ?_; (case hd => rfl); (case hg => rfl); (case hr => first | (go_simp; done) | (go_simp; rfl)); intro gb375 hg w8 hbox hb; replace HO374 := Aside0.mk (Kd.S_below (by (with_reducible repeat (first | apply Kd.S_alloc | apply Kd.S_drewN | apply Kd.S_drew)); exact HO374.out) hb); have BK375 := Aside0.mk (hbox); have GW375 := gs_ hg; have GE375 := gs_ hg; replace HB := hbs_ hb; have NB371_375 := nl_ hg BK371; have NB375_371 := nr_ hg BK371; replace BK371 := bkb_ BK371 hb; clear hb hbox hg; obtain ⟨Ao9, co9, eo9⟩ := Kd.S_slice HO374.out; subst eo9; have hnb10 := NB375_371.out; have hnc10 := NB371_375.out; have hcz11 := blk_cell BK375.out; have hfz11 := blk_frozen BK375.out; have hcz12 := blk_cell BK371.out; have hfz12 := blk_frozen BK371.out) | ((with_reducible refine gate_builtin (b := .append) (xs := #[.tmp 6, .tmp 13]) rfl ?_); at_builtin; refine Kd.S_append k177 (w0 := w) w.heap.size rfl (.tmp 6) (.tmp 13) 173 177 (.agg #[(.int .i64 0), (.int .i64 0), (.int .i64 0), (.slice none 0 0)]) 48 rfl Try.underlying173 info177 rfl (by decide) (by omega) (.slice Ao9 y372.length co9) y372 (⟨(⟨(⟨a1_1, a1_2⟩ : S27), a1_3⟩ : S29), ([] : List Int)⟩ : S177) [.int .i64 a1_1, .int .i64 a1_2, .int .i64 a1_3, .slice none 0 0] (fun _ => True) (fun _ => False) rfl (by first | (go_simp; done) | (go_simp; rfl)) ?aP (fun k_ hk_ => hk_.elim) ?aF ?aO ?aB ?aS ?aL ?_; (case aP => exact k177_mkM _ _ _ (⟨(⟨(⟨a1_1, a1_2⟩ : S27), a1_3⟩ : S29), ([] : List Int)⟩ : S177) (Kd.R_nil _ _ _ _ _)); (case aB => exact bl_); (case aF => exact (fun _ _ => trivial)); (case aO => exact (by (with_reducible repeat (first | apply Kd.S_alloc | apply Kd.S_drewN | apply Kd.S_drew)); exact Kd.S_mono (Kd.S_far (p := ⟨gb375, 0, none⟩) (Kd.S_types HO374.out BK375.out (by decide)) (fun _ hk => hk.2) (.slice Ao9 y372.length co9)) (fun k_ hk => ⟨trivial, fun e_ => e_⟩))); (case aS => exact bls_); (case aL => have := LMc4.out; omega); intro v377 w13 ho hb hg hat; rw [← Ny376.out] at ho; replace BK371 := Aside0.mk (blk_grown (g := gb371) (o := .cells #[.int .i64 a1_0, .int .i64 a1_1, .int .i64 a1_2, .int .i64 a1_3, .int .i64 a1_4, .int .i64 a1_5, .int .i64 a1_6, .int .i64 a1_7, .int .i64 a1_8, .int .i64 a1_9] 46 (0, 0)) (bk_ BK371) hg (Kd.S_ne HO374.out BK371.out (by decide))); replace BK375 := Aside0.mk (blk_grown (g := gb375) (o := .cells #[.slice Ao9 y372.length co9] 173 (0, 0)) (bk_ BK375) hg (Kd.S_ne HO374.out BK375.out (by decide))); replace HB := Aside0.mk (hb); have HO378 := Aside0.mk (ho); clear HO374; clear ho hb hg hat; obtain ⟨Ao14, co14, eo14⟩ := Kd.S_slice HO378.out; subst eo14; have hcz15 := blk_cell BK375.out; have hfz15 := blk_frozen BK375.out))
  go_ret
  exact ⟨_, eq_, by (with_reducible repeat (first | apply Kd.S_alloc | apply Kd.S_drewN | apply Kd.S_drew)); exact Kd.S_mono (Kd.S_far (p := ⟨gb375, 0, none⟩) (Kd.S_types HO378.out BK375.out (by decide)) (fun _ hk => hk.2) (.slice Ao14 y376.length co14)) (fun _ hk => trivial), bl_⟩
 ·rw [if_neg c3] at H
  have c3b0 : (a1_0 == 1) = false := beq_eq_false_iff_ne.mpr c3
  have c3b1 : (a1_0 != 1) = true := bne_iff_ne.mpr c3
  by_cases c16 : a1_0 = 2
  ·rw [if_pos c16] at H
   have c16b0 : (a1_0 == 2) = true := beq_iff_eq.mpr c16
   have c16b1 : (a1_0 != 2) = false := bne_eq_false_iff_eq.mpr c16
   clear c16
   obtain ⟨t379, A17, H⟩ := bindE_ H
   have H' := Aside0.mk H
   clear H
   go_enter Try.func147, Try.ntmps147
   go_wp2_with (first | (go_at_call 155; go_in) | (go_end0; simp only []; go_at_K) | ((with_reducible refine gate_dst (N := 3) rfl ?_); refine box_event ?hg (N := 3) ?hd (cs := #[.int .i64 a1_0, .int .i64 a1_1, .int .i64 a1_2, .int .i64 a1_3, .int .i64 a1_4, .int .i64 a1_5, .int .i64 a1_6, .int .i64 a1_7, .int .i64 a1_8, .int .i64 a1_9]) (t := 46) ?hr ?_; (case hd => rfl); (case hg => rfl); (case hr => first | (go_simp; done) | (go_simp; rfl)); intro gb371 hg w18 hbox hb; have BK371 := Aside0.mk (hbox); have GW371 := gs_ hg; have GE371 := gs_ hg; replace HB := hbs_ hb; clear hb hbox hg) | ((with_reducible refine gate_dst (N := 16) rfl ?_); refine Kd.S_lit k177 _ 177 ?hg (N := 16) ?hd (xs := ([] : List (S177))) (inner := []) (ok := fun _ => True) (okp := fun _ => True) ?hr ?hp (fun _ hk => hk) trivial (Below.refl _ _) (Nat.le_refl _) (by simp) ?_; (case hd => rfl); (case hg => rfl); (case hr => first | (go_simp; done) | (go_simp; rfl)); (case hp => exact (Reps.none _ _)); intro v373 w19 ho20 hb hg_ hnew_; clear hg_ hnew_; (first | rw [← Ny372.out] at ho20 | (simp only [Int.reduceToNat] at ho20; rw [← Ny372.out] at ho20)); have HO374 := Aside0.mk (Kd.S_lower ho20 bls_); replace BK371 := bkb_ BK371 hb; replace HB := hbs_ hb; clear hb ho20) | ((with_reducible refine gate_dst (N := 5) rfl ?_); refine box_event ?hg (N := 5) ?hd (cs := #[.slice none 0 0]) (t := 173) ?hr ?_; (case hd => rfl); (case hg => rfl); (case hr => first | (go_simp; done) | (go_simp; rfl)); intro gb375 hg w21 hbox hb; replace HO374 := Aside0.mk (Kd.S_below (by (with_reducible repeat (first | apply Kd.S_alloc | apply Kd.S_drewN | apply Kd.S_drew)); exact HO374.out) hb); have BK375 := Aside0.mk (hbox); have GW375 := gs_ hg; have GE375 := gs_ hg; replace HB := hbs_ hb; have NB371_375 := nl_ hg BK371; have NB375_371 := nr_ hg BK371; replace BK371 := bkb_ BK371 hb; clear hb hbox hg; obtain ⟨Ao22, co22, eo22⟩ := Kd.S_slice HO374.out; subst eo22; have hnb23 := NB375_371.out; have hnc23 := NB371_375.out; have hcz24 := blk_cell BK375.out; have hfz24 := blk_frozen BK375.out; have hcz25 := blk_cell BK371.out; have hfz25 := blk_frozen BK371.out) | ((with_reducible refine gate_callee (f := 156) rfl ?_); refine goesC_ (some 31) Try.func156 #[.slice A0 l0.length c0, .agg #[.int .i64 a1_4, .int .i64 a1_5]] ?_; (with_reducible refine (impl_whoOf.calls k _ _ l0 a1_4 a1_5 t379 _ ?side1 ?side2 A17.out).mono ?_); (case side1 => exact Kd.C_below HR0.out bl_); (case side2 => exact HC0.out); rintro e w26 ⟨v380, rfl, ho0, hb⟩; refine ⟨_, rfl, ?_⟩; replace HO374 := Aside0.mk (Kd.S_elder' (by (with_reducible repeat (first | apply Kd.S_alloc | apply Kd.S_drewN | apply Kd.S_drew)); exact (Kd.S_mono (Kd.S_far (p := ⟨gb375, 0, none⟩) (Kd.S_types HO374.out BK375.out (by decide)) (fun _ hk => hk.2) (.slice Ao22 y372.length co22)) (fun _ h_ => h_.1))) (Kd.R_base ho0) hb); have HO381 := Aside0.mk (Kd.R_lower ho0 bls_); replace BK371 := Aside0.mk (blk_below (g := gb371) (o := .cells #[.int .i64 a1_0, .int .i64 a1_1, .int .i64 a1_2, .int .i64 a1_3, .int .i64 a1_4, .int .i64 a1_5, .int .i64 a1_6, .int .i64 a1_7, .int .i64 a1_8, .int .i64 a1_9] 46 (0, 0)) (bk_ BK371) hb); replace BK375 := Aside0.mk (blk_below (g := gb375) (o := .cells #[.slice Ao22 y372.length co22] 173 (0, 0)) (bk_ BK375) hb); replace HB := hbs_ hb; (try clear hb); (try clear hb2); (try clear hk); (try clear hi); (try clear ho0); obtain ⟨Ao27, co27, eo27⟩ := Kd.R_slice HO381.out; subst eo27))
   go_loopg [33] k (fun kq v33 w' => ∃ (x33_1 : Int) (x376000_1 : List (S177)) (u376000 : Value), v33 = .int .i64 x33_1 ∧ Aside0 (impl_derive.l0 kq l0 t379 (t379.length : Int) x33_1 a1_0 a1_1 a1_2 a1_3 a1_4 a1_5 a1_6 a1_7 a1_8 a1_9 x376000_1 = some r) ∧ Aside0 (kq ≤ k) ∧ Aside0 (Kd.R (Kd.int .i64) 3 w' w.heap.size (fun _ => True) (.slice Ao27 t379.length co27) t379) ∧ Aside0 (Kd.S k177 177 w' w.heap.size (fun k_ => some k_ ≠ ((.slice Ao27 t379.length co27) : Value).ownBlock) u376000 x376000_1) ∧ Aside0 (w'.heap[gb371]? = some (.cells #[.int .i64 a1_0, .int .i64 a1_1, .int .i64 a1_2, .int .i64 a1_3, .int .i64 a1_4, .int .i64 a1_5, .int .i64 a1_6, .int .i64 a1_7, .int .i64 a1_8, .int .i64 a1_9] 46 (0, 0))) ∧ Aside0 (w'.heap[gb375]? = some (.cells #[u376000] 173 (0, 0))) ∧ Aside0 (Below w.heap.size w w'))
   case atStart => exact ⟨(0), (y372), (.slice Ao22 y372.length co22), rf_, H', ⟨Nat.le_refl _⟩, ⟨by (with_reducible repeat (first | apply Kd.R_alloc | apply Kd.R_drewN | apply Kd.R_drew)); exact HO381.out⟩, ⟨by (with_reducible repeat (first | apply Kd.S_alloc | apply Kd.S_drewN | apply Kd.S_drew)); exact Kd.S_mono HO374.out (fun _ hk => hk.2)⟩, ⟨bk_ BK371⟩, ⟨bk_ BK375⟩, ⟨bl_⟩⟩
   case round =>
    clear H'
    try clear c1
    try clear c2
    try clear p2
    try clear c3
    try clear c3b0
    try clear c3b1
    try clear c4
    try clear c10
    try clear c14
    try clear c15
    try clear c16
    try clear c16b0
    try clear c16b1
    try clear c23
    try clear hcz11
    try clear hcz12
    try clear hcz15
    try clear hcz24
    try clear hcz25
    try clear hfz11
    try clear hfz12
    try clear hfz15
    try clear hfz24
    try clear hfz25
    obtain ⟨x33_1, x376000_1, u376000, rfl, HA, HK1, HO_31, HO_376000, BK371, BK375, HB⟩ := hrel
    cases gk with
    | zero => exact absurd HA.out (by simp [impl_derive.l0])
    | succ k1 =>
     have H := HA.out
     clear HA
     simp only [impl_derive.l0] at H
     by_cases c28 : x33_1 < (t379.length : Int)
     ·rw [if_pos c28] at H
      have c28b0 : decide (x33_1 < (t379.length : Int)) = true := decide_eq_true c28
      clear c28
      obtain ⟨c29b0, H⟩ := ifd_ H
      obtain ⟨c30b0, H⟩ := ifd_ H
      obtain ⟨c31b0, H⟩ := ifd_ H
      obtain ⟨c32b0, H⟩ := ifd_ H
      obtain ⟨y384, hy384⟩ : ∃ y_ : List Int, y_ = (([rd t379 x33_1] : List Int)) := ⟨_, rfl⟩
      replace H : (if x376000_1.length < 2932031007402 then (impl_derive.l0 k1 l0 t379 (t379.length : Int) (wrap64 (x33_1 + 1)) a1_0 a1_1 a1_2 a1_3 a1_4 a1_5 a1_6 a1_7 a1_8 a1_9 (x376000_1 ++ [(⟨(⟨(⟨a1_1, a1_2⟩ : S27), (rd_T29 l0 (rd t379 x33_1)).f1⟩ : S29), y384⟩ : S177)])) else (none)) = some r := by first | (rw [hy384]; with_reducible exact H) | (have H2_ := (Option.bind_some _ _).symm.trans H; rw [hy384]; with_reducible exact H2_) | (have H2_ := (Option.bind_some _ _).symm.trans H; with_reducible exact H2_) | with_reducible exact H | (rw [hy384]; exact H) | exact H
      have Ny384 := Aside0.mk hy384
      clear hy384
      obtain ⟨c33, H⟩ := ifn_ H
      have LMc33 := Aside0.mk c33
      clear c33
      obtain ⟨y387, hy387⟩ : ∃ y_ : List (S177), y_ = (x376000_1 ++ [(⟨(⟨(⟨a1_1, a1_2⟩ : S27), (rd_T29 l0 (rd t379 x33_1)).f1⟩ : S29), y384⟩ : S177)]) := ⟨_, rfl⟩
      replace H : (impl_derive.l0 k1 l0 t379 (t379.length : Int) (wrap64 (x33_1 + 1)) a1_0 a1_1 a1_2 a1_3 a1_4 a1_5 a1_6 a1_7 a1_8 a1_9 y387) = some r := by first | (rw [hy387]; with_reducible exact H) | (have H2_ := (Option.bind_some _ _).symm.trans H; rw [hy387]; with_reducible exact H2_) | (have H2_ := (Option.bind_some _ _).symm.trans H; with_reducible exact H2_) | with_reducible exact H | (rw [hy387]; exact H) | exact H
      have Ny387 := Aside0.mk hy387
      clear hy387
      have H' := Aside0.mk H
      clear H
      have p382 : 0 ≤ (x33_1 : Int) := od_
      have q382 : x33_1 < (t379.length : Int) := od_
      obtain ⟨ad382, e382, hx382_0⟩ := Kd.at_int (Kd.R_reads' HO_31.out).2.2 x33_1 p382 q382
      cases e382
      replace p382 := eq_true p382
      replace q382 := eq_true q382
      have p383 : 0 ≤ ((rd t379 x33_1) : Int) := od_
      have q383 : (rd t379 x33_1) < (l0.length : Int) := od_
      obtain ⟨ad383, e383, hx383_0, hx383_1, hx383_2⟩ := at_T29 (Kd.C_below HR0.out HB.out) (rd t379 x33_1) p383 q383
      cases e383
      replace p383 := eq_true p383
      replace q383 := eq_true q383
      go_wp2_with (first | (go_at_call 155; go_in) | (go_end0; simp only []; go_at_K) | ((with_reducible refine gate_dst (N := 44) rfl ?_); refine Kd.R_lit (Kd.int .i64) _ 3 ?hg (N := 44) ?hd (xs := ([rd t379 x33_1] : List Int)) (inner := [.int .i64 (rd t379 x33_1)]) (ok := fun _ => True) (okp := fun _ => True) ?hr ?hp (fun _ hk => hk) trivial (Below.refl _ _) (Nat.le_refl _) (by simp) ?_; (case hd => rfl); (case hg => rfl); (case hr => first | (go_simp; done) | (go_simp; rfl)); (case hp => exact (Reps.one (show Kd.M (Kd.int .i64) _ _ _ (rd t379 x33_1) [.int .i64 (rd t379 x33_1)] from rfl) (Reps.none _ _))); intro v385 w34 ho35 hb hg_ hnew_; clear hg_ hnew_; (first | rw [← Ny384.out] at ho35 | (simp only [Int.reduceToNat] at ho35; rw [← Ny384.out] at ho35)); replace HO_376000 := Aside0.mk (Kd.S_elder' (by (with_reducible repeat (first | apply Kd.S_alloc | apply Kd.S_drewN | apply Kd.S_drew)); exact HO_376000.out) (Kd.R_base ho35) hb); have HO386 := Aside0.mk (Kd.R_lower (Kd.R_new' ho35 (Kd.R_lt (by (with_reducible repeat (first | apply Kd.R_alloc | apply Kd.R_drewN | apply Kd.R_drew)); exact HO_31.out))) bls_); replace HO_31 := Aside0.mk (Kd.R_elder' (by (with_reducible repeat (first | apply Kd.R_alloc | apply Kd.R_drewN | apply Kd.R_drew)); exact HO_31.out) (Kd.R_base ho35) hb); replace BK371 := bkb_ BK371 hb; replace BK375 := bkb_ BK375 hb; replace HB := hbs_ hb; clear hb ho35; have hnb36 := NB375_371.out; have hnc36 := NB371_375.out; have hcz37 := blk_cell BK375.out; have hfz37 := blk_frozen BK375.out; have hcz38 := blk_cell BK371.out; have hfz38 := blk_frozen BK371.out; obtain ⟨Ao39, co39, eo39⟩ := Kd.R_slice HO386.out; subst eo39) | ((with_reducible refine gate_builtin (b := .append) (xs := #[.tmp 6, .tmp 13]) rfl ?_); at_builtin; refine Kd.S_append k177 (w0 := w) w.heap.size rfl (.tmp 6) (.tmp 13) 173 177 (.agg #[(.int .i64 0), (.int .i64 0), (.int .i64 0), (.slice none 0 0)]) 48 rfl Try.underlying173 info177 rfl (by decide) (by omega) u376000 x376000_1 (⟨(⟨(⟨a1_1, a1_2⟩ : S27), (rd_T29 l0 (rd t379 x33_1)).f1⟩ : S29), y384⟩ : S177) [.int .i64 a1_1, .int .i64 a1_2, .int .i64 ((rd_T29 l0 (rd t379 x33_1)).f1), .slice Ao39 y384.length co39] (fun k_ => some k_ ≠ (.slice (some ad382) t379.length co27 : Value).ownBlock) (fun k_ => some k_ = (.slice Ao39 y384.length co39 : Value).ownBlock) rfl rfl ?aP (fun k_ hk_ => ((Kd.R_mono (ok' := fun k_ => ((fun k_ => some k_ ≠ (.slice (some ad382) t379.length co27 : Value).ownBlock)) k_ ∧ some k_ ≠ (u376000 : Value).ownBlock) (Kd.R_apart' (HO386.out) (Kd.S_typed HO_376000.out) (by decide)) (fun k_ hk => ⟨hk.1.2, hk.2⟩))).1 k_ hk_.symm) ?aF ?aO ?aB ?aS ?aL ?_; (case aP => exact k177_mkM _ _ _ (⟨(⟨(⟨a1_1, a1_2⟩ : S27), (rd_T29 l0 (rd t379 x33_1)).f1⟩ : S29), y384⟩ : S177) (Kd.R_mono (Kd.R_tight rfl (Kd.R_mono (ok' := fun k_ => ((fun k_ => some k_ ≠ (.slice (some ad382) t379.length co27 : Value).ownBlock)) k_ ∧ some k_ ≠ (u376000 : Value).ownBlock) (Kd.R_apart' (HO386.out) (Kd.S_typed HO_376000.out) (by decide)) (fun k_ hk => ⟨hk.1.2, hk.2⟩))) (fun _ h_ => h_))); (case aB => exact bl_); (case aF => exact (fun k_ hk => Kd.fresh' (Kd.R_lt (by (with_reducible repeat (first | apply Kd.R_alloc | apply Kd.R_drewN | apply Kd.R_drew)); exact HO_31.out)) k_ hk)); (case aO => exact (by (with_reducible repeat (first | apply Kd.S_alloc | apply Kd.S_drewN | apply Kd.S_drew)); exact Kd.S_mono HO_376000.out (fun k_ hk => ⟨hk.1, fun e_ => hk.2 e_⟩))); (case aS => exact bls_); (case aL => have := LMc33.out; omega); intro v388 w40 ho hb hg hat; rw [← Ny387.out] at ho; replace HO_31 := Aside0.mk (Kd.R_over' (by (with_reducible repeat (first | apply Kd.R_alloc | apply Kd.R_drewN | apply Kd.R_drew)); exact HO_31.out) (Kd.S_typed (by (with_reducible repeat (first | apply Kd.S_alloc | apply Kd.S_drewN | apply Kd.S_drew)); exact HO_376000.out)) (by decide) hg); replace BK371 := Aside0.mk (blk_grown (g := gb371) (o := .cells #[.int .i64 a1_0, .int .i64 a1_1, .int .i64 a1_2, .int .i64 a1_3, .int .i64 a1_4, .int .i64 a1_5, .int .i64 a1_6, .int .i64 a1_7, .int .i64 a1_8, .int .i64 a1_9] 46 (0, 0)) (bk_ BK371) hg (Kd.S_ne HO_376000.out BK371.out (by decide))); replace BK375 := Aside0.mk (blk_grown (g := gb375) (o := .cells #[u376000] 173 (0, 0)) (bk_ BK375) hg (Kd.S_ne HO_376000.out BK375.out (by decide))); replace HB := Aside0.mk (hb); have HO389 := Aside0.mk (ho); clear HO_376000; clear HO386; clear ho hb hg hat; obtain ⟨Ao41, co41, eo41⟩ := Kd.S_slice HO389.out; subst eo41; have hcz42 := blk_cell BK375.out; have hfz42 := blk_frozen BK375.out))
      go_roundg k1
      case measure => have := HK1.out; omega
      case rel => exact ⟨(wrap64 (x33_1 + 1)), (y387), (.slice Ao41 y387.length co41), rf_, H', ⟨by have := HK1.out; omega⟩, ⟨by (with_reducible repeat (first | apply Kd.R_alloc | apply Kd.R_drewN | apply Kd.R_drew)); exact Kd.R_mono (Kd.R_far (p := ⟨gb375, 0, none⟩) (Kd.R_types HO_31.out BK375.out (by decide)) (fun _ hk => hk.2) (.slice Ao41 y387.length co41)) (fun _ hk => trivial)⟩, ⟨by (with_reducible repeat (first | apply Kd.S_alloc | apply Kd.S_drewN | apply Kd.S_drew)); exact Kd.S_mono (Kd.S_far (p := ⟨gb375, 0, none⟩) (Kd.S_types HO389.out BK375.out (by decide)) (fun _ hk => hk.2) (.slice Ao41 y387.length co41)) (fun _ hk => hk.1)⟩, ⟨bk_ BK371⟩, ⟨bk_ BK375⟩, ⟨bl_⟩⟩
     ·rw [if_neg c28] at H
      have c28b0 : decide (x33_1 < (t379.length : Int)) = false := decide_eq_false c28
      clear c28
      obtain rfl := Option.some.inj H
      have hnb43 := NB375_371.out
      have hnc43 := NB371_375.out
      have hcz44 := blk_cell BK375.out
      have hfz44 := blk_frozen BK375.out
      go_wp2
      go_ret
      exact ⟨_, eq_, by (with_reducible repeat (first | apply Kd.S_alloc | apply Kd.S_drewN | apply Kd.S_drew)); exact Kd.S_mono HO_376000.out (fun _ hk => trivial), bl_⟩
  ·rw [if_neg c16] at H
   have c16b0 : (a1_0 == 2) = false := beq_eq_false_iff_ne.mpr c16
   have c16b1 : (a1_0 != 2) = true := bne_iff_ne.mpr c16
   by_cases c45 : a1_0 = 3
   ·rw [if_pos c45] at H
    have c45b0 : (a1_0 == 3) = true := beq_iff_eq.mpr c45
    have c45b1 : (a1_0 != 3) = false := bne_eq_false_iff_eq.mpr c45
    clear c45
    obtain ⟨t390, A46, H⟩ := bindE_ H
    have H' := Aside0.mk H
    clear H
    go_enter Try.func147, Try.ntmps147
    go_wp2_with (first | (go_at_call 155; go_in) | (go_end0; simp only []; go_at_K) | ((with_reducible refine gate_dst (N := 3) rfl ?_); refine box_event ?hg (N := 3) ?hd (cs := #[.int .i64 a1_0, .int .i64 a1_1, .int .i64 a1_2, .int .i64 a1_3, .int .i64 a1_4, .int .i64 a1_5, .int .i64 a1_6, .int .i64 a1_7, .int .i64 a1_8, .int .i64 a1_9]) (t := 46) ?hr ?_; (case hd => rfl); (case hg => rfl); (case hr => first | (go_simp; done) | (go_simp; rfl)); intro gb371 hg w47 hbox hb; have BK371 := Aside0.mk (hbox); have GW371 := gs_ hg; have GE371 := gs_ hg; replace HB := hbs_ hb; clear hb hbox hg) | ((with_reducible refine gate_dst (N := 16) rfl ?_); refine Kd.S_lit k177 _ 177 ?hg (N := 16) ?hd (xs := ([] : List (S177))) (inner := []) (ok := fun _ => True) (okp := fun _ => True) ?hr ?hp (fun _ hk => hk) trivial (Below.refl _ _) (Nat.le_refl _) (by simp) ?_; (case hd => rfl); (case hg => rfl); (case hr => first | (go_simp; done) | (go_simp; rfl)); (case hp => exact (Reps.none _ _)); intro v373 w48 ho49 hb hg_ hnew_; clear hg_ hnew_; (first | rw [← Ny372.out] at ho49 | (simp only [Int.reduceToNat] at ho49; rw [← Ny372.out] at ho49)); have HO374 := Aside0.mk (Kd.S_lower ho49 bls_); replace BK371 := bkb_ BK371 hb; replace HB := hbs_ hb; clear hb ho49) | ((with_reducible refine gate_dst (N := 5) rfl ?_); refine box_event ?hg (N := 5) ?hd (cs := #[.slice none 0 0]) (t := 173) ?hr ?_; (case hd => rfl); (case hg => rfl); (case hr => first | (go_simp; done) | (go_simp; rfl)); intro gb375 hg w50 hbox hb; replace HO374 := Aside0.mk (Kd.S_below (by (with_reducible repeat (first | apply Kd.S_alloc | apply Kd.S_drewN | apply Kd.S_drew)); exact HO374.out) hb); have BK375 := Aside0.mk (hbox); have GW375 := gs_ hg; have GE375 := gs_ hg; replace HB := hbs_ hb; have NB371_375 := nl_ hg BK371; have NB375_371 := nr_ hg BK371; replace BK371 := bkb_ BK371 hb; clear hb hbox hg; obtain ⟨Ao51, co51, eo51⟩ := Kd.S_slice HO374.out; subst eo51; have hnb52 := NB375_371.out; have hnc52 := NB371_375.out; have hcz53 := blk_cell BK375.out; have hfz53 := blk_frozen BK375.out; have hcz54 := blk_cell BK371.out; have hfz54 := blk_frozen BK371.out) | ((with_reducible refine gate_callee (f := 156) rfl ?_); refine goesC_ (some 52) Try.func156 #[.slice A0 l0.length c0, .agg #[.int .i64 a1_4, .int .i64 a1_5]] ?_; (with_reducible refine (impl_whoOf.calls k _ _ l0 a1_4 a1_5 t390 _ ?side1 ?side2 A46.out).mono ?_); (case side1 => exact Kd.C_below HR0.out bl_); (case side2 => exact HC0.out); rintro e w55 ⟨v391, rfl, ho0, hb⟩; refine ⟨_, rfl, ?_⟩; replace HO374 := Aside0.mk (Kd.S_elder' (by (with_reducible repeat (first | apply Kd.S_alloc | apply Kd.S_drewN | apply Kd.S_drew)); exact (Kd.S_mono (Kd.S_far (p := ⟨gb375, 0, none⟩) (Kd.S_types HO374.out BK375.out (by decide)) (fun _ hk => hk.2) (.slice Ao51 y372.length co51)) (fun _ h_ => h_.1))) (Kd.R_base ho0) hb); have HO392 := Aside0.mk (Kd.R_lower ho0 bls_); replace BK371 := Aside0.mk (blk_below (g := gb371) (o := .cells #[.int .i64 a1_0, .int .i64 a1_1, .int .i64 a1_2, .int .i64 a1_3, .int .i64 a1_4, .int .i64 a1_5, .int .i64 a1_6, .int .i64 a1_7, .int .i64 a1_8, .int .i64 a1_9] 46 (0, 0)) (bk_ BK371) hb); replace BK375 := Aside0.mk (blk_below (g := gb375) (o := .cells #[.slice Ao51 y372.length co51] 173 (0, 0)) (bk_ BK375) hb); replace HB := hbs_ hb; (try clear hb); (try clear hb2); (try clear hk); (try clear hi); (try clear ho0); obtain ⟨Ao56, co56, eo56⟩ := Kd.R_slice HO392.out; subst eo56))
    go_loopg [54] k (fun kq v54 w' => ∃ (x54_1 : Int) (x376000_1 : List (S177)) (u376000 : Value), v54 = .int .i64 x54_1 ∧ Aside0 (impl_derive.l1 kq l0 t390 (t390.length : Int) x54_1 a1_0 a1_1 a1_2 a1_3 a1_4 a1_5 a1_6 a1_7 a1_8 a1_9 x376000_1 = some r) ∧ Aside0 (kq ≤ k) ∧ Aside0 (Kd.R (Kd.int .i64) 3 w' w.heap.size (fun _ => True) (.slice Ao56 t390.length co56) t390) ∧ Aside0 (Kd.S k177 177 w' w.heap.size (fun k_ => some k_ ≠ ((.slice Ao56 t390.length co56) : Value).ownBlock) u376000 x376000_1) ∧ Aside0 (w'.heap[gb371]? = some (.cells #[.int .i64 a1_0, .int .i64 a1_1, .int .i64 a1_2, .int .i64 a1_3, .int .i64 a1_4, .int .i64 a1_5, .int .i64 a1_6, .int .i64 a1_7, .int .i64 a1_8, .int .i64 a1_9] 46 (0, 0))) ∧ Aside0 (w'.heap[gb375]? = some (.cells #[u376000] 173 (0, 0))) ∧ Aside0 (Below w.heap.size w w'))
    case atStart => exact ⟨(0), (y372), (.slice Ao51 y372.length co51), rf_, H', ⟨Nat.le_refl _⟩, ⟨by (with_reducible repeat (first | apply Kd.R_alloc | apply Kd.R_drewN | apply Kd.R_drew)); exact HO392.out⟩, ⟨by (with_reducible repeat (first | apply Kd.S_alloc | apply Kd.S_drewN | apply Kd.S_drew)); exact Kd.S_mono HO374.out (fun _ hk => hk.2)⟩, ⟨bk_ BK371⟩, ⟨bk_ BK375⟩, ⟨bl_⟩⟩
    case round =>
     clear H'
     try clear c1
     try clear c2
     try clear p2
     try clear c3
     try clear c3b0
     try clear c3b1
     try clear p3
     try clear q3
     try clear hx3
     try clear c4
     try clear c5
     try clear p6
     try clear c10
     try clear c14
     try clear c15
     try clear c16
     try clear c16b0
     try clear c16b1
     try clear c23
     try clear c28
     try clear c28b0
     try clear c29
     try clear c29b0
     try clear c30
     try clear c30b0
     try clear c31
     try clear c31b0
     try clear c32
     try clear c32b0
     try clear c33
     try clear c36
     try clear p38
     try clear q38
     try clear hx38
     try clear c43
     try clear c45
     try clear c45b0
     try clear c45b1
     try clear c52
     try clear hcz11
     try clear hcz12
     try clear hcz15
     try clear hcz24
     try clear hcz25
     try clear hcz37
     try clear hcz38
     try clear hcz42
     try clear hcz44
     try clear hcz53
     try clear hcz54
     try clear hfz11
     try clear hfz12
     try clear hfz15
     try clear hfz24
     try clear hfz25
     try clear hfz37
     try clear hfz38
     try clear hfz42
     try clear hfz44
     try clear hfz53
     try clear hfz54
     try clear hx382_0
     try clear hx383_0
     try clear hx383_1
     try clear hx383_2
     try clear p2
     try clear p382
     try clear p383
     try clear q382
     try clear q383
     obtain ⟨x54_1, x376000_1, u376000, rfl, HA, HK1, HO_52, HO_376000, BK371, BK375, HB⟩ := hrel
     cases gk with
     | zero => exact absurd HA.out (by simp [impl_derive.l1])
     | succ k1 =>
      have H := HA.out
      clear HA
      simp only [impl_derive.l1] at H
      by_cases c57 : x54_1 < (t390.length : Int)
      ·rw [if_pos c57] at H
       have c57b0 : decide (x54_1 < (t390.length : Int)) = true := decide_eq_true c57
       clear c57
       obtain ⟨c58b0, H⟩ := ifd_ H
       obtain ⟨c59b0, H⟩ := ifd_ H
       obtain ⟨c60b0, H⟩ := ifd_ H
       obtain ⟨c61b0, H⟩ := ifd_ H
       obtain ⟨t395, A62, H⟩ := bindE_ H
       have H' := Aside0.mk H
       clear H
       have p393 : 0 ≤ (x54_1 : Int) := od_
       have q393 : x54_1 < (t390.length : Int) := od_
       obtain ⟨ad393, e393, hx393_0⟩ := Kd.at_int (Kd.R_reads' HO_52.out).2.2 x54_1 p393 q393
       cases e393
       replace p393 := eq_true p393
       replace q393 := eq_true q393
       try go_wp2
       replace HO_52 := Aside0.mk (Kd.R_drew HO_52.out)
       replace HO_376000 := Aside0.mk (Kd.S_drew HO_376000.out)
       replace BK371 := Aside0.mk (blk_drew BK371.out)
       replace BK375 := Aside0.mk (blk_drew BK375.out)
       replace HB := Aside0.mk (below_drew1 HB.out)
       have p394 : 0 ≤ ((rd t390 x54_1) : Int) := od_
       have q394 : (rd t390 x54_1) < (l0.length : Int) := od_
       obtain ⟨ad394, e394, hx394_0, hx394_1, hx394_2⟩ := at_T29 HR0.out (rd t390 x54_1) p394 q394
       have hw394_2 := hx394_2
       have hw394_1 := hx394_1
       have hw394_0 := hx394_0
       cases e394
       replace hx394_0 := cb_ HB hx394_0
       replace hx394_1 := cb_ HB hx394_1
       replace hx394_2 := cb_ HB hx394_2
       replace p394 := eq_true p394
       replace q394 := eq_true q394
       refine start_ (n := 13) (S := fun w' => w'.cell? ⟨gb371, 0, none⟩ = some (.int .i64 a1_0) ∧ w'.cell? ⟨gb371, 1, none⟩ = some (.int .i64 a1_1) ∧ w'.cell? ⟨gb371, 2, none⟩ = some (.int .i64 a1_2) ∧ w'.cell? ⟨gb371, 3, none⟩ = some (.int .i64 a1_3) ∧ w'.cell? ⟨gb371, 4, none⟩ = some (.int .i64 a1_4) ∧ w'.cell? ⟨gb371, 5, none⟩ = some (.int .i64 a1_5) ∧ w'.cell? ⟨gb371, 6, none⟩ = some (.int .i64 a1_6) ∧ w'.cell? ⟨gb371, 7, none⟩ = some (.int .i64 a1_7) ∧ w'.cell? ⟨gb371, 8, none⟩ = some (.int .i64 a1_8) ∧ w'.cell? ⟨gb371, 9, none⟩ = some (.int .i64 a1_9) ∧ w'.cell? (ad394.add (((rd t390 x54_1)).toNat * 3)) = some (.int .i64 ((rd_T29 l0 (rd t390 x54_1)).f0.f0)) ∧ w'.cell? ⟨(ad394.add (((rd t390 x54_1)).toNat * 3)).block, (ad394.add (((rd t390 x54_1)).toNat * 3)).off + 1, none⟩ = some (.int .i64 ((rd_T29 l0 (rd t390 x54_1)).f0.f1)) ∧ w'.cell? ⟨(ad394.add (((rd t390 x54_1)).toNat * 3)).block, (ad394.add (((rd t390 x54_1)).toNat * 3)).off + 2, none⟩ = some (.int .i64 ((rd_T29 l0 (rd t390 x54_1)).f1))) (ds := []) #[false, false, false, false, false, false, false, false, false, false, false, false, false] (by kernel_rfl) rfl rfl ⟨(blk_cell BK371.out 0).trans rfl, (blk_cell BK371.out 1).trans rfl, (blk_cell BK371.out 2).trans rfl, (blk_cell BK371.out 3).trans rfl, (blk_cell BK371.out 4).trans rfl, (blk_cell BK371.out 5).trans rfl, (blk_cell BK371.out 6).trans rfl, (blk_cell BK371.out 7).trans rfl, (blk_cell BK371.out 8).trans rfl, (blk_cell BK371.out 9).trans rfl, ((HB.out.cell (World.block_lt_of_cell? w _ hw394_0)).trans hw394_0), ((HB.out.cell (World.block_lt_of_cell? w _ hw394_1)).trans hw394_1), ((HB.out.cell (World.block_lt_of_cell? w _ hw394_2)).trans hw394_2)⟩ (fun hHeld => ?_); refine with_tabW impl_derive.tab16 impl_derive.bits16 (fun HT_ HW_ => ?_)
       generalize wr.drew = w63 at HO_52 HO_376000 BK371 BK375 HB hx394_0 hx394_1 hx394_2 hHeld ⊢
       refine pureZ_ (i := 0) (some 58) #[true, false, false, false, false, false, false, false, false, false, false, false, false] (any_of HT_.out (by kernel_rfl)) ?_
       refine pureZ_ (i := 1) (some 59) #[true, true, false, false, false, false, false, false, false, false, false, false, false] (any_of HT_.out (by kernel_rfl)) ?_
       refine pureZ_ (i := 2) (some 60) #[true, true, true, false, false, false, false, false, false, false, false, false, false] (any_of HT_.out (by kernel_rfl)) ?_
       refine pureZ_ (i := 3) (some 61) #[true, true, true, true, false, false, false, false, false, false, false, false, false] (any_of HT_.out (by kernel_rfl)) ?_
       refine pureZ_ (i := 4) (some 62) #[true, true, true, true, true, false, false, false, false, false, false, false, false] (any_of HT_.out (by kernel_rfl)) ?_
       refine pureZ_ (i := 6) (some 64) #[true, true, true, true, true, false, true, false, false, false, false, false, false] (any_of HT_.out (by kernel_rfl)) ?_
       refine pureZ_ (i := 7) (some 65) #[true, true, true, true, true, false, true, true, false, false, false, false, false] (any_of HT_.out (by kernel_rfl)) ?_
       refine pureZ_ (i := 12) (some 70) #[true, true, true, true, true, false, true, true, false, false, false, false, true] (any_of HT_.out (by kernel_rfl)) ?_
       refine takeZ_ (i := 5) (some 63) #[true, true, true, true, true, true, true, true, false, false, false, false, true] (take_ofW HT_.out HW_.out (by kernel_rfl)) hHeld ?_
       refine takeZ_ (i := 8) (some 66) #[true, true, true, true, true, true, true, true, true, false, false, false, true] (take_ofW HT_.out HW_.out (by kernel_rfl)) hHeld ?_
       refine pureZ_ (i := 9) (some 67) #[true, true, true, true, true, true, true, true, true, true, false, false, true] (any_of HT_.out (by kernel_rfl)) ?_
       refine one_ (i := 10) (N := some 68) #[true, true, true, true, true, true, true, true, true, true, true, false, true] rfl rfl (one_of HT_.out (by kernel_rfl)) (by decide) (fun K hK => ?_)
       refine goes_ Try.func156 (by kernel_rfl) rfl #[.slice (some ad394) l0.length c0, .agg #[.int .i64 ((rd_T29 l0 (rd t390 x54_1)).f1), .int .i64 a1_7]] (by rfl) rfl rfl (by (try simp only [List.map_toArray, List.map_cons, List.map_nil]); first | done | rfl | (simp only [List.length_drop, List.length_take]; rfl)) ?_
       with_reducible refine (impl_whoOf.calls k1 _ _ l0 ((rd_T29 l0 (rd t390 x54_1)).f1) a1_7 t395 _ ?side1 ?side2 A62.out).mono ?_
       (case side1 => repeat (first | exact (Kd.C_below HR0.out HB.out) | (with_reducible refine Kd.C_alloc ?_ _) | (with_reducible refine Kd.C_drewN ?_ _) | (with_reducible refine Kd.C_drew ?_)))
       (case side2 => exact HC0.out)
       rintro e w64 ⟨v396, rfl, ho0, hb⟩
       refine ⟨_, rfl, ?_⟩
       replace HO_376000 := Aside0.mk (Kd.S_elder' (by (with_reducible repeat (first | apply Kd.S_alloc | apply Kd.S_drewN | apply Kd.S_drew)); exact HO_376000.out) (Kd.R_base ho0) hb)
       have HO397 := Aside0.mk (Kd.R_lower (Kd.R_new' ho0 (Kd.R_lt (by (with_reducible repeat (first | apply Kd.R_alloc | apply Kd.R_drewN | apply Kd.R_drew)); exact HO_52.out))) bls_)
       replace HO_52 := Aside0.mk (Kd.R_elder' (by (with_reducible repeat (first | apply Kd.R_alloc | apply Kd.R_drewN | apply Kd.R_drew)); exact HO_52.out) (Kd.R_base ho0) hb)
       replace BK371 := bkb_ BK371 hb
       replace BK375 := bkb_ BK375 hb
       replace HB := hbs_ hb
       (try clear hb)
       (try clear hb2)
       (try clear hk)
       (try clear hi)
       (try clear ho0)
       obtain ⟨Ao65, co65, eo65⟩ := Kd.R_slice HO397.out
       (first | subst eo65 | (injection eo65 with f1_ f2_ f3_; have f4_ := f1_.symm; have f5_ := f3_.symm; clear f1_ f2_ f3_; subst f4_; subst f5_))
       refine hK.out _ _ ⟨(blk_cell BK371.out 0).trans rfl, (blk_cell BK371.out 1).trans rfl, (blk_cell BK371.out 2).trans rfl, (blk_cell BK371.out 3).trans rfl, (blk_cell BK371.out 4).trans rfl, (blk_cell BK371.out 5).trans rfl, (blk_cell BK371.out 6).trans rfl, (blk_cell BK371.out 7).trans rfl, (blk_cell BK371.out 8).trans rfl, (blk_cell BK371.out 9).trans rfl, ((HB.out.cell (World.block_lt_of_cell? w _ hw394_0)).trans hw394_0), ((HB.out.cell (World.block_lt_of_cell? w _ hw394_1)).trans hw394_1), ((HB.out.cell (World.block_lt_of_cell? w _ hw394_2)).trans hw394_2)⟩ (fun hHeld => ?_)
       clear hK K
       refine norm_ (a' := ?_) ?_ ?_
       rotate_left
       ·show Act.put _ (some 68) _ = _
        simp only [Act.put, List.setIfInBounds_toArray, List.set_cons_zero, List.set_cons_succ, i64_w, i32_w]
        rfl
       refine pureZ_ (i := 11) (some 69) #[true, true, true, true, true, true, true, true, true, true, true, true, true] (any_of HT_.out (by kernel_rfl)) ?_
       refine done_ (done_of HT_.out (by kernel_rfl)) ?_
       try go_wp2
       go_loopg [70] k1 (fun kq v70 w' => ∃ (x70_2 : Int) (x376000_2 : List (S177)) (u376000 : Value), v70 = .int .i64 x70_2 ∧ Aside0 (impl_derive.l2 kq l0 (rd t390 x54_1) t390 (t390.length : Int) x54_1 t395 (t395.length : Int) x70_2 a1_0 a1_1 a1_2 a1_3 a1_4 a1_5 a1_6 a1_7 a1_8 a1_9 x376000_2 = some r) ∧ Aside0 (kq ≤ k1) ∧ Aside0 (Kd.R (Kd.int .i64) 3 w' w.heap.size (fun k_ => some k_ ≠ ((.slice Ao65 t395.length co65) : Value).ownBlock) (.slice (some ad393) t390.length co56) t390) ∧ Aside0 (Kd.R (Kd.int .i64) 3 w' w.heap.size (fun k_ => some k_ ≠ ((.slice (some ad393) t390.length co56) : Value).ownBlock) (.slice Ao65 t395.length co65) t395) ∧ Aside0 (Kd.S k177 177 w' w.heap.size (fun k_ => some k_ ≠ ((.slice (some ad393) t390.length co56) : Value).ownBlock ∧ some k_ ≠ ((.slice Ao65 t395.length co65) : Value).ownBlock) u376000 x376000_2) ∧ Aside0 (w'.heap[gb371]? = some (.cells #[.int .i64 a1_0, .int .i64 a1_1, .int .i64 a1_2, .int .i64 a1_3, .int .i64 a1_4, .int .i64 a1_5, .int .i64 a1_6, .int .i64 a1_7, .int .i64 a1_8, .int .i64 a1_9] 46 (0, 0))) ∧ Aside0 (w'.heap[gb375]? = some (.cells #[u376000] 173 (0, 0))) ∧ Aside0 (Below w.heap.size w w'))
       case atStart => exact ⟨(0), (x376000_1), (u376000), rf_, H', ⟨Nat.le_refl _⟩, ⟨by (with_reducible repeat (first | apply Kd.R_alloc | apply Kd.R_drewN | apply Kd.R_drew)); exact Kd.R_mono HO_52.out (fun _ hk => hk.2)⟩, ⟨by (with_reducible repeat (first | apply Kd.R_alloc | apply Kd.R_drewN | apply Kd.R_drew)); exact Kd.R_mono HO397.out (fun _ hk => hk.2)⟩, ⟨by (with_reducible repeat (first | apply Kd.S_alloc | apply Kd.S_drewN | apply Kd.S_drew)); exact HO_376000.out⟩, ⟨bk_ BK371⟩, ⟨bk_ BK375⟩, ⟨bl_⟩⟩
       case round =>
        clear H'
        try clear c1
        try clear c2
        try clear p2
        try clear c3
        try clear c3b0
        try clear c3b1
        try clear p3
        try clear q3
        try clear hx3
        try clear c4
        try clear c5
        try clear c6
        try clear p6
        try clear c10
        try clear c14
        try clear c15
        try clear c16
        try clear c16b0
        try clear c16b1
        try clear c23
        try clear c28
        try clear c28b0
        try clear c29
        try clear c29b0
        try clear c30
        try clear c30b0
        try clear c31
        try clear c31b0
        try clear c32
        try clear c32b0
        try clear c33
        try clear c36
        try clear p38
        try clear q38
        try clear hx38
        try clear p39
        try clear q39
        try clear hx39
        try clear c43
        try clear c45
        try clear c45b0
        try clear c45b1
        try clear c52
        try clear c57
        try clear c57b0
        try clear c58
        try clear c58b0
        try clear c59
        try clear c59b0
        try clear c60
        try clear c60b0
        try clear c61
        try clear c61b0
        try clear p64
        try clear hcz11
        try clear hcz12
        try clear hcz15
        try clear hcz24
        try clear hcz25
        try clear hcz37
        try clear hcz38
        try clear hcz42
        try clear hcz44
        try clear hcz53
        try clear hcz54
        try clear hfz11
        try clear hfz12
        try clear hfz15
        try clear hfz24
        try clear hfz25
        try clear hfz37
        try clear hfz38
        try clear hfz42
        try clear hfz44
        try clear hfz53
        try clear hfz54
        try clear hx382_0
        try clear hx383_0
        try clear hx383_1
        try clear hx383_2
        try clear hx393_0
        try clear hx394_0
        try clear hx394_1
        try clear hx394_2
        try clear p2
        try clear p3
        try clear p38
        try clear p382
        try clear p383
        try clear p393
        try clear p394
        try clear p6
        try clear q3
        try clear q38
        try clear q382
        try clear q383
        try clear q393
        try clear q394
        obtain ⟨x70_2, x376000_2, u376000, rfl, HA, HK2, HO_52, HO_68, HO_376000, BK371, BK375, HB⟩ := hrel
        cases gk with
        | zero => exact absurd HA.out (by simp [impl_derive.l2])
        | succ k2 =>
         have H := HA.out
         clear HA
         simp only [impl_derive.l2] at H
         by_cases c66 : x70_2 < (t395.length : Int)
         ·rw [if_pos c66] at H
          have c66b0 : decide (x70_2 < (t395.length : Int)) = true := decide_eq_true c66
          clear c66
          obtain ⟨c67b0, H⟩ := ifd_ H
          obtain ⟨c68b0, H⟩ := ifd_ H
          obtain ⟨c69b0, H⟩ := ifd_ H
          obtain ⟨c70b0, H⟩ := ifd_ H
          obtain ⟨y400, hy400⟩ : ∃ y_ : List Int, y_ = (([(rd t390 x54_1), rd t395 x70_2] : List Int)) := ⟨_, rfl⟩
          replace H : (if x376000_2.length < 2932031007402 then (impl_derive.l2 k2 l0 (rd t390 x54_1) t390 (t390.length : Int) x54_1 t395 (t395.length : Int) (wrap64 (x70_2 + 1)) a1_0 a1_1 a1_2 a1_3 a1_4 a1_5 a1_6 a1_7 a1_8 a1_9 (x376000_2 ++ [(⟨(⟨(⟨a1_1, a1_2⟩ : S27), (rd_T29 l0 (rd t395 x70_2)).f1⟩ : S29), y400⟩ : S177)])) else (none)) = some r := by first | (rw [hy400]; with_reducible exact H) | (have H2_ := (Option.bind_some _ _).symm.trans H; rw [hy400]; with_reducible exact H2_) | (have H2_ := (Option.bind_some _ _).symm.trans H; with_reducible exact H2_) | with_reducible exact H | (rw [hy400]; exact H) | exact H
          have Ny400 := Aside0.mk hy400
          clear hy400
          obtain ⟨c71, H⟩ := ifn_ H
          have LMc71 := Aside0.mk c71
          clear c71
          obtain ⟨y403, hy403⟩ : ∃ y_ : List (S177), y_ = (x376000_2 ++ [(⟨(⟨(⟨a1_1, a1_2⟩ : S27), (rd_T29 l0 (rd t395 x70_2)).f1⟩ : S29), y400⟩ : S177)]) := ⟨_, rfl⟩
          replace H : (impl_derive.l2 k2 l0 (rd t390 x54_1) t390 (t390.length : Int) x54_1 t395 (t395.length : Int) (wrap64 (x70_2 + 1)) a1_0 a1_1 a1_2 a1_3 a1_4 a1_5 a1_6 a1_7 a1_8 a1_9 y403) = some r := by first | (rw [hy403]; with_reducible exact H) | (have H2_ := (Option.bind_some _ _).symm.trans H; rw [hy403]; with_reducible exact H2_) | (have H2_ := (Option.bind_some _ _).symm.trans H; with_reducible exact H2_) | with_reducible exact H | (rw [hy403]; exact H) | exact H
          have Ny403 := Aside0.mk hy403
          clear hy403
          have H' := Aside0.mk H
          clear H
          have p398 : 0 ≤ (x70_2 : Int) := od_
          have q398 : x70_2 < (t395.length : Int) := od_
          obtain ⟨ad398, e398, hx398_0⟩ := Kd.at_int (Kd.R_reads' HO_68.out).2.2 x70_2 p398 q398
          cases e398
          replace p398 := eq_true p398
          replace q398 := eq_true q398
          have p399 : 0 ≤ ((rd t395 x70_2) : Int) := od_
          have q399 : (rd t395 x70_2) < (l0.length : Int) := od_
          obtain ⟨ad399, e399, hx399_0, hx399_1, hx399_2⟩ := at_T29 HR0.out (rd t395 x70_2) p399 q399
          obtain rfl : ad394 = ad399 := (by injection e399)
          replace hx399_0 := cb_ HB hx399_0
          replace hx399_1 := cb_ HB hx399_1
          replace hx399_2 := cb_ HB hx399_2
          replace p399 := eq_true p399
          replace q399 := eq_true q399
          go_wp2_with (first | (go_at_call 155; go_in) | (go_end0; simp only []; go_at_K) | ((with_reducible refine gate_dst (N := 82) rfl ?_); refine Kd.R_lit (Kd.int .i64) _ 3 ?hg (N := 82) ?hd (xs := ([(rd t390 x54_1), rd t395 x70_2] : List Int)) (inner := [.int .i64 (rd t390 x54_1), .int .i64 (rd t395 x70_2)]) (ok := fun _ => True) (okp := fun _ => True) ?hr ?hp (fun _ hk => hk) trivial (Below.refl _ _) (Nat.le_refl _) (by simp) ?_; (case hd => rfl); (case hg => rfl); (case hr => first | (go_simp; done) | (go_simp; rfl)); (case hp => exact (Reps.one (show Kd.M (Kd.int .i64) _ _ _ (rd t390 x54_1) [.int .i64 (rd t390 x54_1)] from rfl) (Reps.one (show Kd.M (Kd.int .i64) _ _ _ (rd t395 x70_2) [.int .i64 (rd t395 x70_2)] from rfl) (Reps.none _ _)))); intro v401 w72 ho73 hb hg_ hnew_; clear hg_ hnew_; (first | rw [← Ny400.out] at ho73 | (simp only [Int.reduceToNat] at ho73; rw [← Ny400.out] at ho73)); replace HO_376000 := Aside0.mk (Kd.S_elder' (by (with_reducible repeat (first | apply Kd.S_alloc | apply Kd.S_drewN | apply Kd.S_drew)); exact HO_376000.out) (Kd.R_base ho73) hb); have HO402 := Aside0.mk (Kd.R_lower (Kd.R_new' (Kd.R_new' ho73 (Kd.R_lt (by (with_reducible repeat (first | apply Kd.R_alloc | apply Kd.R_drewN | apply Kd.R_drew)); exact HO_52.out))) (Kd.R_lt (by (with_reducible repeat (first | apply Kd.R_alloc | apply Kd.R_drewN | apply Kd.R_drew)); exact HO_68.out))) bls_); replace HO_52 := Aside0.mk (Kd.R_elder' (by (with_reducible repeat (first | apply Kd.R_alloc | apply Kd.R_drewN | apply Kd.R_drew)); exact HO_52.out) (Kd.R_base ho73) hb); replace HO_68 := Aside0.mk (Kd.R_elder' (by (with_reducible repeat (first | apply Kd.R_alloc | apply Kd.R_drewN | apply Kd.R_drew)); exact HO_68.out) (Kd.R_base ho73) hb); replace BK371 := bkb_ BK371 hb; replace BK375 := bkb_ BK375 hb; replace HB := hbs_ hb; clear hb ho73; have hnb74 := NB375_371.out; have hnc74 := NB371_375.out; have hcz75 := blk_cell BK375.out; have hfz75 := blk_frozen BK375.out; have hcz76 := blk_cell BK371.out; have hfz76 := blk_frozen BK371.out; obtain ⟨Ao77, co77, eo77⟩ := Kd.R_slice HO402.out; subst eo77) | ((with_reducible refine gate_builtin (b := .append) (xs := #[.tmp 6, .tmp 13]) rfl ?_); at_builtin; refine Kd.S_append k177 (w0 := w) w.heap.size rfl (.tmp 6) (.tmp 13) 173 177 (.agg #[(.int .i64 0), (.int .i64 0), (.int .i64 0), (.slice none 0 0)]) 48 rfl Try.underlying173 info177 rfl (by decide) (by omega) u376000 x376000_2 (⟨(⟨(⟨a1_1, a1_2⟩ : S27), (rd_T29 l0 (rd t395 x70_2)).f1⟩ : S29), y400⟩ : S177) [.int .i64 a1_1, .int .i64 a1_2, .int .i64 ((rd_T29 l0 (rd t395 x70_2)).f1), .slice Ao77 y400.length co77] (fun k_ => some k_ ≠ (.slice (some ad393) t390.length co56 : Value).ownBlock ∧ some k_ ≠ (.slice (some ad398) t395.length co65 : Value).ownBlock) (fun k_ => some k_ = (.slice Ao77 y400.length co77 : Value).ownBlock) rfl rfl ?aP (fun k_ hk_ => ((Kd.R_mono (ok' := fun k_ => ((fun k_ => some k_ ≠ (.slice (some ad393) t390.length co56 : Value).ownBlock ∧ some k_ ≠ (.slice (some ad398) t395.length co65 : Value).ownBlock)) k_ ∧ some k_ ≠ (u376000 : Value).ownBlock) (Kd.R_apart' (HO402.out) (Kd.S_typed HO_376000.out) (by decide)) (fun k_ hk => ⟨⟨hk.1.1.2, hk.1.2⟩, hk.2⟩))).1 k_ hk_.symm) ?aF ?aO ?aB ?aS ?aL ?_; (case aP => exact k177_mkM _ _ _ (⟨(⟨(⟨a1_1, a1_2⟩ : S27), (rd_T29 l0 (rd t395 x70_2)).f1⟩ : S29), y400⟩ : S177) (Kd.R_mono (Kd.R_tight rfl (Kd.R_mono (ok' := fun k_ => ((fun k_ => some k_ ≠ (.slice (some ad393) t390.length co56 : Value).ownBlock ∧ some k_ ≠ (.slice (some ad398) t395.length co65 : Value).ownBlock)) k_ ∧ some k_ ≠ (u376000 : Value).ownBlock) (Kd.R_apart' (HO402.out) (Kd.S_typed HO_376000.out) (by decide)) (fun k_ hk => ⟨⟨hk.1.1.2, hk.1.2⟩, hk.2⟩))) (fun _ h_ => h_))); (case aB => exact bl_); (case aF => exact (fun k_ hk => ⟨Kd.fresh' (Kd.R_lt (by (with_reducible repeat (first | apply Kd.R_alloc | apply Kd.R_drewN | apply Kd.R_drew)); exact HO_52.out)) k_ hk, Kd.fresh' (Kd.R_lt (by (with_reducible repeat (first | apply Kd.R_alloc | apply Kd.R_drewN | apply Kd.R_drew)); exact HO_68.out)) k_ hk⟩)); (case aO => exact (by (with_reducible repeat (first | apply Kd.S_alloc | apply Kd.S_drewN | apply Kd.S_drew)); exact Kd.S_mono HO_376000.out (fun k_ hk => ⟨⟨hk.1.1, hk.1.2⟩, fun e_ => hk.2 e_⟩))); (case aS => exact bls_); (case aL => have := LMc71.out; omega); intro v404 w78 ho hb hg hat; rw [← Ny403.out] at ho; replace HO_52 := Aside0.mk (Kd.R_over' (by (with_reducible repeat (first | apply Kd.R_alloc | apply Kd.R_drewN | apply Kd.R_drew)); exact HO_52.out) (Kd.S_typed (by (with_reducible repeat (first | apply Kd.S_alloc | apply Kd.S_drewN | apply Kd.S_drew)); exact HO_376000.out)) (by decide) hg); replace HO_68 := Aside0.mk (Kd.R_over' (by (with_reducible repeat (first | apply Kd.R_alloc | apply Kd.R_drewN | apply Kd.R_drew)); exact HO_68.out) (Kd.S_typed (by (with_reducible repeat (first | apply Kd.S_alloc | apply Kd.S_drewN | apply Kd.S_drew)); exact HO_376000.out)) (by decide) hg); replace BK371 := Aside0.mk (blk_grown (g := gb371) (o := .cells #[.int .i64 a1_0, .int .i64 a1_1, .int .i64 a1_2, .int .i64 a1_3, .int .i64 a1_4, .int .i64 a1_5, .int .i64 a1_6, .int .i64 a1_7, .int .i64 a1_8, .int .i64 a1_9] 46 (0, 0)) (bk_ BK371) hg (Kd.S_ne HO_376000.out BK371.out (by decide))); replace BK375 := Aside0.mk (blk_grown (g := gb375) (o := .cells #[u376000] 173 (0, 0)) (bk_ BK375) hg (Kd.S_ne HO_376000.out BK375.out (by decide))); replace HB := Aside0.mk (hb); have HO405 := Aside0.mk (ho); clear HO_376000; clear HO402; clear ho hb hg hat; obtain ⟨Ao79, co79, eo79⟩ := Kd.S_slice HO405.out; subst eo79; have hcz80 := blk_cell BK375.out; have hfz80 := blk_frozen BK375.out))
          go_roundg k2
          case measure => have := HK1.out; have := HK2.out; omega
          case rel => exact ⟨(wrap64 (x70_2 + 1)), (y403), (.slice Ao79 y403.length co79), rf_, H', ⟨by have := HK1.out; have := HK2.out; omega⟩, ⟨by (with_reducible repeat (first | apply Kd.R_alloc | apply Kd.R_drewN | apply Kd.R_drew)); exact Kd.R_mono (Kd.R_far (p := ⟨gb375, 0, none⟩) (Kd.R_types HO_52.out BK375.out (by decide)) (fun _ hk => hk.2) (.slice Ao79 y403.length co79)) (fun _ hk => hk.1.1)⟩, ⟨by (with_reducible repeat (first | apply Kd.R_alloc | apply Kd.R_drewN | apply Kd.R_drew)); exact Kd.R_mono (Kd.R_far (p := ⟨gb375, 0, none⟩) (Kd.R_types HO_68.out BK375.out (by decide)) (fun _ hk => hk.2) (.slice Ao79 y403.length co79)) (fun _ hk => hk.1.1)⟩, ⟨by (with_reducible repeat (first | apply Kd.S_alloc | apply Kd.S_drewN | apply Kd.S_drew)); exact Kd.S_mono (Kd.S_far (p := ⟨gb375, 0, none⟩) (Kd.S_types HO405.out BK375.out (by decide)) (fun _ hk => hk.2) (.slice Ao79 y403.length co79)) (fun _ hk => ⟨hk.1.1, hk.1.2⟩)⟩, ⟨bk_ BK371⟩, ⟨bk_ BK375⟩, ⟨bl_⟩⟩
         ·rw [if_neg c66] at H
          have c66b0 : decide (x70_2 < (t395.length : Int)) = false := decide_eq_false c66
          clear c66
          have H' := Aside0.mk H
          clear H
          go_wp2
          go_roundg k2
          case measure => have := HK1.out; have := HK2.out; omega
          case rel => exact ⟨(wrap64 (x54_1 + 1)), (x376000_2), (u376000), rf_, H', ⟨by have := HK1.out; have := HK2.out; omega⟩, ⟨by (with_reducible repeat (first | apply Kd.R_alloc | apply Kd.R_drewN | apply Kd.R_drew)); exact Kd.R_mono HO_52.out (fun _ hk => trivial)⟩, ⟨by (with_reducible repeat (first | apply Kd.S_alloc | apply Kd.S_drewN | apply Kd.S_drew)); exact Kd.S_mono HO_376000.out (fun _ hk => hk.1)⟩, ⟨bk_ BK371⟩, ⟨bk_ BK375⟩, ⟨bl_⟩⟩
      ·rw [if_neg c57] at H
       have c57b0 : decide (x54_1 < (t390.length : Int)) = false := decide_eq_false c57
       clear c57
       obtain rfl := Option.some.inj H
       have hnb81 := NB375_371.out
       have hnc81 := NB371_375.out
       have hcz82 := blk_cell BK375.out
       have hfz82 := blk_frozen BK375.out
       go_wp2
       go_ret
       exact ⟨_, eq_, by (with_reducible repeat (first | apply Kd.S_alloc | apply Kd.S_drewN | apply Kd.S_drew)); exact Kd.S_mono HO_376000.out (fun _ hk => trivial), bl_⟩
   ·rw [if_neg c45] at H
    have c45b0 : (a1_0 == 3) = false := beq_eq_false_iff_ne.mpr c45
    have c45b1 : (a1_0 != 3) = true := bne_iff_ne.mpr c45
    by_cases c83 : a1_0 = 4
    ·rw [if_pos c83] at H
     have c83b0 : (a1_0 == 4) = true := beq_iff_eq.mpr c83
     have c83b1 : (a1_0 != 4) = false := bne_eq_false_iff_eq.mpr c83
     clear c83
     obtain ⟨t406, A84, H⟩ := bindE_ H
     have H' := Aside0.mk H
     clear H
     go_enter Try.func147, Try.ntmps147
     go_wp2_with (first | (go_at_call 155; go_in) | (go_end0; simp only []; go_at_K) | ((with_reducible refine gate_dst (N := 3) rfl ?_); refine box_event ?hg (N := 3) ?hd (cs := #[.int .i64 a1_0, .int .i64 a1_1, .int .i64 a1_2, .int .i64 a1_3, .int .i64 a1_4, .int .i64 a1_5, .int .i64 a1_6, .int .i64 a1_7, .int .i64 a1_8, .int .i64 a1_9]) (t := 46) ?hr ?_; (case hd => rfl); (case hg => rfl); (case hr => first | (go_simp; done) | (go_simp; rfl)); intro gb371 hg w85 hbox hb; have BK371 := Aside0.mk (hbox); have GW371 := gs_ hg; have GE371 := gs_ hg; replace HB := hbs_ hb; clear hb hbox hg) | ((with_reducible refine gate_dst (N := 16) rfl ?_); refine Kd.S_lit k177 _ 177 ?hg (N := 16) ?hd (xs := ([] : List (S177))) (inner := []) (ok := fun _ => True) (okp := fun _ => True) ?hr ?hp (fun _ hk => hk) trivial (Below.refl _ _) (Nat.le_refl _) (by simp) ?_; (case hd => rfl); (case hg => rfl); (case hr => first | (go_simp; done) | (go_simp; rfl)); (case hp => exact (Reps.none _ _)); intro v373 w86 ho87 hb hg_ hnew_; clear hg_ hnew_; (first | rw [← Ny372.out] at ho87 | (simp only [Int.reduceToNat] at ho87; rw [← Ny372.out] at ho87)); have HO374 := Aside0.mk (Kd.S_lower ho87 bls_); replace BK371 := bkb_ BK371 hb; replace HB := hbs_ hb; clear hb ho87) | ((with_reducible refine gate_dst (N := 5) rfl ?_); refine box_event ?hg (N := 5) ?hd (cs := #[.slice none 0 0]) (t := 173) ?hr ?_; (case hd => rfl); (case hg => rfl); (case hr => first | (go_simp; done) | (go_simp; rfl)); intro gb375 hg w88 hbox hb; replace HO374 := Aside0.mk (Kd.S_below (by (with_reducible repeat (first | apply Kd.S_alloc | apply Kd.S_drewN | apply Kd.S_drew)); exact HO374.out) hb); have BK375 := Aside0.mk (hbox); have GW375 := gs_ hg; have GE375 := gs_ hg; replace HB := hbs_ hb; have NB371_375 := nl_ hg BK371; have NB375_371 := nr_ hg BK371; replace BK371 := bkb_ BK371 hb; clear hb hbox hg; obtain ⟨Ao89, co89, eo89⟩ := Kd.S_slice HO374.out; subst eo89; have hnb90 := NB375_371.out; have hnc90 := NB371_375.out; have hcz91 := blk_cell BK375.out; have hfz91 := blk_frozen BK375.out; have hcz92 := blk_cell BK371.out; have hfz92 := blk_frozen BK371.out) | ((with_reducible refine gate_callee (f := 156) rfl ?_); refine goesC_ (some 91) Try.func156 #[.slice A0 l0.length c0, .agg #[.int .i64 a1_4, .int .i64 a1_5]] ?_; (with_reducible refine (impl_whoOf.calls k _ _ l0 a1_4 a1_5 t406 _ ?side1 ?side2 A84.out).mono ?_); (case side1 => exact Kd.C_below HR0.out bl_); (case side2 => exact HC0.out); rintro e w93 ⟨v407, rfl, ho0, hb⟩; refine ⟨_, rfl, ?_⟩; replace HO374 := Aside0.mk (Kd.S_elder' (by (with_reducible repeat (first | apply Kd.S_alloc | apply Kd.S_drewN | apply Kd.S_drew)); exact (Kd.S_mono (Kd.S_far (p := ⟨gb375, 0, none⟩) (Kd.S_types HO374.out BK375.out (by decide)) (fun _ hk => hk.2) (.slice Ao89 y372.length co89)) (fun _ h_ => h_.1))) (Kd.R_base ho0) hb); have HO408 := Aside0.mk (Kd.R_lower ho0 bls_); replace BK371 := Aside0.mk (blk_below (g := gb371) (o := .cells #[.int .i64 a1_0, .int .i64 a1_1, .int .i64 a1_2, .int .i64 a1_3, .int .i64 a1_4, .int .i64 a1_5, .int .i64 a1_6, .int .i64 a1_7, .int .i64 a1_8, .int .i64 a1_9] 46 (0, 0)) (bk_ BK371) hb); replace BK375 := Aside0.mk (blk_below (g := gb375) (o := .cells #[.slice Ao89 y372.length co89] 173 (0, 0)) (bk_ BK375) hb); replace HB := hbs_ hb; (try clear hb); (try clear hb2); (try clear hk); (try clear hi); (try clear ho0); obtain ⟨Ao94, co94, eo94⟩ := Kd.R_slice HO408.out; subst eo94))
     go_loopg [93] k (fun kq v93 w' => ∃ (x93_1 : Int) (x376000_1 : List (S177)) (u376000 : Value), v93 = .int .i64 x93_1 ∧ Aside0 (impl_derive.l3 kq l0 t406 (t406.length : Int) x93_1 a1_0 a1_1 a1_2 a1_3 a1_4 a1_5 a1_6 a1_7 a1_8 a1_9 x376000_1 = some r) ∧ Aside0 (kq ≤ k) ∧ Aside0 (Kd.R (Kd.int .i64) 3 w' w.heap.size (fun _ => True) (.slice Ao94 t406.length co94) t406) ∧ Aside0 (Kd.S k177 177 w' w.heap.size (fun k_ => some k_ ≠ ((.slice Ao94 t406.length co94) : Value).ownBlock) u376000 x376000_1) ∧ Aside0 (w'.heap[gb371]? = some (.cells #[.int .i64 a1_0, .int .i64 a1_1, .int .i64 a1_2, .int .i64 a1_3, .int .i64 a1_4, .int .i64 a1_5, .int .i64 a1_6, .int .i64 a1_7, .int .i64 a1_8, .int .i64 a1_9] 46 (0, 0))) ∧ Aside0 (w'.heap[gb375]? = some (.cells #[u376000] 173 (0, 0))) ∧ Aside0 (Below w.heap.size w w'))
     case atStart => exact ⟨(0), (y372), (.slice Ao89 y372.length co89), rf_, H', ⟨Nat.le_refl _⟩, ⟨by (with_reducible repeat (first | apply Kd.R_alloc | apply Kd.R_drewN | apply Kd.R_drew)); exact HO408.out⟩, ⟨by (with_reducible repeat (first | apply Kd.S_alloc | apply Kd.S_drewN | apply Kd.S_drew)); exact Kd.S_mono HO374.out (fun _ hk => hk.2)⟩, ⟨bk_ BK371⟩, ⟨bk_ BK375⟩, ⟨bl_⟩⟩
     case round =>
      clear H'
      try clear c1
      try clear c2
      try clear p2
      try clear c3
      try clear c3b0
      try clear c3b1
      try clear p3
      try clear q3
      try clear hx3
      try clear c4
      try clear c5
      try clear c6
      try clear p6
      try clear c7
      try clear c8
      try clear c9
      try clear c10
      try clear c14
      try clear c15
      try clear c16
      try clear c16b0
      try clear c16b1
      try clear c23
      try clear c28
      try clear c28b0
      try clear c29
      try clear c29b0
      try clear c30
      try clear c30b0
      try clear c31
      try clear c31b0
      try clear c32
      try clear c32b0
      try clear c33
      try clear c36
      try clear p38
      try clear q38
      try clear hx38
      try clear p39
      try clear q39
      try clear hx39
      try clear c43
      try clear c45
      try clear c45b0
      try clear c45b1
      try clear c52
      try clear c57
      try clear c57b0
      try clear c58
      try clear c58b0
      try clear c59
      try clear c59b0
      try clear c60
      try clear c60b0
      try clear c61
      try clear c61b0
      try clear p64
      try clear c66
      try clear c66b0
      try clear c67
      try clear c67b0
      try clear c68
      try clear c68b0
      try clear c69
      try clear c69b0
      try clear c70
      try clear c70b0
      try clear c71
      try clear c74
      try clear c81
      try clear c83
      try clear c83b0
      try clear c83b1
      try clear c90
      try clear hcz11
      try clear hcz12
      try clear hcz15
      try clear hcz24
      try clear hcz25
      try clear hcz37
      try clear hcz38
      try clear hcz42
      try clear hcz44
      try clear hcz53
      try clear hcz54
      try clear hcz75
      try clear hcz76
      try clear hcz80
      try clear hcz82
      try clear hcz91
      try clear hcz92
      try clear hfz11
      try clear hfz12
      try clear hfz15
      try clear hfz24
      try clear hfz25
      try clear hfz37
      try clear hfz38
      try clear hfz42
      try clear hfz44
      try clear hfz53
      try clear hfz54
      try clear hfz75
      try clear hfz76
      try clear hfz80
      try clear hfz82
      try clear hfz91
      try clear hfz92
      try clear hx382_0
      try clear hx383_0
      try clear hx383_1
      try clear hx383_2
      try clear hx393_0
      try clear hx394_0
      try clear hx394_1
      try clear hx394_2
      try clear hx398_0
      try clear hx399_0
      try clear hx399_1
      try clear hx399_2
      try clear p2
      try clear p3
      try clear p38
      try clear p382
      try clear p383
      try clear p39
      try clear p393
      try clear p394
      try clear p398
      try clear p399
      try clear p6
      try clear p64
      try clear q3
      try clear q38
      try clear q382
      try clear q383
      try clear q39
      try clear q393
      try clear q394
      try clear q398
      try clear q399
      obtain ⟨x93_1, x376000_1, u376000, rfl, HA, HK1, HO_91, HO_376000, BK371, BK375, HB⟩ := hrel
      cases gk with
      | zero => exact absurd HA.out (by simp [impl_derive.l3])
      | succ k1 =>
       have H := HA.out
       clear HA
       simp only [impl_derive.l3] at H
       by_cases c95 : x93_1 < (t406.length : Int)
       ·rw [if_pos c95] at H
        have c95b0 : decide (x93_1 < (t406.length : Int)) = true := decide_eq_true c95
        clear c95
        obtain ⟨c96b0, H⟩ := ifd_ H
        obtain ⟨c97b0, H⟩ := ifd_ H
        obtain ⟨c98b0, H⟩ := ifd_ H
        obtain ⟨c99b0, H⟩ := ifd_ H
        obtain ⟨t411, A100, H⟩ := bindE_ H
        by_cases c101 : t411 ≥ 0
        ·rw [if_pos c101] at H
         have c101b0 : decide (0 ≤ t411) = true := decide_eq_true c101
         clear c101
         obtain ⟨y413, hy413⟩ : ∃ y_ : List Int, y_ = (([rd t406 x93_1, t411] : List Int)) := ⟨_, rfl⟩
         replace H : (if x376000_1.length < 2932031007402 then (impl_derive.l3 k1 l0 t406 (t406.length : Int) (wrap64 (x93_1 + 1)) a1_0 a1_1 a1_2 a1_3 a1_4 a1_5 a1_6 a1_7 a1_8 a1_9 (x376000_1 ++ [(⟨(⟨(⟨a1_1, a1_2⟩ : S27), (rd_T29 l0 (rd t406 x93_1)).f1⟩ : S29), y413⟩ : S177)])) else (none)) = some r := by first | (rw [hy413]; with_reducible exact H) | (have H2_ := (Option.bind_some _ _).symm.trans H; rw [hy413]; with_reducible exact H2_) | (have H2_ := (Option.bind_some _ _).symm.trans H; with_reducible exact H2_) | with_reducible exact H | (rw [hy413]; exact H) | exact H
         have Ny413 := Aside0.mk hy413
         clear hy413
         obtain ⟨c102, H⟩ := ifn_ H
         have LMc102 := Aside0.mk c102
         clear c102
         obtain ⟨y416, hy416⟩ : ∃ y_ : List (S177), y_ = (x376000_1 ++ [(⟨(⟨(⟨a1_1, a1_2⟩ : S27), (rd_T29 l0 (rd t406 x93_1)).f1⟩ : S29), y413⟩ : S177)]) := ⟨_, rfl⟩
         replace H : (impl_derive.l3 k1 l0 t406 (t406.length : Int) (wrap64 (x93_1 + 1)) a1_0 a1_1 a1_2 a1_3 a1_4 a1_5 a1_6 a1_7 a1_8 a1_9 y416) = some r := by first | (rw [hy416]; with_reducible exact H) | (have H2_ := (Option.bind_some _ _).symm.trans H; rw [hy416]; with_reducible exact H2_) | (have H2_ := (Option.bind_some _ _).symm.trans H; with_reducible exact H2_) | with_reducible exact H | (rw [hy416]; exact H) | exact H
         have Ny416 := Aside0.mk hy416
         clear hy416
         have H' := Aside0.mk H
         clear H
         have p409 : 0 ≤ (x93_1 : Int) := od_
         have q409 : x93_1 < (t406.length : Int) := od_
         obtain ⟨ad409, e409, hx409_0⟩ := Kd.at_int (Kd.R_reads' HO_91.out).2.2 x93_1 p409 q409
         cases e409
         replace p409 := eq_true p409
         replace q409 := eq_true q409
         try go_wp2
         replace HO_91 := Aside0.mk (Kd.R_drew HO_91.out)
         replace HO_376000 := Aside0.mk (Kd.S_drew HO_376000.out)
         replace BK371 := Aside0.mk (blk_drew BK371.out)
         replace BK375 := Aside0.mk (blk_drew BK375.out)
         replace HB := Aside0.mk (below_drew1 HB.out)
         have p410 : 0 ≤ ((rd t406 x93_1) : Int) := od_
         have q410 : (rd t406 x93_1) < (l0.length : Int) := od_
         obtain ⟨ad410, e410, hx410_0, hx410_1, hx410_2⟩ := at_T29 HR0.out (rd t406 x93_1) p410 q410
         have hw410_2 := hx410_2
         have hw410_1 := hx410_1
         have hw410_0 := hx410_0
         cases e410
         replace hx410_0 := cb_ HB hx410_0
         replace hx410_1 := cb_ HB hx410_1
         replace hx410_2 := cb_ HB hx410_2
         replace p410 := eq_true p410
         replace q410 := eq_true q410
         refine start_ (n := 11) (S := fun w' => w'.cell? ⟨gb371, 0, none⟩ = some (.int .i64 a1_0) ∧ w'.cell? ⟨gb371, 1, none⟩ = some (.int .i64 a1_1) ∧ w'.cell? ⟨gb371, 2, none⟩ = some (.int .i64 a1_2) ∧ w'.cell? ⟨gb371, 3, none⟩ = some (.int .i64 a1_3) ∧ w'.cell? ⟨gb371, 4, none⟩ = some (.int .i64 a1_4) ∧ w'.cell? ⟨gb371, 5, none⟩ = some (.int .i64 a1_5) ∧ w'.cell? ⟨gb371, 6, none⟩ = some (.int .i64 a1_6) ∧ w'.cell? ⟨gb371, 7, none⟩ = some (.int .i64 a1_7) ∧ w'.cell? ⟨gb371, 8, none⟩ = some (.int .i64 a1_8) ∧ w'.cell? ⟨gb371, 9, none⟩ = some (.int .i64 a1_9) ∧ w'.cell? (ad410.add (((rd t406 x93_1)).toNat * 3)) = some (.int .i64 ((rd_T29 l0 (rd t406 x93_1)).f0.f0)) ∧ w'.cell? ⟨(ad410.add (((rd t406 x93_1)).toNat * 3)).block, (ad410.add (((rd t406 x93_1)).toNat * 3)).off + 1, none⟩ = some (.int .i64 ((rd_T29 l0 (rd t406 x93_1)).f0.f1)) ∧ w'.cell? ⟨(ad410.add (((rd t406 x93_1)).toNat * 3)).block, (ad410.add (((rd t406 x93_1)).toNat * 3)).off + 2, none⟩ = some (.int .i64 ((rd_T29 l0 (rd t406 x93_1)).f1))) (ds := []) #[false, false, false, false, false, false, false, false, false, false, false] (by kernel_rfl) rfl rfl ⟨(blk_cell BK371.out 0).trans rfl, (blk_cell BK371.out 1).trans rfl, (blk_cell BK371.out 2).trans rfl, (blk_cell BK371.out 3).trans rfl, (blk_cell BK371.out 4).trans rfl, (blk_cell BK371.out 5).trans rfl, (blk_cell BK371.out 6).trans rfl, (blk_cell BK371.out 7).trans rfl, (blk_cell BK371.out 8).trans rfl, (blk_cell BK371.out 9).trans rfl, ((HB.out.cell (World.block_lt_of_cell? w _ hw410_0)).trans hw410_0), ((HB.out.cell (World.block_lt_of_cell? w _ hw410_1)).trans hw410_1), ((HB.out.cell (World.block_lt_of_cell? w _ hw410_2)).trans hw410_2)⟩ (fun hHeld => ?_); refine with_tabW impl_derive.tab26 impl_derive.bits26 (fun HT_ HW_ => ?_)
         generalize wr.drew = w103 at HO_91 HO_376000 BK371 BK375 HB hx410_0 hx410_1 hx410_2 hHeld ⊢
         refine pureZ_ (i := 0) (some 97) #[true, false, false, false, false, false, false, false, false, false, false] (any_of HT_.out (by kernel_rfl)) ?_
         refine pureZ_ (i := 1) (some 98) #[true, true, false, false, false, false, false, false, false, false, false] (any_of HT_.out (by kernel_rfl)) ?_
         refine pureZ_ (i := 3) (some 100) #[true, true, false, true, false, false, false, false, false, false, false] (any_of HT_.out (by kernel_rfl)) ?_
         refine pureZ_ (i := 4) (some 101) #[true, true, false, true, true, false, false, false, false, false, false] (any_of HT_.out (by kernel_rfl)) ?_
         refine pureZ_ (i := 5) (some 102) #[true, true, false, true, true, true, false, false, false, false, false] (any_of HT_.out (by kernel_rfl)) ?_
         refine pureZ_ (i := 6) (some 103) #[true, true, false, true, true, true, true, false, false, false, false] (any_of HT_.out (by kernel_rfl)) ?_
         refine takeZ_ (i := 2) (some 99) #[true, true, true, true, true, true, true, false, false, false, false] (take_ofW HT_.out HW_.out (by kernel_rfl)) hHeld ?_
         refine takeZ_ (i := 7) (some 104) #[true, true, true, true, true, true, true, true, false, false, false] (take_ofW HT_.out HW_.out (by kernel_rfl)) hHeld ?_
         refine pureZ_ (i := 8) (some 105) #[true, true, true, true, true, true, true, true, true, false, false] (any_of HT_.out (by kernel_rfl)) ?_
         refine one_ (i := 9) (N := some 106) #[true, true, true, true, true, true, true, true, true, true, false] rfl rfl (one_of HT_.out (by kernel_rfl)) (by decide) (fun K hK => ?_)
         refine goes_ Try.func134 (by kernel_rfl) rfl #[.slice (some ad410) l0.length c0, .agg #[.int .i64 a1_6, .int .i64 a1_7, .int .i64 ((rd_T29 l0 (rd t406 x93_1)).f1)]] (by rfl) rfl rfl (by (try simp only [List.map_toArray, List.map_cons, List.map_nil]); first | done | rfl | (simp only [List.length_drop, List.length_take]; rfl)) ?_
         with_reducible refine (impl_Fact_134.calls k1 _ _ l0 a1_6 a1_7 ((rd_T29 l0 (rd t406 x93_1)).f1) t411 _ ?side1 ?side2 A100.out).mono ?_
         (case side1 => repeat (first | exact (Kd.C_below HR0.out HB.out) | (with_reducible refine Kd.C_alloc ?_ _) | (with_reducible refine Kd.C_drewN ?_ _) | (with_reducible refine Kd.C_drew ?_)))
         (case side2 => exact HC0.out)
         rintro e w104 ⟨rfl, hb⟩
         refine ⟨_, rfl, ?_⟩
         replace HO_91 := hob_ HO_91 hb
         replace HO_376000 := Aside0.mk (Kd.S_below (by (with_reducible repeat (first | apply Kd.S_alloc | apply Kd.S_drewN | apply Kd.S_drew)); exact HO_376000.out) hb)
         replace BK371 := bkb_ BK371 hb
         replace BK375 := bkb_ BK375 hb
         replace HB := hbs_ hb
         (try clear hb)
         (try clear hb2)
         (try clear hk)
         (try clear hi)
         refine hK.out _ _ ⟨(blk_cell BK371.out 0).trans rfl, (blk_cell BK371.out 1).trans rfl, (blk_cell BK371.out 2).trans rfl, (blk_cell BK371.out 3).trans rfl, (blk_cell BK371.out 4).trans rfl, (blk_cell BK371.out 5).trans rfl, (blk_cell BK371.out 6).trans rfl, (blk_cell BK371.out 7).trans rfl, (blk_cell BK371.out 8).trans rfl, (blk_cell BK371.out 9).trans rfl, ((HB.out.cell (World.block_lt_of_cell? w _ hw410_0)).trans hw410_0), ((HB.out.cell (World.block_lt_of_cell? w _ hw410_1)).trans hw410_1), ((HB.out.cell (World.block_lt_of_cell? w _ hw410_2)).trans hw410_2)⟩ (fun hHeld => ?_)
         clear hK K
         refine norm_ (a' := ?_) ?_ ?_
         rotate_left
         ·show Act.put _ (some 106) _ = _
          simp only [Act.put, List.setIfInBounds_toArray, List.set_cons_zero, List.set_cons_succ, i64_w, i32_w]
          rfl
         refine pureZ_ (i := 10) (some 15) #[true, true, true, true, true, true, true, true, true, true, true] (any_of HT_.out (by kernel_rfl)) ?_
         refine done_ (done_of HT_.out (by kernel_rfl)) ?_
         have p412 : 0 ≤ ((rd t406 x93_1) : Int) := od_
         have q412 : (rd t406 x93_1) < (l0.length : Int) := od_
         obtain ⟨ad412, e412, hx412_0, hx412_1, hx412_2⟩ := at_T29 HR0.out (rd t406 x93_1) p412 q412
         obtain rfl : ad410 = ad412 := (by injection e412)
         replace hx412_0 := cb_ HB hx412_0
         replace hx412_1 := cb_ HB hx412_1
         replace hx412_2 := cb_ HB hx412_2
         replace p412 := eq_true p412
         replace q412 := eq_true q412
         try go_wp2_with (first | (go_at_call 155; go_in) | (go_end0; simp only []; go_at_K) | ((with_reducible refine gate_dst (N := 117) rfl ?_); refine Kd.R_lit (Kd.int .i64) _ 3 ?hg (N := 117) ?hd (xs := ([rd t406 x93_1, t411] : List Int)) (inner := [.int .i64 (rd t406 x93_1), .int .i64 t411]) (ok := fun _ => True) (okp := fun _ => True) ?hr ?hp (fun _ hk => hk) trivial (Below.refl _ _) (Nat.le_refl _) (by simp) ?_; (case hd => rfl); (case hg => rfl); (case hr => first | (go_simp; done) | (go_simp; rfl)); (case hp => exact (Reps.one (show Kd.M (Kd.int .i64) _ _ _ (rd t406 x93_1) [.int .i64 (rd t406 x93_1)] from rfl) (Reps.one (show Kd.M (Kd.int .i64) _ _ _ t411 [.int .i64 t411] from rfl) (Reps.none _ _)))); intro v414 w105 ho106 hb hg_ hnew_; clear hg_ hnew_; (first | rw [← Ny413.out] at ho106 | (simp only [Int.reduceToNat] at ho106; rw [← Ny413.out] at ho106)); replace HO_376000 := Aside0.mk (Kd.S_elder' (by (with_reducible repeat (first | apply Kd.S_alloc | apply Kd.S_drewN | apply Kd.S_drew)); exact HO_376000.out) (Kd.R_base ho106) hb); have HO415 := Aside0.mk (Kd.R_lower (Kd.R_new' ho106 (Kd.R_lt (by (with_reducible repeat (first | apply Kd.R_alloc | apply Kd.R_drewN | apply Kd.R_drew)); exact HO_91.out))) bls_); replace HO_91 := Aside0.mk (Kd.R_elder' (by (with_reducible repeat (first | apply Kd.R_alloc | apply Kd.R_drewN | apply Kd.R_drew)); exact HO_91.out) (Kd.R_base ho106) hb); replace BK371 := bkb_ BK371 hb; replace BK375 := bkb_ BK375 hb; replace HB := hbs_ hb; clear hb ho106; have hnb107 := NB375_371.out; have hnc107 := NB371_375.out; have hcz108 := blk_cell BK375.out; have hfz108 := blk_frozen BK375.out; have hcz109 := blk_cell BK371.out; have hfz109 := blk_frozen BK371.out; obtain ⟨Ao110, co110, eo110⟩ := Kd.R_slice HO415.out; subst eo110) | ((with_reducible refine gate_builtin (b := .append) (xs := #[.tmp 6, .tmp 13]) rfl ?_); at_builtin; refine Kd.S_append k177 (w0 := w) w.heap.size rfl (.tmp 6) (.tmp 13) 173 177 (.agg #[(.int .i64 0), (.int .i64 0), (.int .i64 0), (.slice none 0 0)]) 48 rfl Try.underlying173 info177 rfl (by decide) (by omega) u376000 x376000_1 (⟨(⟨(⟨a1_1, a1_2⟩ : S27), (rd_T29 l0 (rd t406 x93_1)).f1⟩ : S29), y413⟩ : S177) [.int .i64 a1_1, .int .i64 a1_2, .int .i64 ((rd_T29 l0 (rd t406 x93_1)).f1), .slice Ao110 y413.length co110] (fun k_ => some k_ ≠ (.slice (some ad409) t406.length co94 : Value).ownBlock) (fun k_ => some k_ = (.slice Ao110 y413.length co110 : Value).ownBlock) rfl rfl ?aP (fun k_ hk_ => ((Kd.R_mono (ok' := fun k_ => ((fun k_ => some k_ ≠ (.slice (some ad409) t406.length co94 : Value).ownBlock)) k_ ∧ some k_ ≠ (u376000 : Value).ownBlock) (Kd.R_apart' (HO415.out) (Kd.S_typed HO_376000.out) (by decide)) (fun k_ hk => ⟨hk.1.2, hk.2⟩))).1 k_ hk_.symm) ?aF ?aO ?aB ?aS ?aL ?_; (case aP => exact k177_mkM _ _ _ (⟨(⟨(⟨a1_1, a1_2⟩ : S27), (rd_T29 l0 (rd t406 x93_1)).f1⟩ : S29), y413⟩ : S177) (Kd.R_mono (Kd.R_tight rfl (Kd.R_mono (ok' := fun k_ => ((fun k_ => some k_ ≠ (.slice (some ad409) t406.length co94 : Value).ownBlock)) k_ ∧ some k_ ≠ (u376000 : Value).ownBlock) (Kd.R_apart' (HO415.out) (Kd.S_typed HO_376000.out) (by decide)) (fun k_ hk => ⟨hk.1.2, hk.2⟩))) (fun _ h_ => h_))); (case aB => exact bl_); (case aF => exact (fun k_ hk => Kd.fresh' (Kd.R_lt (by (with_reducible repeat (first | apply Kd.R_alloc | apply Kd.R_drewN | apply Kd.R_drew)); exact HO_91.out)) k_ hk)); (case aO => exact (by (with_reducible repeat (first | apply Kd.S_alloc | apply Kd.S_drewN | apply Kd.S_drew)); exact Kd.S_mono HO_376000.out (fun k_ hk => ⟨hk.1, fun e_ => hk.2 e_⟩))); (case aS => exact bls_); (case aL => have := LMc102.out; omega); intro v417 w111 ho hb hg hat; rw [← Ny416.out] at ho; replace HO_91 := Aside0.mk (Kd.R_over' (by (with_reducible repeat (first | apply Kd.R_alloc | apply Kd.R_drewN | apply Kd.R_drew)); exact HO_91.out) (Kd.S_typed (by (with_reducible repeat (first | apply Kd.S_alloc | apply Kd.S_drewN | apply Kd.S_drew)); exact HO_376000.out)) (by decide) hg); replace BK371 := Aside0.mk (blk_grown (g := gb371) (o := .cells #[.int .i64 a1_0, .int .i64 a1_1, .int .i64 a1_2, .int .i64 a1_3, .int .i64 a1_4, .int .i64 a1_5, .int .i64 a1_6, .int .i64 a1_7, .int .i64 a1_8, .int .i64 a1_9] 46 (0, 0)) (bk_ BK371) hg (Kd.S_ne HO_376000.out BK371.out (by decide))); replace BK375 := Aside0.mk (blk_grown (g := gb375) (o := .cells #[u376000] 173 (0, 0)) (bk_ BK375) hg (Kd.S_ne HO_376000.out BK375.out (by decide))); replace HB := Aside0.mk (hb); have HO418 := Aside0.mk (ho); clear HO_376000; clear HO415; clear ho hb hg hat; obtain ⟨Ao112, co112, eo112⟩ := Kd.S_slice HO418.out; subst eo112; have hcz113 := blk_cell BK375.out; have hfz113 := blk_frozen BK375.out))
         go_roundg k1
         case measure => have := HK1.out; omega
         case rel => exact ⟨(wrap64 (x93_1 + 1)), (y416), (.slice Ao112 y416.length co112), rf_, H', ⟨by have := HK1.out; omega⟩, ⟨by (with_reducible repeat (first | apply Kd.R_alloc | apply Kd.R_drewN | apply Kd.R_drew)); exact Kd.R_mono (Kd.R_far (p := ⟨gb375, 0, none⟩) (Kd.R_types HO_91.out BK375.out (by decide)) (fun _ hk => hk.2) (.slice Ao112 y416.length co112)) (fun _ hk => trivial)⟩, ⟨by (with_reducible repeat (first | apply Kd.S_alloc | apply Kd.S_drewN | apply Kd.S_drew)); exact Kd.S_mono (Kd.S_far (p := ⟨gb375, 0, none⟩) (Kd.S_types HO418.out BK375.out (by decide)) (fun _ hk => hk.2) (.slice Ao112 y416.length co112)) (fun _ hk => hk.1)⟩, ⟨bk_ BK371⟩, ⟨bk_ BK375⟩, ⟨bl_⟩⟩
        ·rw [if_neg c101] at H
         have c101b0 : decide (0 ≤ t411) = false := decide_eq_false c101
         clear c101
         have H' := Aside0.mk H
         clear H
         have p409 : 0 ≤ (x93_1 : Int) := od_
         have q409 : x93_1 < (t406.length : Int) := od_
         obtain ⟨ad409, e409, hx409_0⟩ := Kd.at_int (Kd.R_reads' HO_91.out).2.2 x93_1 p409 q409
         cases e409
         replace p409 := eq_true p409
         replace q409 := eq_true q409
         try go_wp2
         replace HO_91 := Aside0.mk (Kd.R_drew HO_91.out)
         replace HO_376000 := Aside0.mk (Kd.S_drew HO_376000.out)
         replace BK371 := Aside0.mk (blk_drew BK371.out)
         replace BK375 := Aside0.mk (blk_drew BK375.out)
         replace HB := Aside0.mk (below_drew1 HB.out)
         have p410 : 0 ≤ ((rd t406 x93_1) : Int) := od_
         have q410 : (rd t406 x93_1) < (l0.length : Int) := od_
         obtain ⟨ad410, e410, hx410_0, hx410_1, hx410_2⟩ := at_T29 HR0.out (rd t406 x93_1) p410 q410
         have hw410_2 := hx410_2
         have hw410_1 := hx410_1
         have hw410_0 := hx410_0
         cases e410
         replace hx410_0 := cb_ HB hx410_0
         replace hx410_1 := cb_ HB hx410_1
         replace hx410_2 := cb_ HB hx410_2
         replace p410 := eq_true p410
         replace q410 := eq_true q410
         refine start_ (n := 11) (S := fun w' => w'.cell? ⟨gb371, 0, none⟩ = some (.int .i64 a1_0) ∧ w'.cell? ⟨gb371, 1, none⟩ = some (.int .i64 a1_1) ∧ w'.cell? ⟨gb371, 2, none⟩ = some (.int .i64 a1_2) ∧ w'.cell? ⟨gb371, 3, none⟩ = some (.int .i64 a1_3) ∧ w'.cell? ⟨gb371, 4, none⟩ = some (.int .i64 a1_4) ∧ w'.cell? ⟨gb371, 5, none⟩ = some (.int .i64 a1_5) ∧ w'.cell? ⟨gb371, 6, none⟩ = some (.int .i64 a1_6) ∧ w'.cell? ⟨gb371, 7, none⟩ = some (.int .i64 a1_7) ∧ w'.cell? ⟨gb371, 8, none⟩ = some (.int .i64 a1_8) ∧ w'.cell? ⟨gb371, 9, none⟩ = some (.int .i64 a1_9) ∧ w'.cell? (ad410.add (((rd t406 x93_1)).toNat * 3)) = some (.int .i64 ((rd_T29 l0 (rd t406 x93_1)).f0.f0)) ∧ w'.cell? ⟨(ad410.add (((rd t406 x93_1)).toNat * 3)).block, (ad410.add (((rd t406 x93_1)).toNat * 3)).off + 1, none⟩ = some (.int .i64 ((rd_T29 l0 (rd t406 x93_1)).f0.f1)) ∧ w'.cell? ⟨(ad410.add (((rd t406 x93_1)).toNat * 3)).block, (ad410.add (((rd t406 x93_1)).toNat * 3)).off + 2, none⟩ = some (.int .i64 ((rd_T29 l0 (rd t406 x93_1)).f1))) (ds := []) #[false, false, false, false, false, false, false, false, false, false, false] (by kernel_rfl) rfl rfl ⟨(blk_cell BK371.out 0).trans rfl, (blk_cell BK371.out 1).trans rfl, (blk_cell BK371.out 2).trans rfl, (blk_cell BK371.out 3).trans rfl, (blk_cell BK371.out 4).trans rfl, (blk_cell BK371.out 5).trans rfl, (blk_cell BK371.out 6).trans rfl, (blk_cell BK371.out 7).trans rfl, (blk_cell BK371.out 8).trans rfl, (blk_cell BK371.out 9).trans rfl, ((HB.out.cell (World.block_lt_of_cell? w _ hw410_0)).trans hw410_0), ((HB.out.cell (World.block_lt_of_cell? w _ hw410_1)).trans hw410_1), ((HB.out.cell (World.block_lt_of_cell? w _ hw410_2)).trans hw410_2)⟩ (fun hHeld => ?_); refine with_tabW impl_derive.tab26 impl_derive.bits26 (fun HT_ HW_ => ?_)
         generalize wr.drew = w114 at HO_91 HO_376000 BK371 BK375 HB hx410_0 hx410_1 hx410_2 hHeld ⊢
         refine pureZ_ (i := 0) (some 97) #[true, false, false, false, false, false, false, false, false, false, false] (any_of HT_.out (by kernel_rfl)) ?_
         refine pureZ_ (i := 1) (some 98) #[true, true, false, false, false, false, false, false, false, false, false] (any_of HT_.out (by kernel_rfl)) ?_
         refine pureZ_ (i := 3) (some 100) #[true, true, false, true, false, false, false, false, false, false, false] (any_of HT_.out (by kernel_rfl)) ?_
         refine pureZ_ (i := 4) (some 101) #[true, true, false, true, true, false, false, false, false, false, false] (any_of HT_.out (by kernel_rfl)) ?_
         refine pureZ_ (i := 5) (some 102) #[true, true, false, true, true, true, false, false, false, false, false] (any_of HT_.out (by kernel_rfl)) ?_
         refine pureZ_ (i := 6) (some 103) #[true, true, false, true, true, true, true, false, false, false, false] (any_of HT_.out (by kernel_rfl)) ?_
         refine takeZ_ (i := 2) (some 99) #[true, true, true, true, true, true, true, false, false, false, false] (take_ofW HT_.out HW_.out (by kernel_rfl)) hHeld ?_
         refine takeZ_ (i := 7) (some 104) #[true, true, true, true, true, true, true, true, false, false, false] (take_ofW HT_.out HW_.out (by kernel_rfl)) hHeld ?_
         refine pureZ_ (i := 8) (some 105) #[true, true, true, true, true, true, true, true, true, false, false] (any_of HT_.out (by kernel_rfl)) ?_
         refine one_ (i := 9) (N := some 106) #[true, true, true, true, true, true, true, true, true, true, false] rfl rfl (one_of HT_.out (by kernel_rfl)) (by decide) (fun K hK => ?_)
         refine goes_ Try.func134 (by kernel_rfl) rfl #[.slice (some ad410) l0.length c0, .agg #[.int .i64 a1_6, .int .i64 a1_7, .int .i64 ((rd_T29 l0 (rd t406 x93_1)).f1)]] (by rfl) rfl rfl (by (try simp only [List.map_toArray, List.map_cons, List.map_nil]); first | done | rfl | (simp only [List.length_drop, List.length_take]; rfl)) ?_
         with_reducible refine (impl_Fact_134.calls k1 _ _ l0 a1_6 a1_7 ((rd_T29 l0 (rd t406 x93_1)).f1) t411 _ ?side1 ?side2 A100.out).mono ?_
         (case side1 => repeat (first | exact (Kd.C_below HR0.out HB.out) | (with_reducible refine Kd.C_alloc ?_ _) | (with_reducible refine Kd.C_drewN ?_ _) | (with_reducible refine Kd.C_drew ?_)))
         (case side2 => exact HC0.out)
         rintro e w115 ⟨rfl, hb⟩
         refine ⟨_, rfl, ?_⟩
         replace HO_91 := hob_ HO_91 hb
         replace HO_376000 := Aside0.mk (Kd.S_below (by (with_reducible repeat (first | apply Kd.S_alloc | apply Kd.S_drewN | apply Kd.S_drew)); exact HO_376000.out) hb)
         replace BK371 := bkb_ BK371 hb
         replace BK375 := bkb_ BK375 hb
         replace HB := hbs_ hb
         (try clear hb)
         (try clear hb2)
         (try clear hk)
         (try clear hi)
         refine hK.out _ _ ⟨(blk_cell BK371.out 0).trans rfl, (blk_cell BK371.out 1).trans rfl, (blk_cell BK371.out 2).trans rfl, (blk_cell BK371.out 3).trans rfl, (blk_cell BK371.out 4).trans rfl, (blk_cell BK371.out 5).trans rfl, (blk_cell BK371.out 6).trans rfl, (blk_cell BK371.out 7).trans rfl, (blk_cell BK371.out 8).trans rfl, (blk_cell BK371.out 9).trans rfl, ((HB.out.cell (World.block_lt_of_cell? w _ hw410_0)).trans hw410_0), ((HB.out.cell (World.block_lt_of_cell? w _ hw410_1)).trans hw410_1), ((HB.out.cell (World.block_lt_of_cell? w _ hw410_2)).trans hw410_2)⟩ (fun hHeld => ?_)
         clear hK K
         refine norm_ (a' := ?_) ?_ ?_
         rotate_left
         ·show Act.put _ (some 106) _ = _
          simp only [Act.put, List.setIfInBounds_toArray, List.set_cons_zero, List.set_cons_succ, i64_w, i32_w]
          rfl
         refine pureZ_ (i := 10) (some 15) #[true, true, true, true, true, true, true, true, true, true, true] (any_of HT_.out (by kernel_rfl)) ?_
         refine done_ (done_of HT_.out (by kernel_rfl)) ?_
         try go_wp2
         go_roundg k1
         case measure => have := HK1.out; omega
         case rel => exact ⟨(wrap64 (x93_1 + 1)), (x376000_1), (u376000), rf_, H', ⟨by have := HK1.out; omega⟩, ⟨by (with_reducible repeat (first | apply Kd.R_alloc | apply Kd.R_drewN | apply Kd.R_drew)); exact HO_91.out⟩, ⟨by (with_reducible repeat (first | apply Kd.S_alloc | apply Kd.S_drewN | apply Kd.S_drew)); exact HO_376000.out⟩, ⟨bk_ BK371⟩, ⟨bk_ BK375⟩, ⟨bl_⟩⟩
       ·rw [if_neg c95] at H
        have c95b0 : decide (x93_1 < (t406.length : Int)) = false := decide_eq_false c95
        clear c95
        obtain rfl := Option.some.inj H
        have hnb116 := NB375_371.out
        have hnc116 := NB371_375.out
        have hcz117 := blk_cell BK375.out
        have hfz117 := blk_frozen BK375.out
        go_wp2
        go_ret
        exact ⟨_, eq_, by (with_reducible repeat (first | apply Kd.S_alloc | apply Kd.S_drewN | apply Kd.S_drew)); exact Kd.S_mono HO_376000.out (fun _ hk => trivial), bl_⟩
    ·rw [if_neg c83] at H
     have c83b0 : (a1_0 == 4) = false := beq_eq_false_iff_ne.mpr c83
     have c83b1 : (a1_0 != 4) = true := bne_iff_ne.mpr c83
     obtain rfl := Option.some.inj H
     go_enter Try.func147, Try.ntmps147
     go_wp2_with (first | (go_at_call 155; go_in) | (go_end0; simp only []; go_at_K) | ((with_reducible refine gate_dst (N := 3) rfl ?_); refine box_event ?hg (N := 3) ?hd (cs := #[.int .i64 a1_0, .int .i64 a1_1, .int .i64 a1_2, .int .i64 a1_3, .int .i64 a1_4, .int .i64 a1_5, .int .i64 a1_6, .int .i64 a1_7, .int .i64 a1_8, .int .i64 a1_9]) (t := 46) ?hr ?_; (case hd => rfl); (case hg => rfl); (case hr => first | (go_simp; done) | (go_simp; rfl)); intro gb371 hg w118 hbox hb; have BK371 := Aside0.mk (hbox); have GW371 := gs_ hg; have GE371 := gs_ hg; replace HB := hbs_ hb; clear hb hbox hg) | ((with_reducible refine gate_dst (N := 16) rfl ?_); refine Kd.S_lit k177 _ 177 ?hg (N := 16) ?hd (xs := ([] : List (S177))) (inner := []) (ok := fun _ => True) (okp := fun _ => True) ?hr ?hp (fun _ hk => hk) trivial (Below.refl _ _) (Nat.le_refl _) (by simp) ?_; (case hd => rfl); (case hg => rfl); (case hr => first | (go_simp; done) | (go_simp; rfl)); (case hp => exact (Reps.none _ _)); intro v373 w119 ho120 hb hg_ hnew_; clear hg_ hnew_; (first | rw [← Ny372.out] at ho120 | (simp only [Int.reduceToNat] at ho120; rw [← Ny372.out] at ho120)); have HO374 := Aside0.mk (Kd.S_lower ho120 bls_); replace BK371 := bkb_ BK371 hb; replace HB := hbs_ hb; clear hb ho120) | ((with_reducible refine gate_dst (N := 5) rfl ?_); refine box_event ?hg (N := 5) ?hd (cs := #[.slice none 0 0]) (t := 173) ?hr ?_; (case hd => rfl); (case hg => rfl); (case hr => first | (go_simp; done) | (go_simp; rfl)); intro gb375 hg w121 hbox hb; replace HO374 := Aside0.mk (Kd.S_below (by (with_reducible repeat (first | apply Kd.S_alloc | apply Kd.S_drewN | apply Kd.S_drew)); exact HO374.out) hb); have BK375 := Aside0.mk (hbox); have GW375 := gs_ hg; have GE375 := gs_ hg; replace HB := hbs_ hb; have NB371_375 := nl_ hg BK371; have NB375_371 := nr_ hg BK371; replace BK371 := bkb_ BK371 hb; clear hb hbox hg; obtain ⟨Ao122, co122, eo122⟩ := Kd.S_slice HO374.out; subst eo122; have hnb123 := NB375_371.out; have hnc123 := NB371_375.out; have hcz124 := blk_cell BK375.out; have hfz124 := blk_frozen BK375.out; have hcz125 := blk_cell BK371.out; have hfz125 := blk_frozen BK371.out))
     go_ret
     exact ⟨_, eq_, by (with_reducible repeat (first | apply Kd.S_alloc | apply Kd.S_drewN | apply Kd.S_drew)); exact Kd.S_mono (Kd.S_far (p := ⟨gb375, 0, none⟩) (Kd.S_types HO374.out BK375.out (by decide)) (fun _ hk => hk.2) (.slice Ao122 y372.length co122)) (fun _ hk => trivial), bl_⟩
end Go.Proofs.Ytppdmcimddhbaaa.PE
