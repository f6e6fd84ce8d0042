import Derived.Test.YtnoklfpnmopkpaaKPPEx13
-- printed by wip/tools
namespace Go.Proofs.Ytnoklfpnmopkpaa.PE
open Go.RowKit Go.Proofs.YtnoklfpnmopkpaaW.PrintWords Go.Proofs.YtnoklfpnmopkpaaW.PrintLast Go.Proofs.YtnoklfpnmopkpaaW.PrintMore
attribute [local go_sem] max2_int min2_int max_two min_two max_three min_three max_four min_four
set_option linter.unusedVariables false
set_option linter.unusedSimpArgs false
mutual
def impl_derive.l0 : Nat → List (S63) → List Int → Int → Int → Int → Int → Int → Int → Int → Int → Int → Int → Int → Int → List (S91) → Option ((List (S91)))
 | 0, _, _, _, _, _, _, _, _, _, _, _, _, _, _, _ => none
 | k + 1, x0, x31, x32, x33, x521000, x521001, x521002, x521003, x521004, x521005, x521006, x521007, x521008, x521009, x525000 => if x33 < x32 then (if 0 ≤ x33 then (if x33 < (x31.length : Int) then (if 0 ≤ (rd x31 x33) then (if (rd x31 x33) < (x0.length : Int) then (if x525000.length < 2932031007402 then (impl_derive.l0 k x0 x31 x32 (wrap64 (x33 + 1)) x521000 x521001 x521002 x521003 x521004 x521005 x521006 x521007 x521008 x521009 (x525000 ++ [(⟨(⟨(⟨x521001, x521002⟩ : S55), (rd_T63 x0 (rd x31 x33)).f1⟩ : S63), (([rd x31 x33] : List Int))⟩ : S91)])) else (none)) else (none)) else (none)) else (none)) else (none)) else (some x525000)
def impl_derive.l1 : Nat → List (S63) → List Int → Int → Int → Int → Int → Int → Int → Int → Int → Int → Int → Int → Int → List (S91) → Option ((List (S91)))
 | 0, _, _, _, _, _, _, _, _, _, _, _, _, _, _, _ => none
 | k + 1, x0, x52, x53, x54, x521000, x521001, x521002, x521003, x521004, x521005, x521006, x521007, x521008, x521009, x525000 => if x54 < x53 then (if 0 ≤ x54 then (if x54 < (x52.length : Int) then (if 0 ≤ (rd x52 x54) then (if (rd x52 x54) < (x0.length : Int) then ((impl_whoOf.f k x0 ((rd_T63 x0 (rd x52 x54)).f1) x521007).bind fun t544 => (impl_derive.l2 k x0 (rd x52 x54) x52 x53 x54 t544 (t544.length : Int) 0 x521000 x521001 x521002 x521003 x521004 x521005 x521006 x521007 x521008 x521009 x525000)) else (none)) else (none)) else (none)) else (none)) else (some x525000)
def impl_derive.l2 : Nat → List (S63) → Int → List Int → Int → Int → List Int → Int → Int → Int → Int → Int → Int → Int → Int → Int → Int → Int → Int → List (S91) → Option ((List (S91)))
 | 0, _, _, _, _, _, _, _, _, _, _, _, _, _, _, _, _, _, _, _ => none
 | k + 1, x0, x10, x52, x53, x54, x68, x69, x70, x521000, x521001, x521002, x521003, x521004, x521005, x521006, x521007, x521008, x521009, x525000 => if x70 < x69 then (if 0 ≤ x70 then (if x70 < (x68.length : Int) then (if 0 ≤ (rd x68 x70) then (if (rd x68 x70) < (x0.length : Int) then (if x525000.length < 2932031007402 then (impl_derive.l2 k x0 x10 x52 x53 x54 x68 x69 (wrap64 (x70 + 1)) x521000 x521001 x521002 x521003 x521004 x521005 x521006 x521007 x521008 x521009 (x525000 ++ [(⟨(⟨(⟨x521001, x521002⟩ : S55), (rd_T63 x0 (rd x68 x70)).f1⟩ : S63), (([x10, rd x68 x70] : List Int))⟩ : S91)])) else (none)) else (none)) else (none)) else (none)) else (none)) else (impl_derive.l1 k x0 x52 x53 (wrap64 (x54 + 1)) x521000 x521001 x521002 x521003 x521004 x521005 x521006 x521007 x521008 x521009 x525000)
def impl_derive.l3 : Nat → List (S63) → List Int → Int → Int → Int → Int → Int → Int → Int → Int → Int → Int → Int → Int → List (S91) → Option ((List (S91)))
 | 0, _, _, _, _, _, _, _, _, _, _, _, _, _, _, _ => none
 | k + 1, x0, x91, x92, x93, x521000, x521001, x521002, x521003, x521004, x521005, x521006, x521007, x521008, x521009, x525000 => if x93 < x92 then (if 0 ≤ x93 then (if x93 < (x91.length : Int) then (if 0 ≤ (rd x91 x93) then (if (rd x91 x93) < (x0.length : Int) then ((impl_Fact_54.f k x0 x521006 x521007 ((rd_T63 x0 (rd x91 x93)).f1)).bind fun t560 => (if t560 ≥ 0 then (if x525000.length < 2932031007402 then (impl_derive.l3 k x0 x91 x92 (wrap64 (x93 + 1)) x521000 x521001 x521002 x521003 x521004 x521005 x521006 x521007 x521008 x521009 (x525000 ++ [(⟨(⟨(⟨x521001, x521002⟩ : S55), (rd_T63 x0 (rd x91 x93)).f1⟩ : S63), (([rd x91 x93, t560] : List Int))⟩ : S91)])) else (none)) else (impl_derive.l3 k x0 x91 x92 (wrap64 (x93 + 1)) x521000 x521001 x521002 x521003 x521004 x521005 x521006 x521007 x521008 x521009 x525000))) else (none)) else (none)) else (none)) else (none)) else (some x525000)
end
def impl_derive.f (k : Nat) (l0 : List (S63)) (a1_0 : Int) (a1_1 : Int) (a1_2 : Int) (a1_3 : Int) (a1_4 : Int) (a1_5 : Int) (a1_6 : Int) (a1_7 : Int) (a1_8 : Int) (a1_9 : Int) : Option ((List (S91))) := (some (([] : List (S91)) : List (S91))).bind fun y521 => (if a1_0 = 1 then (if y521.length < 2932031007402 then (some (y521 ++ [(⟨(⟨(⟨a1_1, a1_2⟩ : S55), a1_3⟩ : S63), ([] : List Int)⟩ : S91)])) else (none)) else (if a1_0 = 2 then ((impl_whoOf.f k l0 a1_4 a1_5).bind fun t528 => (impl_derive.l0 k l0 t528 (t528.length : Int) 0 a1_0 a1_1 a1_2 a1_3 a1_4 a1_5 a1_6 a1_7 a1_8 a1_9 y521)) else (if a1_0 = 3 then ((impl_whoOf.f k l0 a1_4 a1_5).bind fun t539 => (impl_derive.l1 k l0 t539 (t539.length : Int) 0 a1_0 a1_1 a1_2 a1_3 a1_4 a1_5 a1_6 a1_7 a1_8 a1_9 y521)) else (if a1_0 = 4 then ((impl_whoOf.f k l0 a1_4 a1_5).bind fun t555 => (impl_derive.l3 k l0 t555 (t555.length : Int) 0 a1_0 a1_1 a1_2 a1_3 a1_4 a1_5 a1_6 a1_7 a1_8 a1_9 y521)) else (some y521)))))
def impl_derive.T16 : Bool × List (List Nat × List Nat) := (true, [([], []), ([], []), ([], []), ([1, 2], [1, 2]), ([3], [3]), ([4], [4]), ([], []), ([6], [6]), ([7], [7]), ([5, 8], [5, 8]), ([0, 9], [0, 9]), ([10], [10]), ([], [])])
def impl_derive.B16 : List Nat := [0, 0, 0, 6, 14, 30, 0, 64, 192, 510, 1023, 2047, 0]
theorem impl_derive.tab16 : rtab .any (opsOf Try.f60 16) = impl_derive.T16 := by kernel_rfl
theorem impl_derive.bits16 : waitsOk impl_derive.T16.2 impl_derive.B16 = true := by kernel_rfl
def impl_derive.T26 : Bool × List (List Nat × List Nat) := (true, [([], []), ([], []), ([1], [1]), ([], []), ([], []), ([3, 4], [3, 4]), ([5], [5]), ([6], [6]), ([2, 7], [2, 7]), ([0, 8], [0, 8]), ([9, 9, 0, 1, 2, 3, 4, 5, 6, 7, 8, 9], [9])])
def impl_derive.B26 : List Nat := [0, 0, 2, 0, 0, 24, 56, 120, 254, 511, 1023]
theorem impl_derive.tab26 : rtab .any (opsOf Try.f60 26) = impl_derive.T26 := by kernel_rfl
theorem impl_derive.bits26 : waitsOk impl_derive.T26.2 impl_derive.B26 = true := by kernel_rfl
set_option maxHeartbeats 8000000 in
set_option maxRecDepth 100000 in
theorem impl_derive.calls (k : Nat) (A0 : Option Addr) (c0 : Nat) (l0 : List (S63)) (a1_0 : Int) (a1_1 : Int) (a1_2 : Int) (a1_3 : Int) (a1_4 : Int) (a1_5 : Int) (a1_6 : Int) (a1_7 : Int) (a1_8 : Int) (a1_9 : Int) (r : List (S91)) (w : World) (hr0 : Kd.C k63 w A0 l0.length l0) (hc0 : l0.length ≤ c0) (h : impl_derive.f k l0 a1_0 a1_1 a1_2 a1_3 a1_4 a1_5 a1_6 a1_7 a1_8 a1_9 = some r) :
  Calls Try.prog 60 #[.slice A0 l0.length c0, .agg #[.int .i64 a1_0, .int .i64 a1_1, .int .i64 a1_2, .int .i64 a1_3, .int .i64 a1_4, .int .i64 a1_5, .int .i64 a1_6, .int .i64 a1_7, .int .i64 a1_8, .int .i64 a1_9]] w fun e w' => ∃ v0_ : Value, e = .returned (v0_) ∧ Kd.S k91 91 w' w.heap.size (fun _ => True) v0_ r ∧ Below w.heap.size w w' := by
 have hu74 := Try.underlying74
 have hu55 := Try.underlying55
 have hu63 := Try.underlying63
 have hmf : ∀ (fn : Fn) (first cap : Array Value) (w : World), (Instr.makeFunc fn first cap).run Try.prog w = .ok (.func fn first cap) w := fun _ _ _ _ => rfl
 have hu87 := Try.underlying87
 have HR0 := aa_ hr0
 have HC0 := aa_ hc0
 clear hr0 hc0
 have HB := aa_ (Below.refl w.heap.size w)
 have H : ((some (([] : List (S91)) : List (S91))).bind fun y521 => (if a1_0 = 1 then (if y521.length < 2932031007402 then (some (y521 ++ [(⟨(⟨(⟨a1_1, a1_2⟩ : S55), a1_3⟩ : S63), ([] : List Int)⟩ : S91)])) else (none)) else (if a1_0 = 2 then ((impl_whoOf.f k l0 a1_4 a1_5).bind fun t528 => (impl_derive.l0 k l0 t528 (t528.length : Int) 0 a1_0 a1_1 a1_2 a1_3 a1_4 a1_5 a1_6 a1_7 a1_8 a1_9 y521)) else (if a1_0 = 3 then ((impl_whoOf.f k l0 a1_4 a1_5).bind fun t539 => (impl_derive.l1 k l0 t539 (t539.length : Int) 0 a1_0 a1_1 a1_2 a1_3 a1_4 a1_5 a1_6 a1_7 a1_8 a1_9 y521)) else (if a1_0 = 4 then ((impl_whoOf.f k l0 a1_4 a1_5).bind fun t555 => (impl_derive.l3 k l0 t555 (t555.length : Int) 0 a1_0 a1_1 a1_2 a1_3 a1_4 a1_5 a1_6 a1_7 a1_8 a1_9 y521)) else (some y521)))))) = some r := h
 clear h
 obtain ⟨y521, hy521⟩ : ∃ y_ : List (S91), y_ = (([] : List (S91))) := ⟨_, rfl⟩
 replace H : (if a1_0 = 1 then (if y521.length < 2932031007402 then (some (y521 ++ [(⟨(⟨(⟨a1_1, a1_2⟩ : S55), a1_3⟩ : S63), ([] : List Int)⟩ : S91)])) else (none)) else (if a1_0 = 2 then ((impl_whoOf.f k l0 a1_4 a1_5).bind fun t528 => (impl_derive.l0 k l0 t528 (t528.length : Int) 0 a1_0 a1_1 a1_2 a1_3 a1_4 a1_5 a1_6 a1_7 a1_8 a1_9 y521)) else (if a1_0 = 3 then ((impl_whoOf.f k l0 a1_4 a1_5).bind fun t539 => (impl_derive.l1 k l0 t539 (t539.length : Int) 0 a1_0 a1_1 a1_2 a1_3 a1_4 a1_5 a1_6 a1_7 a1_8 a1_9 y521)) else (if a1_0 = 4 then ((impl_whoOf.f k l0 a1_4 a1_5).bind fun t555 => (impl_derive.l3 k l0 t555 (t555.length : Int) 0 a1_0 a1_1 a1_2 a1_3 a1_4 a1_5 a1_6 a1_7 a1_8 a1_9 y521)) else (some y521))))) = some r := rh_ hy521 H
 have Ny521 := aa_ hy521
 clear hy521
 have HC3 := aa_ H
 clear H
 go_enter Try.func60, Try.ntmps60
 go_upto_if 20 with (first | (go_at_call 66; go_in) | (go_end0; simp only []; go_at_K) | ((with_reducible refine gD_ 3 rfl ?_); refine bx_ (N := 3) (cs := #[.int .i64 a1_0, .int .i64 a1_1, .int .i64 a1_2, .int .i64 a1_3, .int .i64 a1_4, .int .i64 a1_5, .int .i64 a1_6, .int .i64 a1_7, .int .i64 a1_8, .int .i64 a1_9]) (t := 74) ?_; intro gb520 hg w4 hbox hb; have BK520 := aa_ (hbox); have GW520 := gs_ hg; have GE520 := gs_ hg; replace HB := hbs_ hb; clear hb hbox hg) | ((with_reducible refine gD_ 16 rfl ?_); refine Kd.S_lit k91 _ 91 ?hg (N := 16) ?hd (xs := ([] : List (S91))) (inner := []) (ok := fun _ => True) (okp := fun _ => True) ?hr ?hp (fun _ hk => hk) trivial (Below.refl _ _) (Nat.le_refl _) (by simp) ?_; (case hd => rfl); (case hg => rfl); (case hr => first | (go_simp; done) | (go_simp; rfl)); (case hp => exact (Reps.none _ _)); intro v522 w5 ho6 hb hg_ hnew_; clear hg_ hnew_; (first | rw [← Ny521.out] at ho6 | (simp only [Int.reduceToNat] at ho6; rw [← Ny521.out] at ho6)); have HO523 := aa_ (Kd.S_lower ho6 bls_); replace BK520 := bkb_ BK520 hb; replace HB := hbs_ hb; clear hb ho6) | ((with_reducible refine gD_ 5 rfl ?_); refine bx_ (N := 5) (cs := #[.slice none 0 0]) (t := 87) ?_; intro gb524 hg w7 hbox hb; replace HO523 := aa_ (Kd.S_below (rs_ HO523) hb); have BK524 := aa_ (hbox); have GW524 := gs_ hg; have GE524 := gs_ hg; replace HB := hbs_ hb; have NB520_524 := nl_ hg BK520; have NB524_520 := nr_ hg BK520; replace BK520 := bkb_ BK520 hb; clear hb hbox hg; obtain ⟨Ao8, co8, eo8⟩ := Kd.S_slice HO523.out; subst eo8; have hnb9 := NB524_520.out; have hnc9 := NB520_524.out; obtain ⟨hcz10, hfz10⟩ := bcf_ BK524; obtain ⟨hcz11, hfz11⟩ := bcf_ BK520))
 have n0_ : Aside0 (Kd.S k91 91 (w7.setCell ⟨gb524, 0, none⟩ (.slice Ao8 y521.length co8)) w.heap.size (fun _ => True) (.slice Ao8 y521.length co8) y521) := ⟨by (with_reducible repeat (first | apply Kd.S_alloc | apply Kd.S_drewN | apply Kd.S_drew)); exact Kd.S_mono (Kd.S_far (p := ⟨gb524, 0, none⟩) (Kd.S_types HO523.out BK524.out (by decide)) (fun _ hk => hk.2) (.slice Ao8 y521.length co8)) (fun _ hk => trivial)⟩
 have n1_ : Aside0 ((w7.setCell ⟨gb524, 0, none⟩ (.slice Ao8 y521.length co8)).heap[gb520]? = some (.cells #[.int .i64 a1_0, .int .i64 a1_1, .int .i64 a1_2, .int .i64 a1_3, .int .i64 a1_4, .int .i64 a1_5, .int .i64 a1_6, .int .i64 a1_7, .int .i64 a1_8, .int .i64 a1_9] 74 (0, 0))) := ⟨bk_ BK520⟩
 have n2_ : Aside0 ((w7.setCell ⟨gb524, 0, none⟩ (.slice Ao8 y521.length co8)).heap[gb524]? = some (.cells #[.slice Ao8 y521.length co8] 87 (0, 0))) := ⟨bk_ BK524⟩
 have n3_ : Aside0 (Below w.heap.size w (w7.setCell ⟨gb524, 0, none⟩ (.slice Ao8 y521.length co8))) := ⟨bl_⟩
 (try clear HO523)
 (try clear BK520)
 (try clear BK524)
 (try clear HB)
 generalize (w7.setCell ⟨gb524, 0, none⟩ (.slice Ao8 y521.length co8)) = w12 at n0_ n1_ n2_ n3_ ⊢
 have HO523 := n0_
 have BK520 := n1_
 have BK524 := n2_
 have HB := n3_
 clear n0_ n1_ n2_ n3_
 (try simp only [Act.put, List.setIfInBounds_toArray, List.set_cons_zero, List.set_cons_succ])
 have H := HC3.out
 clear HC3
 by_cases c13 : a1_0 = 1
 ·rw [if_pos c13] at H
  have c13b0 : (a1_0 == 1) = true := beq_iff_eq.mpr c13
  have c13b1 : (a1_0 != 1) = false := bne_eq_false_iff_eq.mpr c13
  clear c13
  (first | rw [c13b0] | (simp only [i64_w, i32_w]; rw [c13b0]) | skip)
  obtain ⟨c14, H⟩ := ifn_ H
  have LMc14 := aa_ c14
  clear c14
  obtain ⟨y525, hy525⟩ : ∃ y_ : List (S91), y_ = (y521 ++ [(⟨(⟨(⟨a1_1, a1_2⟩ : S55), a1_3⟩ : S63), ([] : List Int)⟩ : S91)]) := ⟨_, rfl⟩
  replace H : (some y525) = some r := rh_ hy525 H
  have Ny525 := aa_ hy525
  clear hy525
  obtain rfl := Option.some.inj H
  have hnb15 := NB520_524.out
  have hnc15 := NB524_520.out
  have hcz16 := blk_cell BK520.out
  have hfz16 := blk_frozen BK520.out
  have hcz17 := blk_cell BK524.out
  have hfz17 := blk_frozen BK524.out
  go_wp2_with (first | (go_at_call 66; go_in) | (go_end0; simp only []; go_at_K) | ((with_reducible refine gate_builtin (b := .append) (xs := #[.tmp 6, .tmp 13]) rfl ?_); at_builtin; refine Kd.S_append k91 (w0 := w) w.heap.size rfl (.tmp 6) (.tmp 13) 87 91 (.agg #[(.int .i64 0), (.int .i64 0), (.int .i64 0), (.slice none 0 0)]) 48 rfl Try.underlying87 info91 rfl (by decide) (by omega) (.slice Ao8 y521.length co8) y521 (⟨(⟨(⟨a1_1, a1_2⟩ : S55), a1_3⟩ : S63), ([] : List Int)⟩ : S91) [.int .i64 a1_1, .int .i64 a1_2, .int .i64 a1_3, .slice none 0 0] (fun _ => True) (fun _ => False) rfl rfl ?aP (fun k_ hk_ => hk_.elim) ?aF ?aO ?aB ?aS ?aL ?_; (case aP => exact k91_mkM _ _ _ (⟨(⟨(⟨a1_1, a1_2⟩ : S55), a1_3⟩ : S63), ([] : List Int)⟩ : S91) (Kd.R_nil _ _ _ _ _)); (case aB => exact bl_); (case aF => exact (fun _ _ => trivial)); (case aO => exact (by (with_reducible repeat (first | apply Kd.S_alloc | apply Kd.S_drewN | apply Kd.S_drew)); exact Kd.S_mono HO523.out (fun k_ hk => ⟨trivial, fun e_ => e_⟩))); (case aS => exact bls_); (case aL => have := LMc14.out; omega); intro v526 w18 ho hb hg hat; rw [← Ny525.out] at ho; replace BK520 := aa_ (blk_grown (g := gb520) (o := .cells #[.int .i64 a1_0, .int .i64 a1_1, .int .i64 a1_2, .int .i64 a1_3, .int .i64 a1_4, .int .i64 a1_5, .int .i64 a1_6, .int .i64 a1_7, .int .i64 a1_8, .int .i64 a1_9] 74 (0, 0)) (bk_ BK520) hg (Kd.S_ne HO523.out BK520.out (by decide))); replace BK524 := aa_ (blk_grown (g := gb524) (o := .cells #[.slice Ao8 y521.length co8] 87 (0, 0)) (bk_ BK524) hg (Kd.S_ne HO523.out BK524.out (by decide))); replace HB := aa_ (hb); have HO527 := aa_ (ho); clear HO523; clear ho hb hg hat; obtain ⟨Ao19, co19, eo19⟩ := Kd.S_slice HO527.out; subst eo19; obtain ⟨hcz20, hfz20⟩ := bcf_ BK524))
  go_ret
  exact ⟨_, eq_, by (with_reducible repeat (first | apply Kd.S_alloc | apply Kd.S_drewN | apply Kd.S_drew)); exact Kd.S_mono (Kd.S_far (p := ⟨gb524, 0, none⟩) (Kd.S_types HO527.out BK524.out (by decide)) (fun _ hk => hk.2) (.slice Ao19 y525.length co19)) (fun _ hk => trivial), bl_⟩
 ·rw [if_neg c13] at H
  have c13b0 : (a1_0 == 1) = false := beq_eq_false_iff_ne.mpr c13
  have c13b1 : (a1_0 != 1) = true := bne_iff_ne.mpr c13
  (first | rw [c13b0] | (simp only [i64_w, i32_w]; rw [c13b0]) | skip)
  by_cases c21 : a1_0 = 2
  ·rw [if_pos c21] at H
   have c21b0 : (a1_0 == 2) = true := beq_iff_eq.mpr c21
   have c21b1 : (a1_0 != 2) = false := bne_eq_false_iff_eq.mpr c21
   clear c21
   obtain ⟨t528, A22, H⟩ := bindE_ H
   have H' := aa_ H
   clear H
   have hnb23 := NB520_524.out
   have hnc23 := NB524_520.out
   have hcz24 := blk_cell BK520.out
   have hfz24 := blk_frozen BK520.out
   go_wp2_with (first | (go_at_call 66; go_in) | (go_end0; simp only []; go_at_K) | ((with_reducible refine gC_ 67 rfl ?_); refine goesC_ (some 31) Try.func67 #[.slice A0 l0.length c0, .agg #[.int .i64 a1_4, .int .i64 a1_5]] ?_; (with_reducible refine (impl_whoOf.calls k _ _ l0 a1_4 a1_5 t528 _ ?side1 ?side2 A22.out).mono ?_); (case side1 => repeat (first | exact (Kd.C_below HR0.out HB.out) | (with_reducible refine Kd.C_alloc ?_ _) | (with_reducible refine Kd.C_drewN ?_ _) | (with_reducible refine Kd.C_drew ?_))); (case side2 => exact HC0.out); rintro e w25 ⟨v529, rfl, ho0, hb⟩; refine ⟨_, rfl, ?_⟩; replace HO523 := aa_ (Kd.S_elder' (rs_ HO523) (Kd.R_base ho0) hb); have HO530 := aa_ (Kd.R_lower ho0 bls_); replace BK520 := bkb_ BK520 hb; replace BK524 := bkb_ BK524 hb; replace HB := hbs_ hb; (try clear hb ho0); obtain ⟨Ao26, co26, eo26⟩ := Kd.R_slice HO530.out; subst eo26))
   go_loopg [33] k (fun kq v33 w' => ∃ (x33_1 : Int) (x525000_1 : List (S91)) (u525000 : Value), v33 = .int .i64 x33_1 ∧ Aside0 (impl_derive.l0 kq l0 t528 (t528.length : Int) x33_1 a1_0 a1_1 a1_2 a1_3 a1_4 a1_5 a1_6 a1_7 a1_8 a1_9 x525000_1 = some r) ∧ Aside0 (kq ≤ k) ∧ Aside0 (Kd.R (Kd.int .i64) 3 w' w.heap.size (fun _ => True) (.slice Ao26 t528.length co26) t528) ∧ Aside0 (Kd.S k91 91 w' w.heap.size (fun k_ => some k_ ≠ ((.slice Ao26 t528.length co26) : Value).ownBlock) u525000 x525000_1) ∧ Aside0 (w'.heap[gb520]? = some (.cells #[.int .i64 a1_0, .int .i64 a1_1, .int .i64 a1_2, .int .i64 a1_3, .int .i64 a1_4, .int .i64 a1_5, .int .i64 a1_6, .int .i64 a1_7, .int .i64 a1_8, .int .i64 a1_9] 74 (0, 0))) ∧ Aside0 (w'.heap[gb524]? = some (.cells #[u525000] 87 (0, 0))) ∧ Aside0 (Below w.heap.size w w'))
   case atStart => exact ⟨(0), (y521), (.slice Ao8 y521.length co8), rf_, H', ⟨Nat.le_refl _⟩, ⟨rr_ HO530⟩, ⟨by (with_reducible repeat (first | apply Kd.S_alloc | apply Kd.S_drewN | apply Kd.S_drew)); exact Kd.S_mono HO523.out (fun _ hk => hk.2)⟩, ⟨bk_ BK520⟩, ⟨bk_ BK524⟩, ⟨bl_⟩⟩
   case round =>
    clear H'
    try clear c1
    try clear c2
    try clear p2
    try clear c6
    try clear c9
    try clear c13
    try clear c13b0
    try clear c13b1
    try clear c14
    try clear c15
    try clear c21
    try clear c21b0
    try clear c21b1
    try clear c23
    try clear hcz10
    try clear hcz11
    try clear hcz16
    try clear hcz17
    try clear hcz20
    try clear hcz24
    try clear hfz10
    try clear hfz11
    try clear hfz16
    try clear hfz17
    try clear hfz20
    try clear hfz24
    obtain ⟨x33_1, x525000_1, u525000, rfl, HA, HK1, HO_31, HO_525000, BK520, BK524, HB⟩ := hrel
    cases gk with
    | zero => exact absurd HA.out (by simp [impl_derive.l0])
    | succ k1 =>
     have H := HA.out
     clear HA
     simp only [impl_derive.l0] at H
     by_cases c27 : x33_1 < (t528.length : Int)
     ·rw [if_pos c27] at H
      have c27b0 : decide (x33_1 < (t528.length : Int)) = true := decide_eq_true c27
      clear c27
      obtain ⟨c28b0, H⟩ := ifd_ H
      obtain ⟨c29b0, H⟩ := ifd_ H
      obtain ⟨c30b0, H⟩ := ifd_ H
      obtain ⟨c31b0, H⟩ := ifd_ H
      obtain ⟨y533, hy533⟩ : ∃ y_ : List Int, y_ = (([rd t528 x33_1] : List Int)) := ⟨_, rfl⟩
      replace H : (if x525000_1.length < 2932031007402 then (impl_derive.l0 k1 l0 t528 (t528.length : Int) (wrap64 (x33_1 + 1)) a1_0 a1_1 a1_2 a1_3 a1_4 a1_5 a1_6 a1_7 a1_8 a1_9 (x525000_1 ++ [(⟨(⟨(⟨a1_1, a1_2⟩ : S55), (rd_T63 l0 (rd t528 x33_1)).f1⟩ : S63), y533⟩ : S91)])) else (none)) = some r := rh_ hy533 H
      have Ny533 := aa_ hy533
      clear hy533
      obtain ⟨c32, H⟩ := ifn_ H
      have LMc32 := aa_ c32
      clear c32
      obtain ⟨y536, hy536⟩ : ∃ y_ : List (S91), y_ = (x525000_1 ++ [(⟨(⟨(⟨a1_1, a1_2⟩ : S55), (rd_T63 l0 (rd t528 x33_1)).f1⟩ : S63), y533⟩ : S91)]) := ⟨_, rfl⟩
      replace H : (impl_derive.l0 k1 l0 t528 (t528.length : Int) (wrap64 (x33_1 + 1)) a1_0 a1_1 a1_2 a1_3 a1_4 a1_5 a1_6 a1_7 a1_8 a1_9 y536) = some r := rh_ hy536 H
      have Ny536 := aa_ hy536
      clear hy536
      have H' := aa_ H
      clear H
      have p531 : 0 ≤ (x33_1 : Int) := od_
      have q531 : x33_1 < (t528.length : Int) := od_
      obtain ⟨ad531, e531, hx531_0⟩ := Kd.at_int (Kd.R_reads' HO_31.out).2.2 x33_1 p531 q531
      cases e531
      replace p531 := eq_true p531
      replace q531 := eq_true q531
      have p532 : 0 ≤ ((rd t528 x33_1) : Int) := od_
      have q532 : (rd t528 x33_1) < (l0.length : Int) := od_
      obtain ⟨ad532, e532, hx532_0, hx532_1, hx532_2⟩ := at_T63 (Kd.C_below HR0.out HB.out) (rd t528 x33_1) p532 q532
      cases e532
      replace p532 := eq_true p532
      replace q532 := eq_true q532
      go_wp2_with (first | (go_at_call 66; go_in) | (go_end0; simp only []; go_at_K) | ((with_reducible refine gD_ 44 rfl ?_); refine Kd.R_lit (Kd.int .i64) _ 3 ?hg (N := 44) ?hd (xs := ([rd t528 x33_1] : List Int)) (inner := [.int .i64 (rd t528 x33_1)]) (ok := fun _ => True) (okp := fun _ => True) ?hr ?hp (fun _ hk => hk) trivial (Below.refl _ _) (Nat.le_refl _) (by simp) ?_; (case hd => rfl); (case hg => rfl); (case hr => first | (go_simp; done) | (go_simp; rfl)); (case hp => exact (Reps.one (show Kd.M (Kd.int .i64) _ _ _ (rd t528 x33_1) [.int .i64 (rd t528 x33_1)] from rfl) (Reps.none _ _))); intro v534 w33 ho34 hb hg_ hnew_; clear hg_ hnew_; (first | rw [← Ny533.out] at ho34 | (simp only [Int.reduceToNat] at ho34; rw [← Ny533.out] at ho34)); replace HO_525000 := aa_ (Kd.S_elder' (rs_ HO_525000) (Kd.R_base ho34) hb); have HO535 := aa_ (Kd.R_lower (Kd.R_new' ho34 (Kd.R_lt (rr_ HO_31))) bls_); replace HO_31 := aa_ (Kd.R_elder' (rr_ HO_31) (Kd.R_base ho34) hb); replace BK520 := bkb_ BK520 hb; replace BK524 := bkb_ BK524 hb; replace HB := hbs_ hb; clear hb ho34; have hnb35 := NB524_520.out; have hnc35 := NB520_524.out; obtain ⟨hcz36, hfz36⟩ := bcf_ BK524; obtain ⟨hcz37, hfz37⟩ := bcf_ BK520; obtain ⟨Ao38, co38, eo38⟩ := Kd.R_slice HO535.out; subst eo38) | ((with_reducible refine gate_builtin (b := .append) (xs := #[.tmp 6, .tmp 13]) rfl ?_); at_builtin; refine Kd.S_append k91 (w0 := w) w.heap.size rfl (.tmp 6) (.tmp 13) 87 91 (.agg #[(.int .i64 0), (.int .i64 0), (.int .i64 0), (.slice none 0 0)]) 48 rfl Try.underlying87 info91 rfl (by decide) (by omega) u525000 x525000_1 (⟨(⟨(⟨a1_1, a1_2⟩ : S55), (rd_T63 l0 (rd t528 x33_1)).f1⟩ : S63), y533⟩ : S91) [.int .i64 a1_1, .int .i64 a1_2, .int .i64 ((rd_T63 l0 (rd t528 x33_1)).f1), .slice Ao38 y533.length co38] (fun k_ => some k_ ≠ (.slice (some ad531) t528.length co26 : Value).ownBlock) (fun k_ => some k_ = (.slice Ao38 y533.length co38 : Value).ownBlock) rfl rfl ?aP (fun k_ hk_ => ((Kd.R_mono (ok' := fun k_ => ((fun k_ => some k_ ≠ (.slice (some ad531) t528.length co26 : Value).ownBlock)) k_ ∧ some k_ ≠ (u525000 : Value).ownBlock) (Kd.R_apart' (HO535.out) (Kd.S_typed HO_525000.out) (by decide)) (fun k_ hk => ⟨hk.1.2, hk.2⟩))).1 k_ hk_.symm) ?aF ?aO ?aB ?aS ?aL ?_; (case aP => exact k91_mkM _ _ _ (⟨(⟨(⟨a1_1, a1_2⟩ : S55), (rd_T63 l0 (rd t528 x33_1)).f1⟩ : S63), y533⟩ : S91) (Kd.R_mono (Kd.R_tight rfl (Kd.R_mono (ok' := fun k_ => ((fun k_ => some k_ ≠ (.slice (some ad531) t528.length co26 : Value).ownBlock)) k_ ∧ some k_ ≠ (u525000 : Value).ownBlock) (Kd.R_apart' (HO535.out) (Kd.S_typed HO_525000.out) (by decide)) (fun k_ hk => ⟨hk.1.2, hk.2⟩))) (fun _ h_ => h_))); (case aB => exact bl_); (case aF => exact (fun k_ hk => Kd.fresh' (Kd.R_lt (rr_ HO_31)) k_ hk)); (case aO => exact (by (with_reducible repeat (first | apply Kd.S_alloc | apply Kd.S_drewN | apply Kd.S_drew)); exact Kd.S_mono HO_525000.out (fun k_ hk => ⟨hk.1, fun e_ => hk.2 e_⟩))); (case aS => exact bls_); (case aL => have := LMc32.out; omega); intro v537 w39 ho hb hg hat; rw [← Ny536.out] at ho; replace HO_31 := aa_ (Kd.R_over' (rr_ HO_31) (Kd.S_typed (rs_ HO_525000)) (by decide) hg); replace BK520 := aa_ (blk_grown (g := gb520) (o := .cells #[.int .i64 a1_0, .int .i64 a1_1, .int .i64 a1_2, .int .i64 a1_3, .int .i64 a1_4, .int .i64 a1_5, .int .i64 a1_6, .int .i64 a1_7, .int .i64 a1_8, .int .i64 a1_9] 74 (0, 0)) (bk_ BK520) hg (Kd.S_ne HO_525000.out BK520.out (by decide))); replace BK524 := aa_ (blk_grown (g := gb524) (o := .cells #[u525000] 87 (0, 0)) (bk_ BK524) hg (Kd.S_ne HO_525000.out BK524.out (by decide))); replace HB := aa_ (hb); have HO538 := aa_ (ho); clear HO_525000; clear HO535; clear ho hb hg hat; obtain ⟨Ao40, co40, eo40⟩ := Kd.S_slice HO538.out; subst eo40; obtain ⟨hcz41, hfz41⟩ := bcf_ BK524))
      go_roundg k1
      case measure => have := HK1.out; omega
      case rel => exact ⟨(wrap64 (x33_1 + 1)), (y536), (.slice Ao40 y536.length co40), rf_, H', ⟨by have := HK1.out; omega⟩, ⟨by (with_reducible repeat (first | apply Kd.R_alloc | apply Kd.R_drewN | apply Kd.R_drew)); exact Kd.R_mono (Kd.R_far (p := ⟨gb524, 0, none⟩) (Kd.R_types HO_31.out BK524.out (by decide)) (fun _ hk => hk.2) (.slice Ao40 y536.length co40)) (fun _ hk => trivial)⟩, ⟨by (with_reducible repeat (first | apply Kd.S_alloc | apply Kd.S_drewN | apply Kd.S_drew)); exact Kd.S_mono (Kd.S_far (p := ⟨gb524, 0, none⟩) (Kd.S_types HO538.out BK524.out (by decide)) (fun _ hk => hk.2) (.slice Ao40 y536.length co40)) (fun _ hk => hk.1)⟩, ⟨bk_ BK520⟩, ⟨bk_ BK524⟩, ⟨bl_⟩⟩
     ·rw [if_neg c27] at H
      have c27b0 : decide (x33_1 < (t528.length : Int)) = false := decide_eq_false c27
      clear c27
      obtain rfl := Option.some.inj H
      have hnb42 := NB524_520.out
      have hnc42 := NB520_524.out
      have hcz43 := blk_cell BK524.out
      have hfz43 := blk_frozen BK524.out
      go_wp2
      go_ret
      exact ⟨_, eq_, by (with_reducible repeat (first | apply Kd.S_alloc | apply Kd.S_drewN | apply Kd.S_drew)); exact Kd.S_mono HO_525000.out (fun _ hk => trivial), bl_⟩
  ·rw [if_neg c21] at H
   have c21b0 : (a1_0 == 2) = false := beq_eq_false_iff_ne.mpr c21
   have c21b1 : (a1_0 != 2) = true := bne_iff_ne.mpr c21
   by_cases c44 : a1_0 = 3
   ·rw [if_pos c44] at H
    have c44b0 : (a1_0 == 3) = true := beq_iff_eq.mpr c44
    have c44b1 : (a1_0 != 3) = false := bne_eq_false_iff_eq.mpr c44
    clear c44
    obtain ⟨t539, A45, H⟩ := bindE_ H
    have H' := aa_ H
    clear H
    have hnb46 := NB520_524.out
    have hnc46 := NB524_520.out
    have hcz47 := blk_cell BK520.out
    have hfz47 := blk_frozen BK520.out
    go_wp2_with (first | (go_at_call 66; go_in) | (go_end0; simp only []; go_at_K) | ((with_reducible refine gC_ 67 rfl ?_); refine goesC_ (some 52) Try.func67 #[.slice A0 l0.length c0, .agg #[.int .i64 a1_4, .int .i64 a1_5]] ?_; (with_reducible refine (impl_whoOf.calls k _ _ l0 a1_4 a1_5 t539 _ ?side1 ?side2 A45.out).mono ?_); (case side1 => repeat (first | exact (Kd.C_below HR0.out HB.out) | (with_reducible refine Kd.C_alloc ?_ _) | (with_reducible refine Kd.C_drewN ?_ _) | (with_reducible refine Kd.C_drew ?_))); (case side2 => exact HC0.out); rintro e w48 ⟨v540, rfl, ho0, hb⟩; refine ⟨_, rfl, ?_⟩; replace HO523 := aa_ (Kd.S_elder' (rs_ HO523) (Kd.R_base ho0) hb); have HO541 := aa_ (Kd.R_lower ho0 bls_); replace BK520 := bkb_ BK520 hb; replace BK524 := bkb_ BK524 hb; replace HB := hbs_ hb; (try clear hb ho0); obtain ⟨Ao49, co49, eo49⟩ := Kd.R_slice HO541.out; subst eo49))
    go_loopg [54] k (fun kq v54 w' => ∃ (x54_1 : Int) (x525000_1 : List (S91)) (u525000 : Value), v54 = .int .i64 x54_1 ∧ Aside0 (impl_derive.l1 kq l0 t539 (t539.length : Int) x54_1 a1_0 a1_1 a1_2 a1_3 a1_4 a1_5 a1_6 a1_7 a1_8 a1_9 x525000_1 = some r) ∧ Aside0 (kq ≤ k) ∧ Aside0 (Kd.R (Kd.int .i64) 3 w' w.heap.size (fun _ => True) (.slice Ao49 t539.length co49) t539) ∧ Aside0 (Kd.S k91 91 w' w.heap.size (fun k_ => some k_ ≠ ((.slice Ao49 t539.length co49) : Value).ownBlock) u525000 x525000_1) ∧ Aside0 (w'.heap[gb520]? = some (.cells #[.int .i64 a1_0, .int .i64 a1_1, .int .i64 a1_2, .int .i64 a1_3, .int .i64 a1_4, .int .i64 a1_5, .int .i64 a1_6, .int .i64 a1_7, .int .i64 a1_8, .int .i64 a1_9] 74 (0, 0))) ∧ Aside0 (w'.heap[gb524]? = some (.cells #[u525000] 87 (0, 0))) ∧ Aside0 (Below w.heap.size w w'))
    case atStart => exact ⟨(0), (y521), (.slice Ao8 y521.length co8), rf_, H', ⟨Nat.le_refl _⟩, ⟨rr_ HO541⟩, ⟨by (with_reducible repeat (first | apply Kd.S_alloc | apply Kd.S_drewN | apply Kd.S_drew)); exact Kd.S_mono HO523.out (fun _ hk => hk.2)⟩, ⟨bk_ BK520⟩, ⟨bk_ BK524⟩, ⟨bl_⟩⟩
    case round =>
     clear H'
     try clear c1
     try clear c2
     try clear p2
     try clear c3
     try clear c4
     try clear p5
     try clear q5
     try clear hx5
     try clear c6
     try clear p6
     try clear c9
     try clear c13
     try clear c13b0
     try clear c13b1
     try clear c14
     try clear c15
     try clear c21
     try clear c21b0
     try clear c21b1
     try clear c23
     try clear c27
     try clear c27b0
     try clear c28
     try clear c28b0
     try clear c29
     try clear c29b0
     try clear c30
     try clear c30b0
     try clear c31
     try clear c31b0
     try clear c32
     try clear c35
     try clear c42
     try clear c44
     try clear c44b0
     try clear c44b1
     try clear c46
     try clear hcz10
     try clear hcz11
     try clear hcz16
     try clear hcz17
     try clear hcz20
     try clear hcz24
     try clear hcz36
     try clear hcz37
     try clear hcz41
     try clear hcz43
     try clear hcz47
     try clear hfz10
     try clear hfz11
     try clear hfz16
     try clear hfz17
     try clear hfz20
     try clear hfz24
     try clear hfz36
     try clear hfz37
     try clear hfz41
     try clear hfz43
     try clear hfz47
     try clear hx531_0
     try clear hx532_0
     try clear hx532_1
     try clear hx532_2
     try clear p2
     try clear p531
     try clear p532
     try clear q531
     try clear q532
     obtain ⟨x54_1, x525000_1, u525000, rfl, HA, HK1, HO_52, HO_525000, BK520, BK524, HB⟩ := hrel
     cases gk with
     | zero => exact absurd HA.out (by simp [impl_derive.l1])
     | succ k1 =>
      have H := HA.out
      clear HA
      simp only [impl_derive.l1] at H
      by_cases c50 : x54_1 < (t539.length : Int)
      ·rw [if_pos c50] at H
       have c50b0 : decide (x54_1 < (t539.length : Int)) = true := decide_eq_true c50
       clear c50
       obtain ⟨c51b0, H⟩ := ifd_ H
       obtain ⟨c52b0, H⟩ := ifd_ H
       obtain ⟨c53b0, H⟩ := ifd_ H
       obtain ⟨c54b0, H⟩ := ifd_ H
       obtain ⟨t544, A55, H⟩ := bindE_ H
       have H' := aa_ H
       clear H
       have p542 : 0 ≤ (x54_1 : Int) := od_
       have q542 : x54_1 < (t539.length : Int) := od_
       obtain ⟨ad542, e542, hx542_0⟩ := Kd.at_int (Kd.R_reads' HO_52.out).2.2 x54_1 p542 q542
       cases e542
       replace p542 := eq_true p542
       replace q542 := eq_true q542
       try go_wp2
       replace HO_52 := aa_ (Kd.R_drew HO_52.out)
       replace HO_525000 := aa_ (Kd.S_drew HO_525000.out)
       replace BK520 := aa_ (blk_drew BK520.out)
       replace BK524 := aa_ (blk_drew BK524.out)
       replace HB := aa_ (below_drew1 HB.out)
       have p543 : 0 ≤ ((rd t539 x54_1) : Int) := od_
       have q543 : (rd t539 x54_1) < (l0.length : Int) := od_
       obtain ⟨ad543, e543, hx543_0, hx543_1, hx543_2⟩ := at_T63 HR0.out (rd t539 x54_1) p543 q543
       have hw543_2 := hx543_2
       have hw543_1 := hx543_1
       have hw543_0 := hx543_0
       cases e543
       replace hx543_0 := cb_ HB hx543_0
       replace hx543_1 := cb_ HB hx543_1
       replace hx543_2 := cb_ HB hx543_2
       replace p543 := eq_true p543
       replace q543 := eq_true q543
       refine start_ (n := 13) (S := fun w' => w'.cell? ⟨gb520, 0, none⟩ = some (.int .i64 a1_0) ∧ w'.cell? ⟨gb520, 1, none⟩ = some (.int .i64 a1_1) ∧ w'.cell? ⟨gb520, 2, none⟩ = some (.int .i64 a1_2) ∧ w'.cell? ⟨gb520, 3, none⟩ = some (.int .i64 a1_3) ∧ w'.cell? ⟨gb520, 4, none⟩ = some (.int .i64 a1_4) ∧ w'.cell? ⟨gb520, 5, none⟩ = some (.int .i64 a1_5) ∧ w'.cell? ⟨gb520, 6, none⟩ = some (.int .i64 a1_6) ∧ w'.cell? ⟨gb520, 7, none⟩ = some (.int .i64 a1_7) ∧ w'.cell? ⟨gb520, 8, none⟩ = some (.int .i64 a1_8) ∧ w'.cell? ⟨gb520, 9, none⟩ = some (.int .i64 a1_9) ∧ w'.cell? (ad543.add (((rd t539 x54_1)).toNat * 3)) = some (.int .i64 ((rd_T63 l0 (rd t539 x54_1)).f0.f0)) ∧ w'.cell? ⟨(ad543.add (((rd t539 x54_1)).toNat * 3)).block, (ad543.add (((rd t539 x54_1)).toNat * 3)).off + 1, none⟩ = some (.int .i64 ((rd_T63 l0 (rd t539 x54_1)).f0.f1)) ∧ w'.cell? ⟨(ad543.add (((rd t539 x54_1)).toNat * 3)).block, (ad543.add (((rd t539 x54_1)).toNat * 3)).off + 2, none⟩ = some (.int .i64 ((rd_T63 l0 (rd t539 x54_1)).f1))) (ds := []) (ba_ 13 0) (by kernel_rfl) rfl rfl ⟨(blk_cell BK520.out 0).trans rfl, (blk_cell BK520.out 1).trans rfl, (blk_cell BK520.out 2).trans rfl, (blk_cell BK520.out 3).trans rfl, (blk_cell BK520.out 4).trans rfl, (blk_cell BK520.out 5).trans rfl, (blk_cell BK520.out 6).trans rfl, (blk_cell BK520.out 7).trans rfl, (blk_cell BK520.out 8).trans rfl, (blk_cell BK520.out 9).trans rfl, (cb_ HB hw543_0 :), (cb_ HB hw543_1 :), (cb_ HB hw543_2 :)⟩ (fun hHeld => ?_); refine with_tabW impl_derive.tab16 impl_derive.bits16 (fun HT_ HW_ => ?_)
       generalize wr.drew = w56 at HO_52 HO_525000 BK520 BK524 HB hx543_0 hx543_1 hx543_2 hHeld ⊢
       refine pureZ_ (i := 0) (some 58) (ba_ 13 1) (ao_ HT_) ?_
       refine pureZ_ (i := 1) (some 59) (ba_ 13 3) (ao_ HT_) ?_
       refine pureZ_ (i := 2) (some 60) (ba_ 13 7) (ao_ HT_) ?_
       refine pureZ_ (i := 3) (some 61) (ba_ 13 15) (ao_ HT_) ?_
       refine pureZ_ (i := 4) (some 62) (ba_ 13 31) (ao_ HT_) ?_
       refine pureZ_ (i := 6) (some 64) (ba_ 13 95) (ao_ HT_) ?_
       refine pureZ_ (i := 7) (some 65) (ba_ 13 223) (ao_ HT_) ?_
       refine pureZ_ (i := 12) (some 70) (ba_ 13 4319) (ao_ HT_) ?_
       refine takeZ_ (i := 5) (some 63) (ba_ 13 4351) (take_ofW HT_.out HW_.out (by kernel_rfl)) hHeld ?_
       refine takeZ_ (i := 8) (some 66) (ba_ 13 4607) (take_ofW HT_.out HW_.out (by kernel_rfl)) hHeld ?_
       refine pureZ_ (i := 9) (some 67) (ba_ 13 5119) (ao_ HT_) ?_
       refine one_ (i := 10) (N := some 68) (ba_ 13 6143) rfl rfl (one_of HT_.out (by kernel_rfl)) (by decide) (fun K hK => ?_)
       refine goes_ Try.func67 (by kernel_rfl) rfl #[.slice (some ad543) l0.length c0, .agg #[.int .i64 ((rd_T63 l0 (rd t539 x54_1)).f1), .int .i64 a1_7]] (by rfl) rfl rfl (by (try simp only [List.map_toArray, List.map_cons, List.map_nil]); first | done | rfl | (simp only [List.length_drop, List.length_take]; rfl)) ?_
       with_reducible refine (impl_whoOf.calls k1 _ _ l0 ((rd_T63 l0 (rd t539 x54_1)).f1) a1_7 t544 _ ?side1 ?side2 A55.out).mono ?_
       (case side1 => repeat (first | exact (Kd.C_below HR0.out HB.out) | (with_reducible refine Kd.C_alloc ?_ _) | (with_reducible refine Kd.C_drewN ?_ _) | (with_reducible refine Kd.C_drew ?_)))
       (case side2 => exact HC0.out)
       rintro e w57 ⟨v545, rfl, ho0, hb⟩
       refine ⟨_, rfl, ?_⟩
       replace HO_525000 := aa_ (Kd.S_elder' (rs_ HO_525000) (Kd.R_base ho0) hb)
       have HO546 := aa_ (Kd.R_lower (Kd.R_new' ho0 (Kd.R_lt (rr_ HO_52))) bls_)
       replace HO_52 := aa_ (Kd.R_elder' (rr_ HO_52) (Kd.R_base ho0) hb)
       replace BK520 := bkb_ BK520 hb
       replace BK524 := bkb_ BK524 hb
       replace HB := hbs_ hb
       (try clear hb)
       (try clear hb2)
       (try clear hk)
       (try clear hi)
       (try clear ho0)
       obtain ⟨Ao58, co58, eo58⟩ := Kd.R_slice HO546.out
       (first | subst eo58 | (injection eo58 with f1_ f2_ f3_; have f4_ := f1_.symm; have f5_ := f3_.symm; clear f1_ f2_ f3_; subst f4_; subst f5_))
       refine hK.out _ _ ⟨(blk_cell BK520.out 0).trans rfl, (blk_cell BK520.out 1).trans rfl, (blk_cell BK520.out 2).trans rfl, (blk_cell BK520.out 3).trans rfl, (blk_cell BK520.out 4).trans rfl, (blk_cell BK520.out 5).trans rfl, (blk_cell BK520.out 6).trans rfl, (blk_cell BK520.out 7).trans rfl, (blk_cell BK520.out 8).trans rfl, (blk_cell BK520.out 9).trans rfl, (cb_ HB hw543_0 :), (cb_ HB hw543_1 :), (cb_ HB hw543_2 :)⟩ (fun hHeld => ?_)
       clear hK K
       refine norm_ (a' := ?_) ?_ ?_
       rotate_left
       ·show Act.put _ (some 68) _ = _
        simp only [Act.put, List.setIfInBounds_toArray, List.set_cons_zero, List.set_cons_succ, i64_w, i32_w]
        rfl
       refine pureZ_ (i := 11) (some 69) (ba_ 13 8191) (ao_ HT_) ?_
       refine done_ (done_of HT_.out (by kernel_rfl)) ?_
       try go_wp2
       go_loopg [70] k1 (fun kq v70 w' => ∃ (x70_2 : Int) (x525000_2 : List (S91)) (u525000 : Value), v70 = .int .i64 x70_2 ∧ Aside0 (impl_derive.l2 kq l0 (rd t539 x54_1) t539 (t539.length : Int) x54_1 t544 (t544.length : Int) x70_2 a1_0 a1_1 a1_2 a1_3 a1_4 a1_5 a1_6 a1_7 a1_8 a1_9 x525000_2 = some r) ∧ Aside0 (kq ≤ k1) ∧ Aside0 (Kd.R (Kd.int .i64) 3 w' w.heap.size (fun k_ => some k_ ≠ ((.slice Ao58 t544.length co58) : Value).ownBlock) (.slice (some ad542) t539.length co49) t539) ∧ Aside0 (Kd.R (Kd.int .i64) 3 w' w.heap.size (fun k_ => some k_ ≠ ((.slice (some ad542) t539.length co49) : Value).ownBlock) (.slice Ao58 t544.length co58) t544) ∧ Aside0 (Kd.S k91 91 w' w.heap.size (fun k_ => some k_ ≠ ((.slice (some ad542) t539.length co49) : Value).ownBlock ∧ some k_ ≠ ((.slice Ao58 t544.length co58) : Value).ownBlock) u525000 x525000_2) ∧ Aside0 (w'.heap[gb520]? = some (.cells #[.int .i64 a1_0, .int .i64 a1_1, .int .i64 a1_2, .int .i64 a1_3, .int .i64 a1_4, .int .i64 a1_5, .int .i64 a1_6, .int .i64 a1_7, .int .i64 a1_8, .int .i64 a1_9] 74 (0, 0))) ∧ Aside0 (w'.heap[gb524]? = some (.cells #[u525000] 87 (0, 0))) ∧ Aside0 (Below w.heap.size w w'))
       case atStart => exact ⟨(0), (x525000_1), (u525000), rf_, H', ⟨Nat.le_refl _⟩, ⟨by (with_reducible repeat (first | apply Kd.R_alloc | apply Kd.R_drewN | apply Kd.R_drew)); exact Kd.R_mono HO_52.out (fun _ hk => hk.2)⟩, ⟨by (with_reducible repeat (first | apply Kd.R_alloc | apply Kd.R_drewN | apply Kd.R_drew)); exact Kd.R_mono HO546.out (fun _ hk => hk.2)⟩, ⟨rs_ HO_525000⟩, ⟨bk_ BK520⟩, ⟨bk_ BK524⟩, ⟨bl_⟩⟩
       case round =>
        clear H'
        try clear c1
        try clear c2
        try clear p2
        try clear c3
        try clear c4
        try clear c5
        try clear p5
        try clear q5
        try clear hx5
        try clear c6
        try clear p6
        try clear c9
        try clear c13
        try clear c13b0
        try clear c13b1
        try clear c14
        try clear c15
        try clear c21
        try clear c21b0
        try clear c21b1
        try clear c23
        try clear c27
        try clear c27b0
        try clear c28
        try clear c28b0
        try clear c29
        try clear c29b0
        try clear c30
        try clear c30b0
        try clear c31
        try clear c31b0
        try clear c32
        try clear c35
        try clear c42
        try clear c44
        try clear c44b0
        try clear c44b1
        try clear c46
        try clear c50
        try clear c50b0
        try clear c51
        try clear c51b0
        try clear c52
        try clear c52b0
        try clear c53
        try clear c53b0
        try clear p53
        try clear q53
        try clear hx53
        try clear c54
        try clear c54b0
        try clear p54
        try clear q54
        try clear hx54
        try clear hcz10
        try clear hcz11
        try clear hcz16
        try clear hcz17
        try clear hcz20
        try clear hcz24
        try clear hcz36
        try clear hcz37
        try clear hcz41
        try clear hcz43
        try clear hcz47
        try clear hfz10
        try clear hfz11
        try clear hfz16
        try clear hfz17
        try clear hfz20
        try clear hfz24
        try clear hfz36
        try clear hfz37
        try clear hfz41
        try clear hfz43
        try clear hfz47
        try clear hx531_0
        try clear hx532_0
        try clear hx532_1
        try clear hx532_2
        try clear hx542_0
        try clear hx543_0
        try clear hx543_1
        try clear hx543_2
        try clear p2
        try clear p5
        try clear p531
        try clear p532
        try clear p542
        try clear p543
        try clear p6
        try clear q5
        try clear q531
        try clear q532
        try clear q542
        try clear q543
        obtain ⟨x70_2, x525000_2, u525000, rfl, HA, HK2, HO_52, HO_68, HO_525000, BK520, BK524, HB⟩ := hrel
        cases gk with
        | zero => exact absurd HA.out (by simp [impl_derive.l2])
        | succ k2 =>
         have H := HA.out
         clear HA
         simp only [impl_derive.l2] at H
         by_cases c59 : x70_2 < (t544.length : Int)
         ·rw [if_pos c59] at H
          have c59b0 : decide (x70_2 < (t544.length : Int)) = true := decide_eq_true c59
          clear c59
          obtain ⟨c60b0, H⟩ := ifd_ H
          obtain ⟨c61b0, H⟩ := ifd_ H
          obtain ⟨c62b0, H⟩ := ifd_ H
          obtain ⟨c63b0, H⟩ := ifd_ H
          obtain ⟨y549, hy549⟩ : ∃ y_ : List Int, y_ = (([(rd t539 x54_1), rd t544 x70_2] : List Int)) := ⟨_, rfl⟩
          replace H : (if x525000_2.length < 2932031007402 then (impl_derive.l2 k2 l0 (rd t539 x54_1) t539 (t539.length : Int) x54_1 t544 (t544.length : Int) (wrap64 (x70_2 + 1)) a1_0 a1_1 a1_2 a1_3 a1_4 a1_5 a1_6 a1_7 a1_8 a1_9 (x525000_2 ++ [(⟨(⟨(⟨a1_1, a1_2⟩ : S55), (rd_T63 l0 (rd t544 x70_2)).f1⟩ : S63), y549⟩ : S91)])) else (none)) = some r := rh_ hy549 H
          have Ny549 := aa_ hy549
          clear hy549
          obtain ⟨c64, H⟩ := ifn_ H
          have LMc64 := aa_ c64
          clear c64
          obtain ⟨y552, hy552⟩ : ∃ y_ : List (S91), y_ = (x525000_2 ++ [(⟨(⟨(⟨a1_1, a1_2⟩ : S55), (rd_T63 l0 (rd t544 x70_2)).f1⟩ : S63), y549⟩ : S91)]) := ⟨_, rfl⟩
          replace H : (impl_derive.l2 k2 l0 (rd t539 x54_1) t539 (t539.length : Int) x54_1 t544 (t544.length : Int) (wrap64 (x70_2 + 1)) a1_0 a1_1 a1_2 a1_3 a1_4 a1_5 a1_6 a1_7 a1_8 a1_9 y552) = some r := rh_ hy552 H
          have Ny552 := aa_ hy552
          clear hy552
          have H' := aa_ H
          clear H
          have p547 : 0 ≤ (x70_2 : Int) := od_
          have q547 : x70_2 < (t544.length : Int) := od_
          obtain ⟨ad547, e547, hx547_0⟩ := Kd.at_int (Kd.R_reads' HO_68.out).2.2 x70_2 p547 q547
          cases e547
          replace p547 := eq_true p547
          replace q547 := eq_true q547
          have p548 : 0 ≤ ((rd t544 x70_2) : Int) := od_
          have q548 : (rd t544 x70_2) < (l0.length : Int) := od_
          obtain ⟨ad548, e548, hx548_0, hx548_1, hx548_2⟩ := at_T63 HR0.out (rd t544 x70_2) p548 q548
          obtain rfl : ad543 = ad548 := (by injection e548)
          replace hx548_0 := cb_ HB hx548_0
          replace hx548_1 := cb_ HB hx548_1
          replace hx548_2 := cb_ HB hx548_2
          replace p548 := eq_true p548
          replace q548 := eq_true q548
          go_wp2_with (first | (go_at_call 66; go_in) | (go_end0; simp only []; go_at_K) | ((with_reducible refine gD_ 82 rfl ?_); refine Kd.R_lit (Kd.int .i64) _ 3 ?hg (N := 82) ?hd (xs := ([(rd t539 x54_1), rd t544 x70_2] : List Int)) (inner := [.int .i64 (rd t539 x54_1), .int .i64 (rd t544 x70_2)]) (ok := fun _ => True) (okp := fun _ => True) ?hr ?hp (fun _ hk => hk) trivial (Below.refl _ _) (Nat.le_refl _) (by simp) ?_; (case hd => rfl); (case hg => rfl); (case hr => first | (go_simp; done) | (go_simp; rfl)); (case hp => exact (Reps.one (show Kd.M (Kd.int .i64) _ _ _ (rd t539 x54_1) [.int .i64 (rd t539 x54_1)] from rfl) (Reps.one (show Kd.M (Kd.int .i64) _ _ _ (rd t544 x70_2) [.int .i64 (rd t544 x70_2)] from rfl) (Reps.none _ _)))); intro v550 w65 ho66 hb hg_ hnew_; clear hg_ hnew_; (first | rw [← Ny549.out] at ho66 | (simp only [Int.reduceToNat] at ho66; rw [← Ny549.out] at ho66)); replace HO_525000 := aa_ (Kd.S_elder' (rs_ HO_525000) (Kd.R_base ho66) hb); have HO551 := aa_ (Kd.R_lower (Kd.R_new' (Kd.R_new' ho66 (Kd.R_lt (rr_ HO_52))) (Kd.R_lt (rr_ HO_68))) bls_); replace HO_52 := aa_ (Kd.R_elder' (rr_ HO_52) (Kd.R_base ho66) hb); replace HO_68 := aa_ (Kd.R_elder' (rr_ HO_68) (Kd.R_base ho66) hb); replace BK520 := bkb_ BK520 hb; replace BK524 := bkb_ BK524 hb; replace HB := hbs_ hb; clear hb ho66; have hnb67 := NB524_520.out; have hnc67 := NB520_524.out; obtain ⟨hcz68, hfz68⟩ := bcf_ BK524; obtain ⟨hcz69, hfz69⟩ := bcf_ BK520; obtain ⟨Ao70, co70, eo70⟩ := Kd.R_slice HO551.out; subst eo70) | ((with_reducible refine gate_builtin (b := .append) (xs := #[.tmp 6, .tmp 13]) rfl ?_); at_builtin; refine Kd.S_append k91 (w0 := w) w.heap.size rfl (.tmp 6) (.tmp 13) 87 91 (.agg #[(.int .i64 0), (.int .i64 0), (.int .i64 0), (.slice none 0 0)]) 48 rfl Try.underlying87 info91 rfl (by decide) (by omega) u525000 x525000_2 (⟨(⟨(⟨a1_1, a1_2⟩ : S55), (rd_T63 l0 (rd t544 x70_2)).f1⟩ : S63), y549⟩ : S91) [.int .i64 a1_1, .int .i64 a1_2, .int .i64 ((rd_T63 l0 (rd t544 x70_2)).f1), .slice Ao70 y549.length co70] (fun k_ => some k_ ≠ (.slice (some ad542) t539.length co49 : Value).ownBlock ∧ some k_ ≠ (.slice (some ad547) t544.length co58 : Value).ownBlock) (fun k_ => some k_ = (.slice Ao70 y549.length co70 : Value).ownBlock) rfl rfl ?aP (fun k_ hk_ => ((Kd.R_mono (ok' := fun k_ => ((fun k_ => some k_ ≠ (.slice (some ad542) t539.length co49 : Value).ownBlock ∧ some k_ ≠ (.slice (some ad547) t544.length co58 : Value).ownBlock)) k_ ∧ some k_ ≠ (u525000 : Value).ownBlock) (Kd.R_apart' (HO551.out) (Kd.S_typed HO_525000.out) (by decide)) (fun k_ hk => ⟨⟨hk.1.1.2, hk.1.2⟩, hk.2⟩))).1 k_ hk_.symm) ?aF ?aO ?aB ?aS ?aL ?_; (case aP => exact k91_mkM _ _ _ (⟨(⟨(⟨a1_1, a1_2⟩ : S55), (rd_T63 l0 (rd t544 x70_2)).f1⟩ : S63), y549⟩ : S91) (Kd.R_mono (Kd.R_tight rfl (Kd.R_mono (ok' := fun k_ => ((fun k_ => some k_ ≠ (.slice (some ad542) t539.length co49 : Value).ownBlock ∧ some k_ ≠ (.slice (some ad547) t544.length co58 : Value).ownBlock)) k_ ∧ some k_ ≠ (u525000 : Value).ownBlock) (Kd.R_apart' (HO551.out) (Kd.S_typed HO_525000.out) (by decide)) (fun k_ hk => ⟨⟨hk.1.1.2, hk.1.2⟩, hk.2⟩))) (fun _ h_ => h_))); (case aB => exact bl_); (case aF => exact (fun k_ hk => ⟨Kd.fresh' (Kd.R_lt (rr_ HO_52)) k_ hk, Kd.fresh' (Kd.R_lt (rr_ HO_68)) k_ hk⟩)); (case aO => exact (by (with_reducible repeat (first | apply Kd.S_alloc | apply Kd.S_drewN | apply Kd.S_drew)); exact Kd.S_mono HO_525000.out (fun k_ hk => ⟨⟨hk.1.1, hk.1.2⟩, fun e_ => hk.2 e_⟩))); (case aS => exact bls_); (case aL => have := LMc64.out; omega); intro v553 w71 ho hb hg hat; rw [← Ny552.out] at ho; replace HO_52 := aa_ (Kd.R_over' (rr_ HO_52) (Kd.S_typed (rs_ HO_525000)) (by decide) hg); replace HO_68 := aa_ (Kd.R_over' (rr_ HO_68) (Kd.S_typed (rs_ HO_525000)) (by decide) hg); replace BK520 := aa_ (blk_grown (g := gb520) (o := .cells #[.int .i64 a1_0, .int .i64 a1_1, .int .i64 a1_2, .int .i64 a1_3, .int .i64 a1_4, .int .i64 a1_5, .int .i64 a1_6, .int .i64 a1_7, .int .i64 a1_8, .int .i64 a1_9] 74 (0, 0)) (bk_ BK520) hg (Kd.S_ne HO_525000.out BK520.out (by decide))); replace BK524 := aa_ (blk_grown (g := gb524) (o := .cells #[u525000] 87 (0, 0)) (bk_ BK524) hg (Kd.S_ne HO_525000.out BK524.out (by decide))); replace HB := aa_ (hb); have HO554 := aa_ (ho); clear HO_525000; clear HO551; clear ho hb hg hat; obtain ⟨Ao72, co72, eo72⟩ := Kd.S_slice HO554.out; subst eo72; obtain ⟨hcz73, hfz73⟩ := bcf_ BK524))
          go_roundg k2
          case measure => have := HK1.out; have := HK2.out; omega
          case rel => exact ⟨(wrap64 (x70_2 + 1)), (y552), (.slice Ao72 y552.length co72), rf_, H', ⟨by have := HK1.out; have := HK2.out; omega⟩, ⟨by (with_reducible repeat (first | apply Kd.R_alloc | apply Kd.R_drewN | apply Kd.R_drew)); exact Kd.R_mono (Kd.R_far (p := ⟨gb524, 0, none⟩) (Kd.R_types HO_52.out BK524.out (by decide)) (fun _ hk => hk.2) (.slice Ao72 y552.length co72)) (fun _ hk => hk.1.1)⟩, ⟨by (with_reducible repeat (first | apply Kd.R_alloc | apply Kd.R_drewN | apply Kd.R_drew)); exact Kd.R_mono (Kd.R_far (p := ⟨gb524, 0, none⟩) (Kd.R_types HO_68.out BK524.out (by decide)) (fun _ hk => hk.2) (.slice Ao72 y552.length co72)) (fun _ hk => hk.1.1)⟩, ⟨by (with_reducible repeat (first | apply Kd.S_alloc | apply Kd.S_drewN | apply Kd.S_drew)); exact Kd.S_mono (Kd.S_far (p := ⟨gb524, 0, none⟩) (Kd.S_types HO554.out BK524.out (by decide)) (fun _ hk => hk.2) (.slice Ao72 y552.length co72)) (fun _ hk => ⟨hk.1.1, hk.1.2⟩)⟩, ⟨bk_ BK520⟩, ⟨bk_ BK524⟩, ⟨bl_⟩⟩
         ·rw [if_neg c59] at H
          have c59b0 : decide (x70_2 < (t544.length : Int)) = false := decide_eq_false c59
          clear c59
          have H' := aa_ H
          clear H
          go_wp2
          go_roundg k2
          case measure => have := HK1.out; have := HK2.out; omega
          case rel => exact ⟨(wrap64 (x54_1 + 1)), (x525000_2), (u525000), rf_, H', ⟨by have := HK1.out; have := HK2.out; omega⟩, ⟨by (with_reducible repeat (first | apply Kd.R_alloc | apply Kd.R_drewN | apply Kd.R_drew)); exact Kd.R_mono HO_52.out (fun _ hk => trivial)⟩, ⟨by (with_reducible repeat (first | apply Kd.S_alloc | apply Kd.S_drewN | apply Kd.S_drew)); exact Kd.S_mono HO_525000.out (fun _ hk => hk.1)⟩, ⟨bk_ BK520⟩, ⟨bk_ BK524⟩, ⟨bl_⟩⟩
      ·rw [if_neg c50] at H
       have c50b0 : decide (x54_1 < (t539.length : Int)) = false := decide_eq_false c50
       clear c50
       obtain rfl := Option.some.inj H
       have hnb74 := NB524_520.out
       have hnc74 := NB520_524.out
       have hcz75 := blk_cell BK524.out
       have hfz75 := blk_frozen BK524.out
       go_wp2
       go_ret
       exact ⟨_, eq_, by (with_reducible repeat (first | apply Kd.S_alloc | apply Kd.S_drewN | apply Kd.S_drew)); exact Kd.S_mono HO_525000.out (fun _ hk => trivial), bl_⟩
   ·rw [if_neg c44] at H
    have c44b0 : (a1_0 == 3) = false := beq_eq_false_iff_ne.mpr c44
    have c44b1 : (a1_0 != 3) = true := bne_iff_ne.mpr c44
    by_cases c76 : a1_0 = 4
    ·rw [if_pos c76] at H
     have c76b0 : (a1_0 == 4) = true := beq_iff_eq.mpr c76
     have c76b1 : (a1_0 != 4) = false := bne_eq_false_iff_eq.mpr c76
     clear c76
     obtain ⟨t555, A77, H⟩ := bindE_ H
     have H' := aa_ H
     clear H
     have hnb78 := NB520_524.out
     have hnc78 := NB524_520.out
     have hcz79 := blk_cell BK520.out
     have hfz79 := blk_frozen BK520.out
     go_wp2_with (first | (go_at_call 66; go_in) | (go_end0; simp only []; go_at_K) | ((with_reducible refine gC_ 67 rfl ?_); refine goesC_ (some 91) Try.func67 #[.slice A0 l0.length c0, .agg #[.int .i64 a1_4, .int .i64 a1_5]] ?_; (with_reducible refine (impl_whoOf.calls k _ _ l0 a1_4 a1_5 t555 _ ?side1 ?side2 A77.out).mono ?_); (case side1 => repeat (first | exact (Kd.C_below HR0.out HB.out) | (with_reducible refine Kd.C_alloc ?_ _) | (with_reducible refine Kd.C_drewN ?_ _) | (with_reducible refine Kd.C_drew ?_))); (case side2 => exact HC0.out); rintro e w80 ⟨v556, rfl, ho0, hb⟩; refine ⟨_, rfl, ?_⟩; replace HO523 := aa_ (Kd.S_elder' (rs_ HO523) (Kd.R_base ho0) hb); have HO557 := aa_ (Kd.R_lower ho0 bls_); replace BK520 := bkb_ BK520 hb; replace BK524 := bkb_ BK524 hb; replace HB := hbs_ hb; (try clear hb ho0); obtain ⟨Ao81, co81, eo81⟩ := Kd.R_slice HO557.out; subst eo81))
     go_loopg [93] k (fun kq v93 w' => ∃ (x93_1 : Int) (x525000_1 : List (S91)) (u525000 : Value), v93 = .int .i64 x93_1 ∧ Aside0 (impl_derive.l3 kq l0 t555 (t555.length : Int) x93_1 a1_0 a1_1 a1_2 a1_3 a1_4 a1_5 a1_6 a1_7 a1_8 a1_9 x525000_1 = some r) ∧ Aside0 (kq ≤ k) ∧ Aside0 (Kd.R (Kd.int .i64) 3 w' w.heap.size (fun _ => True) (.slice Ao81 t555.length co81) t555) ∧ Aside0 (Kd.S k91 91 w' w.heap.size (fun k_ => some k_ ≠ ((.slice Ao81 t555.length co81) : Value).ownBlock) u525000 x525000_1) ∧ Aside0 (w'.heap[gb520]? = some (.cells #[.int .i64 a1_0, .int .i64 a1_1, .int .i64 a1_2, .int .i64 a1_3, .int .i64 a1_4, .int .i64 a1_5, .int .i64 a1_6, .int .i64 a1_7, .int .i64 a1_8, .int .i64 a1_9] 74 (0, 0))) ∧ Aside0 (w'.heap[gb524]? = some (.cells #[u525000] 87 (0, 0))) ∧ Aside0 (Below w.heap.size w w'))
     case atStart => exact ⟨(0), (y521), (.slice Ao8 y521.length co8), rf_, H', ⟨Nat.le_refl _⟩, ⟨rr_ HO557⟩, ⟨by (with_reducible repeat (first | apply Kd.S_alloc | apply Kd.S_drewN | apply Kd.S_drew)); exact Kd.S_mono HO523.out (fun _ hk => hk.2)⟩, ⟨bk_ BK520⟩, ⟨bk_ BK524⟩, ⟨bl_⟩⟩
     case round =>
      clear H'
      try clear c1
      try clear c2
      try clear p2
      try clear c3
      try clear c4
      try clear c5
      try clear p5
      try clear q5
      try clear hx5
      try clear c6
      try clear p6
      try clear c7
      try clear c9
      try clear c13
      try clear c13b0
      try clear c13b1
      try clear c14
      try clear c15
      try clear c21
      try clear c21b0
      try clear c21b1
      try clear c23
      try clear c27
      try clear c27b0
      try clear c28
      try clear c28b0
      try clear c29
      try clear c29b0
      try clear c30
      try clear c30b0
      try clear c31
      try clear c31b0
      try clear c32
      try clear c35
      try clear c42
      try clear c44
      try clear c44b0
      try clear c44b1
      try clear c46
      try clear c50
      try clear c50b0
      try clear c51
      try clear c51b0
      try clear c52
      try clear c52b0
      try clear c53
      try clear c53b0
      try clear p53
      try clear q53
      try clear hx53
      try clear c54
      try clear c54b0
      try clear p54
      try clear q54
      try clear hx54
      try clear c59
      try clear c59b0
      try clear c60
      try clear c60b0
      try clear c61
      try clear c61b0
      try clear c62
      try clear c62b0
      try clear c63
      try clear c63b0
      try clear c64
      try clear p64
      try clear c67
      try clear c74
      try clear c76
      try clear c76b0
      try clear c76b1
      try clear c78
      try clear hcz10
      try clear hcz11
      try clear hcz16
      try clear hcz17
      try clear hcz20
      try clear hcz24
      try clear hcz36
      try clear hcz37
      try clear hcz41
      try clear hcz43
      try clear hcz47
      try clear hcz68
      try clear hcz69
      try clear hcz73
      try clear hcz75
      try clear hcz79
      try clear hfz10
      try clear hfz11
      try clear hfz16
      try clear hfz17
      try clear hfz20
      try clear hfz24
      try clear hfz36
      try clear hfz37
      try clear hfz41
      try clear hfz43
      try clear hfz47
      try clear hfz68
      try clear hfz69
      try clear hfz73
      try clear hfz75
      try clear hfz79
      try clear hx531_0
      try clear hx532_0
      try clear hx532_1
      try clear hx532_2
      try clear hx542_0
      try clear hx543_0
      try clear hx543_1
      try clear hx543_2
      try clear hx547_0
      try clear hx548_0
      try clear hx548_1
      try clear hx548_2
      try clear p2
      try clear p5
      try clear p53
      try clear p531
      try clear p532
      try clear p54
      try clear p542
      try clear p543
      try clear p547
      try clear p548
      try clear p6
      try clear q5
      try clear q53
      try clear q531
      try clear q532
      try clear q54
      try clear q542
      try clear q543
      try clear q547
      try clear q548
      obtain ⟨x93_1, x525000_1, u525000, rfl, HA, HK1, HO_91, HO_525000, BK520, BK524, HB⟩ := hrel
      cases gk with
      | zero => exact absurd HA.out (by simp [impl_derive.l3])
      | succ k1 =>
       have H := HA.out
       clear HA
       simp only [impl_derive.l3] at H
       by_cases c82 : x93_1 < (t555.length : Int)
       ·rw [if_pos c82] at H
        have c82b0 : decide (x93_1 < (t555.length : Int)) = true := decide_eq_true c82
        clear c82
        obtain ⟨c83b0, H⟩ := ifd_ H
        obtain ⟨c84b0, H⟩ := ifd_ H
        obtain ⟨c85b0, H⟩ := ifd_ H
        obtain ⟨c86b0, H⟩ := ifd_ H
        obtain ⟨t560, A87, H⟩ := bindE_ H
        have HC88 := aa_ H
        clear H
        have p558 : 0 ≤ (x93_1 : Int) := od_
        have q558 : x93_1 < (t555.length : Int) := od_
        obtain ⟨ad558, e558, hx558_0⟩ := Kd.at_int (Kd.R_reads' HO_91.out).2.2 x93_1 p558 q558
        cases e558
        replace p558 := eq_true p558
        replace q558 := eq_true q558
        try go_wp2
        replace HO_91 := aa_ (Kd.R_drew HO_91.out)
        replace HO_525000 := aa_ (Kd.S_drew HO_525000.out)
        replace BK520 := aa_ (blk_drew BK520.out)
        replace BK524 := aa_ (blk_drew BK524.out)
        replace HB := aa_ (below_drew1 HB.out)
        have p559 : 0 ≤ ((rd t555 x93_1) : Int) := od_
        have q559 : (rd t555 x93_1) < (l0.length : Int) := od_
        obtain ⟨ad559, e559, hx559_0, hx559_1, hx559_2⟩ := at_T63 HR0.out (rd t555 x93_1) p559 q559
        have hw559_2 := hx559_2
        have hw559_1 := hx559_1
        have hw559_0 := hx559_0
        cases e559
        replace hx559_0 := cb_ HB hx559_0
        replace hx559_1 := cb_ HB hx559_1
        replace hx559_2 := cb_ HB hx559_2
        replace p559 := eq_true p559
        replace q559 := eq_true q559
        refine start_ (n := 11) (S := fun w' => w'.cell? ⟨gb520, 0, none⟩ = some (.int .i64 a1_0) ∧ w'.cell? ⟨gb520, 1, none⟩ = some (.int .i64 a1_1) ∧ w'.cell? ⟨gb520, 2, none⟩ = some (.int .i64 a1_2) ∧ w'.cell? ⟨gb520, 3, none⟩ = some (.int .i64 a1_3) ∧ w'.cell? ⟨gb520, 4, none⟩ = some (.int .i64 a1_4) ∧ w'.cell? ⟨gb520, 5, none⟩ = some (.int .i64 a1_5) ∧ w'.cell? ⟨gb520, 6, none⟩ = some (.int .i64 a1_6) ∧ w'.cell? ⟨gb520, 7, none⟩ = some (.int .i64 a1_7) ∧ w'.cell? ⟨gb520, 8, none⟩ = some (.int .i64 a1_8) ∧ w'.cell? ⟨gb520, 9, none⟩ = some (.int .i64 a1_9) ∧ w'.cell? (ad559.add (((rd t555 x93_1)).toNat * 3)) = some (.int .i64 ((rd_T63 l0 (rd t555 x93_1)).f0.f0)) ∧ w'.cell? ⟨(ad559.add (((rd t555 x93_1)).toNat * 3)).block, (ad559.add (((rd t555 x93_1)).toNat * 3)).off + 1, none⟩ = some (.int .i64 ((rd_T63 l0 (rd t555 x93_1)).f0.f1)) ∧ w'.cell? ⟨(ad559.add (((rd t555 x93_1)).toNat * 3)).block, (ad559.add (((rd t555 x93_1)).toNat * 3)).off + 2, none⟩ = some (.int .i64 ((rd_T63 l0 (rd t555 x93_1)).f1))) (ds := []) (ba_ 11 0) (by kernel_rfl) rfl rfl ⟨(blk_cell BK520.out 0).trans rfl, (blk_cell BK520.out 1).trans rfl, (blk_cell BK520.out 2).trans rfl, (blk_cell BK520.out 3).trans rfl, (blk_cell BK520.out 4).trans rfl, (blk_cell BK520.out 5).trans rfl, (blk_cell BK520.out 6).trans rfl, (blk_cell BK520.out 7).trans rfl, (blk_cell BK520.out 8).trans rfl, (blk_cell BK520.out 9).trans rfl, (cb_ HB hw559_0 :), (cb_ HB hw559_1 :), (cb_ HB hw559_2 :)⟩ (fun hHeld => ?_); refine with_tabW impl_derive.tab26 impl_derive.bits26 (fun HT_ HW_ => ?_)
        generalize wr.drew = w89 at HO_91 HO_525000 BK520 BK524 HB hx559_0 hx559_1 hx559_2 hHeld ⊢
        refine pureZ_ (i := 0) (some 97) (ba_ 11 1) (ao_ HT_) ?_
        refine pureZ_ (i := 1) (some 98) (ba_ 11 3) (ao_ HT_) ?_
        refine pureZ_ (i := 3) (some 100) (ba_ 11 11) (ao_ HT_) ?_
        refine pureZ_ (i := 4) (some 101) (ba_ 11 27) (ao_ HT_) ?_
        refine pureZ_ (i := 5) (some 102) (ba_ 11 59) (ao_ HT_) ?_
        refine pureZ_ (i := 6) (some 103) (ba_ 11 123) (ao_ HT_) ?_
        refine takeZ_ (i := 2) (some 99) (ba_ 11 127) (take_ofW HT_.out HW_.out (by kernel_rfl)) hHeld ?_
        refine takeZ_ (i := 7) (some 104) (ba_ 11 255) (take_ofW HT_.out HW_.out (by kernel_rfl)) hHeld ?_
        refine pureZ_ (i := 8) (some 105) (ba_ 11 511) (ao_ HT_) ?_
        refine one_ (i := 9) (N := some 106) (ba_ 11 1023) rfl rfl (one_of HT_.out (by kernel_rfl)) (by decide) (fun K hK => ?_)
        refine goes_ Try.func54 (by kernel_rfl) rfl #[.slice (some ad559) l0.length c0, .agg #[.int .i64 a1_6, .int .i64 a1_7, .int .i64 ((rd_T63 l0 (rd t555 x93_1)).f1)]] (by rfl) rfl rfl (by (try simp only [List.map_toArray, List.map_cons, List.map_nil]); first | done | rfl | (simp only [List.length_drop, List.length_take]; rfl)) ?_
        with_reducible refine (impl_Fact_54.calls k1 _ _ l0 a1_6 a1_7 ((rd_T63 l0 (rd t555 x93_1)).f1) t560 _ ?side1 ?side2 A87.out).mono ?_
        (case side1 => repeat (first | exact (Kd.C_below HR0.out HB.out) | (with_reducible refine Kd.C_alloc ?_ _) | (with_reducible refine Kd.C_drewN ?_ _) | (with_reducible refine Kd.C_drew ?_)))
        (case side2 => exact HC0.out)
        rintro e w90 ⟨rfl, hb⟩
        refine ⟨_, rfl, ?_⟩
        replace HO_91 := hob_ HO_91 hb
        replace HO_525000 := aa_ (Kd.S_below (rs_ HO_525000) hb)
        replace BK520 := bkb_ BK520 hb
        replace BK524 := bkb_ BK524 hb
        replace HB := hbs_ hb
        (try clear hb)
        (try clear hb2)
        (try clear hk)
        (try clear hi)
        refine hK.out _ _ ⟨(blk_cell BK520.out 0).trans rfl, (blk_cell BK520.out 1).trans rfl, (blk_cell BK520.out 2).trans rfl, (blk_cell BK520.out 3).trans rfl, (blk_cell BK520.out 4).trans rfl, (blk_cell BK520.out 5).trans rfl, (blk_cell BK520.out 6).trans rfl, (blk_cell BK520.out 7).trans rfl, (blk_cell BK520.out 8).trans rfl, (blk_cell BK520.out 9).trans rfl, (cb_ HB hw559_0 :), (cb_ HB hw559_1 :), (cb_ HB hw559_2 :)⟩ (fun hHeld => ?_)
        clear hK K
        refine norm_ (a' := ?_) ?_ ?_
        rotate_left
        ·show Act.put _ (some 106) _ = _
         simp only [Act.put, List.setIfInBounds_toArray, List.set_cons_zero, List.set_cons_succ, i64_w, i32_w]
         rfl
        refine pureZ_ (i := 10) (some 15) (ba_ 11 2047) (ao_ HT_) ?_
        refine done_ (done_of HT_.out (by kernel_rfl)) ?_
        go_upto_if 108 with (fail)
        have H := HC88.out
        clear HC88
        by_cases c91 : t560 ≥ 0
        ·rw [if_pos c91] at H
         have c91b0 : decide (0 ≤ t560) = true := decide_eq_true c91
         clear c91
         (first | rw [c91b0] | (simp only [i64_w, i32_w]; rw [c91b0]) | skip)
         obtain ⟨y562, hy562⟩ : ∃ y_ : List Int, y_ = (([rd t555 x93_1, t560] : List Int)) := ⟨_, rfl⟩
         replace H : (if x525000_1.length < 2932031007402 then (impl_derive.l3 k1 l0 t555 (t555.length : Int) (wrap64 (x93_1 + 1)) a1_0 a1_1 a1_2 a1_3 a1_4 a1_5 a1_6 a1_7 a1_8 a1_9 (x525000_1 ++ [(⟨(⟨(⟨a1_1, a1_2⟩ : S55), (rd_T63 l0 (rd t555 x93_1)).f1⟩ : S63), y562⟩ : S91)])) else (none)) = some r := rh_ hy562 H
         have Ny562 := aa_ hy562
         clear hy562
         obtain ⟨c92, H⟩ := ifn_ H
         have LMc92 := aa_ c92
         clear c92
         obtain ⟨y565, hy565⟩ : ∃ y_ : List (S91), y_ = (x525000_1 ++ [(⟨(⟨(⟨a1_1, a1_2⟩ : S55), (rd_T63 l0 (rd t555 x93_1)).f1⟩ : S63), y562⟩ : S91)]) := ⟨_, rfl⟩
         replace H : (impl_derive.l3 k1 l0 t555 (t555.length : Int) (wrap64 (x93_1 + 1)) a1_0 a1_1 a1_2 a1_3 a1_4 a1_5 a1_6 a1_7 a1_8 a1_9 y565) = some r := rh_ hy565 H
         have Ny565 := aa_ hy565
         clear hy565
         have H' := aa_ H
         clear H
         have p561 : 0 ≤ ((rd t555 x93_1) : Int) := od_
         have q561 : (rd t555 x93_1) < (l0.length : Int) := od_
         obtain ⟨ad561, e561, hx561_0, hx561_1, hx561_2⟩ := at_T63 HR0.out (rd t555 x93_1) p561 q561
         obtain rfl : ad559 = ad561 := (by injection e561)
         replace hx561_0 := cb_ HB hx561_0
         replace hx561_1 := cb_ HB hx561_1
         replace hx561_2 := cb_ HB hx561_2
         replace p561 := eq_true p561
         replace q561 := eq_true q561
         go_wp2_with (first | (go_at_call 66; go_in) | (go_end0; simp only []; go_at_K) | ((with_reducible refine gD_ 117 rfl ?_); refine Kd.R_lit (Kd.int .i64) _ 3 ?hg (N := 117) ?hd (xs := ([rd t555 x93_1, t560] : List Int)) (inner := [.int .i64 (rd t555 x93_1), .int .i64 t560]) (ok := fun _ => True) (okp := fun _ => True) ?hr ?hp (fun _ hk => hk) trivial (Below.refl _ _) (Nat.le_refl _) (by simp) ?_; (case hd => rfl); (case hg => rfl); (case hr => first | (go_simp; done) | (go_simp; rfl)); (case hp => exact (Reps.one (show Kd.M (Kd.int .i64) _ _ _ (rd t555 x93_1) [.int .i64 (rd t555 x93_1)] from rfl) (Reps.one (show Kd.M (Kd.int .i64) _ _ _ t560 [.int .i64 t560] from rfl) (Reps.none _ _)))); intro v563 w93 ho94 hb hg_ hnew_; clear hg_ hnew_; (first | rw [← Ny562.out] at ho94 | (simp only [Int.reduceToNat] at ho94; rw [← Ny562.out] at ho94)); replace HO_525000 := aa_ (Kd.S_elder' (rs_ HO_525000) (Kd.R_base ho94) hb); have HO564 := aa_ (Kd.R_lower (Kd.R_new' ho94 (Kd.R_lt (rr_ HO_91))) bls_); replace HO_91 := aa_ (Kd.R_elder' (rr_ HO_91) (Kd.R_base ho94) hb); replace BK520 := bkb_ BK520 hb; replace BK524 := bkb_ BK524 hb; replace HB := hbs_ hb; clear hb ho94; have hnb95 := NB524_520.out; have hnc95 := NB520_524.out; obtain ⟨hcz96, hfz96⟩ := bcf_ BK524; obtain ⟨hcz97, hfz97⟩ := bcf_ BK520; obtain ⟨Ao98, co98, eo98⟩ := Kd.R_slice HO564.out; subst eo98) | ((with_reducible refine gate_builtin (b := .append) (xs := #[.tmp 6, .tmp 13]) rfl ?_); at_builtin; refine Kd.S_append k91 (w0 := w) w.heap.size rfl (.tmp 6) (.tmp 13) 87 91 (.agg #[(.int .i64 0), (.int .i64 0), (.int .i64 0), (.slice none 0 0)]) 48 rfl Try.underlying87 info91 rfl (by decide) (by omega) u525000 x525000_1 (⟨(⟨(⟨a1_1, a1_2⟩ : S55), (rd_T63 l0 (rd t555 x93_1)).f1⟩ : S63), y562⟩ : S91) [.int .i64 a1_1, .int .i64 a1_2, .int .i64 ((rd_T63 l0 (rd t555 x93_1)).f1), .slice Ao98 y562.length co98] (fun k_ => some k_ ≠ (.slice (some ad558) t555.length co81 : Value).ownBlock) (fun k_ => some k_ = (.slice Ao98 y562.length co98 : Value).ownBlock) rfl rfl ?aP (fun k_ hk_ => ((Kd.R_mono (ok' := fun k_ => ((fun k_ => some k_ ≠ (.slice (some ad558) t555.length co81 : Value).ownBlock)) k_ ∧ some k_ ≠ (u525000 : Value).ownBlock) (Kd.R_apart' (HO564.out) (Kd.S_typed HO_525000.out) (by decide)) (fun k_ hk => ⟨hk.1.2, hk.2⟩))).1 k_ hk_.symm) ?aF ?aO ?aB ?aS ?aL ?_; (case aP => exact k91_mkM _ _ _ (⟨(⟨(⟨a1_1, a1_2⟩ : S55), (rd_T63 l0 (rd t555 x93_1)).f1⟩ : S63), y562⟩ : S91) (Kd.R_mono (Kd.R_tight rfl (Kd.R_mono (ok' := fun k_ => ((fun k_ => some k_ ≠ (.slice (some ad558) t555.length co81 : Value).ownBlock)) k_ ∧ some k_ ≠ (u525000 : Value).ownBlock) (Kd.R_apart' (HO564.out) (Kd.S_typed HO_525000.out) (by decide)) (fun k_ hk => ⟨hk.1.2, hk.2⟩))) (fun _ h_ => h_))); (case aB => exact bl_); (case aF => exact (fun k_ hk => Kd.fresh' (Kd.R_lt (rr_ HO_91)) k_ hk)); (case aO => exact (by (with_reducible repeat (first | apply Kd.S_alloc | apply Kd.S_drewN | apply Kd.S_drew)); exact Kd.S_mono HO_525000.out (fun k_ hk => ⟨hk.1, fun e_ => hk.2 e_⟩))); (case aS => exact bls_); (case aL => have := LMc92.out; omega); intro v566 w99 ho hb hg hat; rw [← Ny565.out] at ho; replace HO_91 := aa_ (Kd.R_over' (rr_ HO_91) (Kd.S_typed (rs_ HO_525000)) (by decide) hg); replace BK520 := aa_ (blk_grown (g := gb520) (o := .cells #[.int .i64 a1_0, .int .i64 a1_1, .int .i64 a1_2, .int .i64 a1_3, .int .i64 a1_4, .int .i64 a1_5, .int .i64 a1_6, .int .i64 a1_7, .int .i64 a1_8, .int .i64 a1_9] 74 (0, 0)) (bk_ BK520) hg (Kd.S_ne HO_525000.out BK520.out (by decide))); replace BK524 := aa_ (blk_grown (g := gb524) (o := .cells #[u525000] 87 (0, 0)) (bk_ BK524) hg (Kd.S_ne HO_525000.out BK524.out (by decide))); replace HB := aa_ (hb); have HO567 := aa_ (ho); clear HO_525000; clear HO564; clear ho hb hg hat; obtain ⟨Ao100, co100, eo100⟩ := Kd.S_slice HO567.out; subst eo100; obtain ⟨hcz101, hfz101⟩ := bcf_ BK524))
         go_roundg k1
         case measure => have := HK1.out; omega
         case rel => exact ⟨(wrap64 (x93_1 + 1)), (y565), (.slice Ao100 y565.length co100), rf_, H', ⟨by have := HK1.out; omega⟩, ⟨by (with_reducible repeat (first | apply Kd.R_alloc | apply Kd.R_drewN | apply Kd.R_drew)); exact Kd.R_mono (Kd.R_far (p := ⟨gb524, 0, none⟩) (Kd.R_types HO_91.out BK524.out (by decide)) (fun _ hk => hk.2) (.slice Ao100 y565.length co100)) (fun _ hk => trivial)⟩, ⟨by (with_reducible repeat (first | apply Kd.S_alloc | apply Kd.S_drewN | apply Kd.S_drew)); exact Kd.S_mono (Kd.S_far (p := ⟨gb524, 0, none⟩) (Kd.S_types HO567.out BK524.out (by decide)) (fun _ hk => hk.2) (.slice Ao100 y565.length co100)) (fun _ hk => hk.1)⟩, ⟨bk_ BK520⟩, ⟨bk_ BK524⟩, ⟨bl_⟩⟩
        ·rw [if_neg c91] at H
         have c91b0 : decide (0 ≤ t560) = false := decide_eq_false c91
         clear c91
         (first | rw [c91b0] | (simp only [i64_w, i32_w]; rw [c91b0]) | skip)
         have H' := aa_ H
         clear H
         go_wp2
         go_roundg k1
         case measure => have := HK1.out; omega
         case rel => exact ⟨(wrap64 (x93_1 + 1)), (x525000_1), (u525000), rf_, H', ⟨by have := HK1.out; omega⟩, ⟨rr_ HO_91⟩, ⟨rs_ HO_525000⟩, ⟨bk_ BK520⟩, ⟨bk_ BK524⟩, ⟨bl_⟩⟩
       ·rw [if_neg c82] at H
        have c82b0 : decide (x93_1 < (t555.length : Int)) = false := decide_eq_false c82
        clear c82
        obtain rfl := Option.some.inj H
        have hnb102 := NB524_520.out
        have hnc102 := NB520_524.out
        have hcz103 := blk_cell BK524.out
        have hfz103 := blk_frozen BK524.out
        go_wp2
        go_ret
        exact ⟨_, eq_, by (with_reducible repeat (first | apply Kd.S_alloc | apply Kd.S_drewN | apply Kd.S_drew)); exact Kd.S_mono HO_525000.out (fun _ hk => trivial), bl_⟩
    ·rw [if_neg c76] at H
     have c76b0 : (a1_0 == 4) = false := beq_eq_false_iff_ne.mpr c76
     have c76b1 : (a1_0 != 4) = true := bne_iff_ne.mpr c76
     obtain rfl := Option.some.inj H
     have hnb104 := NB524_520.out
     have hnc104 := NB520_524.out
     have hcz105 := blk_cell BK524.out
     have hfz105 := blk_frozen BK524.out
     go_wp2
     go_ret
     exact ⟨_, eq_, by (with_reducible repeat (first | apply Kd.S_alloc | apply Kd.S_drewN | apply Kd.S_drew)); exact HO523.out, bl_⟩
end Go.Proofs.Ytnoklfpnmopkpaa.PE
