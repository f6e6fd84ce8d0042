import Derived.Test.YtcbhmcpdnokbiaaKLPAx9
-- printed by wip/tools
namespace Go.Proofs.Ytcbhmcpdnokbiaa.PA
open Go.RowKit Go.Proofs.YtcbhmcpdnokbiaaW.PrintWords Go.Proofs.YtcbhmcpdnokbiaaW.PrintLast Go.Proofs.YtcbhmcpdnokbiaaW.PrintMore
attribute [local go_sem] max2_int min2_int max_two min_two max_three min_three max_four min_four
set_option linter.unusedVariables false
set_option linter.unusedSimpArgs false
mutual
def impl_derive.l0 : Nat → List (S29) → List Int → Int → Int → Int → Int → Int → Int → Int → Int → Int → Int → Int → Int → List (S91) → Option ((List (S91)))
 | 0, _, _, _, _, _, _, _, _, _, _, _, _, _, _, _ => none
 | k + 1, x0, x31, x32, x33, x330000, x330001, x330002, x330003, x330004, x330005, x330006, x330007, x330008, x330009, x334000 => if x33 < x32 then (if 0 ≤ x33 then (if x33 < (x31.length : Int) then (if 0 ≤ (rd x31 x33) then (if (rd x31 x33) < (x0.length : Int) then (if x334000.length < 2932031007402 then (impl_derive.l0 k x0 x31 x32 (wrap64 (x33 + 1)) x330000 x330001 x330002 x330003 x330004 x330005 x330006 x330007 x330008 x330009 (x334000 ++ [(⟨(⟨(⟨x330001, x330002⟩ : S27), (rd_T29 x0 (rd x31 x33)).f1⟩ : S29), (([rd x31 x33] : List Int))⟩ : S91)])) else (none)) else (none)) else (none)) else (none)) else (none)) else (some x334000)
def impl_derive.l1 : Nat → List (S29) → List Int → Int → Int → Int → Int → Int → Int → Int → Int → Int → Int → Int → Int → List (S91) → Option ((List (S91)))
 | 0, _, _, _, _, _, _, _, _, _, _, _, _, _, _, _ => none
 | k + 1, x0, x52, x53, x54, x330000, x330001, x330002, x330003, x330004, x330005, x330006, x330007, x330008, x330009, x334000 => if x54 < x53 then (if 0 ≤ x54 then (if x54 < (x52.length : Int) then (if 0 ≤ (rd x52 x54) then (if (rd x52 x54) < (x0.length : Int) then ((impl_whoOf.f k x0 ((rd_T29 x0 (rd x52 x54)).f1) x330007).bind fun t353 => (impl_derive.l2 k x0 (rd x52 x54) x52 x53 x54 t353 (t353.length : Int) 0 x330000 x330001 x330002 x330003 x330004 x330005 x330006 x330007 x330008 x330009 x334000)) else (none)) else (none)) else (none)) else (none)) else (some x334000)
def impl_derive.l2 : Nat → List (S29) → Int → List Int → Int → Int → List Int → Int → Int → Int → Int → Int → Int → Int → Int → Int → Int → Int → Int → List (S91) → Option ((List (S91)))
 | 0, _, _, _, _, _, _, _, _, _, _, _, _, _, _, _, _, _, _, _ => none
 | k + 1, x0, x10, x52, x53, x54, x68, x69, x70, x330000, x330001, x330002, x330003, x330004, x330005, x330006, x330007, x330008, x330009, x334000 => if x70 < x69 then (if 0 ≤ x70 then (if x70 < (x68.length : Int) then (if 0 ≤ (rd x68 x70) then (if (rd x68 x70) < (x0.length : Int) then (if x334000.length < 2932031007402 then (impl_derive.l2 k x0 x10 x52 x53 x54 x68 x69 (wrap64 (x70 + 1)) x330000 x330001 x330002 x330003 x330004 x330005 x330006 x330007 x330008 x330009 (x334000 ++ [(⟨(⟨(⟨x330001, x330002⟩ : S27), (rd_T29 x0 (rd x68 x70)).f1⟩ : S29), (([x10, rd x68 x70] : List Int))⟩ : S91)])) else (none)) else (none)) else (none)) else (none)) else (none)) else (impl_derive.l1 k x0 x52 x53 (wrap64 (x54 + 1)) x330000 x330001 x330002 x330003 x330004 x330005 x330006 x330007 x330008 x330009 x334000)
def impl_derive.l3 : Nat → List (S29) → List Int → Int → Int → Int → Int → Int → Int → Int → Int → Int → Int → Int → Int → List (S91) → Option ((List (S91)))
 | 0, _, _, _, _, _, _, _, _, _, _, _, _, _, _, _ => none
 | k + 1, x0, x91, x92, x93, x330000, x330001, x330002, x330003, x330004, x330005, x330006, x330007, x330008, x330009, x334000 => if x93 < x92 then (if 0 ≤ x93 then (if x93 < (x91.length : Int) then (if 0 ≤ (rd x91 x93) then (if (rd x91 x93) < (x0.length : Int) then ((impl_Fact_48.f k x0 x330006 x330007 ((rd_T29 x0 (rd x91 x93)).f1)).bind fun t369 => (if t369 ≥ 0 then (if x334000.length < 2932031007402 then (impl_derive.l3 k x0 x91 x92 (wrap64 (x93 + 1)) x330000 x330001 x330002 x330003 x330004 x330005 x330006 x330007 x330008 x330009 (x334000 ++ [(⟨(⟨(⟨x330001, x330002⟩ : S27), (rd_T29 x0 (rd x91 x93)).f1⟩ : S29), (([rd x91 x93, t369] : List Int))⟩ : S91)])) else (none)) else (impl_derive.l3 k x0 x91 x92 (wrap64 (x93 + 1)) x330000 x330001 x330002 x330003 x330004 x330005 x330006 x330007 x330008 x330009 x334000))) else (none)) else (none)) else (none)) else (none)) else (some x334000)
end
def impl_derive.f (k : Nat) (l0 : List (S29)) (a1_0 : Int) (a1_1 : Int) (a1_2 : Int) (a1_3 : Int) (a1_4 : Int) (a1_5 : Int) (a1_6 : Int) (a1_7 : Int) (a1_8 : Int) (a1_9 : Int) : Option ((List (S91))) := (some (([] : List (S91)) : List (S91))).bind fun y330 => (if a1_0 = 1 then (if y330.length < 2932031007402 then (some (y330 ++ [(⟨(⟨(⟨a1_1, a1_2⟩ : S27), a1_3⟩ : S29), ([] : List Int)⟩ : S91)])) else (none)) else (if a1_0 = 2 then ((impl_whoOf.f k l0 a1_4 a1_5).bind fun t337 => (impl_derive.l0 k l0 t337 (t337.length : Int) 0 a1_0 a1_1 a1_2 a1_3 a1_4 a1_5 a1_6 a1_7 a1_8 a1_9 y330)) else (if a1_0 = 3 then ((impl_whoOf.f k l0 a1_4 a1_5).bind fun t348 => (impl_derive.l1 k l0 t348 (t348.length : Int) 0 a1_0 a1_1 a1_2 a1_3 a1_4 a1_5 a1_6 a1_7 a1_8 a1_9 y330)) else (if a1_0 = 4 then ((impl_whoOf.f k l0 a1_4 a1_5).bind fun t364 => (impl_derive.l3 k l0 t364 (t364.length : Int) 0 a1_0 a1_1 a1_2 a1_3 a1_4 a1_5 a1_6 a1_7 a1_8 a1_9 y330)) else (some y330)))))
def impl_derive.T16 : Bool × List (List Nat × List Nat) := (true, [([], []), ([], []), ([], []), ([1, 2], [1, 2]), ([3], [3]), ([4], [4]), ([], []), ([6], [6]), ([7], [7]), ([5, 8], [5, 8]), ([0, 9], [0, 9]), ([10], [10]), ([], [])])
def impl_derive.B16 : List Nat := [0, 0, 0, 6, 14, 30, 0, 64, 192, 510, 1023, 2047, 0]
theorem impl_derive.tab16 : rtab .any (opsOf Try.f54 16) = impl_derive.T16 := by kernel_rfl
theorem impl_derive.bits16 : waitsOk impl_derive.T16.2 impl_derive.B16 = true := by kernel_rfl
def impl_derive.T26 : Bool × List (List Nat × List Nat) := (true, [([], []), ([], []), ([1], [1]), ([], []), ([], []), ([3, 4], [3, 4]), ([5], [5]), ([6], [6]), ([2, 7], [2, 7]), ([0, 8], [0, 8]), ([9, 9, 0, 1, 2, 3, 4, 5, 6, 7, 8, 9], [9])])
def impl_derive.B26 : List Nat := [0, 0, 2, 0, 0, 24, 56, 120, 254, 511, 1023]
theorem impl_derive.tab26 : rtab .any (opsOf Try.f54 26) = impl_derive.T26 := by kernel_rfl
theorem impl_derive.bits26 : waitsOk impl_derive.T26.2 impl_derive.B26 = true := by kernel_rfl
set_option maxHeartbeats 8000000 in
set_option maxRecDepth 100000 in
theorem impl_derive.calls (k : Nat) (A0 : Option Addr) (c0 : Nat) (l0 : List (S29)) (a1_0 : Int) (a1_1 : Int) (a1_2 : Int) (a1_3 : Int) (a1_4 : Int) (a1_5 : Int) (a1_6 : Int) (a1_7 : Int) (a1_8 : Int) (a1_9 : Int) (r : List (S91)) (w : World) (hr0 : Kd.C k29 w A0 l0.length l0) (hc0 : l0.length ≤ c0) (h : impl_derive.f k l0 a1_0 a1_1 a1_2 a1_3 a1_4 a1_5 a1_6 a1_7 a1_8 a1_9 = some r) :
  Calls Try.prog 54 #[.slice A0 l0.length c0, .agg #[.int .i64 a1_0, .int .i64 a1_1, .int .i64 a1_2, .int .i64 a1_3, .int .i64 a1_4, .int .i64 a1_5, .int .i64 a1_6, .int .i64 a1_7, .int .i64 a1_8, .int .i64 a1_9]] w fun e w' => ∃ v0_ : Value, e = .returned (v0_) ∧ Kd.S k91 91 w' w.heap.size (fun _ => True) v0_ r ∧ Below w.heap.size w w' := by
 have hu46 := Try.underlying46
 have hu27 := Try.underlying27
 have hu29 := Try.underlying29
 have hmf : ∀ (fn : Fn) (first cap : Array Value) (w : World), (Instr.makeFunc fn first cap).run Try.prog w = .ok (.func fn first cap) w := fun _ _ _ _ => rfl
 have hu87 := Try.underlying87
 have HR0 := aa_ hr0
 have HC0 := aa_ hc0
 clear hr0 hc0
 have HB := aa_ (Below.refl w.heap.size w)
 have H : ((some (([] : List (S91)) : List (S91))).bind fun y330 => (if a1_0 = 1 then (if y330.length < 2932031007402 then (some (y330 ++ [(⟨(⟨(⟨a1_1, a1_2⟩ : S27), a1_3⟩ : S29), ([] : List Int)⟩ : S91)])) else (none)) else (if a1_0 = 2 then ((impl_whoOf.f k l0 a1_4 a1_5).bind fun t337 => (impl_derive.l0 k l0 t337 (t337.length : Int) 0 a1_0 a1_1 a1_2 a1_3 a1_4 a1_5 a1_6 a1_7 a1_8 a1_9 y330)) else (if a1_0 = 3 then ((impl_whoOf.f k l0 a1_4 a1_5).bind fun t348 => (impl_derive.l1 k l0 t348 (t348.length : Int) 0 a1_0 a1_1 a1_2 a1_3 a1_4 a1_5 a1_6 a1_7 a1_8 a1_9 y330)) else (if a1_0 = 4 then ((impl_whoOf.f k l0 a1_4 a1_5).bind fun t364 => (impl_derive.l3 k l0 t364 (t364.length : Int) 0 a1_0 a1_1 a1_2 a1_3 a1_4 a1_5 a1_6 a1_7 a1_8 a1_9 y330)) else (some y330)))))) = some r := h
 clear h
 obtain ⟨y330, hy330⟩ : ∃ y_ : List (S91), y_ = (([] : List (S91))) := ⟨_, rfl⟩
 replace H : (if a1_0 = 1 then (if y330.length < 2932031007402 then (some (y330 ++ [(⟨(⟨(⟨a1_1, a1_2⟩ : S27), a1_3⟩ : S29), ([] : List Int)⟩ : S91)])) else (none)) else (if a1_0 = 2 then ((impl_whoOf.f k l0 a1_4 a1_5).bind fun t337 => (impl_derive.l0 k l0 t337 (t337.length : Int) 0 a1_0 a1_1 a1_2 a1_3 a1_4 a1_5 a1_6 a1_7 a1_8 a1_9 y330)) else (if a1_0 = 3 then ((impl_whoOf.f k l0 a1_4 a1_5).bind fun t348 => (impl_derive.l1 k l0 t348 (t348.length : Int) 0 a1_0 a1_1 a1_2 a1_3 a1_4 a1_5 a1_6 a1_7 a1_8 a1_9 y330)) else (if a1_0 = 4 then ((impl_whoOf.f k l0 a1_4 a1_5).bind fun t364 => (impl_derive.l3 k l0 t364 (t364.length : Int) 0 a1_0 a1_1 a1_2 a1_3 a1_4 a1_5 a1_6 a1_7 a1_8 a1_9 y330)) else (some y330))))) = some r := rh_ hy330 H
 have Ny330 := aa_ hy330
 clear hy330
 have HC3 := aa_ H
 clear H
 go_enter Try.func54, Try.ntmps54
 go_upto_if 20 with (first | (go_at_call 67; go_in) | (go_end0; simp only []; go_at_K) | ((with_reducible refine gD_ 3 rfl ?_); refine bx_ (N := 3) (cs := #[.int .i64 a1_0, .int .i64 a1_1, .int .i64 a1_2, .int .i64 a1_3, .int .i64 a1_4, .int .i64 a1_5, .int .i64 a1_6, .int .i64 a1_7, .int .i64 a1_8, .int .i64 a1_9]) (t := 46) ?_; intro gb329 hg w4 hbox hb; have BK329 := aa_ (hbox); have GW329 := gs_ hg; have GE329 := gs_ hg; replace HB := hbs_ hb; clear hb hbox hg) | ((with_reducible refine gD_ 16 rfl ?_); refine Kd.S_lit k91 _ 91 ?hg (N := 16) ?hd (xs := ([] : List (S91))) (inner := []) (ok := fun _ => True) (okp := fun _ => True) ?hr ?hp (fun _ hk => hk) trivial (Below.refl _ _) (Nat.le_refl _) (by simp) ?_; (case hd => rfl); (case hg => rfl); (case hr => first | (go_simp; done) | (go_simp; rfl)); (case hp => exact (Reps.none _ _)); intro v331 w5 ho6 hb hg_ hnew_; clear hg_ hnew_; (first | rw [← Ny330.out] at ho6 | (simp only [Int.reduceToNat] at ho6; rw [← Ny330.out] at ho6)); have HO332 := aa_ (Kd.S_lower ho6 bls_); replace BK329 := bkb_ BK329 hb; replace HB := hbs_ hb; clear hb ho6) | ((with_reducible refine gD_ 5 rfl ?_); refine bx_ (N := 5) (cs := #[.slice none 0 0]) (t := 87) ?_; intro gb333 hg w7 hbox hb; replace HO332 := aa_ (Kd.S_below (rs_ HO332) hb); have BK333 := aa_ (hbox); have GW333 := gs_ hg; have GE333 := gs_ hg; replace HB := hbs_ hb; have NB329_333 := nl_ hg BK329; have NB333_329 := nr_ hg BK329; replace BK329 := bkb_ BK329 hb; clear hb hbox hg; obtain ⟨Ao8, co8, eo8⟩ := Kd.S_slice HO332.out; subst eo8; have hnb9 := NB333_329.out; have hnc9 := NB329_333.out; obtain ⟨hcz10, hfz10⟩ := bcf_ BK333; obtain ⟨hcz11, hfz11⟩ := bcf_ BK329))
 have n0_ : Aside0 (Kd.S k91 91 (w7.setCell ⟨gb333, 0, none⟩ (.slice Ao8 y330.length co8)) w.heap.size (fun _ => True) (.slice Ao8 y330.length co8) y330) := ⟨by (with_reducible repeat (first | apply Kd.S_alloc | apply Kd.S_drewN | apply Kd.S_drew)); exact Kd.S_mono (Kd.S_far (p := ⟨gb333, 0, none⟩) (Kd.S_types HO332.out BK333.out (by decide)) (fun _ hk => hk.2) (.slice Ao8 y330.length co8)) (fun _ hk => trivial)⟩
 have n1_ : Aside0 ((w7.setCell ⟨gb333, 0, none⟩ (.slice Ao8 y330.length co8)).heap[gb329]? = some (.cells #[.int .i64 a1_0, .int .i64 a1_1, .int .i64 a1_2, .int .i64 a1_3, .int .i64 a1_4, .int .i64 a1_5, .int .i64 a1_6, .int .i64 a1_7, .int .i64 a1_8, .int .i64 a1_9] 46 (0, 0))) := ⟨bk_ BK329⟩
 have n2_ : Aside0 ((w7.setCell ⟨gb333, 0, none⟩ (.slice Ao8 y330.length co8)).heap[gb333]? = some (.cells #[.slice Ao8 y330.length co8] 87 (0, 0))) := ⟨bk_ BK333⟩
 have n3_ : Aside0 (Below w.heap.size w (w7.setCell ⟨gb333, 0, none⟩ (.slice Ao8 y330.length co8))) := ⟨bl_⟩
 (try clear HO332)
 (try clear BK329)
 (try clear BK333)
 (try clear HB)
 generalize (w7.setCell ⟨gb333, 0, none⟩ (.slice Ao8 y330.length co8)) = w12 at n0_ n1_ n2_ n3_ ⊢
 have HO332 := n0_
 have BK329 := n1_
 have BK333 := n2_
 have HB := n3_
 clear n0_ n1_ n2_ n3_
 (try simp only [Act.put, List.setIfInBounds_toArray, List.set_cons_zero, List.set_cons_succ])
 have H := HC3.out
 clear HC3
 by_cases c13 : a1_0 = 1
 ·rw [if_pos c13] at H
  have c13b0 : (a1_0 == 1) = true := beq_iff_eq.mpr c13
  have c13b1 : (a1_0 != 1) = false := bne_eq_false_iff_eq.mpr c13
  clear c13
  (first | rw [c13b0] | (simp only [i64_w, i32_w]; rw [c13b0]) | skip)
  obtain ⟨c14, H⟩ := ifn_ H
  have LMc14 := aa_ c14
  clear c14
  obtain ⟨y334, hy334⟩ : ∃ y_ : List (S91), y_ = (y330 ++ [(⟨(⟨(⟨a1_1, a1_2⟩ : S27), a1_3⟩ : S29), ([] : List Int)⟩ : S91)]) := ⟨_, rfl⟩
  replace H : (some y334) = some r := rh_ hy334 H
  have Ny334 := aa_ hy334
  clear hy334
  obtain rfl := Option.some.inj H
  have hnb15 := NB329_333.out
  have hnc15 := NB333_329.out
  have hcz16 := blk_cell BK329.out
  have hfz16 := blk_frozen BK329.out
  have hcz17 := blk_cell BK333.out
  have hfz17 := blk_frozen BK333.out
  go_wp2_with (first | (go_at_call 67; go_in) | (go_end0; simp only []; go_at_K) | ((with_reducible refine gate_builtin (b := .append) (xs := #[.tmp 6, .tmp 13]) rfl ?_); at_builtin; refine Kd.S_append k91 (w0 := w) w.heap.size rfl (.tmp 6) (.tmp 13) 87 91 (.agg #[(.int .i64 0), (.int .i64 0), (.int .i64 0), (.slice none 0 0)]) 48 rfl Try.underlying87 info91 rfl (by decide) (by omega) (.slice Ao8 y330.length co8) y330 (⟨(⟨(⟨a1_1, a1_2⟩ : S27), a1_3⟩ : S29), ([] : List Int)⟩ : S91) [.int .i64 a1_1, .int .i64 a1_2, .int .i64 a1_3, .slice none 0 0] (fun _ => True) (fun _ => False) rfl rfl ?aP (fun k_ hk_ => hk_.elim) ?aF ?aO ?aB ?aS ?aL ?_; (case aP => exact k91_mkM _ _ _ (⟨(⟨(⟨a1_1, a1_2⟩ : S27), a1_3⟩ : S29), ([] : List Int)⟩ : S91) (Kd.R_nil _ _ _ _ _)); (case aB => exact bl_); (case aF => exact (fun _ _ => trivial)); (case aO => exact (by (with_reducible repeat (first | apply Kd.S_alloc | apply Kd.S_drewN | apply Kd.S_drew)); exact Kd.S_mono HO332.out (fun k_ hk => ⟨trivial, fun e_ => e_⟩))); (case aS => exact bls_); (case aL => have := LMc14.out; omega); intro v335 w18 ho hb hg hat; rw [← Ny334.out] at ho; replace BK329 := aa_ (blk_grown (g := gb329) (o := .cells #[.int .i64 a1_0, .int .i64 a1_1, .int .i64 a1_2, .int .i64 a1_3, .int .i64 a1_4, .int .i64 a1_5, .int .i64 a1_6, .int .i64 a1_7, .int .i64 a1_8, .int .i64 a1_9] 46 (0, 0)) (bk_ BK329) hg (Kd.S_ne HO332.out BK329.out (by decide))); replace BK333 := aa_ (blk_grown (g := gb333) (o := .cells #[.slice Ao8 y330.length co8] 87 (0, 0)) (bk_ BK333) hg (Kd.S_ne HO332.out BK333.out (by decide))); replace HB := aa_ (hb); have HO336 := aa_ (ho); clear HO332; clear ho hb hg hat; obtain ⟨Ao19, co19, eo19⟩ := Kd.S_slice HO336.out; subst eo19; obtain ⟨hcz20, hfz20⟩ := bcf_ BK333))
  go_ret
  exact ⟨_, eq_, by (with_reducible repeat (first | apply Kd.S_alloc | apply Kd.S_drewN | apply Kd.S_drew)); exact Kd.S_mono (Kd.S_far (p := ⟨gb333, 0, none⟩) (Kd.S_types HO336.out BK333.out (by decide)) (fun _ hk => hk.2) (.slice Ao19 y334.length co19)) (fun _ hk => trivial), bl_⟩
 ·rw [if_neg c13] at H
  have c13b0 : (a1_0 == 1) = false := beq_eq_false_iff_ne.mpr c13
  have c13b1 : (a1_0 != 1) = true := bne_iff_ne.mpr c13
  (first | rw [c13b0] | (simp only [i64_w, i32_w]; rw [c13b0]) | skip)
  by_cases c21 : a1_0 = 2
  ·rw [if_pos c21] at H
   have c21b0 : (a1_0 == 2) = true := beq_iff_eq.mpr c21
   have c21b1 : (a1_0 != 2) = false := bne_eq_false_iff_eq.mpr c21
   clear c21
   obtain ⟨t337, A22, H⟩ := bindE_ H
   have H' := aa_ H
   clear H
   have hnb23 := NB329_333.out
   have hnc23 := NB333_329.out
   have hcz24 := blk_cell BK329.out
   have hfz24 := blk_frozen BK329.out
   go_wp2_with (first | (go_at_call 67; go_in) | (go_end0; simp only []; go_at_K) | ((with_reducible refine gC_ 68 rfl ?_); refine goesC_ (some 31) Try.func68 #[.slice A0 l0.length c0, .agg #[.int .i64 a1_4, .int .i64 a1_5]] ?_; (with_reducible refine (impl_whoOf.calls k _ _ l0 a1_4 a1_5 t337 _ ?side1 ?side2 A22.out).mono ?_); (case side1 => repeat (first | exact (Kd.C_below HR0.out HB.out) | (with_reducible refine Kd.C_alloc ?_ _) | (with_reducible refine Kd.C_drewN ?_ _) | (with_reducible refine Kd.C_drew ?_))); (case side2 => exact HC0.out); rintro e w25 ⟨v338, rfl, ho0, hb⟩; refine ⟨_, rfl, ?_⟩; replace HO332 := aa_ (Kd.S_elder' (rs_ HO332) (Kd.R_base ho0) hb); have HO339 := aa_ (Kd.R_lower ho0 bls_); replace BK329 := bkb_ BK329 hb; replace BK333 := bkb_ BK333 hb; replace HB := hbs_ hb; (try clear hb ho0); obtain ⟨Ao26, co26, eo26⟩ := Kd.R_slice HO339.out; subst eo26))
   go_loopg [33] k (fun kq v33 w' => ∃ (x33_1 : Int) (x334000_1 : List (S91)) (u334000 : Value), v33 = .int .i64 x33_1 ∧ Aside0 (impl_derive.l0 kq l0 t337 (t337.length : Int) x33_1 a1_0 a1_1 a1_2 a1_3 a1_4 a1_5 a1_6 a1_7 a1_8 a1_9 x334000_1 = some r) ∧ Aside0 (kq ≤ k) ∧ Aside0 (Kd.R (Kd.int .i64) 3 w' w.heap.size (fun _ => True) (.slice Ao26 t337.length co26) t337) ∧ Aside0 (Kd.S k91 91 w' w.heap.size (fun k_ => some k_ ≠ ((.slice Ao26 t337.length co26) : Value).ownBlock) u334000 x334000_1) ∧ Aside0 (w'.heap[gb329]? = some (.cells #[.int .i64 a1_0, .int .i64 a1_1, .int .i64 a1_2, .int .i64 a1_3, .int .i64 a1_4, .int .i64 a1_5, .int .i64 a1_6, .int .i64 a1_7, .int .i64 a1_8, .int .i64 a1_9] 46 (0, 0))) ∧ Aside0 (w'.heap[gb333]? = some (.cells #[u334000] 87 (0, 0))) ∧ Aside0 (Below w.heap.size w w'))
   case atStart => exact ⟨(0), (y330), (.slice Ao8 y330.length co8), rf_, H', ⟨Nat.le_refl _⟩, ⟨rr_ HO339⟩, ⟨by (with_reducible repeat (first | apply Kd.S_alloc | apply Kd.S_drewN | apply Kd.S_drew)); exact Kd.S_mono HO332.out (fun _ hk => hk.2)⟩, ⟨bk_ BK329⟩, ⟨bk_ BK333⟩, ⟨bl_⟩⟩
   case round =>
    clear H'
    try clear c1
    try clear c2
    try clear p2
    try clear c5
    try clear c6
    try clear c9
    try clear c13
    try clear c13b0
    try clear c13b1
    try clear c14
    try clear c15
    try clear c21
    try clear c21b0
    try clear c21b1
    try clear c23
    try clear hcz10
    try clear hcz11
    try clear hcz16
    try clear hcz17
    try clear hcz20
    try clear hcz24
    try clear hfz10
    try clear hfz11
    try clear hfz16
    try clear hfz17
    try clear hfz20
    try clear hfz24
    obtain ⟨x33_1, x334000_1, u334000, rfl, HA, HK1, HO_31, HO_334000, BK329, BK333, HB⟩ := hrel
    cases gk with
    | zero => exact absurd HA.out (by simp [impl_derive.l0])
    | succ k1 =>
     have H := HA.out
     clear HA
     simp only [impl_derive.l0] at H
     by_cases c27 : x33_1 < (t337.length : Int)
     ·rw [if_pos c27] at H
      have c27b0 : decide (x33_1 < (t337.length : Int)) = true := decide_eq_true c27
      clear c27
      obtain ⟨c28b0, H⟩ := ifd_ H
      obtain ⟨c29b0, H⟩ := ifd_ H
      obtain ⟨c30b0, H⟩ := ifd_ H
      obtain ⟨c31b0, H⟩ := ifd_ H
      obtain ⟨y342, hy342⟩ : ∃ y_ : List Int, y_ = (([rd t337 x33_1] : List Int)) := ⟨_, rfl⟩
      replace H : (if x334000_1.length < 2932031007402 then (impl_derive.l0 k1 l0 t337 (t337.length : Int) (wrap64 (x33_1 + 1)) a1_0 a1_1 a1_2 a1_3 a1_4 a1_5 a1_6 a1_7 a1_8 a1_9 (x334000_1 ++ [(⟨(⟨(⟨a1_1, a1_2⟩ : S27), (rd_T29 l0 (rd t337 x33_1)).f1⟩ : S29), y342⟩ : S91)])) else (none)) = some r := rh_ hy342 H
      have Ny342 := aa_ hy342
      clear hy342
      obtain ⟨c32, H⟩ := ifn_ H
      have LMc32 := aa_ c32
      clear c32
      obtain ⟨y345, hy345⟩ : ∃ y_ : List (S91), y_ = (x334000_1 ++ [(⟨(⟨(⟨a1_1, a1_2⟩ : S27), (rd_T29 l0 (rd t337 x33_1)).f1⟩ : S29), y342⟩ : S91)]) := ⟨_, rfl⟩
      replace H : (impl_derive.l0 k1 l0 t337 (t337.length : Int) (wrap64 (x33_1 + 1)) a1_0 a1_1 a1_2 a1_3 a1_4 a1_5 a1_6 a1_7 a1_8 a1_9 y345) = some r := rh_ hy345 H
      have Ny345 := aa_ hy345
      clear hy345
      have H' := aa_ H
      clear H
      have p340 : 0 ≤ (x33_1 : Int) := od_
      have q340 : x33_1 < (t337.length : Int) := od_
      obtain ⟨ad340, e340, hx340_0⟩ := Kd.at_int (Kd.R_reads' HO_31.out).2.2 x33_1 p340 q340
      cases e340
      replace p340 := eq_true p340
      replace q340 := eq_true q340
      have p341 : 0 ≤ ((rd t337 x33_1) : Int) := od_
      have q341 : (rd t337 x33_1) < (l0.length : Int) := od_
      obtain ⟨ad341, e341, hx341_0, hx341_1, hx341_2⟩ := at_T29 (Kd.C_below HR0.out HB.out) (rd t337 x33_1) p341 q341
      cases e341
      replace p341 := eq_true p341
      replace q341 := eq_true q341
      go_wp2_with (first | (go_at_call 67; go_in) | (go_end0; simp only []; go_at_K) | ((with_reducible refine gD_ 44 rfl ?_); refine Kd.R_lit (Kd.int .i64) _ 3 ?hg (N := 44) ?hd (xs := ([rd t337 x33_1] : List Int)) (inner := [.int .i64 (rd t337 x33_1)]) (ok := fun _ => True) (okp := fun _ => True) ?hr ?hp (fun _ hk => hk) trivial (Below.refl _ _) (Nat.le_refl _) (by simp) ?_; (case hd => rfl); (case hg => rfl); (case hr => first | (go_simp; done) | (go_simp; rfl)); (case hp => exact (Reps.one (show Kd.M (Kd.int .i64) _ _ _ (rd t337 x33_1) [.int .i64 (rd t337 x33_1)] from rfl) (Reps.none _ _))); intro v343 w33 ho34 hb hg_ hnew_; clear hg_ hnew_; (first | rw [← Ny342.out] at ho34 | (simp only [Int.reduceToNat] at ho34; rw [← Ny342.out] at ho34)); replace HO_334000 := aa_ (Kd.S_elder' (rs_ HO_334000) (Kd.R_base ho34) hb); have HO344 := aa_ (Kd.R_lower (Kd.R_new' ho34 (Kd.R_lt (rr_ HO_31))) bls_); replace HO_31 := aa_ (Kd.R_elder' (rr_ HO_31) (Kd.R_base ho34) hb); replace BK329 := bkb_ BK329 hb; replace BK333 := bkb_ BK333 hb; replace HB := hbs_ hb; clear hb ho34; have hnb35 := NB333_329.out; have hnc35 := NB329_333.out; obtain ⟨hcz36, hfz36⟩ := bcf_ BK333; obtain ⟨hcz37, hfz37⟩ := bcf_ BK329; obtain ⟨Ao38, co38, eo38⟩ := Kd.R_slice HO344.out; subst eo38) | ((with_reducible refine gate_builtin (b := .append) (xs := #[.tmp 6, .tmp 13]) rfl ?_); at_builtin; refine Kd.S_append k91 (w0 := w) w.heap.size rfl (.tmp 6) (.tmp 13) 87 91 (.agg #[(.int .i64 0), (.int .i64 0), (.int .i64 0), (.slice none 0 0)]) 48 rfl Try.underlying87 info91 rfl (by decide) (by omega) u334000 x334000_1 (⟨(⟨(⟨a1_1, a1_2⟩ : S27), (rd_T29 l0 (rd t337 x33_1)).f1⟩ : S29), y342⟩ : S91) [.int .i64 a1_1, .int .i64 a1_2, .int .i64 ((rd_T29 l0 (rd t337 x33_1)).f1), .slice Ao38 y342.length co38] (fun k_ => some k_ ≠ (.slice (some ad340) t337.length co26 : Value).ownBlock) (fun k_ => some k_ = (.slice Ao38 y342.length co38 : Value).ownBlock) rfl rfl ?aP (fun k_ hk_ => ((Kd.R_mono (ok' := fun k_ => ((fun k_ => some k_ ≠ (.slice (some ad340) t337.length co26 : Value).ownBlock)) k_ ∧ some k_ ≠ (u334000 : Value).ownBlock) (Kd.R_apart' (HO344.out) (Kd.S_typed HO_334000.out) (by decide)) (fun k_ hk => ⟨hk.1.2, hk.2⟩))).1 k_ hk_.symm) ?aF ?aO ?aB ?aS ?aL ?_; (case aP => exact k91_mkM _ _ _ (⟨(⟨(⟨a1_1, a1_2⟩ : S27), (rd_T29 l0 (rd t337 x33_1)).f1⟩ : S29), y342⟩ : S91) (Kd.R_mono (Kd.R_tight rfl (Kd.R_mono (ok' := fun k_ => ((fun k_ => some k_ ≠ (.slice (some ad340) t337.length co26 : Value).ownBlock)) k_ ∧ some k_ ≠ (u334000 : Value).ownBlock) (Kd.R_apart' (HO344.out) (Kd.S_typed HO_334000.out) (by decide)) (fun k_ hk => ⟨hk.1.2, hk.2⟩))) (fun _ h_ => h_))); (case aB => exact bl_); (case aF => exact (fun k_ hk => Kd.fresh' (Kd.R_lt (rr_ HO_31)) k_ hk)); (case aO => exact (by (with_reducible repeat (first | apply Kd.S_alloc | apply Kd.S_drewN | apply Kd.S_drew)); exact Kd.S_mono HO_334000.out (fun k_ hk => ⟨hk.1, fun e_ => hk.2 e_⟩))); (case aS => exact bls_); (case aL => have := LMc32.out; omega); intro v346 w39 ho hb hg hat; rw [← Ny345.out] at ho; replace HO_31 := aa_ (Kd.R_over' (rr_ HO_31) (Kd.S_typed (rs_ HO_334000)) (by decide) hg); replace BK329 := aa_ (blk_grown (g := gb329) (o := .cells #[.int .i64 a1_0, .int .i64 a1_1, .int .i64 a1_2, .int .i64 a1_3, .int .i64 a1_4, .int .i64 a1_5, .int .i64 a1_6, .int .i64 a1_7, .int .i64 a1_8, .int .i64 a1_9] 46 (0, 0)) (bk_ BK329) hg (Kd.S_ne HO_334000.out BK329.out (by decide))); replace BK333 := aa_ (blk_grown (g := gb333) (o := .cells #[u334000] 87 (0, 0)) (bk_ BK333) hg (Kd.S_ne HO_334000.out BK333.out (by decide))); replace HB := aa_ (hb); have HO347 := aa_ (ho); clear HO_334000; clear HO344; clear ho hb hg hat; obtain ⟨Ao40, co40, eo40⟩ := Kd.S_slice HO347.out; subst eo40; obtain ⟨hcz41, hfz41⟩ := bcf_ BK333))
      go_roundg k1
      case measure => have := HK1.out; omega
      case rel => exact ⟨(wrap64 (x33_1 + 1)), (y345), (.slice Ao40 y345.length co40), rf_, H', ⟨by have := HK1.out; omega⟩, ⟨by (with_reducible repeat (first | apply Kd.R_alloc | apply Kd.R_drewN | apply Kd.R_drew)); exact Kd.R_mono (Kd.R_far (p := ⟨gb333, 0, none⟩) (Kd.R_types HO_31.out BK333.out (by decide)) (fun _ hk => hk.2) (.slice Ao40 y345.length co40)) (fun _ hk => trivial)⟩, ⟨by (with_reducible repeat (first | apply Kd.S_alloc | apply Kd.S_drewN | apply Kd.S_drew)); exact Kd.S_mono (Kd.S_far (p := ⟨gb333, 0, none⟩) (Kd.S_types HO347.out BK333.out (by decide)) (fun _ hk => hk.2) (.slice Ao40 y345.length co40)) (fun _ hk => hk.1)⟩, ⟨bk_ BK329⟩, ⟨bk_ BK333⟩, ⟨bl_⟩⟩
     ·rw [if_neg c27] at H
      have c27b0 : decide (x33_1 < (t337.length : Int)) = false := decide_eq_false c27
      clear c27
      obtain rfl := Option.some.inj H
      have hnb42 := NB333_329.out
      have hnc42 := NB329_333.out
      have hcz43 := blk_cell BK333.out
      have hfz43 := blk_frozen BK333.out
      go_wp2
      go_ret
      exact ⟨_, eq_, by (with_reducible repeat (first | apply Kd.S_alloc | apply Kd.S_drewN | apply Kd.S_drew)); exact Kd.S_mono HO_334000.out (fun _ hk => trivial), bl_⟩
  ·rw [if_neg c21] at H
   have c21b0 : (a1_0 == 2) = false := beq_eq_false_iff_ne.mpr c21
   have c21b1 : (a1_0 != 2) = true := bne_iff_ne.mpr c21
   by_cases c44 : a1_0 = 3
   ·rw [if_pos c44] at H
    have c44b0 : (a1_0 == 3) = true := beq_iff_eq.mpr c44
    have c44b1 : (a1_0 != 3) = false := bne_eq_false_iff_eq.mpr c44
    clear c44
    obtain ⟨t348, A45, H⟩ := bindE_ H
    have H' := aa_ H
    clear H
    have hnb46 := NB329_333.out
    have hnc46 := NB333_329.out
    have hcz47 := blk_cell BK329.out
    have hfz47 := blk_frozen BK329.out
    go_wp2_with (first | (go_at_call 67; go_in) | (go_end0; simp only []; go_at_K) | ((with_reducible refine gC_ 68 rfl ?_); refine goesC_ (some 52) Try.func68 #[.slice A0 l0.length c0, .agg #[.int .i64 a1_4, .int .i64 a1_5]] ?_; (with_reducible refine (impl_whoOf.calls k _ _ l0 a1_4 a1_5 t348 _ ?side1 ?side2 A45.out).mono ?_); (case side1 => repeat (first | exact (Kd.C_below HR0.out HB.out) | (with_reducible refine Kd.C_alloc ?_ _) | (with_reducible refine Kd.C_drewN ?_ _) | (with_reducible refine Kd.C_drew ?_))); (case side2 => exact HC0.out); rintro e w48 ⟨v349, rfl, ho0, hb⟩; refine ⟨_, rfl, ?_⟩; replace HO332 := aa_ (Kd.S_elder' (rs_ HO332) (Kd.R_base ho0) hb); have HO350 := aa_ (Kd.R_lower ho0 bls_); replace BK329 := bkb_ BK329 hb; replace BK333 := bkb_ BK333 hb; replace HB := hbs_ hb; (try clear hb ho0); obtain ⟨Ao49, co49, eo49⟩ := Kd.R_slice HO350.out; subst eo49))
    go_loopg [54] k (fun kq v54 w' => ∃ (x54_1 : Int) (x334000_1 : List (S91)) (u334000 : Value), v54 = .int .i64 x54_1 ∧ Aside0 (impl_derive.l1 kq l0 t348 (t348.length : Int) x54_1 a1_0 a1_1 a1_2 a1_3 a1_4 a1_5 a1_6 a1_7 a1_8 a1_9 x334000_1 = some r) ∧ Aside0 (kq ≤ k) ∧ Aside0 (Kd.R (Kd.int .i64) 3 w' w.heap.size (fun _ => True) (.slice Ao49 t348.length co49) t348) ∧ Aside0 (Kd.S k91 91 w' w.heap.size (fun k_ => some k_ ≠ ((.slice Ao49 t348.length co49) : Value).ownBlock) u334000 x334000_1) ∧ Aside0 (w'.heap[gb329]? = some (.cells #[.int .i64 a1_0, .int .i64 a1_1, .int .i64 a1_2, .int .i64 a1_3, .int .i64 a1_4, .int .i64 a1_5, .int .i64 a1_6, .int .i64 a1_7, .int .i64 a1_8, .int .i64 a1_9] 46 (0, 0))) ∧ Aside0 (w'.heap[gb333]? = some (.cells #[u334000] 87 (0, 0))) ∧ Aside0 (Below w.heap.size w w'))
    case atStart => exact ⟨(0), (y330), (.slice Ao8 y330.length co8), rf_, H', ⟨Nat.le_refl _⟩, ⟨rr_ HO350⟩, ⟨by (with_reducible repeat (first | apply Kd.S_alloc | apply Kd.S_drewN | apply Kd.S_drew)); exact Kd.S_mono HO332.out (fun _ hk => hk.2)⟩, ⟨bk_ BK329⟩, ⟨bk_ BK333⟩, ⟨bl_⟩⟩
    case round =>
     clear H'
     try clear c1
     try clear c2
     try clear p2
     try clear c3
     try clear p3
     try clear q3
     try clear hx3
     try clear c4
     try clear c5
     try clear c6
     try clear p6
     try clear c9
     try clear c13
     try clear c13b0
     try clear c13b1
     try clear c14
     try clear c15
     try clear c21
     try clear c21b0
     try clear c21b1
     try clear c23
     try clear c27
     try clear c27b0
     try clear c28
     try clear c28b0
     try clear c29
     try clear c29b0
     try clear c30
     try clear c30b0
     try clear c31
     try clear c31b0
     try clear c32
     try clear p34
     try clear q34
     try clear hx34
     try clear c35
     try clear c42
     try clear c44
     try clear c44b0
     try clear c44b1
     try clear c46
     try clear hcz10
     try clear hcz11
     try clear hcz16
     try clear hcz17
     try clear hcz20
     try clear hcz24
     try clear hcz36
     try clear hcz37
     try clear hcz41
     try clear hcz43
     try clear hcz47
     try clear hfz10
     try clear hfz11
     try clear hfz16
     try clear hfz17
     try clear hfz20
     try clear hfz24
     try clear hfz36
     try clear hfz37
     try clear hfz41
     try clear hfz43
     try clear hfz47
     try clear hx340_0
     try clear hx341_0
     try clear hx341_1
     try clear hx341_2
     try clear p2
     try clear p340
     try clear p341
     try clear q340
     try clear q341
     obtain ⟨x54_1, x334000_1, u334000, rfl, HA, HK1, HO_52, HO_334000, BK329, BK333, HB⟩ := hrel
     cases gk with
     | zero => exact absurd HA.out (by simp [impl_derive.l1])
     | succ k1 =>
      have H := HA.out
      clear HA
      simp only [impl_derive.l1] at H
      by_cases c50 : x54_1 < (t348.length : Int)
      ·rw [if_pos c50] at H
       have c50b0 : decide (x54_1 < (t348.length : Int)) = true := decide_eq_true c50
       clear c50
       obtain ⟨c51b0, H⟩ := ifd_ H
       obtain ⟨c52b0, H⟩ := ifd_ H
       obtain ⟨c53b0, H⟩ := ifd_ H
       obtain ⟨c54b0, H⟩ := ifd_ H
       obtain ⟨t353, A55, H⟩ := bindE_ H
       have H' := aa_ H
       clear H
       have p351 : 0 ≤ (x54_1 : Int) := od_
       have q351 : x54_1 < (t348.length : Int) := od_
       obtain ⟨ad351, e351, hx351_0⟩ := Kd.at_int (Kd.R_reads' HO_52.out).2.2 x54_1 p351 q351
       cases e351
       replace p351 := eq_true p351
       replace q351 := eq_true q351
       try go_wp2
       replace HO_52 := aa_ (Kd.R_drew HO_52.out)
       replace HO_334000 := aa_ (Kd.S_drew HO_334000.out)
       replace BK329 := aa_ (blk_drew BK329.out)
       replace BK333 := aa_ (blk_drew BK333.out)
       replace HB := aa_ (below_drew1 HB.out)
       have p352 : 0 ≤ ((rd t348 x54_1) : Int) := od_
       have q352 : (rd t348 x54_1) < (l0.length : Int) := od_
       obtain ⟨ad352, e352, hx352_0, hx352_1, hx352_2⟩ := at_T29 HR0.out (rd t348 x54_1) p352 q352
       have hw352_2 := hx352_2
       have hw352_1 := hx352_1
       have hw352_0 := hx352_0
       cases e352
       replace hx352_0 := cb_ HB hx352_0
       replace hx352_1 := cb_ HB hx352_1
       replace hx352_2 := cb_ HB hx352_2
       replace p352 := eq_true p352
       replace q352 := eq_true q352
       refine start_ (n := 13) (S := fun w' => w'.cell? ⟨gb329, 0, none⟩ = some (.int .i64 a1_0) ∧ w'.cell? ⟨gb329, 1, none⟩ = some (.int .i64 a1_1) ∧ w'.cell? ⟨gb329, 2, none⟩ = some (.int .i64 a1_2) ∧ w'.cell? ⟨gb329, 3, none⟩ = some (.int .i64 a1_3) ∧ w'.cell? ⟨gb329, 4, none⟩ = some (.int .i64 a1_4) ∧ w'.cell? ⟨gb329, 5, none⟩ = some (.int .i64 a1_5) ∧ w'.cell? ⟨gb329, 6, none⟩ = some (.int .i64 a1_6) ∧ w'.cell? ⟨gb329, 7, none⟩ = some (.int .i64 a1_7) ∧ w'.cell? ⟨gb329, 8, none⟩ = some (.int .i64 a1_8) ∧ w'.cell? ⟨gb329, 9, none⟩ = some (.int .i64 a1_9) ∧ w'.cell? (ad352.add (((rd t348 x54_1)).toNat * 3)) = some (.int .i64 ((rd_T29 l0 (rd t348 x54_1)).f0.f0)) ∧ w'.cell? ⟨(ad352.add (((rd t348 x54_1)).toNat * 3)).block, (ad352.add (((rd t348 x54_1)).toNat * 3)).off + 1, none⟩ = some (.int .i64 ((rd_T29 l0 (rd t348 x54_1)).f0.f1)) ∧ w'.cell? ⟨(ad352.add (((rd t348 x54_1)).toNat * 3)).block, (ad352.add (((rd t348 x54_1)).toNat * 3)).off + 2, none⟩ = some (.int .i64 ((rd_T29 l0 (rd t348 x54_1)).f1))) (ds := []) #[false, false, false, false, false, false, false, false, false, false, false, false, false] (by kernel_rfl) rfl rfl ⟨(blk_cell BK329.out 0).trans rfl, (blk_cell BK329.out 1).trans rfl, (blk_cell BK329.out 2).trans rfl, (blk_cell BK329.out 3).trans rfl, (blk_cell BK329.out 4).trans rfl, (blk_cell BK329.out 5).trans rfl, (blk_cell BK329.out 6).trans rfl, (blk_cell BK329.out 7).trans rfl, (blk_cell BK329.out 8).trans rfl, (blk_cell BK329.out 9).trans rfl, (cb_ HB hw352_0 :), (cb_ HB hw352_1 :), (cb_ HB hw352_2 :)⟩ (fun hHeld => ?_); refine with_tabW impl_derive.tab16 impl_derive.bits16 (fun HT_ HW_ => ?_)
       generalize wr.drew = w56 at HO_52 HO_334000 BK329 BK333 HB hx352_0 hx352_1 hx352_2 hHeld ⊢
       refine pureZ_ (i := 0) (some 58) #[true, false, false, false, false, false, false, false, false, false, false, false, false] (ao_ HT_) ?_
       refine pureZ_ (i := 1) (some 59) #[true, true, false, false, false, false, false, false, false, false, false, false, false] (ao_ HT_) ?_
       refine pureZ_ (i := 2) (some 60) #[true, true, true, false, false, false, false, false, false, false, false, false, false] (ao_ HT_) ?_
       refine pureZ_ (i := 3) (some 61) #[true, true, true, true, false, false, false, false, false, false, false, false, false] (ao_ HT_) ?_
       refine pureZ_ (i := 4) (some 62) #[true, true, true, true, true, false, false, false, false, false, false, false, false] (ao_ HT_) ?_
       refine pureZ_ (i := 6) (some 64) #[true, true, true, true, true, false, true, false, false, false, false, false, false] (ao_ HT_) ?_
       refine pureZ_ (i := 7) (some 65) #[true, true, true, true, true, false, true, true, false, false, false, false, false] (ao_ HT_) ?_
       refine pureZ_ (i := 12) (some 70) #[true, true, true, true, true, false, true, true, false, false, false, false, true] (ao_ HT_) ?_
       refine takeZ_ (i := 5) (some 63) #[true, true, true, true, true, true, true, true, false, false, false, false, true] (take_ofW HT_.out HW_.out (by kernel_rfl)) hHeld ?_
       refine takeZ_ (i := 8) (some 66) #[true, true, true, true, true, true, true, true, true, false, false, false, true] (take_ofW HT_.out HW_.out (by kernel_rfl)) hHeld ?_
       refine pureZ_ (i := 9) (some 67) #[true, true, true, true, true, true, true, true, true, true, false, false, true] (ao_ HT_) ?_
       refine one_ (i := 10) (N := some 68) #[true, true, true, true, true, true, true, true, true, true, true, false, true] rfl rfl (one_of HT_.out (by kernel_rfl)) (by decide) (fun K hK => ?_)
       refine goes_ Try.func68 (by kernel_rfl) rfl #[.slice (some ad352) l0.length c0, .agg #[.int .i64 ((rd_T29 l0 (rd t348 x54_1)).f1), .int .i64 a1_7]] (by rfl) rfl rfl (by (try simp only [List.map_toArray, List.map_cons, List.map_nil]); first | done | rfl | (simp only [List.length_drop, List.length_take]; rfl)) ?_
       with_reducible refine (impl_whoOf.calls k1 _ _ l0 ((rd_T29 l0 (rd t348 x54_1)).f1) a1_7 t353 _ ?side1 ?side2 A55.out).mono ?_
       (case side1 => repeat (first | exact (Kd.C_below HR0.out HB.out) | (with_reducible refine Kd.C_alloc ?_ _) | (with_reducible refine Kd.C_drewN ?_ _) | (with_reducible refine Kd.C_drew ?_)))
       (case side2 => exact HC0.out)
       rintro e w57 ⟨v354, rfl, ho0, hb⟩
       refine ⟨_, rfl, ?_⟩
       replace HO_334000 := aa_ (Kd.S_elder' (rs_ HO_334000) (Kd.R_base ho0) hb)
       have HO355 := aa_ (Kd.R_lower (Kd.R_new' ho0 (Kd.R_lt (rr_ HO_52))) bls_)
       replace HO_52 := aa_ (Kd.R_elder' (rr_ HO_52) (Kd.R_base ho0) hb)
       replace BK329 := bkb_ BK329 hb
       replace BK333 := bkb_ BK333 hb
       replace HB := hbs_ hb
       (try clear hb)
       (try clear hb2)
       (try clear hk)
       (try clear hi)
       (try clear ho0)
       obtain ⟨Ao58, co58, eo58⟩ := Kd.R_slice HO355.out
       (first | subst eo58 | (injection eo58 with f1_ f2_ f3_; have f4_ := f1_.symm; have f5_ := f3_.symm; clear f1_ f2_ f3_; subst f4_; subst f5_))
       refine hK.out _ _ ⟨(blk_cell BK329.out 0).trans rfl, (blk_cell BK329.out 1).trans rfl, (blk_cell BK329.out 2).trans rfl, (blk_cell BK329.out 3).trans rfl, (blk_cell BK329.out 4).trans rfl, (blk_cell BK329.out 5).trans rfl, (blk_cell BK329.out 6).trans rfl, (blk_cell BK329.out 7).trans rfl, (blk_cell BK329.out 8).trans rfl, (blk_cell BK329.out 9).trans rfl, (cb_ HB hw352_0 :), (cb_ HB hw352_1 :), (cb_ HB hw352_2 :)⟩ (fun hHeld => ?_)
       clear hK K
       refine norm_ (a' := ?_) ?_ ?_
       rotate_left
       ·show Act.put _ (some 68) _ = _
        simp only [Act.put, List.setIfInBounds_toArray, List.set_cons_zero, List.set_cons_succ, i64_w, i32_w]
        rfl
       refine pureZ_ (i := 11) (some 69) #[true, true, true, true, true, true, true, true, true, true, true, true, true] (ao_ HT_) ?_
       refine done_ (done_of HT_.out (by kernel_rfl)) ?_
       try go_wp2
       go_loopg [70] k1 (fun kq v70 w' => ∃ (x70_2 : Int) (x334000_2 : List (S91)) (u334000 : Value), v70 = .int .i64 x70_2 ∧ Aside0 (impl_derive.l2 kq l0 (rd t348 x54_1) t348 (t348.length : Int) x54_1 t353 (t353.length : Int) x70_2 a1_0 a1_1 a1_2 a1_3 a1_4 a1_5 a1_6 a1_7 a1_8 a1_9 x334000_2 = some r) ∧ Aside0 (kq ≤ k1) ∧ Aside0 (Kd.R (Kd.int .i64) 3 w' w.heap.size (fun k_ => some k_ ≠ ((.slice Ao58 t353.length co58) : Value).ownBlock) (.slice (some ad351) t348.length co49) t348) ∧ Aside0 (Kd.R (Kd.int .i64) 3 w' w.heap.size (fun k_ => some k_ ≠ ((.slice (some ad351) t348.length co49) : Value).ownBlock) (.slice Ao58 t353.length co58) t353) ∧ Aside0 (Kd.S k91 91 w' w.heap.size (fun k_ => some k_ ≠ ((.slice (some ad351) t348.length co49) : Value).ownBlock ∧ some k_ ≠ ((.slice Ao58 t353.length co58) : Value).ownBlock) u334000 x334000_2) ∧ Aside0 (w'.heap[gb329]? = some (.cells #[.int .i64 a1_0, .int .i64 a1_1, .int .i64 a1_2, .int .i64 a1_3, .int .i64 a1_4, .int .i64 a1_5, .int .i64 a1_6, .int .i64 a1_7, .int .i64 a1_8, .int .i64 a1_9] 46 (0, 0))) ∧ Aside0 (w'.heap[gb333]? = some (.cells #[u334000] 87 (0, 0))) ∧ Aside0 (Below w.heap.size w w'))
       case atStart => exact ⟨(0), (x334000_1), (u334000), rf_, H', ⟨Nat.le_refl _⟩, ⟨by (with_reducible repeat (first | apply Kd.R_alloc | apply Kd.R_drewN | apply Kd.R_drew)); exact Kd.R_mono HO_52.out (fun _ hk => hk.2)⟩, ⟨by (with_reducible repeat (first | apply Kd.R_alloc | apply Kd.R_drewN | apply Kd.R_drew)); exact Kd.R_mono HO355.out (fun _ hk => hk.2)⟩, ⟨rs_ HO_334000⟩, ⟨bk_ BK329⟩, ⟨bk_ BK333⟩, ⟨bl_⟩⟩
       case round =>
        clear H'
        try clear c1
        try clear c2
        try clear p2
        try clear c3
        try clear p3
        try clear q3
        try clear hx3
        try clear c4
        try clear c5
        try clear c6
        try clear p6
        try clear c9
        try clear c13
        try clear c13b0
        try clear c13b1
        try clear c14
        try clear c15
        try clear c21
        try clear c21b0
        try clear c21b1
        try clear c23
        try clear c27
        try clear c27b0
        try clear c28
        try clear c28b0
        try clear c29
        try clear c29b0
        try clear c30
        try clear c30b0
        try clear c31
        try clear c31b0
        try clear c32
        try clear p34
        try clear q34
        try clear hx34
        try clear c35
        try clear p35
        try clear q35
        try clear hx35
        try clear c42
        try clear c44
        try clear c44b0
        try clear c44b1
        try clear c46
        try clear c50
        try clear c50b0
        try clear c51
        try clear c51b0
        try clear c52
        try clear c52b0
        try clear c53
        try clear c53b0
        try clear c54
        try clear c54b0
        try clear hcz10
        try clear hcz11
        try clear hcz16
        try clear hcz17
        try clear hcz20
        try clear hcz24
        try clear hcz36
        try clear hcz37
        try clear hcz41
        try clear hcz43
        try clear hcz47
        try clear hfz10
        try clear hfz11
        try clear hfz16
        try clear hfz17
        try clear hfz20
        try clear hfz24
        try clear hfz36
        try clear hfz37
        try clear hfz41
        try clear hfz43
        try clear hfz47
        try clear hx340_0
        try clear hx341_0
        try clear hx341_1
        try clear hx341_2
        try clear hx351_0
        try clear hx352_0
        try clear hx352_1
        try clear hx352_2
        try clear p2
        try clear p3
        try clear p34
        try clear p340
        try clear p341
        try clear p351
        try clear p352
        try clear p6
        try clear q3
        try clear q34
        try clear q340
        try clear q341
        try clear q351
        try clear q352
        obtain ⟨x70_2, x334000_2, u334000, rfl, HA, HK2, HO_52, HO_68, HO_334000, BK329, BK333, HB⟩ := hrel
        cases gk with
        | zero => exact absurd HA.out (by simp [impl_derive.l2])
        | succ k2 =>
         have H := HA.out
         clear HA
         simp only [impl_derive.l2] at H
         by_cases c59 : x70_2 < (t353.length : Int)
         ·rw [if_pos c59] at H
          have c59b0 : decide (x70_2 < (t353.length : Int)) = true := decide_eq_true c59
          clear c59
          obtain ⟨c60b0, H⟩ := ifd_ H
          obtain ⟨c61b0, H⟩ := ifd_ H
          obtain ⟨c62b0, H⟩ := ifd_ H
          obtain ⟨c63b0, H⟩ := ifd_ H
          obtain ⟨y358, hy358⟩ : ∃ y_ : List Int, y_ = (([(rd t348 x54_1), rd t353 x70_2] : List Int)) := ⟨_, rfl⟩
          replace H : (if x334000_2.length < 2932031007402 then (impl_derive.l2 k2 l0 (rd t348 x54_1) t348 (t348.length : Int) x54_1 t353 (t353.length : Int) (wrap64 (x70_2 + 1)) a1_0 a1_1 a1_2 a1_3 a1_4 a1_5 a1_6 a1_7 a1_8 a1_9 (x334000_2 ++ [(⟨(⟨(⟨a1_1, a1_2⟩ : S27), (rd_T29 l0 (rd t353 x70_2)).f1⟩ : S29), y358⟩ : S91)])) else (none)) = some r := rh_ hy358 H
          have Ny358 := aa_ hy358
          clear hy358
          obtain ⟨c64, H⟩ := ifn_ H
          have LMc64 := aa_ c64
          clear c64
          obtain ⟨y361, hy361⟩ : ∃ y_ : List (S91), y_ = (x334000_2 ++ [(⟨(⟨(⟨a1_1, a1_2⟩ : S27), (rd_T29 l0 (rd t353 x70_2)).f1⟩ : S29), y358⟩ : S91)]) := ⟨_, rfl⟩
          replace H : (impl_derive.l2 k2 l0 (rd t348 x54_1) t348 (t348.length : Int) x54_1 t353 (t353.length : Int) (wrap64 (x70_2 + 1)) a1_0 a1_1 a1_2 a1_3 a1_4 a1_5 a1_6 a1_7 a1_8 a1_9 y361) = some r := rh_ hy361 H
          have Ny361 := aa_ hy361
          clear hy361
          have H' := aa_ H
          clear H
          have p356 : 0 ≤ (x70_2 : Int) := od_
          have q356 : x70_2 < (t353.length : Int) := od_
          obtain ⟨ad356, e356, hx356_0⟩ := Kd.at_int (Kd.R_reads' HO_68.out).2.2 x70_2 p356 q356
          cases e356
          replace p356 := eq_true p356
          replace q356 := eq_true q356
          have p357 : 0 ≤ ((rd t353 x70_2) : Int) := od_
          have q357 : (rd t353 x70_2) < (l0.length : Int) := od_
          obtain ⟨ad357, e357, hx357_0, hx357_1, hx357_2⟩ := at_T29 HR0.out (rd t353 x70_2) p357 q357
          obtain rfl : ad352 = ad357 := (by injection e357)
          replace hx357_0 := cb_ HB hx357_0
          replace hx357_1 := cb_ HB hx357_1
          replace hx357_2 := cb_ HB hx357_2
          replace p357 := eq_true p357
          replace q357 := eq_true q357
          go_wp2_with (first | (go_at_call 67; go_in) | (go_end0; simp only []; go_at_K) | ((with_reducible refine gD_ 82 rfl ?_); refine Kd.R_lit (Kd.int .i64) _ 3 ?hg (N := 82) ?hd (xs := ([(rd t348 x54_1), rd t353 x70_2] : List Int)) (inner := [.int .i64 (rd t348 x54_1), .int .i64 (rd t353 x70_2)]) (ok := fun _ => True) (okp := fun _ => True) ?hr ?hp (fun _ hk => hk) trivial (Below.refl _ _) (Nat.le_refl _) (by simp) ?_; (case hd => rfl); (case hg => rfl); (case hr => first | (go_simp; done) | (go_simp; rfl)); (case hp => exact (Reps.one (show Kd.M (Kd.int .i64) _ _ _ (rd t348 x54_1) [.int .i64 (rd t348 x54_1)] from rfl) (Reps.one (show Kd.M (Kd.int .i64) _ _ _ (rd t353 x70_2) [.int .i64 (rd t353 x70_2)] from rfl) (Reps.none _ _)))); intro v359 w65 ho66 hb hg_ hnew_; clear hg_ hnew_; (first | rw [← Ny358.out] at ho66 | (simp only [Int.reduceToNat] at ho66; rw [← Ny358.out] at ho66)); replace HO_334000 := aa_ (Kd.S_elder' (rs_ HO_334000) (Kd.R_base ho66) hb); have HO360 := aa_ (Kd.R_lower (Kd.R_new' (Kd.R_new' ho66 (Kd.R_lt (rr_ HO_52))) (Kd.R_lt (rr_ HO_68))) bls_); replace HO_52 := aa_ (Kd.R_elder' (rr_ HO_52) (Kd.R_base ho66) hb); replace HO_68 := aa_ (Kd.R_elder' (rr_ HO_68) (Kd.R_base ho66) hb); replace BK329 := bkb_ BK329 hb; replace BK333 := bkb_ BK333 hb; replace HB := hbs_ hb; clear hb ho66; have hnb67 := NB333_329.out; have hnc67 := NB329_333.out; obtain ⟨hcz68, hfz68⟩ := bcf_ BK333; obtain ⟨hcz69, hfz69⟩ := bcf_ BK329; obtain ⟨Ao70, co70, eo70⟩ := Kd.R_slice HO360.out; subst eo70) | ((with_reducible refine gate_builtin (b := .append) (xs := #[.tmp 6, .tmp 13]) rfl ?_); at_builtin; refine Kd.S_append k91 (w0 := w) w.heap.size rfl (.tmp 6) (.tmp 13) 87 91 (.agg #[(.int .i64 0), (.int .i64 0), (.int .i64 0), (.slice none 0 0)]) 48 rfl Try.underlying87 info91 rfl (by decide) (by omega) u334000 x334000_2 (⟨(⟨(⟨a1_1, a1_2⟩ : S27), (rd_T29 l0 (rd t353 x70_2)).f1⟩ : S29), y358⟩ : S91) [.int .i64 a1_1, .int .i64 a1_2, .int .i64 ((rd_T29 l0 (rd t353 x70_2)).f1), .slice Ao70 y358.length co70] (fun k_ => some k_ ≠ (.slice (some ad351) t348.length co49 : Value).ownBlock ∧ some k_ ≠ (.slice (some ad356) t353.length co58 : Value).ownBlock) (fun k_ => some k_ = (.slice Ao70 y358.length co70 : Value).ownBlock) rfl rfl ?aP (fun k_ hk_ => ((Kd.R_mono (ok' := fun k_ => ((fun k_ => some k_ ≠ (.slice (some ad351) t348.length co49 : Value).ownBlock ∧ some k_ ≠ (.slice (some ad356) t353.length co58 : Value).ownBlock)) k_ ∧ some k_ ≠ (u334000 : Value).ownBlock) (Kd.R_apart' (HO360.out) (Kd.S_typed HO_334000.out) (by decide)) (fun k_ hk => ⟨⟨hk.1.1.2, hk.1.2⟩, hk.2⟩))).1 k_ hk_.symm) ?aF ?aO ?aB ?aS ?aL ?_; (case aP => exact k91_mkM _ _ _ (⟨(⟨(⟨a1_1, a1_2⟩ : S27), (rd_T29 l0 (rd t353 x70_2)).f1⟩ : S29), y358⟩ : S91) (Kd.R_mono (Kd.R_tight rfl (Kd.R_mono (ok' := fun k_ => ((fun k_ => some k_ ≠ (.slice (some ad351) t348.length co49 : Value).ownBlock ∧ some k_ ≠ (.slice (some ad356) t353.length co58 : Value).ownBlock)) k_ ∧ some k_ ≠ (u334000 : Value).ownBlock) (Kd.R_apart' (HO360.out) (Kd.S_typed HO_334000.out) (by decide)) (fun k_ hk => ⟨⟨hk.1.1.2, hk.1.2⟩, hk.2⟩))) (fun _ h_ => h_))); (case aB => exact bl_); (case aF => exact (fun k_ hk => ⟨Kd.fresh' (Kd.R_lt (rr_ HO_52)) k_ hk, Kd.fresh' (Kd.R_lt (rr_ HO_68)) k_ hk⟩)); (case aO => exact (by (with_reducible repeat (first | apply Kd.S_alloc | apply Kd.S_drewN | apply Kd.S_drew)); exact Kd.S_mono HO_334000.out (fun k_ hk => ⟨⟨hk.1.1, hk.1.2⟩, fun e_ => hk.2 e_⟩))); (case aS => exact bls_); (case aL => have := LMc64.out; omega); intro v362 w71 ho hb hg hat; rw [← Ny361.out] at ho; replace HO_52 := aa_ (Kd.R_over' (rr_ HO_52) (Kd.S_typed (rs_ HO_334000)) (by decide) hg); replace HO_68 := aa_ (Kd.R_over' (rr_ HO_68) (Kd.S_typed (rs_ HO_334000)) (by decide) hg); replace BK329 := aa_ (blk_grown (g := gb329) (o := .cells #[.int .i64 a1_0, .int .i64 a1_1, .int .i64 a1_2, .int .i64 a1_3, .int .i64 a1_4, .int .i64 a1_5, .int .i64 a1_6, .int .i64 a1_7, .int .i64 a1_8, .int .i64 a1_9] 46 (0, 0)) (bk_ BK329) hg (Kd.S_ne HO_334000.out BK329.out (by decide))); replace BK333 := aa_ (blk_grown (g := gb333) (o := .cells #[u334000] 87 (0, 0)) (bk_ BK333) hg (Kd.S_ne HO_334000.out BK333.out (by decide))); replace HB := aa_ (hb); have HO363 := aa_ (ho); clear HO_334000; clear HO360; clear ho hb hg hat; obtain ⟨Ao72, co72, eo72⟩ := Kd.S_slice HO363.out; subst eo72; obtain ⟨hcz73, hfz73⟩ := bcf_ BK333))
          go_roundg k2
          case measure => have := HK1.out; have := HK2.out; omega
          case rel => exact ⟨(wrap64 (x70_2 + 1)), (y361), (.slice Ao72 y361.length co72), rf_, H', ⟨by have := HK1.out; have := HK2.out; omega⟩, ⟨by (with_reducible repeat (first | apply Kd.R_alloc | apply Kd.R_drewN | apply Kd.R_drew)); exact Kd.R_mono (Kd.R_far (p := ⟨gb333, 0, none⟩) (Kd.R_types HO_52.out BK333.out (by decide)) (fun _ hk => hk.2) (.slice Ao72 y361.length co72)) (fun _ hk => hk.1.1)⟩, ⟨by (with_reducible repeat (first | apply Kd.R_alloc | apply Kd.R_drewN | apply Kd.R_drew)); exact Kd.R_mono (Kd.R_far (p := ⟨gb333, 0, none⟩) (Kd.R_types HO_68.out BK333.out (by decide)) (fun _ hk => hk.2) (.slice Ao72 y361.length co72)) (fun _ hk => hk.1.1)⟩, ⟨by (with_reducible repeat (first | apply Kd.S_alloc | apply Kd.S_drewN | apply Kd.S_drew)); exact Kd.S_mono (Kd.S_far (p := ⟨gb333, 0, none⟩) (Kd.S_types HO363.out BK333.out (by decide)) (fun _ hk => hk.2) (.slice Ao72 y361.length co72)) (fun _ hk => ⟨hk.1.1, hk.1.2⟩)⟩, ⟨bk_ BK329⟩, ⟨bk_ BK333⟩, ⟨bl_⟩⟩
         ·rw [if_neg c59] at H
          have c59b0 : decide (x70_2 < (t353.length : Int)) = false := decide_eq_false c59
          clear c59
          have H' := aa_ H
          clear H
          go_wp2
          go_roundg k2
          case measure => have := HK1.out; have := HK2.out; omega
          case rel => exact ⟨(wrap64 (x54_1 + 1)), (x334000_2), (u334000), rf_, H', ⟨by have := HK1.out; have := HK2.out; omega⟩, ⟨by (with_reducible repeat (first | apply Kd.R_alloc | apply Kd.R_drewN | apply Kd.R_drew)); exact Kd.R_mono HO_52.out (fun _ hk => trivial)⟩, ⟨by (with_reducible repeat (first | apply Kd.S_alloc | apply Kd.S_drewN | apply Kd.S_drew)); exact Kd.S_mono HO_334000.out (fun _ hk => hk.1)⟩, ⟨bk_ BK329⟩, ⟨bk_ BK333⟩, ⟨bl_⟩⟩
      ·rw [if_neg c50] at H
       have c50b0 : decide (x54_1 < (t348.length : Int)) = false := decide_eq_false c50
       clear c50
       obtain rfl := Option.some.inj H
       have hnb74 := NB333_329.out
       have hnc74 := NB329_333.out
       have hcz75 := blk_cell BK333.out
       have hfz75 := blk_frozen BK333.out
       go_wp2
       go_ret
       exact ⟨_, eq_, by (with_reducible repeat (first | apply Kd.S_alloc | apply Kd.S_drewN | apply Kd.S_drew)); exact Kd.S_mono HO_334000.out (fun _ hk => trivial), bl_⟩
   ·rw [if_neg c44] at H
    have c44b0 : (a1_0 == 3) = false := beq_eq_false_iff_ne.mpr c44
    have c44b1 : (a1_0 != 3) = true := bne_iff_ne.mpr c44
    by_cases c76 : a1_0 = 4
    ·rw [if_pos c76] at H
     have c76b0 : (a1_0 == 4) = true := beq_iff_eq.mpr c76
     have c76b1 : (a1_0 != 4) = false := bne_eq_false_iff_eq.mpr c76
     clear c76
     obtain ⟨t364, A77, H⟩ := bindE_ H
     have H' := aa_ H
     clear H
     have hnb78 := NB329_333.out
     have hnc78 := NB333_329.out
     have hcz79 := blk_cell BK329.out
     have hfz79 := blk_frozen BK329.out
     go_wp2_with (first | (go_at_call 67; go_in) | (go_end0; simp only []; go_at_K) | ((with_reducible refine gC_ 68 rfl ?_); refine goesC_ (some 91) Try.func68 #[.slice A0 l0.length c0, .agg #[.int .i64 a1_4, .int .i64 a1_5]] ?_; (with_reducible refine (impl_whoOf.calls k _ _ l0 a1_4 a1_5 t364 _ ?side1 ?side2 A77.out).mono ?_); (case side1 => repeat (first | exact (Kd.C_below HR0.out HB.out) | (with_reducible refine Kd.C_alloc ?_ _) | (with_reducible refine Kd.C_drewN ?_ _) | (with_reducible refine Kd.C_drew ?_))); (case side2 => exact HC0.out); rintro e w80 ⟨v365, rfl, ho0, hb⟩; refine ⟨_, rfl, ?_⟩; replace HO332 := aa_ (Kd.S_elder' (rs_ HO332) (Kd.R_base ho0) hb); have HO366 := aa_ (Kd.R_lower ho0 bls_); replace BK329 := bkb_ BK329 hb; replace BK333 := bkb_ BK333 hb; replace HB := hbs_ hb; (try clear hb ho0); obtain ⟨Ao81, co81, eo81⟩ := Kd.R_slice HO366.out; subst eo81))
     go_loopg [93] k (fun kq v93 w' => ∃ (x93_1 : Int) (x334000_1 : List (S91)) (u334000 : Value), v93 = .int .i64 x93_1 ∧ Aside0 (impl_derive.l3 kq l0 t364 (t364.length : Int) x93_1 a1_0 a1_1 a1_2 a1_3 a1_4 a1_5 a1_6 a1_7 a1_8 a1_9 x334000_1 = some r) ∧ Aside0 (kq ≤ k) ∧ Aside0 (Kd.R (Kd.int .i64) 3 w' w.heap.size (fun _ => True) (.slice Ao81 t364.length co81) t364) ∧ Aside0 (Kd.S k91 91 w' w.heap.size (fun k_ => some k_ ≠ ((.slice Ao81 t364.length co81) : Value).ownBlock) u334000 x334000_1) ∧ Aside0 (w'.heap[gb329]? = some (.cells #[.int .i64 a1_0, .int .i64 a1_1, .int .i64 a1_2, .int .i64 a1_3, .int .i64 a1_4, .int .i64 a1_5, .int .i64 a1_6, .int .i64 a1_7, .int .i64 a1_8, .int .i64 a1_9] 46 (0, 0))) ∧ Aside0 (w'.heap[gb333]? = some (.cells #[u334000] 87 (0, 0))) ∧ Aside0 (Below w.heap.size w w'))
     case atStart => exact ⟨(0), (y330), (.slice Ao8 y330.length co8), rf_, H', ⟨Nat.le_refl _⟩, ⟨rr_ HO366⟩, ⟨by (with_reducible repeat (first | apply Kd.S_alloc | apply Kd.S_drewN | apply Kd.S_drew)); exact Kd.S_mono HO332.out (fun _ hk => hk.2)⟩, ⟨bk_ BK329⟩, ⟨bk_ BK333⟩, ⟨bl_⟩⟩
     case round =>
      clear H'
      try clear c1
      try clear c2
      try clear p2
      try clear c3
      try clear p3
      try clear q3
      try clear hx3
      try clear c4
      try clear c5
      try clear c6
      try clear p6
      try clear c7
      try clear c9
      try clear c13
      try clear c13b0
      try clear c13b1
      try clear c14
      try clear c15
      try clear c21
      try clear c21b0
      try clear c21b1
      try clear c23
      try clear c27
      try clear c27b0
      try clear c28
      try clear c28b0
      try clear c29
      try clear c29b0
      try clear c30
      try clear c30b0
      try clear c31
      try clear c31b0
      try clear c32
      try clear p34
      try clear q34
      try clear hx34
      try clear c35
      try clear p35
      try clear q35
      try clear hx35
      try clear c42
      try clear c44
      try clear c44b0
      try clear c44b1
      try clear c46
      try clear c50
      try clear c50b0
      try clear c51
      try clear c51b0
      try clear c52
      try clear c52b0
      try clear c53
      try clear c53b0
      try clear c54
      try clear c54b0
      try clear c59
      try clear c59b0
      try clear c60
      try clear c60b0
      try clear c61
      try clear c61b0
      try clear c62
      try clear c62b0
      try clear c63
      try clear c63b0
      try clear c64
      try clear p64
      try clear c67
      try clear c68
      try clear c74
      try clear c76
      try clear c76b0
      try clear c76b1
      try clear c78
      try clear hcz10
      try clear hcz11
      try clear hcz16
      try clear hcz17
      try clear hcz20
      try clear hcz24
      try clear hcz36
      try clear hcz37
      try clear hcz41
      try clear hcz43
      try clear hcz47
      try clear hcz68
      try clear hcz69
      try clear hcz73
      try clear hcz75
      try clear hcz79
      try clear hfz10
      try clear hfz11
      try clear hfz16
      try clear hfz17
      try clear hfz20
      try clear hfz24
      try clear hfz36
      try clear hfz37
      try clear hfz41
      try clear hfz43
      try clear hfz47
      try clear hfz68
      try clear hfz69
      try clear hfz73
      try clear hfz75
      try clear hfz79
      try clear hx340_0
      try clear hx341_0
      try clear hx341_1
      try clear hx341_2
      try clear hx351_0
      try clear hx352_0
      try clear hx352_1
      try clear hx352_2
      try clear hx356_0
      try clear hx357_0
      try clear hx357_1
      try clear hx357_2
      try clear p2
      try clear p3
      try clear p34
      try clear p340
      try clear p341
      try clear p35
      try clear p351
      try clear p352
      try clear p356
      try clear p357
      try clear p6
      try clear q3
      try clear q34
      try clear q340
      try clear q341
      try clear q35
      try clear q351
      try clear q352
      try clear q356
      try clear q357
      obtain ⟨x93_1, x334000_1, u334000, rfl, HA, HK1, HO_91, HO_334000, BK329, BK333, HB⟩ := hrel
      cases gk with
      | zero => exact absurd HA.out (by simp [impl_derive.l3])
      | succ k1 =>
       have H := HA.out
       clear HA
       simp only [impl_derive.l3] at H
       by_cases c82 : x93_1 < (t364.length : Int)
       ·rw [if_pos c82] at H
        have c82b0 : decide (x93_1 < (t364.length : Int)) = true := decide_eq_true c82
        clear c82
        obtain ⟨c83b0, H⟩ := ifd_ H
        obtain ⟨c84b0, H⟩ := ifd_ H
        obtain ⟨c85b0, H⟩ := ifd_ H
        obtain ⟨c86b0, H⟩ := ifd_ H
        obtain ⟨t369, A87, H⟩ := bindE_ H
        have HC88 := aa_ H
        clear H
        have p367 : 0 ≤ (x93_1 : Int) := od_
        have q367 : x93_1 < (t364.length : Int) := od_
        obtain ⟨ad367, e367, hx367_0⟩ := Kd.at_int (Kd.R_reads' HO_91.out).2.2 x93_1 p367 q367
        cases e367
        replace p367 := eq_true p367
        replace q367 := eq_true q367
        try go_wp2
        replace HO_91 := aa_ (Kd.R_drew HO_91.out)
        replace HO_334000 := aa_ (Kd.S_drew HO_334000.out)
        replace BK329 := aa_ (blk_drew BK329.out)
        replace BK333 := aa_ (blk_drew BK333.out)
        replace HB := aa_ (below_drew1 HB.out)
        have p368 : 0 ≤ ((rd t364 x93_1) : Int) := od_
        have q368 : (rd t364 x93_1) < (l0.length : Int) := od_
        obtain ⟨ad368, e368, hx368_0, hx368_1, hx368_2⟩ := at_T29 HR0.out (rd t364 x93_1) p368 q368
        have hw368_2 := hx368_2
        have hw368_1 := hx368_1
        have hw368_0 := hx368_0
        cases e368
        replace hx368_0 := cb_ HB hx368_0
        replace hx368_1 := cb_ HB hx368_1
        replace hx368_2 := cb_ HB hx368_2
        replace p368 := eq_true p368
        replace q368 := eq_true q368
        refine start_ (n := 11) (S := fun w' => w'.cell? ⟨gb329, 0, none⟩ = some (.int .i64 a1_0) ∧ w'.cell? ⟨gb329, 1, none⟩ = some (.int .i64 a1_1) ∧ w'.cell? ⟨gb329, 2, none⟩ = some (.int .i64 a1_2) ∧ w'.cell? ⟨gb329, 3, none⟩ = some (.int .i64 a1_3) ∧ w'.cell? ⟨gb329, 4, none⟩ = some (.int .i64 a1_4) ∧ w'.cell? ⟨gb329, 5, none⟩ = some (.int .i64 a1_5) ∧ w'.cell? ⟨gb329, 6, none⟩ = some (.int .i64 a1_6) ∧ w'.cell? ⟨gb329, 7, none⟩ = some (.int .i64 a1_7) ∧ w'.cell? ⟨gb329, 8, none⟩ = some (.int .i64 a1_8) ∧ w'.cell? ⟨gb329, 9, none⟩ = some (.int .i64 a1_9) ∧ w'.cell? (ad368.add (((rd t364 x93_1)).toNat * 3)) = some (.int .i64 ((rd_T29 l0 (rd t364 x93_1)).f0.f0)) ∧ w'.cell? ⟨(ad368.add (((rd t364 x93_1)).toNat * 3)).block, (ad368.add (((rd t364 x93_1)).toNat * 3)).off + 1, none⟩ = some (.int .i64 ((rd_T29 l0 (rd t364 x93_1)).f0.f1)) ∧ w'.cell? ⟨(ad368.add (((rd t364 x93_1)).toNat * 3)).block, (ad368.add (((rd t364 x93_1)).toNat * 3)).off + 2, none⟩ = some (.int .i64 ((rd_T29 l0 (rd t364 x93_1)).f1))) (ds := []) #[false, false, false, false, false, false, false, false, false, false, false] (by kernel_rfl) rfl rfl ⟨(blk_cell BK329.out 0).trans rfl, (blk_cell BK329.out 1).trans rfl, (blk_cell BK329.out 2).trans rfl, (blk_cell BK329.out 3).trans rfl, (blk_cell BK329.out 4).trans rfl, (blk_cell BK329.out 5).trans rfl, (blk_cell BK329.out 6).trans rfl, (blk_cell BK329.out 7).trans rfl, (blk_cell BK329.out 8).trans rfl, (blk_cell BK329.out 9).trans rfl, (cb_ HB hw368_0 :), (cb_ HB hw368_1 :), (cb_ HB hw368_2 :)⟩ (fun hHeld => ?_); refine with_tabW impl_derive.tab26 impl_derive.bits26 (fun HT_ HW_ => ?_)
        generalize wr.drew = w89 at HO_91 HO_334000 BK329 BK333 HB hx368_0 hx368_1 hx368_2 hHeld ⊢
        refine pureZ_ (i := 0) (some 97) #[true, false, false, false, false, false, false, false, false, false, false] (ao_ HT_) ?_
        refine pureZ_ (i := 1) (some 98) #[true, true, false, false, false, false, false, false, false, false, false] (ao_ HT_) ?_
        refine pureZ_ (i := 3) (some 100) #[true, true, false, true, false, false, false, false, false, false, false] (ao_ HT_) ?_
        refine pureZ_ (i := 4) (some 101) #[true, true, false, true, true, false, false, false, false, false, false] (ao_ HT_) ?_
        refine pureZ_ (i := 5) (some 102) #[true, true, false, true, true, true, false, false, false, false, false] (ao_ HT_) ?_
        refine pureZ_ (i := 6) (some 103) #[true, true, false, true, true, true, true, false, false, false, false] (ao_ HT_) ?_
        refine takeZ_ (i := 2) (some 99) #[true, true, true, true, true, true, true, false, false, false, false] (take_ofW HT_.out HW_.out (by kernel_rfl)) hHeld ?_
        refine takeZ_ (i := 7) (some 104) #[true, true, true, true, true, true, true, true, false, false, false] (take_ofW HT_.out HW_.out (by kernel_rfl)) hHeld ?_
        refine pureZ_ (i := 8) (some 105) #[true, true, true, true, true, true, true, true, true, false, false] (ao_ HT_) ?_
        refine one_ (i := 9) (N := some 106) #[true, true, true, true, true, true, true, true, true, true, false] rfl rfl (one_of HT_.out (by kernel_rfl)) (by decide) (fun K hK => ?_)
        refine goes_ Try.func48 (by kernel_rfl) rfl #[.slice (some ad368) l0.length c0, .agg #[.int .i64 a1_6, .int .i64 a1_7, .int .i64 ((rd_T29 l0 (rd t364 x93_1)).f1)]] (by rfl) rfl rfl (by (try simp only [List.map_toArray, List.map_cons, List.map_nil]); first | done | rfl | (simp only [List.length_drop, List.length_take]; rfl)) ?_
        with_reducible refine (impl_Fact_48.calls k1 _ _ l0 a1_6 a1_7 ((rd_T29 l0 (rd t364 x93_1)).f1) t369 _ ?side1 ?side2 A87.out).mono ?_
        (case side1 => repeat (first | exact (Kd.C_below HR0.out HB.out) | (with_reducible refine Kd.C_alloc ?_ _) | (with_reducible refine Kd.C_drewN ?_ _) | (with_reducible refine Kd.C_drew ?_)))
        (case side2 => exact HC0.out)
        rintro e w90 ⟨rfl, hb⟩
        refine ⟨_, rfl, ?_⟩
        replace HO_91 := hob_ HO_91 hb
        replace HO_334000 := aa_ (Kd.S_below (rs_ HO_334000) hb)
        replace BK329 := bkb_ BK329 hb
        replace BK333 := bkb_ BK333 hb
        replace HB := hbs_ hb
        (try clear hb)
        (try clear hb2)
        (try clear hk)
        (try clear hi)
        refine hK.out _ _ ⟨(blk_cell BK329.out 0).trans rfl, (blk_cell BK329.out 1).trans rfl, (blk_cell BK329.out 2).trans rfl, (blk_cell BK329.out 3).trans rfl, (blk_cell BK329.out 4).trans rfl, (blk_cell BK329.out 5).trans rfl, (blk_cell BK329.out 6).trans rfl, (blk_cell BK329.out 7).trans rfl, (blk_cell BK329.out 8).trans rfl, (blk_cell BK329.out 9).trans rfl, (cb_ HB hw368_0 :), (cb_ HB hw368_1 :), (cb_ HB hw368_2 :)⟩ (fun hHeld => ?_)
        clear hK K
        refine norm_ (a' := ?_) ?_ ?_
        rotate_left
        ·show Act.put _ (some 106) _ = _
         simp only [Act.put, List.setIfInBounds_toArray, List.set_cons_zero, List.set_cons_succ, i64_w, i32_w]
         rfl
        refine pureZ_ (i := 10) (some 15) #[true, true, true, true, true, true, true, true, true, true, true] (ao_ HT_) ?_
        refine done_ (done_of HT_.out (by kernel_rfl)) ?_
        go_upto_if 108 with (fail)
        have H := HC88.out
        clear HC88
        by_cases c91 : t369 ≥ 0
        ·rw [if_pos c91] at H
         have c91b0 : decide (0 ≤ t369) = true := decide_eq_true c91
         clear c91
         (first | rw [c91b0] | (simp only [i64_w, i32_w]; rw [c91b0]) | skip)
         obtain ⟨y371, hy371⟩ : ∃ y_ : List Int, y_ = (([rd t364 x93_1, t369] : List Int)) := ⟨_, rfl⟩
         replace H : (if x334000_1.length < 2932031007402 then (impl_derive.l3 k1 l0 t364 (t364.length : Int) (wrap64 (x93_1 + 1)) a1_0 a1_1 a1_2 a1_3 a1_4 a1_5 a1_6 a1_7 a1_8 a1_9 (x334000_1 ++ [(⟨(⟨(⟨a1_1, a1_2⟩ : S27), (rd_T29 l0 (rd t364 x93_1)).f1⟩ : S29), y371⟩ : S91)])) else (none)) = some r := rh_ hy371 H
         have Ny371 := aa_ hy371
         clear hy371
         obtain ⟨c92, H⟩ := ifn_ H
         have LMc92 := aa_ c92
         clear c92
         obtain ⟨y374, hy374⟩ : ∃ y_ : List (S91), y_ = (x334000_1 ++ [(⟨(⟨(⟨a1_1, a1_2⟩ : S27), (rd_T29 l0 (rd t364 x93_1)).f1⟩ : S29), y371⟩ : S91)]) := ⟨_, rfl⟩
         replace H : (impl_derive.l3 k1 l0 t364 (t364.length : Int) (wrap64 (x93_1 + 1)) a1_0 a1_1 a1_2 a1_3 a1_4 a1_5 a1_6 a1_7 a1_8 a1_9 y374) = some r := rh_ hy374 H
         have Ny374 := aa_ hy374
         clear hy374
         have H' := aa_ H
         clear H
         have p370 : 0 ≤ ((rd t364 x93_1) : Int) := od_
         have q370 : (rd t364 x93_1) < (l0.length : Int) := od_
         obtain ⟨ad370, e370, hx370_0, hx370_1, hx370_2⟩ := at_T29 HR0.out (rd t364 x93_1) p370 q370
         obtain rfl : ad368 = ad370 := (by injection e370)
         replace hx370_0 := cb_ HB hx370_0
         replace hx370_1 := cb_ HB hx370_1
         replace hx370_2 := cb_ HB hx370_2
         replace p370 := eq_true p370
         replace q370 := eq_true q370
         go_wp2_with (first | (go_at_call 67; go_in) | (go_end0; simp only []; go_at_K) | ((with_reducible refine gD_ 117 rfl ?_); refine Kd.R_lit (Kd.int .i64) _ 3 ?hg (N := 117) ?hd (xs := ([rd t364 x93_1, t369] : List Int)) (inner := [.int .i64 (rd t364 x93_1), .int .i64 t369]) (ok := fun _ => True) (okp := fun _ => True) ?hr ?hp (fun _ hk => hk) trivial (Below.refl _ _) (Nat.le_refl _) (by simp) ?_; (case hd => rfl); (case hg => rfl); (case hr => first | (go_simp; done) | (go_simp; rfl)); (case hp => exact (Reps.one (show Kd.M (Kd.int .i64) _ _ _ (rd t364 x93_1) [.int .i64 (rd t364 x93_1)] from rfl) (Reps.one (show Kd.M (Kd.int .i64) _ _ _ t369 [.int .i64 t369] from rfl) (Reps.none _ _)))); intro v372 w93 ho94 hb hg_ hnew_; clear hg_ hnew_; (first | rw [← Ny371.out] at ho94 | (simp only [Int.reduceToNat] at ho94; rw [← Ny371.out] at ho94)); replace HO_334000 := aa_ (Kd.S_elder' (rs_ HO_334000) (Kd.R_base ho94) hb); have HO373 := aa_ (Kd.R_lower (Kd.R_new' ho94 (Kd.R_lt (rr_ HO_91))) bls_); replace HO_91 := aa_ (Kd.R_elder' (rr_ HO_91) (Kd.R_base ho94) hb); replace BK329 := bkb_ BK329 hb; replace BK333 := bkb_ BK333 hb; replace HB := hbs_ hb; clear hb ho94; have hnb95 := NB333_329.out; have hnc95 := NB329_333.out; obtain ⟨hcz96, hfz96⟩ := bcf_ BK333; obtain ⟨hcz97, hfz97⟩ := bcf_ BK329; obtain ⟨Ao98, co98, eo98⟩ := Kd.R_slice HO373.out; subst eo98) | ((with_reducible refine gate_builtin (b := .append) (xs := #[.tmp 6, .tmp 13]) rfl ?_); at_builtin; refine Kd.S_append k91 (w0 := w) w.heap.size rfl (.tmp 6) (.tmp 13) 87 91 (.agg #[(.int .i64 0), (.int .i64 0), (.int .i64 0), (.slice none 0 0)]) 48 rfl Try.underlying87 info91 rfl (by decide) (by omega) u334000 x334000_1 (⟨(⟨(⟨a1_1, a1_2⟩ : S27), (rd_T29 l0 (rd t364 x93_1)).f1⟩ : S29), y371⟩ : S91) [.int .i64 a1_1, .int .i64 a1_2, .int .i64 ((rd_T29 l0 (rd t364 x93_1)).f1), .slice Ao98 y371.length co98] (fun k_ => some k_ ≠ (.slice (some ad367) t364.length co81 : Value).ownBlock) (fun k_ => some k_ = (.slice Ao98 y371.length co98 : Value).ownBlock) rfl rfl ?aP (fun k_ hk_ => ((Kd.R_mono (ok' := fun k_ => ((fun k_ => some k_ ≠ (.slice (some ad367) t364.length co81 : Value).ownBlock)) k_ ∧ some k_ ≠ (u334000 : Value).ownBlock) (Kd.R_apart' (HO373.out) (Kd.S_typed HO_334000.out) (by decide)) (fun k_ hk => ⟨hk.1.2, hk.2⟩))).1 k_ hk_.symm) ?aF ?aO ?aB ?aS ?aL ?_; (case aP => exact k91_mkM _ _ _ (⟨(⟨(⟨a1_1, a1_2⟩ : S27), (rd_T29 l0 (rd t364 x93_1)).f1⟩ : S29), y371⟩ : S91) (Kd.R_mono (Kd.R_tight rfl (Kd.R_mono (ok' := fun k_ => ((fun k_ => some k_ ≠ (.slice (some ad367) t364.length co81 : Value).ownBlock)) k_ ∧ some k_ ≠ (u334000 : Value).ownBlock) (Kd.R_apart' (HO373.out) (Kd.S_typed HO_334000.out) (by decide)) (fun k_ hk => ⟨hk.1.2, hk.2⟩))) (fun _ h_ => h_))); (case aB => exact bl_); (case aF => exact (fun k_ hk => Kd.fresh' (Kd.R_lt (rr_ HO_91)) k_ hk)); (case aO => exact (by (with_reducible repeat (first | apply Kd.S_alloc | apply Kd.S_drewN | apply Kd.S_drew)); exact Kd.S_mono HO_334000.out (fun k_ hk => ⟨hk.1, fun e_ => hk.2 e_⟩))); (case aS => exact bls_); (case aL => have := LMc92.out; omega); intro v375 w99 ho hb hg hat; rw [← Ny374.out] at ho; replace HO_91 := aa_ (Kd.R_over' (rr_ HO_91) (Kd.S_typed (rs_ HO_334000)) (by decide) hg); replace BK329 := aa_ (blk_grown (g := gb329) (o := .cells #[.int .i64 a1_0, .int .i64 a1_1, .int .i64 a1_2, .int .i64 a1_3, .int .i64 a1_4, .int .i64 a1_5, .int .i64 a1_6, .int .i64 a1_7, .int .i64 a1_8, .int .i64 a1_9] 46 (0, 0)) (bk_ BK329) hg (Kd.S_ne HO_334000.out BK329.out (by decide))); replace BK333 := aa_ (blk_grown (g := gb333) (o := .cells #[u334000] 87 (0, 0)) (bk_ BK333) hg (Kd.S_ne HO_334000.out BK333.out (by decide))); replace HB := aa_ (hb); have HO376 := aa_ (ho); clear HO_334000; clear HO373; clear ho hb hg hat; obtain ⟨Ao100, co100, eo100⟩ := Kd.S_slice HO376.out; subst eo100; obtain ⟨hcz101, hfz101⟩ := bcf_ BK333))
         go_roundg k1
         case measure => have := HK1.out; omega
         case rel => exact ⟨(wrap64 (x93_1 + 1)), (y374), (.slice Ao100 y374.length co100), rf_, H', ⟨by have := HK1.out; omega⟩, ⟨by (with_reducible repeat (first | apply Kd.R_alloc | apply Kd.R_drewN | apply Kd.R_drew)); exact Kd.R_mono (Kd.R_far (p := ⟨gb333, 0, none⟩) (Kd.R_types HO_91.out BK333.out (by decide)) (fun _ hk => hk.2) (.slice Ao100 y374.length co100)) (fun _ hk => trivial)⟩, ⟨by (with_reducible repeat (first | apply Kd.S_alloc | apply Kd.S_drewN | apply Kd.S_drew)); exact Kd.S_mono (Kd.S_far (p := ⟨gb333, 0, none⟩) (Kd.S_types HO376.out BK333.out (by decide)) (fun _ hk => hk.2) (.slice Ao100 y374.length co100)) (fun _ hk => hk.1)⟩, ⟨bk_ BK329⟩, ⟨bk_ BK333⟩, ⟨bl_⟩⟩
        ·rw [if_neg c91] at H
         have c91b0 : decide (0 ≤ t369) = false := decide_eq_false c91
         clear c91
         (first | rw [c91b0] | (simp only [i64_w, i32_w]; rw [c91b0]) | skip)
         have H' := aa_ H
         clear H
         go_wp2
         go_roundg k1
         case measure => have := HK1.out; omega
         case rel => exact ⟨(wrap64 (x93_1 + 1)), (x334000_1), (u334000), rf_, H', ⟨by have := HK1.out; omega⟩, ⟨rr_ HO_91⟩, ⟨rs_ HO_334000⟩, ⟨bk_ BK329⟩, ⟨bk_ BK333⟩, ⟨bl_⟩⟩
       ·rw [if_neg c82] at H
        have c82b0 : decide (x93_1 < (t364.length : Int)) = false := decide_eq_false c82
        clear c82
        obtain rfl := Option.some.inj H
        have hnb102 := NB333_329.out
        have hnc102 := NB329_333.out
        have hcz103 := blk_cell BK333.out
        have hfz103 := blk_frozen BK333.out
        go_wp2
        go_ret
        exact ⟨_, eq_, by (with_reducible repeat (first | apply Kd.S_alloc | apply Kd.S_drewN | apply Kd.S_drew)); exact Kd.S_mono HO_334000.out (fun _ hk => trivial), bl_⟩
    ·rw [if_neg c76] at H
     have c76b0 : (a1_0 == 4) = false := beq_eq_false_iff_ne.mpr c76
     have c76b1 : (a1_0 != 4) = true := bne_iff_ne.mpr c76
     obtain rfl := Option.some.inj H
     have hnb104 := NB333_329.out
     have hnc104 := NB329_333.out
     have hcz105 := blk_cell BK333.out
     have hfz105 := blk_frozen BK333.out
     go_wp2
     go_ret
     exact ⟨_, eq_, by (with_reducible repeat (first | apply Kd.S_alloc | apply Kd.S_drewN | apply Kd.S_drew)); exact HO332.out, bl_⟩
end Go.Proofs.Ytcbhmcpdnokbiaa.PA
