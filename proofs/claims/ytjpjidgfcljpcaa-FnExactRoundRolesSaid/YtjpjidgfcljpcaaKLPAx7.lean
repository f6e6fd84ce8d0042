import Derived.Test.YtjpjidgfcljpcaaKLPAx6
-- printed by wip/tools
namespace Go.Proofs.Ytjpjidgfcljpcaa.PA
open Go.RowKit Go.Proofs.YtjpjidgfcljpcaaW.PrintWords Go.Proofs.YtjpjidgfcljpcaaW.PrintLast Go.Proofs.YtjpjidgfcljpcaaW.PrintMore
attribute [local go_sem] max2_int min2_int max_two min_two max_three min_three max_four min_four
set_option linter.unusedVariables false
set_option linter.unusedSimpArgs false
mutual
def impl_derive.l0 : Nat → List (S51) → List Int → Int → Int → Int → Int → Int → Int → Int → Int → Int → Int → Int → Int → List (S193) → Option ((List (S193)))
 | 0, _, _, _, _, _, _, _, _, _, _, _, _, _, _, _ => none
 | k + 1, x0, x31, x32, x33, x185000, x185001, x185002, x185003, x185004, x185005, x185006, x185007, x185008, x185009, x189000 => if x33 < x32 then (if 0 ≤ x33 then (if x33 < (x31.length : Int) then (if 0 ≤ (rd x31 x33) then (if (rd x31 x33) < (x0.length : Int) then (if x189000.length < 2932031007402 then (impl_derive.l0 k x0 x31 x32 (wrap64 (x33 + 1)) x185000 x185001 x185002 x185003 x185004 x185005 x185006 x185007 x185008 x185009 (x189000 ++ [(⟨(⟨(⟨x185001, x185002⟩ : S49), (rd_T51 x0 (rd x31 x33)).f1⟩ : S51), (([rd x31 x33] : List Int))⟩ : S193)])) else (none)) else (none)) else (none)) else (none)) else (none)) else (some x189000)
def impl_derive.l1 : Nat → List (S51) → List Int → Int → Int → Int → Int → Int → Int → Int → Int → Int → Int → Int → Int → List (S193) → Option ((List (S193)))
 | 0, _, _, _, _, _, _, _, _, _, _, _, _, _, _, _ => none
 | k + 1, x0, x52, x53, x54, x185000, x185001, x185002, x185003, x185004, x185005, x185006, x185007, x185008, x185009, x189000 => if x54 < x53 then (if 0 ≤ x54 then (if x54 < (x52.length : Int) then (if 0 ≤ (rd x52 x54) then (if (rd x52 x54) < (x0.length : Int) then ((impl_whoOf.f k x0 ((rd_T51 x0 (rd x52 x54)).f1) x185007).bind fun t208 => (impl_derive.l2 k x0 (rd x52 x54) x52 x53 x54 t208 (t208.length : Int) 0 x185000 x185001 x185002 x185003 x185004 x185005 x185006 x185007 x185008 x185009 x189000)) else (none)) else (none)) else (none)) else (none)) else (some x189000)
def impl_derive.l2 : Nat → List (S51) → Int → List Int → Int → Int → List Int → Int → Int → Int → Int → Int → Int → Int → Int → Int → Int → Int → Int → List (S193) → Option ((List (S193)))
 | 0, _, _, _, _, _, _, _, _, _, _, _, _, _, _, _, _, _, _, _ => none
 | k + 1, x0, x10, x52, x53, x54, x68, x69, x70, x185000, x185001, x185002, x185003, x185004, x185005, x185006, x185007, x185008, x185009, x189000 => if x70 < x69 then (if 0 ≤ x70 then (if x70 < (x68.length : Int) then (if 0 ≤ (rd x68 x70) then (if (rd x68 x70) < (x0.length : Int) then (if x189000.length < 2932031007402 then (impl_derive.l2 k x0 x10 x52 x53 x54 x68 x69 (wrap64 (x70 + 1)) x185000 x185001 x185002 x185003 x185004 x185005 x185006 x185007 x185008 x185009 (x189000 ++ [(⟨(⟨(⟨x185001, x185002⟩ : S49), (rd_T51 x0 (rd x68 x70)).f1⟩ : S51), (([x10, rd x68 x70] : List Int))⟩ : S193)])) else (none)) else (none)) else (none)) else (none)) else (none)) else (impl_derive.l1 k x0 x52 x53 (wrap64 (x54 + 1)) x185000 x185001 x185002 x185003 x185004 x185005 x185006 x185007 x185008 x185009 x189000)
def impl_derive.l3 : Nat → List (S51) → List Int → Int → Int → Int → Int → Int → Int → Int → Int → Int → Int → Int → Int → List (S193) → Option ((List (S193)))
 | 0, _, _, _, _, _, _, _, _, _, _, _, _, _, _, _ => none
 | k + 1, x0, x91, x92, x93, x185000, x185001, x185002, x185003, x185004, x185005, x185006, x185007, x185008, x185009, x189000 => if x93 < x92 then (if 0 ≤ x93 then (if x93 < (x91.length : Int) then (if 0 ≤ (rd x91 x93) then (if (rd x91 x93) < (x0.length : Int) then ((impl_Fact_102.f k x0 x185006 x185007 ((rd_T51 x0 (rd x91 x93)).f1)).bind fun t224 => (if t224 ≥ 0 then (if x189000.length < 2932031007402 then (impl_derive.l3 k x0 x91 x92 (wrap64 (x93 + 1)) x185000 x185001 x185002 x185003 x185004 x185005 x185006 x185007 x185008 x185009 (x189000 ++ [(⟨(⟨(⟨x185001, x185002⟩ : S49), (rd_T51 x0 (rd x91 x93)).f1⟩ : S51), (([rd x91 x93, t224] : List Int))⟩ : S193)])) else (none)) else (impl_derive.l3 k x0 x91 x92 (wrap64 (x93 + 1)) x185000 x185001 x185002 x185003 x185004 x185005 x185006 x185007 x185008 x185009 x189000))) else (none)) else (none)) else (none)) else (none)) else (some x189000)
end
def impl_derive.f (k : Nat) (l0 : List (S51)) (a1_0 : Int) (a1_1 : Int) (a1_2 : Int) (a1_3 : Int) (a1_4 : Int) (a1_5 : Int) (a1_6 : Int) (a1_7 : Int) (a1_8 : Int) (a1_9 : Int) : Option ((List (S193))) := (some (([] : List (S193)) : List (S193))).bind fun y185 => (if a1_0 = 1 then (if y185.length < 2932031007402 then (some (y185 ++ [(⟨(⟨(⟨a1_1, a1_2⟩ : S49), a1_3⟩ : S51), ([] : List Int)⟩ : S193)])) else (none)) else (if a1_0 = 2 then ((impl_whoOf.f k l0 a1_4 a1_5).bind fun t192 => (impl_derive.l0 k l0 t192 (t192.length : Int) 0 a1_0 a1_1 a1_2 a1_3 a1_4 a1_5 a1_6 a1_7 a1_8 a1_9 y185)) else (if a1_0 = 3 then ((impl_whoOf.f k l0 a1_4 a1_5).bind fun t203 => (impl_derive.l1 k l0 t203 (t203.length : Int) 0 a1_0 a1_1 a1_2 a1_3 a1_4 a1_5 a1_6 a1_7 a1_8 a1_9 y185)) else (if a1_0 = 4 then ((impl_whoOf.f k l0 a1_4 a1_5).bind fun t219 => (impl_derive.l3 k l0 t219 (t219.length : Int) 0 a1_0 a1_1 a1_2 a1_3 a1_4 a1_5 a1_6 a1_7 a1_8 a1_9 y185)) else (some y185)))))
def impl_derive.T16 : Bool × List (List Nat × List Nat) := (true, [([], []), ([], []), ([], []), ([1, 2], [1, 2]), ([3], [3]), ([4], [4]), ([], []), ([6], [6]), ([7], [7]), ([5, 8], [5, 8]), ([0, 9], [0, 9]), ([10], [10]), ([], [])])
def impl_derive.B16 : List Nat := [0, 0, 0, 6, 14, 30, 0, 64, 192, 510, 1023, 2047, 0]
theorem impl_derive.tab16 : rtab .any (opsOf Try.f169 16) = impl_derive.T16 := by kernel_rfl
theorem impl_derive.bits16 : waitsOk impl_derive.T16.2 impl_derive.B16 = true := by kernel_rfl
def impl_derive.T26 : Bool × List (List Nat × List Nat) := (true, [([], []), ([], []), ([1], [1]), ([], []), ([], []), ([3, 4], [3, 4]), ([5], [5]), ([6], [6]), ([2, 7], [2, 7]), ([0, 8], [0, 8]), ([9, 9, 0, 1, 2, 3, 4, 5, 6, 7, 8, 9], [9])])
def impl_derive.B26 : List Nat := [0, 0, 2, 0, 0, 24, 56, 120, 254, 511, 1023]
theorem impl_derive.tab26 : rtab .any (opsOf Try.f169 26) = impl_derive.T26 := by kernel_rfl
theorem impl_derive.bits26 : waitsOk impl_derive.T26.2 impl_derive.B26 = true := by kernel_rfl
set_option maxHeartbeats 8000000 in
set_option maxRecDepth 100000 in
theorem impl_derive.calls (k : Nat) (A0 : Option Addr) (c0 : Nat) (l0 : List (S51)) (a1_0 : Int) (a1_1 : Int) (a1_2 : Int) (a1_3 : Int) (a1_4 : Int) (a1_5 : Int) (a1_6 : Int) (a1_7 : Int) (a1_8 : Int) (a1_9 : Int) (r : List (S193)) (w : World) (hr0 : Kd.C k51 w A0 l0.length l0) (hc0 : l0.length ≤ c0) (h : impl_derive.f k l0 a1_0 a1_1 a1_2 a1_3 a1_4 a1_5 a1_6 a1_7 a1_8 a1_9 = some r) :
  Calls Try.prog 169 #[.slice A0 l0.length c0, .agg #[.int .i64 a1_0, .int .i64 a1_1, .int .i64 a1_2, .int .i64 a1_3, .int .i64 a1_4, .int .i64 a1_5, .int .i64 a1_6, .int .i64 a1_7, .int .i64 a1_8, .int .i64 a1_9]] w fun e w' => ∃ v0_ : Value, e = .returned (v0_) ∧ Kd.S k193 193 w' w.heap.size (fun _ => True) v0_ r ∧ Below w.heap.size w w' := by
 have hu56 := Try.underlying56
 have hu49 := Try.underlying49
 have hu51 := Try.underlying51
 have hmf : ∀ (fn : Fn) (first cap : Array Value) (w : World), (Instr.makeFunc fn first cap).run Try.prog w = .ok (.func fn first cap) w := fun _ _ _ _ => rfl
 have hu190 := Try.underlying190
 have HR0 := Aside0.mk hr0
 have HC0 := Aside0.mk hc0
 clear hr0 hc0
 have HB := Aside0.mk (Below.refl w.heap.size w)
 have H : ((some (([] : List (S193)) : List (S193))).bind fun y185 => (if a1_0 = 1 then (if y185.length < 2932031007402 then (some (y185 ++ [(⟨(⟨(⟨a1_1, a1_2⟩ : S49), a1_3⟩ : S51), ([] : List Int)⟩ : S193)])) else (none)) else (if a1_0 = 2 then ((impl_whoOf.f k l0 a1_4 a1_5).bind fun t192 => (impl_derive.l0 k l0 t192 (t192.length : Int) 0 a1_0 a1_1 a1_2 a1_3 a1_4 a1_5 a1_6 a1_7 a1_8 a1_9 y185)) else (if a1_0 = 3 then ((impl_whoOf.f k l0 a1_4 a1_5).bind fun t203 => (impl_derive.l1 k l0 t203 (t203.length : Int) 0 a1_0 a1_1 a1_2 a1_3 a1_4 a1_5 a1_6 a1_7 a1_8 a1_9 y185)) else (if a1_0 = 4 then ((impl_whoOf.f k l0 a1_4 a1_5).bind fun t219 => (impl_derive.l3 k l0 t219 (t219.length : Int) 0 a1_0 a1_1 a1_2 a1_3 a1_4 a1_5 a1_6 a1_7 a1_8 a1_9 y185)) else (some y185)))))) = some r := h
 clear h
 obtain ⟨y185, hy185⟩ : ∃ y_ : List (S193), y_ = (([] : List (S193))) := ⟨_, rfl⟩
 replace H : (if a1_0 = 1 then (if y185.length < 2932031007402 then (some (y185 ++ [(⟨(⟨(⟨a1_1, a1_2⟩ : S49), a1_3⟩ : S51), ([] : List Int)⟩ : S193)])) else (none)) else (if a1_0 = 2 then ((impl_whoOf.f k l0 a1_4 a1_5).bind fun t192 => (impl_derive.l0 k l0 t192 (t192.length : Int) 0 a1_0 a1_1 a1_2 a1_3 a1_4 a1_5 a1_6 a1_7 a1_8 a1_9 y185)) else (if a1_0 = 3 then ((impl_whoOf.f k l0 a1_4 a1_5).bind fun t203 => (impl_derive.l1 k l0 t203 (t203.length : Int) 0 a1_0 a1_1 a1_2 a1_3 a1_4 a1_5 a1_6 a1_7 a1_8 a1_9 y185)) else (if a1_0 = 4 then ((impl_whoOf.f k l0 a1_4 a1_5).bind fun t219 => (impl_derive.l3 k l0 t219 (t219.length : Int) 0 a1_0 a1_1 a1_2 a1_3 a1_4 a1_5 a1_6 a1_7 a1_8 a1_9 y185)) else (some y185))))) = some r := by first | (rw [hy185]; with_reducible exact H) | (have H2_ := (Option.bind_some _ _).symm.trans H; rw [hy185]; with_reducible exact H2_) | (have H2_ := (Option.bind_some _ _).symm.trans H; with_reducible exact H2_) | with_reducible exact H | (rw [hy185]; exact H) | exact H
 have Ny185 := Aside0.mk hy185
 clear hy185
 by_cases c3 : a1_0 = 1
 ·rw [if_pos c3] at H
  have c3b0 : (a1_0 == 1) = true := beq_iff_eq.mpr c3
  have c3b1 : (a1_0 != 1) = false := bne_eq_false_iff_eq.mpr c3
  clear c3
  obtain ⟨c4, H⟩ := ifn_ H
  have LMc4 := Aside0.mk c4
  clear c4
  obtain ⟨y189, hy189⟩ : ∃ y_ : List (S193), y_ = (y185 ++ [(⟨(⟨(⟨a1_1, a1_2⟩ : S49), a1_3⟩ : S51), ([] : List Int)⟩ : S193)]) := ⟨_, rfl⟩
  replace H : (some y189) = some r := by first | (rw [hy189]; with_reducible exact H) | (have H2_ := (Option.bind_some _ _).symm.trans H; rw [hy189]; with_reducible exact H2_) | (have H2_ := (Option.bind_some _ _).symm.trans H; with_reducible exact H2_) | with_reducible exact H | (rw [hy189]; exact H) | exact H
  have Ny189 := Aside0.mk hy189
  clear hy189
  obtain rfl := Option.some.inj H
  go_enter Try.func169, Try.ntmps169
  go_wp2_with (first | (go_at_call 203; go_in) | (go_end0; simp only []; go_at_K) | ((with_reducible refine gate_dst (N := 3) rfl ?_); refine box_event ?hg (N := 3) ?hd (cs := #[.int .i64 a1_0, .int .i64 a1_1, .int .i64 a1_2, .int .i64 a1_3, .int .i64 a1_4, .int .i64 a1_5, .int .i64 a1_6, .int .i64 a1_7, .int .i64 a1_8, .int .i64 a1_9]) (t := 56) ?hr ?_; (case hd => rfl); (case hg => rfl); (case hr => first | (go_simp; done) | (go_simp; rfl)); intro gb184 hg w5 hbox hb; have BK184 := Aside0.mk (hbox); have GW184 := gs_ hg; have GE184 := gs_ hg; replace HB := hbs_ hb; clear hb hbox hg) | ((with_reducible refine gate_dst (N := 16) rfl ?_); refine Kd.S_lit k193 _ 193 ?hg (N := 16) ?hd (xs := ([] : List (S193))) (inner := []) (ok := fun _ => True) (okp := fun _ => True) ?hr ?hp (fun _ hk => hk) trivial (Below.refl _ _) (Nat.le_refl _) (by simp) ?_; (case hd => rfl); (case hg => rfl); (case hr => first | (go_simp; done) | (go_simp; rfl)); (case hp => exact (Reps.none _ _)); intro v186 w6 ho7 hb hg_ hnew_; clear hg_ hnew_; (first | rw [← Ny185.out] at ho7 | (simp only [Int.reduceToNat] at ho7; rw [← Ny185.out] at ho7)); have HO187 := Aside0.mk (Kd.S_lower ho7 bls_); replace BK184 := bkb_ BK184 hb; replace HB := hbs_ hb; clear hb ho7) | ((with_reducible refine gate_dst (N := 5) rfl ?_); refine box_event ?hg (N := 5) ?hd (cs := #[.slice none 0 0]) (t := 190) ?hr ?_; (case hd => rfl); (case hg => rfl); (case hr => first | (go_simp; done) | (go_simp; rfl)); intro gb188 hg w8 hbox hb; replace HO187 := Aside0.mk (Kd.S_below (by (with_reducible repeat (first | apply Kd.S_alloc | apply Kd.S_drewN | apply Kd.S_drew)); exact HO187.out) hb); have BK188 := Aside0.mk (hbox); have GW188 := gs_ hg; have GE188 := gs_ hg; replace HB := hbs_ hb; have NB184_188 := nl_ hg BK184; have NB188_184 := nr_ hg BK184; replace BK184 := bkb_ BK184 hb; clear hb hbox hg; obtain ⟨Ao9, co9, eo9⟩ := Kd.S_slice HO187.out; subst eo9; have hnb10 := NB188_184.out; have hnc10 := NB184_188.out; have hcz11 := blk_cell BK188.out; have hfz11 := blk_frozen BK188.out; have hcz12 := blk_cell BK184.out; have hfz12 := blk_frozen BK184.out) | ((with_reducible refine gate_builtin (b := .append) (xs := #[.tmp 6, .tmp 13]) rfl ?_); at_builtin; refine Kd.S_append k193 (w0 := w) w.heap.size rfl (.tmp 6) (.tmp 13) 190 193 (.agg #[(.int .i64 0), (.int .i64 0), (.int .i64 0), (.slice none 0 0)]) 48 rfl Try.underlying190 info193 rfl (by decide) (by omega) (.slice Ao9 y185.length co9) y185 (⟨(⟨(⟨a1_1, a1_2⟩ : S49), a1_3⟩ : S51), ([] : List Int)⟩ : S193) [.int .i64 a1_1, .int .i64 a1_2, .int .i64 a1_3, .slice none 0 0] (fun _ => True) (fun _ => False) rfl (by first | (go_simp; done) | (go_simp; rfl)) ?aP (fun k_ hk_ => hk_.elim) ?aF ?aO ?aB ?aS ?aL ?_; (case aP => exact k193_mkM _ _ _ (⟨(⟨(⟨a1_1, a1_2⟩ : S49), a1_3⟩ : S51), ([] : List Int)⟩ : S193) (Kd.R_nil _ _ _ _ _)); (case aB => exact bl_); (case aF => exact (fun _ _ => trivial)); (case aO => exact (by (with_reducible repeat (first | apply Kd.S_alloc | apply Kd.S_drewN | apply Kd.S_drew)); exact Kd.S_mono (Kd.S_far (p := ⟨gb188, 0, none⟩) (Kd.S_types HO187.out BK188.out (by decide)) (fun _ hk => hk.2) (.slice Ao9 y185.length co9)) (fun k_ hk => ⟨trivial, fun e_ => e_⟩))); (case aS => exact bls_); (case aL => have := LMc4.out; omega); intro v190 w13 ho hb hg hat; rw [← Ny189.out] at ho; replace BK184 := Aside0.mk (blk_grown (g := gb184) (o := .cells #[.int .i64 a1_0, .int .i64 a1_1, .int .i64 a1_2, .int .i64 a1_3, .int .i64 a1_4, .int .i64 a1_5, .int .i64 a1_6, .int .i64 a1_7, .int .i64 a1_8, .int .i64 a1_9] 56 (0, 0)) (bk_ BK184) hg (Kd.S_ne HO187.out BK184.out (by decide))); replace BK188 := Aside0.mk (blk_grown (g := gb188) (o := .cells #[.slice Ao9 y185.length co9] 190 (0, 0)) (bk_ BK188) hg (Kd.S_ne HO187.out BK188.out (by decide))); replace HB := Aside0.mk (hb); have HO191 := Aside0.mk (ho); clear HO187; clear ho hb hg hat; obtain ⟨Ao14, co14, eo14⟩ := Kd.S_slice HO191.out; subst eo14; have hcz15 := blk_cell BK188.out; have hfz15 := blk_frozen BK188.out))
  go_ret
  exact ⟨_, eq_, by (with_reducible repeat (first | apply Kd.S_alloc | apply Kd.S_drewN | apply Kd.S_drew)); exact Kd.S_mono (Kd.S_far (p := ⟨gb188, 0, none⟩) (Kd.S_types HO191.out BK188.out (by decide)) (fun _ hk => hk.2) (.slice Ao14 y189.length co14)) (fun _ hk => trivial), bl_⟩
 ·rw [if_neg c3] at H
  have c3b0 : (a1_0 == 1) = false := beq_eq_false_iff_ne.mpr c3
  have c3b1 : (a1_0 != 1) = true := bne_iff_ne.mpr c3
  by_cases c16 : a1_0 = 2
  ·rw [if_pos c16] at H
   have c16b0 : (a1_0 == 2) = true := beq_iff_eq.mpr c16
   have c16b1 : (a1_0 != 2) = false := bne_eq_false_iff_eq.mpr c16
   clear c16
   obtain ⟨t192, A17, H⟩ := bindE_ H
   have H' := Aside0.mk H
   clear H
   go_enter Try.func169, Try.ntmps169
   go_wp2_with (first | (go_at_call 203; go_in) | (go_end0; simp only []; go_at_K) | ((with_reducible refine gate_dst (N := 3) rfl ?_); refine box_event ?hg (N := 3) ?hd (cs := #[.int .i64 a1_0, .int .i64 a1_1, .int .i64 a1_2, .int .i64 a1_3, .int .i64 a1_4, .int .i64 a1_5, .int .i64 a1_6, .int .i64 a1_7, .int .i64 a1_8, .int .i64 a1_9]) (t := 56) ?hr ?_; (case hd => rfl); (case hg => rfl); (case hr => first | (go_simp; done) | (go_simp; rfl)); intro gb184 hg w18 hbox hb; have BK184 := Aside0.mk (hbox); have GW184 := gs_ hg; have GE184 := gs_ hg; replace HB := hbs_ hb; clear hb hbox hg) | ((with_reducible refine gate_dst (N := 16) rfl ?_); refine Kd.S_lit k193 _ 193 ?hg (N := 16) ?hd (xs := ([] : List (S193))) (inner := []) (ok := fun _ => True) (okp := fun _ => True) ?hr ?hp (fun _ hk => hk) trivial (Below.refl _ _) (Nat.le_refl _) (by simp) ?_; (case hd => rfl); (case hg => rfl); (case hr => first | (go_simp; done) | (go_simp; rfl)); (case hp => exact (Reps.none _ _)); intro v186 w19 ho20 hb hg_ hnew_; clear hg_ hnew_; (first | rw [← Ny185.out] at ho20 | (simp only [Int.reduceToNat] at ho20; rw [← Ny185.out] at ho20)); have HO187 := Aside0.mk (Kd.S_lower ho20 bls_); replace BK184 := bkb_ BK184 hb; replace HB := hbs_ hb; clear hb ho20) | ((with_reducible refine gate_dst (N := 5) rfl ?_); refine box_event ?hg (N := 5) ?hd (cs := #[.slice none 0 0]) (t := 190) ?hr ?_; (case hd => rfl); (case hg => rfl); (case hr => first | (go_simp; done) | (go_simp; rfl)); intro gb188 hg w21 hbox hb; replace HO187 := Aside0.mk (Kd.S_below (by (with_reducible repeat (first | apply Kd.S_alloc | apply Kd.S_drewN | apply Kd.S_drew)); exact HO187.out) hb); have BK188 := Aside0.mk (hbox); have GW188 := gs_ hg; have GE188 := gs_ hg; replace HB := hbs_ hb; have NB184_188 := nl_ hg BK184; have NB188_184 := nr_ hg BK184; replace BK184 := bkb_ BK184 hb; clear hb hbox hg; obtain ⟨Ao22, co22, eo22⟩ := Kd.S_slice HO187.out; subst eo22; have hnb23 := NB188_184.out; have hnc23 := NB184_188.out; have hcz24 := blk_cell BK188.out; have hfz24 := blk_frozen BK188.out; have hcz25 := blk_cell BK184.out; have hfz25 := blk_frozen BK184.out) | ((with_reducible refine gate_callee (f := 204) rfl ?_); refine goesC_ (some 31) Try.func204 #[.slice A0 l0.length c0, .agg #[.int .i64 a1_4, .int .i64 a1_5]] ?_; (with_reducible refine (impl_whoOf.calls k _ _ l0 a1_4 a1_5 t192 _ ?side1 ?side2 A17.out).mono ?_); (case side1 => exact Kd.C_below HR0.out bl_); (case side2 => exact HC0.out); rintro e w26 ⟨v193, rfl, ho0, hb⟩; refine ⟨_, rfl, ?_⟩; replace HO187 := Aside0.mk (Kd.S_elder' (by (with_reducible repeat (first | apply Kd.S_alloc | apply Kd.S_drewN | apply Kd.S_drew)); exact (Kd.S_mono (Kd.S_far (p := ⟨gb188, 0, none⟩) (Kd.S_types HO187.out BK188.out (by decide)) (fun _ hk => hk.2) (.slice Ao22 y185.length co22)) (fun _ h_ => h_.1))) (Kd.R_base ho0) hb); have HO194 := Aside0.mk (Kd.R_lower ho0 bls_); replace BK184 := Aside0.mk (blk_below (g := gb184) (o := .cells #[.int .i64 a1_0, .int .i64 a1_1, .int .i64 a1_2, .int .i64 a1_3, .int .i64 a1_4, .int .i64 a1_5, .int .i64 a1_6, .int .i64 a1_7, .int .i64 a1_8, .int .i64 a1_9] 56 (0, 0)) (bk_ BK184) hb); replace BK188 := Aside0.mk (blk_below (g := gb188) (o := .cells #[.slice Ao22 y185.length co22] 190 (0, 0)) (bk_ BK188) hb); replace HB := hbs_ hb; (try clear hb); (try clear hb2); (try clear hk); (try clear hi); (try clear ho0); obtain ⟨Ao27, co27, eo27⟩ := Kd.R_slice HO194.out; subst eo27))
   go_loopg [33] k (fun kq v33 w' => ∃ (x33_1 : Int) (x189000_1 : List (S193)) (u189000 : Value), v33 = .int .i64 x33_1 ∧ Aside0 (impl_derive.l0 kq l0 t192 (t192.length : Int) x33_1 a1_0 a1_1 a1_2 a1_3 a1_4 a1_5 a1_6 a1_7 a1_8 a1_9 x189000_1 = some r) ∧ Aside0 (kq ≤ k) ∧ Aside0 (Kd.R (Kd.int .i64) 3 w' w.heap.size (fun _ => True) (.slice Ao27 t192.length co27) t192) ∧ Aside0 (Kd.S k193 193 w' w.heap.size (fun k_ => some k_ ≠ ((.slice Ao27 t192.length co27) : Value).ownBlock) u189000 x189000_1) ∧ Aside0 (w'.heap[gb184]? = some (.cells #[.int .i64 a1_0, .int .i64 a1_1, .int .i64 a1_2, .int .i64 a1_3, .int .i64 a1_4, .int .i64 a1_5, .int .i64 a1_6, .int .i64 a1_7, .int .i64 a1_8, .int .i64 a1_9] 56 (0, 0))) ∧ Aside0 (w'.heap[gb188]? = some (.cells #[u189000] 190 (0, 0))) ∧ Aside0 (Below w.heap.size w w'))
   case atStart => exact ⟨(0), (y185), (.slice Ao22 y185.length co22), rf_, H', ⟨Nat.le_refl _⟩, ⟨by (with_reducible repeat (first | apply Kd.R_alloc | apply Kd.R_drewN | apply Kd.R_drew)); exact HO194.out⟩, ⟨by (with_reducible repeat (first | apply Kd.S_alloc | apply Kd.S_drewN | apply Kd.S_drew)); exact Kd.S_mono HO187.out (fun _ hk => hk.2)⟩, ⟨bk_ BK184⟩, ⟨bk_ BK188⟩, ⟨bl_⟩⟩
   case round =>
    clear H'
    try clear c1
    try clear c2
    try clear p2
    try clear c3
    try clear c3b0
    try clear c3b1
    try clear c4
    try clear c10
    try clear c16
    try clear c16b0
    try clear c16b1
    try clear c20
    try clear c23
    try clear hcz11
    try clear hcz12
    try clear hcz15
    try clear hcz24
    try clear hcz25
    try clear hfz11
    try clear hfz12
    try clear hfz15
    try clear hfz24
    try clear hfz25
    obtain ⟨x33_1, x189000_1, u189000, rfl, HA, HK1, HO_31, HO_189000, BK184, BK188, HB⟩ := hrel
    cases gk with
    | zero => exact absurd HA.out (by simp [impl_derive.l0])
    | succ k1 =>
     have H := HA.out
     clear HA
     simp only [impl_derive.l0] at H
     by_cases c28 : x33_1 < (t192.length : Int)
     ·rw [if_pos c28] at H
      have c28b0 : decide (x33_1 < (t192.length : Int)) = true := decide_eq_true c28
      clear c28
      obtain ⟨c29b0, H⟩ := ifd_ H
      obtain ⟨c30b0, H⟩ := ifd_ H
      obtain ⟨c31b0, H⟩ := ifd_ H
      obtain ⟨c32b0, H⟩ := ifd_ H
      obtain ⟨y197, hy197⟩ : ∃ y_ : List Int, y_ = (([rd t192 x33_1] : List Int)) := ⟨_, rfl⟩
      replace H : (if x189000_1.length < 2932031007402 then (impl_derive.l0 k1 l0 t192 (t192.length : Int) (wrap64 (x33_1 + 1)) a1_0 a1_1 a1_2 a1_3 a1_4 a1_5 a1_6 a1_7 a1_8 a1_9 (x189000_1 ++ [(⟨(⟨(⟨a1_1, a1_2⟩ : S49), (rd_T51 l0 (rd t192 x33_1)).f1⟩ : S51), y197⟩ : S193)])) else (none)) = some r := by first | (rw [hy197]; with_reducible exact H) | (have H2_ := (Option.bind_some _ _).symm.trans H; rw [hy197]; with_reducible exact H2_) | (have H2_ := (Option.bind_some _ _).symm.trans H; with_reducible exact H2_) | with_reducible exact H | (rw [hy197]; exact H) | exact H
      have Ny197 := Aside0.mk hy197
      clear hy197
      obtain ⟨c33, H⟩ := ifn_ H
      have LMc33 := Aside0.mk c33
      clear c33
      obtain ⟨y200, hy200⟩ : ∃ y_ : List (S193), y_ = (x189000_1 ++ [(⟨(⟨(⟨a1_1, a1_2⟩ : S49), (rd_T51 l0 (rd t192 x33_1)).f1⟩ : S51), y197⟩ : S193)]) := ⟨_, rfl⟩
      replace H : (impl_derive.l0 k1 l0 t192 (t192.length : Int) (wrap64 (x33_1 + 1)) a1_0 a1_1 a1_2 a1_3 a1_4 a1_5 a1_6 a1_7 a1_8 a1_9 y200) = some r := by first | (rw [hy200]; with_reducible exact H) | (have H2_ := (Option.bind_some _ _).symm.trans H; rw [hy200]; with_reducible exact H2_) | (have H2_ := (Option.bind_some _ _).symm.trans H; with_reducible exact H2_) | with_reducible exact H | (rw [hy200]; exact H) | exact H
      have Ny200 := Aside0.mk hy200
      clear hy200
      have H' := Aside0.mk H
      clear H
      have p195 : 0 ≤ (x33_1 : Int) := od_
      have q195 : x33_1 < (t192.length : Int) := od_
      obtain ⟨ad195, e195, hx195_0⟩ := Kd.at_int (Kd.R_reads' HO_31.out).2.2 x33_1 p195 q195
      cases e195
      replace p195 := eq_true p195
      replace q195 := eq_true q195
      have p196 : 0 ≤ ((rd t192 x33_1) : Int) := od_
      have q196 : (rd t192 x33_1) < (l0.length : Int) := od_
      obtain ⟨ad196, e196, hx196_0, hx196_1, hx196_2⟩ := at_T51 (Kd.C_below HR0.out HB.out) (rd t192 x33_1) p196 q196
      cases e196
      replace p196 := eq_true p196
      replace q196 := eq_true q196
      go_wp2_with (first | (go_at_call 203; go_in) | (go_end0; simp only []; go_at_K) | ((with_reducible refine gate_dst (N := 44) rfl ?_); refine Kd.R_lit (Kd.int .i64) _ 3 ?hg (N := 44) ?hd (xs := ([rd t192 x33_1] : List Int)) (inner := [.int .i64 (rd t192 x33_1)]) (ok := fun _ => True) (okp := fun _ => True) ?hr ?hp (fun _ hk => hk) trivial (Below.refl _ _) (Nat.le_refl _) (by simp) ?_; (case hd => rfl); (case hg => rfl); (case hr => first | (go_simp; done) | (go_simp; rfl)); (case hp => exact (Reps.one (show Kd.M (Kd.int .i64) _ _ _ (rd t192 x33_1) [.int .i64 (rd t192 x33_1)] from rfl) (Reps.none _ _))); intro v198 w34 ho35 hb hg_ hnew_; clear hg_ hnew_; (first | rw [← Ny197.out] at ho35 | (simp only [Int.reduceToNat] at ho35; rw [← Ny197.out] at ho35)); replace HO_189000 := Aside0.mk (Kd.S_elder' (by (with_reducible repeat (first | apply Kd.S_alloc | apply Kd.S_drewN | apply Kd.S_drew)); exact HO_189000.out) (Kd.R_base ho35) hb); have HO199 := Aside0.mk (Kd.R_lower (Kd.R_new' ho35 (Kd.R_lt (by (with_reducible repeat (first | apply Kd.R_alloc | apply Kd.R_drewN | apply Kd.R_drew)); exact HO_31.out))) bls_); replace HO_31 := Aside0.mk (Kd.R_elder' (by (with_reducible repeat (first | apply Kd.R_alloc | apply Kd.R_drewN | apply Kd.R_drew)); exact HO_31.out) (Kd.R_base ho35) hb); replace BK184 := bkb_ BK184 hb; replace BK188 := bkb_ BK188 hb; replace HB := hbs_ hb; clear hb ho35; have hnb36 := NB188_184.out; have hnc36 := NB184_188.out; have hcz37 := blk_cell BK188.out; have hfz37 := blk_frozen BK188.out; have hcz38 := blk_cell BK184.out; have hfz38 := blk_frozen BK184.out; obtain ⟨Ao39, co39, eo39⟩ := Kd.R_slice HO199.out; subst eo39) | ((with_reducible refine gate_builtin (b := .append) (xs := #[.tmp 6, .tmp 13]) rfl ?_); at_builtin; refine Kd.S_append k193 (w0 := w) w.heap.size rfl (.tmp 6) (.tmp 13) 190 193 (.agg #[(.int .i64 0), (.int .i64 0), (.int .i64 0), (.slice none 0 0)]) 48 rfl Try.underlying190 info193 rfl (by decide) (by omega) u189000 x189000_1 (⟨(⟨(⟨a1_1, a1_2⟩ : S49), (rd_T51 l0 (rd t192 x33_1)).f1⟩ : S51), y197⟩ : S193) [.int .i64 a1_1, .int .i64 a1_2, .int .i64 ((rd_T51 l0 (rd t192 x33_1)).f1), .slice Ao39 y197.length co39] (fun k_ => some k_ ≠ (.slice (some ad195) t192.length co27 : Value).ownBlock) (fun k_ => some k_ = (.slice Ao39 y197.length co39 : Value).ownBlock) rfl rfl ?aP (fun k_ hk_ => ((Kd.R_mono (ok' := fun k_ => ((fun k_ => some k_ ≠ (.slice (some ad195) t192.length co27 : Value).ownBlock)) k_ ∧ some k_ ≠ (u189000 : Value).ownBlock) (Kd.R_apart' (HO199.out) (Kd.S_typed HO_189000.out) (by decide)) (fun k_ hk => ⟨hk.1.2, hk.2⟩))).1 k_ hk_.symm) ?aF ?aO ?aB ?aS ?aL ?_; (case aP => exact k193_mkM _ _ _ (⟨(⟨(⟨a1_1, a1_2⟩ : S49), (rd_T51 l0 (rd t192 x33_1)).f1⟩ : S51), y197⟩ : S193) (Kd.R_mono (Kd.R_tight rfl (Kd.R_mono (ok' := fun k_ => ((fun k_ => some k_ ≠ (.slice (some ad195) t192.length co27 : Value).ownBlock)) k_ ∧ some k_ ≠ (u189000 : Value).ownBlock) (Kd.R_apart' (HO199.out) (Kd.S_typed HO_189000.out) (by decide)) (fun k_ hk => ⟨hk.1.2, hk.2⟩))) (fun _ h_ => h_))); (case aB => exact bl_); (case aF => exact (fun k_ hk => Kd.fresh' (Kd.R_lt (by (with_reducible repeat (first | apply Kd.R_alloc | apply Kd.R_drewN | apply Kd.R_drew)); exact HO_31.out)) k_ hk)); (case aO => exact (by (with_reducible repeat (first | apply Kd.S_alloc | apply Kd.S_drewN | apply Kd.S_drew)); exact Kd.S_mono HO_189000.out (fun k_ hk => ⟨hk.1, fun e_ => hk.2 e_⟩))); (case aS => exact bls_); (case aL => have := LMc33.out; omega); intro v201 w40 ho hb hg hat; rw [← Ny200.out] at ho; replace HO_31 := Aside0.mk (Kd.R_over' (by (with_reducible repeat (first | apply Kd.R_alloc | apply Kd.R_drewN | apply Kd.R_drew)); exact HO_31.out) (Kd.S_typed (by (with_reducible repeat (first | apply Kd.S_alloc | apply Kd.S_drewN | apply Kd.S_drew)); exact HO_189000.out)) (by decide) hg); replace BK184 := Aside0.mk (blk_grown (g := gb184) (o := .cells #[.int .i64 a1_0, .int .i64 a1_1, .int .i64 a1_2, .int .i64 a1_3, .int .i64 a1_4, .int .i64 a1_5, .int .i64 a1_6, .int .i64 a1_7, .int .i64 a1_8, .int .i64 a1_9] 56 (0, 0)) (bk_ BK184) hg (Kd.S_ne HO_189000.out BK184.out (by decide))); replace BK188 := Aside0.mk (blk_grown (g := gb188) (o := .cells #[u189000] 190 (0, 0)) (bk_ BK188) hg (Kd.S_ne HO_189000.out BK188.out (by decide))); replace HB := Aside0.mk (hb); have HO202 := Aside0.mk (ho); clear HO_189000; clear HO199; clear ho hb hg hat; obtain ⟨Ao41, co41, eo41⟩ := Kd.S_slice HO202.out; subst eo41; have hcz42 := blk_cell BK188.out; have hfz42 := blk_frozen BK188.out))
      go_roundg k1
      case measure => have := HK1.out; omega
      case rel => exact ⟨(wrap64 (x33_1 + 1)), (y200), (.slice Ao41 y200.length co41), rf_, H', ⟨by have := HK1.out; omega⟩, ⟨by (with_reducible repeat (first | apply Kd.R_alloc | apply Kd.R_drewN | apply Kd.R_drew)); exact Kd.R_mono (Kd.R_far (p := ⟨gb188, 0, none⟩) (Kd.R_types HO_31.out BK188.out (by decide)) (fun _ hk => hk.2) (.slice Ao41 y200.length co41)) (fun _ hk => trivial)⟩, ⟨by (with_reducible repeat (first | apply Kd.S_alloc | apply Kd.S_drewN | apply Kd.S_drew)); exact Kd.S_mono (Kd.S_far (p := ⟨gb188, 0, none⟩) (Kd.S_types HO202.out BK188.out (by decide)) (fun _ hk => hk.2) (.slice Ao41 y200.length co41)) (fun _ hk => hk.1)⟩, ⟨bk_ BK184⟩, ⟨bk_ BK188⟩, ⟨bl_⟩⟩
     ·rw [if_neg c28] at H
      have c28b0 : decide (x33_1 < (t192.length : Int)) = false := decide_eq_false c28
      clear c28
      obtain rfl := Option.some.inj H
      have hnb43 := NB188_184.out
      have hnc43 := NB184_188.out
      have hcz44 := blk_cell BK188.out
      have hfz44 := blk_frozen BK188.out
      go_wp2
      go_ret
      exact ⟨_, eq_, by (with_reducible repeat (first | apply Kd.S_alloc | apply Kd.S_drewN | apply Kd.S_drew)); exact Kd.S_mono HO_189000.out (fun _ hk => trivial), bl_⟩
  ·rw [if_neg c16] at H
   have c16b0 : (a1_0 == 2) = false := beq_eq_false_iff_ne.mpr c16
   have c16b1 : (a1_0 != 2) = true := bne_iff_ne.mpr c16
   by_cases c45 : a1_0 = 3
   ·rw [if_pos c45] at H
    have c45b0 : (a1_0 == 3) = true := beq_iff_eq.mpr c45
    have c45b1 : (a1_0 != 3) = false := bne_eq_false_iff_eq.mpr c45
    clear c45
    obtain ⟨t203, A46, H⟩ := bindE_ H
    have H' := Aside0.mk H
    clear H
    go_enter Try.func169, Try.ntmps169
    go_wp2_with (first | (go_at_call 203; go_in) | (go_end0; simp only []; go_at_K) | ((with_reducible refine gate_dst (N := 3) rfl ?_); refine box_event ?hg (N := 3) ?hd (cs := #[.int .i64 a1_0, .int .i64 a1_1, .int .i64 a1_2, .int .i64 a1_3, .int .i64 a1_4, .int .i64 a1_5, .int .i64 a1_6, .int .i64 a1_7, .int .i64 a1_8, .int .i64 a1_9]) (t := 56) ?hr ?_; (case hd => rfl); (case hg => rfl); (case hr => first | (go_simp; done) | (go_simp; rfl)); intro gb184 hg w47 hbox hb; have BK184 := Aside0.mk (hbox); have GW184 := gs_ hg; have GE184 := gs_ hg; replace HB := hbs_ hb; clear hb hbox hg) | ((with_reducible refine gate_dst (N := 16) rfl ?_); refine Kd.S_lit k193 _ 193 ?hg (N := 16) ?hd (xs := ([] : List (S193))) (inner := []) (ok := fun _ => True) (okp := fun _ => True) ?hr ?hp (fun _ hk => hk) trivial (Below.refl _ _) (Nat.le_refl _) (by simp) ?_; (case hd => rfl); (case hg => rfl); (case hr => first | (go_simp; done) | (go_simp; rfl)); (case hp => exact (Reps.none _ _)); intro v186 w48 ho49 hb hg_ hnew_; clear hg_ hnew_; (first | rw [← Ny185.out] at ho49 | (simp only [Int.reduceToNat] at ho49; rw [← Ny185.out] at ho49)); have HO187 := Aside0.mk (Kd.S_lower ho49 bls_); replace BK184 := bkb_ BK184 hb; replace HB := hbs_ hb; clear hb ho49) | ((with_reducible refine gate_dst (N := 5) rfl ?_); refine box_event ?hg (N := 5) ?hd (cs := #[.slice none 0 0]) (t := 190) ?hr ?_; (case hd => rfl); (case hg => rfl); (case hr => first | (go_simp; done) | (go_simp; rfl)); intro gb188 hg w50 hbox hb; replace HO187 := Aside0.mk (Kd.S_below (by (with_reducible repeat (first | apply Kd.S_alloc | apply Kd.S_drewN | apply Kd.S_drew)); exact HO187.out) hb); have BK188 := Aside0.mk (hbox); have GW188 := gs_ hg; have GE188 := gs_ hg; replace HB := hbs_ hb; have NB184_188 := nl_ hg BK184; have NB188_184 := nr_ hg BK184; replace BK184 := bkb_ BK184 hb; clear hb hbox hg; obtain ⟨Ao51, co51, eo51⟩ := Kd.S_slice HO187.out; subst eo51; have hnb52 := NB188_184.out; have hnc52 := NB184_188.out; have hcz53 := blk_cell BK188.out; have hfz53 := blk_frozen BK188.out; have hcz54 := blk_cell BK184.out; have hfz54 := blk_frozen BK184.out) | ((with_reducible refine gate_callee (f := 204) rfl ?_); refine goesC_ (some 52) Try.func204 #[.slice A0 l0.length c0, .agg #[.int .i64 a1_4, .int .i64 a1_5]] ?_; (with_reducible refine (impl_whoOf.calls k _ _ l0 a1_4 a1_5 t203 _ ?side1 ?side2 A46.out).mono ?_); (case side1 => exact Kd.C_below HR0.out bl_); (case side2 => exact HC0.out); rintro e w55 ⟨v204, rfl, ho0, hb⟩; refine ⟨_, rfl, ?_⟩; replace HO187 := Aside0.mk (Kd.S_elder' (by (with_reducible repeat (first | apply Kd.S_alloc | apply Kd.S_drewN | apply Kd.S_drew)); exact (Kd.S_mono (Kd.S_far (p := ⟨gb188, 0, none⟩) (Kd.S_types HO187.out BK188.out (by decide)) (fun _ hk => hk.2) (.slice Ao51 y185.length co51)) (fun _ h_ => h_.1))) (Kd.R_base ho0) hb); have HO205 := Aside0.mk (Kd.R_lower ho0 bls_); replace BK184 := Aside0.mk (blk_below (g := gb184) (o := .cells #[.int .i64 a1_0, .int .i64 a1_1, .int .i64 a1_2, .int .i64 a1_3, .int .i64 a1_4, .int .i64 a1_5, .int .i64 a1_6, .int .i64 a1_7, .int .i64 a1_8, .int .i64 a1_9] 56 (0, 0)) (bk_ BK184) hb); replace BK188 := Aside0.mk (blk_below (g := gb188) (o := .cells #[.slice Ao51 y185.length co51] 190 (0, 0)) (bk_ BK188) hb); replace HB := hbs_ hb; (try clear hb); (try clear hb2); (try clear hk); (try clear hi); (try clear ho0); obtain ⟨Ao56, co56, eo56⟩ := Kd.R_slice HO205.out; subst eo56))
    go_loopg [54] k (fun kq v54 w' => ∃ (x54_1 : Int) (x189000_1 : List (S193)) (u189000 : Value), v54 = .int .i64 x54_1 ∧ Aside0 (impl_derive.l1 kq l0 t203 (t203.length : Int) x54_1 a1_0 a1_1 a1_2 a1_3 a1_4 a1_5 a1_6 a1_7 a1_8 a1_9 x189000_1 = some r) ∧ Aside0 (kq ≤ k) ∧ Aside0 (Kd.R (Kd.int .i64) 3 w' w.heap.size (fun _ => True) (.slice Ao56 t203.length co56) t203) ∧ Aside0 (Kd.S k193 193 w' w.heap.size (fun k_ => some k_ ≠ ((.slice Ao56 t203.length co56) : Value).ownBlock) u189000 x189000_1) ∧ Aside0 (w'.heap[gb184]? = some (.cells #[.int .i64 a1_0, .int .i64 a1_1, .int .i64 a1_2, .int .i64 a1_3, .int .i64 a1_4, .int .i64 a1_5, .int .i64 a1_6, .int .i64 a1_7, .int .i64 a1_8, .int .i64 a1_9] 56 (0, 0))) ∧ Aside0 (w'.heap[gb188]? = some (.cells #[u189000] 190 (0, 0))) ∧ Aside0 (Below w.heap.size w w'))
    case atStart => exact ⟨(0), (y185), (.slice Ao51 y185.length co51), rf_, H', ⟨Nat.le_refl _⟩, ⟨by (with_reducible repeat (first | apply Kd.R_alloc | apply Kd.R_drewN | apply Kd.R_drew)); exact HO205.out⟩, ⟨by (with_reducible repeat (first | apply Kd.S_alloc | apply Kd.S_drewN | apply Kd.S_drew)); exact Kd.S_mono HO187.out (fun _ hk => hk.2)⟩, ⟨bk_ BK184⟩, ⟨bk_ BK188⟩, ⟨bl_⟩⟩
    case round =>
     clear H'
     try clear c1
     try clear p1
     try clear q1
     try clear hx1
     try clear c2
     try clear p2
     try clear c3
     try clear c3b0
     try clear c3b1
     try clear c4
     try clear c5
     try clear p6
     try clear c10
     try clear c16
     try clear c16b0
     try clear c16b1
     try clear p19
     try clear q19
     try clear hx19
     try clear c20
     try clear c23
     try clear c28
     try clear c28b0
     try clear c29
     try clear c29b0
     try clear c30
     try clear c30b0
     try clear c31
     try clear c31b0
     try clear c32
     try clear c32b0
     try clear c33
     try clear c36
     try clear c43
     try clear c45
     try clear c45b0
     try clear c45b1
     try clear c52
     try clear hcz11
     try clear hcz12
     try clear hcz15
     try clear hcz24
     try clear hcz25
     try clear hcz37
     try clear hcz38
     try clear hcz42
     try clear hcz44
     try clear hcz53
     try clear hcz54
     try clear hfz11
     try clear hfz12
     try clear hfz15
     try clear hfz24
     try clear hfz25
     try clear hfz37
     try clear hfz38
     try clear hfz42
     try clear hfz44
     try clear hfz53
     try clear hfz54
     try clear hx195_0
     try clear hx196_0
     try clear hx196_1
     try clear hx196_2
     try clear p195
     try clear p196
     try clear p2
     try clear q195
     try clear q196
     obtain ⟨x54_1, x189000_1, u189000, rfl, HA, HK1, HO_52, HO_189000, BK184, BK188, HB⟩ := hrel
     cases gk with
     | zero => exact absurd HA.out (by simp [impl_derive.l1])
     | succ k1 =>
      have H := HA.out
      clear HA
      simp only [impl_derive.l1] at H
      by_cases c57 : x54_1 < (t203.length : Int)
      ·rw [if_pos c57] at H
       have c57b0 : decide (x54_1 < (t203.length : Int)) = true := decide_eq_true c57
       clear c57
       obtain ⟨c58b0, H⟩ := ifd_ H
       obtain ⟨c59b0, H⟩ := ifd_ H
       obtain ⟨c60b0, H⟩ := ifd_ H
       obtain ⟨c61b0, H⟩ := ifd_ H
       obtain ⟨t208, A62, H⟩ := bindE_ H
       have H' := Aside0.mk H
       clear H
       have p206 : 0 ≤ (x54_1 : Int) := od_
       have q206 : x54_1 < (t203.length : Int) := od_
       obtain ⟨ad206, e206, hx206_0⟩ := Kd.at_int (Kd.R_reads' HO_52.out).2.2 x54_1 p206 q206
       cases e206
       replace p206 := eq_true p206
       replace q206 := eq_true q206
       try go_wp2
       replace HO_52 := Aside0.mk (Kd.R_drew HO_52.out)
       replace HO_189000 := Aside0.mk (Kd.S_drew HO_189000.out)
       replace BK184 := Aside0.mk (blk_drew BK184.out)
       replace BK188 := Aside0.mk (blk_drew BK188.out)
       replace HB := Aside0.mk (below_drew1 HB.out)
       have p207 : 0 ≤ ((rd t203 x54_1) : Int) := od_
       have q207 : (rd t203 x54_1) < (l0.length : Int) := od_
       obtain ⟨ad207, e207, hx207_0, hx207_1, hx207_2⟩ := at_T51 HR0.out (rd t203 x54_1) p207 q207
       have hw207_2 := hx207_2
       have hw207_1 := hx207_1
       have hw207_0 := hx207_0
       cases e207
       replace hx207_0 := cb_ HB hx207_0
       replace hx207_1 := cb_ HB hx207_1
       replace hx207_2 := cb_ HB hx207_2
       replace p207 := eq_true p207
       replace q207 := eq_true q207
       refine start_ (n := 13) (S := fun w' => w'.cell? ⟨gb184, 0, none⟩ = some (.int .i64 a1_0) ∧ w'.cell? ⟨gb184, 1, none⟩ = some (.int .i64 a1_1) ∧ w'.cell? ⟨gb184, 2, none⟩ = some (.int .i64 a1_2) ∧ w'.cell? ⟨gb184, 3, none⟩ = some (.int .i64 a1_3) ∧ w'.cell? ⟨gb184, 4, none⟩ = some (.int .i64 a1_4) ∧ w'.cell? ⟨gb184, 5, none⟩ = some (.int .i64 a1_5) ∧ w'.cell? ⟨gb184, 6, none⟩ = some (.int .i64 a1_6) ∧ w'.cell? ⟨gb184, 7, none⟩ = some (.int .i64 a1_7) ∧ w'.cell? ⟨gb184, 8, none⟩ = some (.int .i64 a1_8) ∧ w'.cell? ⟨gb184, 9, none⟩ = some (.int .i64 a1_9) ∧ w'.cell? (ad207.add (((rd t203 x54_1)).toNat * 3)) = some (.int .i64 ((rd_T51 l0 (rd t203 x54_1)).f0.f0)) ∧ w'.cell? ⟨(ad207.add (((rd t203 x54_1)).toNat * 3)).block, (ad207.add (((rd t203 x54_1)).toNat * 3)).off + 1, none⟩ = some (.int .i64 ((rd_T51 l0 (rd t203 x54_1)).f0.f1)) ∧ w'.cell? ⟨(ad207.add (((rd t203 x54_1)).toNat * 3)).block, (ad207.add (((rd t203 x54_1)).toNat * 3)).off + 2, none⟩ = some (.int .i64 ((rd_T51 l0 (rd t203 x54_1)).f1))) (ds := []) #[false, false, false, false, false, false, false, false, false, false, false, false, false] (by kernel_rfl) rfl rfl ⟨(blk_cell BK184.out 0).trans rfl, (blk_cell BK184.out 1).trans rfl, (blk_cell BK184.out 2).trans rfl, (blk_cell BK184.out 3).trans rfl, (blk_cell BK184.out 4).trans rfl, (blk_cell BK184.out 5).trans rfl, (blk_cell BK184.out 6).trans rfl, (blk_cell BK184.out 7).trans rfl, (blk_cell BK184.out 8).trans rfl, (blk_cell BK184.out 9).trans rfl, ((HB.out.cell (World.block_lt_of_cell? w _ hw207_0)).trans hw207_0), ((HB.out.cell (World.block_lt_of_cell? w _ hw207_1)).trans hw207_1), ((HB.out.cell (World.block_lt_of_cell? w _ hw207_2)).trans hw207_2)⟩ (fun hHeld => ?_); refine with_tabW impl_derive.tab16 impl_derive.bits16 (fun HT_ HW_ => ?_)
       generalize wr.drew = w63 at HO_52 HO_189000 BK184 BK188 HB hx207_0 hx207_1 hx207_2 hHeld ⊢
       refine pureZ_ (i := 0) (some 58) #[true, false, false, false, false, false, false, false, false, false, false, false, false] (any_of HT_.out (by kernel_rfl)) ?_
       refine pureZ_ (i := 1) (some 59) #[true, true, false, false, false, false, false, false, false, false, false, false, false] (any_of HT_.out (by kernel_rfl)) ?_
       refine pureZ_ (i := 2) (some 60) #[true, true, true, false, false, false, false, false, false, false, false, false, false] (any_of HT_.out (by kernel_rfl)) ?_
       refine pureZ_ (i := 3) (some 61) #[true, true, true, true, false, false, false, false, false, false, false, false, false] (any_of HT_.out (by kernel_rfl)) ?_
       refine pureZ_ (i := 4) (some 62) #[true, true, true, true, true, false, false, false, false, false, false, false, false] (any_of HT_.out (by kernel_rfl)) ?_
       refine pureZ_ (i := 6) (some 64) #[true, true, true, true, true, false, true, false, false, false, false, false, false] (any_of HT_.out (by kernel_rfl)) ?_
       refine pureZ_ (i := 7) (some 65) #[true, true, true, true, true, false, true, true, false, false, false, false, false] (any_of HT_.out (by kernel_rfl)) ?_
       refine pureZ_ (i := 12) (some 70) #[true, true, true, true, true, false, true, true, false, false, false, false, true] (any_of HT_.out (by kernel_rfl)) ?_
       refine takeZ_ (i := 5) (some 63) #[true, true, true, true, true, true, true, true, false, false, false, false, true] (take_ofW HT_.out HW_.out (by kernel_rfl)) hHeld ?_
       refine takeZ_ (i := 8) (some 66) #[true, true, true, true, true, true, true, true, true, false, false, false, true] (take_ofW HT_.out HW_.out (by kernel_rfl)) hHeld ?_
       refine pureZ_ (i := 9) (some 67) #[true, true, true, true, true, true, true, true, true, true, false, false, true] (any_of HT_.out (by kernel_rfl)) ?_
       refine one_ (i := 10) (N := some 68) #[true, true, true, true, true, true, true, true, true, true, true, false, true] rfl rfl (one_of HT_.out (by kernel_rfl)) (by decide) (fun K hK => ?_)
       refine goes_ Try.func204 (by kernel_rfl) rfl #[.slice (some ad207) l0.length c0, .agg #[.int .i64 ((rd_T51 l0 (rd t203 x54_1)).f1), .int .i64 a1_7]] (by rfl) rfl rfl (by (try simp only [List.map_toArray, List.map_cons, List.map_nil]); first | done | rfl | (simp only [List.length_drop, List.length_take]; rfl)) ?_
       with_reducible refine (impl_whoOf.calls k1 _ _ l0 ((rd_T51 l0 (rd t203 x54_1)).f1) a1_7 t208 _ ?side1 ?side2 A62.out).mono ?_
       (case side1 => repeat (first | exact (Kd.C_below HR0.out HB.out) | (with_reducible refine Kd.C_alloc ?_ _) | (with_reducible refine Kd.C_drewN ?_ _) | (with_reducible refine Kd.C_drew ?_)))
       (case side2 => exact HC0.out)
       rintro e w64 ⟨v209, rfl, ho0, hb⟩
       refine ⟨_, rfl, ?_⟩
       replace HO_189000 := Aside0.mk (Kd.S_elder' (by (with_reducible repeat (first | apply Kd.S_alloc | apply Kd.S_drewN | apply Kd.S_drew)); exact HO_189000.out) (Kd.R_base ho0) hb)
       have HO210 := Aside0.mk (Kd.R_lower (Kd.R_new' ho0 (Kd.R_lt (by (with_reducible repeat (first | apply Kd.R_alloc | apply Kd.R_drewN | apply Kd.R_drew)); exact HO_52.out))) bls_)
       replace HO_52 := Aside0.mk (Kd.R_elder' (by (with_reducible repeat (first | apply Kd.R_alloc | apply Kd.R_drewN | apply Kd.R_drew)); exact HO_52.out) (Kd.R_base ho0) hb)
       replace BK184 := bkb_ BK184 hb
       replace BK188 := bkb_ BK188 hb
       replace HB := hbs_ hb
       (try clear hb)
       (try clear hb2)
       (try clear hk)
       (try clear hi)
       (try clear ho0)
       obtain ⟨Ao65, co65, eo65⟩ := Kd.R_slice HO210.out
       (first | subst eo65 | (injection eo65 with f1_ f2_ f3_; have f4_ := f1_.symm; have f5_ := f3_.symm; clear f1_ f2_ f3_; subst f4_; subst f5_))
       refine hK.out _ _ ⟨(blk_cell BK184.out 0).trans rfl, (blk_cell BK184.out 1).trans rfl, (blk_cell BK184.out 2).trans rfl, (blk_cell BK184.out 3).trans rfl, (blk_cell BK184.out 4).trans rfl, (blk_cell BK184.out 5).trans rfl, (blk_cell BK184.out 6).trans rfl, (blk_cell BK184.out 7).trans rfl, (blk_cell BK184.out 8).trans rfl, (blk_cell BK184.out 9).trans rfl, ((HB.out.cell (World.block_lt_of_cell? w _ hw207_0)).trans hw207_0), ((HB.out.cell (World.block_lt_of_cell? w _ hw207_1)).trans hw207_1), ((HB.out.cell (World.block_lt_of_cell? w _ hw207_2)).trans hw207_2)⟩ (fun hHeld => ?_)
       clear hK K
       refine norm_ (a' := ?_) ?_ ?_
       rotate_left
       ·show Act.put _ (some 68) _ = _
        simp only [Act.put, List.setIfInBounds_toArray, List.set_cons_zero, List.set_cons_succ, i64_w, i32_w]
        rfl
       refine pureZ_ (i := 11) (some 69) #[true, true, true, true, true, true, true, true, true, true, true, true, true] (any_of HT_.out (by kernel_rfl)) ?_
       refine done_ (done_of HT_.out (by kernel_rfl)) ?_
       try go_wp2
       go_loopg [70] k1 (fun kq v70 w' => ∃ (x70_2 : Int) (x189000_2 : List (S193)) (u189000 : Value), v70 = .int .i64 x70_2 ∧ Aside0 (impl_derive.l2 kq l0 (rd t203 x54_1) t203 (t203.length : Int) x54_1 t208 (t208.length : Int) x70_2 a1_0 a1_1 a1_2 a1_3 a1_4 a1_5 a1_6 a1_7 a1_8 a1_9 x189000_2 = some r) ∧ Aside0 (kq ≤ k1) ∧ Aside0 (Kd.R (Kd.int .i64) 3 w' w.heap.size (fun k_ => some k_ ≠ ((.slice Ao65 t208.length co65) : Value).ownBlock) (.slice (some ad206) t203.length co56) t203) ∧ Aside0 (Kd.R (Kd.int .i64) 3 w' w.heap.size (fun k_ => some k_ ≠ ((.slice (some ad206) t203.length co56) : Value).ownBlock) (.slice Ao65 t208.length co65) t208) ∧ Aside0 (Kd.S k193 193 w' w.heap.size (fun k_ => some k_ ≠ ((.slice (some ad206) t203.length co56) : Value).ownBlock ∧ some k_ ≠ ((.slice Ao65 t208.length co65) : Value).ownBlock) u189000 x189000_2) ∧ Aside0 (w'.heap[gb184]? = some (.cells #[.int .i64 a1_0, .int .i64 a1_1, .int .i64 a1_2, .int .i64 a1_3, .int .i64 a1_4, .int .i64 a1_5, .int .i64 a1_6, .int .i64 a1_7, .int .i64 a1_8, .int .i64 a1_9] 56 (0, 0))) ∧ Aside0 (w'.heap[gb188]? = some (.cells #[u189000] 190 (0, 0))) ∧ Aside0 (Below w.heap.size w w'))
       case atStart => exact ⟨(0), (x189000_1), (u189000), rf_, H', ⟨Nat.le_refl _⟩, ⟨by (with_reducible repeat (first | apply Kd.R_alloc | apply Kd.R_drewN | apply Kd.R_drew)); exact Kd.R_mono HO_52.out (fun _ hk => hk.2)⟩, ⟨by (with_reducible repeat (first | apply Kd.R_alloc | apply Kd.R_drewN | apply Kd.R_drew)); exact Kd.R_mono HO210.out (fun _ hk => hk.2)⟩, ⟨by (with_reducible repeat (first | apply Kd.S_alloc | apply Kd.S_drewN | apply Kd.S_drew)); exact HO_189000.out⟩, ⟨bk_ BK184⟩, ⟨bk_ BK188⟩, ⟨bl_⟩⟩
       case round =>
        clear H'
        try clear c1
        try clear p1
        try clear q1
        try clear hx1
        try clear c2
        try clear p2
        try clear q2
        try clear hx2
        try clear c3
        try clear c3b0
        try clear c3b1
        try clear c4
        try clear c5
        try clear c6
        try clear p6
        try clear c10
        try clear c16
        try clear c16b0
        try clear c16b1
        try clear p19
        try clear q19
        try clear hx19
        try clear c20
        try clear p20
        try clear q20
        try clear hx20
        try clear c23
        try clear c28
        try clear c28b0
        try clear c29
        try clear c29b0
        try clear c30
        try clear c30b0
        try clear c31
        try clear c31b0
        try clear c32
        try clear c32b0
        try clear c33
        try clear c36
        try clear c43
        try clear c45
        try clear c45b0
        try clear c45b1
        try clear c52
        try clear c57
        try clear c57b0
        try clear c58
        try clear c58b0
        try clear c59
        try clear c59b0
        try clear c60
        try clear c60b0
        try clear c61
        try clear c61b0
        try clear p64
        try clear hcz11
        try clear hcz12
        try clear hcz15
        try clear hcz24
        try clear hcz25
        try clear hcz37
        try clear hcz38
        try clear hcz42
        try clear hcz44
        try clear hcz53
        try clear hcz54
        try clear hfz11
        try clear hfz12
        try clear hfz15
        try clear hfz24
        try clear hfz25
        try clear hfz37
        try clear hfz38
        try clear hfz42
        try clear hfz44
        try clear hfz53
        try clear hfz54
        try clear hx195_0
        try clear hx196_0
        try clear hx196_1
        try clear hx196_2
        try clear hx206_0
        try clear hx207_0
        try clear hx207_1
        try clear hx207_2
        try clear p1
        try clear p19
        try clear p195
        try clear p196
        try clear p2
        try clear p206
        try clear p207
        try clear p6
        try clear q1
        try clear q19
        try clear q195
        try clear q196
        try clear q206
        try clear q207
        obtain ⟨x70_2, x189000_2, u189000, rfl, HA, HK2, HO_52, HO_68, HO_189000, BK184, BK188, HB⟩ := hrel
        cases gk with
        | zero => exact absurd HA.out (by simp [impl_derive.l2])
        | succ k2 =>
         have H := HA.out
         clear HA
         simp only [impl_derive.l2] at H
         by_cases c66 : x70_2 < (t208.length : Int)
         ·rw [if_pos c66] at H
          have c66b0 : decide (x70_2 < (t208.length : Int)) = true := decide_eq_true c66
          clear c66
          obtain ⟨c67b0, H⟩ := ifd_ H
          obtain ⟨c68b0, H⟩ := ifd_ H
          obtain ⟨c69b0, H⟩ := ifd_ H
          obtain ⟨c70b0, H⟩ := ifd_ H
          obtain ⟨y213, hy213⟩ : ∃ y_ : List Int, y_ = (([(rd t203 x54_1), rd t208 x70_2] : List Int)) := ⟨_, rfl⟩
          replace H : (if x189000_2.length < 2932031007402 then (impl_derive.l2 k2 l0 (rd t203 x54_1) t203 (t203.length : Int) x54_1 t208 (t208.length : Int) (wrap64 (x70_2 + 1)) a1_0 a1_1 a1_2 a1_3 a1_4 a1_5 a1_6 a1_7 a1_8 a1_9 (x189000_2 ++ [(⟨(⟨(⟨a1_1, a1_2⟩ : S49), (rd_T51 l0 (rd t208 x70_2)).f1⟩ : S51), y213⟩ : S193)])) else (none)) = some r := by first | (rw [hy213]; with_reducible exact H) | (have H2_ := (Option.bind_some _ _).symm.trans H; rw [hy213]; with_reducible exact H2_) | (have H2_ := (Option.bind_some _ _).symm.trans H; with_reducible exact H2_) | with_reducible exact H | (rw [hy213]; exact H) | exact H
          have Ny213 := Aside0.mk hy213
          clear hy213
          obtain ⟨c71, H⟩ := ifn_ H
          have LMc71 := Aside0.mk c71
          clear c71
          obtain ⟨y216, hy216⟩ : ∃ y_ : List (S193), y_ = (x189000_2 ++ [(⟨(⟨(⟨a1_1, a1_2⟩ : S49), (rd_T51 l0 (rd t208 x70_2)).f1⟩ : S51), y213⟩ : S193)]) := ⟨_, rfl⟩
          replace H : (impl_derive.l2 k2 l0 (rd t203 x54_1) t203 (t203.length : Int) x54_1 t208 (t208.length : Int) (wrap64 (x70_2 + 1)) a1_0 a1_1 a1_2 a1_3 a1_4 a1_5 a1_6 a1_7 a1_8 a1_9 y216) = some r := by first | (rw [hy216]; with_reducible exact H) | (have H2_ := (Option.bind_some _ _).symm.trans H; rw [hy216]; with_reducible exact H2_) | (have H2_ := (Option.bind_some _ _).symm.trans H; with_reducible exact H2_) | with_reducible exact H | (rw [hy216]; exact H) | exact H
          have Ny216 := Aside0.mk hy216
          clear hy216
          have H' := Aside0.mk H
          clear H
          have p211 : 0 ≤ (x70_2 : Int) := od_
          have q211 : x70_2 < (t208.length : Int) := od_
          obtain ⟨ad211, e211, hx211_0⟩ := Kd.at_int (Kd.R_reads' HO_68.out).2.2 x70_2 p211 q211
          cases e211
          replace p211 := eq_true p211
          replace q211 := eq_true q211
          have p212 : 0 ≤ ((rd t208 x70_2) : Int) := od_
          have q212 : (rd t208 x70_2) < (l0.length : Int) := od_
          obtain ⟨ad212, e212, hx212_0, hx212_1, hx212_2⟩ := at_T51 HR0.out (rd t208 x70_2) p212 q212
          obtain rfl : ad207 = ad212 := (by injection e212)
          replace hx212_0 := cb_ HB hx212_0
          replace hx212_1 := cb_ HB hx212_1
          replace hx212_2 := cb_ HB hx212_2
          replace p212 := eq_true p212
          replace q212 := eq_true q212
          go_wp2_with (first | (go_at_call 203; go_in) | (go_end0; simp only []; go_at_K) | ((with_reducible refine gate_dst (N := 82) rfl ?_); refine Kd.R_lit (Kd.int .i64) _ 3 ?hg (N := 82) ?hd (xs := ([(rd t203 x54_1), rd t208 x70_2] : List Int)) (inner := [.int .i64 (rd t203 x54_1), .int .i64 (rd t208 x70_2)]) (ok := fun _ => True) (okp := fun _ => True) ?hr ?hp (fun _ hk => hk) trivial (Below.refl _ _) (Nat.le_refl _) (by simp) ?_; (case hd => rfl); (case hg => rfl); (case hr => first | (go_simp; done) | (go_simp; rfl)); (case hp => exact (Reps.one (show Kd.M (Kd.int .i64) _ _ _ (rd t203 x54_1) [.int .i64 (rd t203 x54_1)] from rfl) (Reps.one (show Kd.M (Kd.int .i64) _ _ _ (rd t208 x70_2) [.int .i64 (rd t208 x70_2)] from rfl) (Reps.none _ _)))); intro v214 w72 ho73 hb hg_ hnew_; clear hg_ hnew_; (first | rw [← Ny213.out] at ho73 | (simp only [Int.reduceToNat] at ho73; rw [← Ny213.out] at ho73)); replace HO_189000 := Aside0.mk (Kd.S_elder' (by (with_reducible repeat (first | apply Kd.S_alloc | apply Kd.S_drewN | apply Kd.S_drew)); exact HO_189000.out) (Kd.R_base ho73) hb); have HO215 := Aside0.mk (Kd.R_lower (Kd.R_new' (Kd.R_new' ho73 (Kd.R_lt (by (with_reducible repeat (first | apply Kd.R_alloc | apply Kd.R_drewN | apply Kd.R_drew)); exact HO_52.out))) (Kd.R_lt (by (with_reducible repeat (first | apply Kd.R_alloc | apply Kd.R_drewN | apply Kd.R_drew)); exact HO_68.out))) bls_); replace HO_52 := Aside0.mk (Kd.R_elder' (by (with_reducible repeat (first | apply Kd.R_alloc | apply Kd.R_drewN | apply Kd.R_drew)); exact HO_52.out) (Kd.R_base ho73) hb); replace HO_68 := Aside0.mk (Kd.R_elder' (by (with_reducible repeat (first | apply Kd.R_alloc | apply Kd.R_drewN | apply Kd.R_drew)); exact HO_68.out) (Kd.R_base ho73) hb); replace BK184 := bkb_ BK184 hb; replace BK188 := bkb_ BK188 hb; replace HB := hbs_ hb; clear hb ho73; have hnb74 := NB188_184.out; have hnc74 := NB184_188.out; have hcz75 := blk_cell BK188.out; have hfz75 := blk_frozen BK188.out; have hcz76 := blk_cell BK184.out; have hfz76 := blk_frozen BK184.out; obtain ⟨Ao77, co77, eo77⟩ := Kd.R_slice HO215.out; subst eo77) | ((with_reducible refine gate_builtin (b := .append) (xs := #[.tmp 6, .tmp 13]) rfl ?_); at_builtin; refine Kd.S_append k193 (w0 := w) w.heap.size rfl (.tmp 6) (.tmp 13) 190 193 (.agg #[(.int .i64 0), (.int .i64 0), (.int .i64 0), (.slice none 0 0)]) 48 rfl Try.underlying190 info193 rfl (by decide) (by omega) u189000 x189000_2 (⟨(⟨(⟨a1_1, a1_2⟩ : S49), (rd_T51 l0 (rd t208 x70_2)).f1⟩ : S51), y213⟩ : S193) [.int .i64 a1_1, .int .i64 a1_2, .int .i64 ((rd_T51 l0 (rd t208 x70_2)).f1), .slice Ao77 y213.length co77] (fun k_ => some k_ ≠ (.slice (some ad206) t203.length co56 : Value).ownBlock ∧ some k_ ≠ (.slice (some ad211) t208.length co65 : Value).ownBlock) (fun k_ => some k_ = (.slice Ao77 y213.length co77 : Value).ownBlock) rfl rfl ?aP (fun k_ hk_ => ((Kd.R_mono (ok' := fun k_ => ((fun k_ => some k_ ≠ (.slice (some ad206) t203.length co56 : Value).ownBlock ∧ some k_ ≠ (.slice (some ad211) t208.length co65 : Value).ownBlock)) k_ ∧ some k_ ≠ (u189000 : Value).ownBlock) (Kd.R_apart' (HO215.out) (Kd.S_typed HO_189000.out) (by decide)) (fun k_ hk => ⟨⟨hk.1.1.2, hk.1.2⟩, hk.2⟩))).1 k_ hk_.symm) ?aF ?aO ?aB ?aS ?aL ?_; (case aP => exact k193_mkM _ _ _ (⟨(⟨(⟨a1_1, a1_2⟩ : S49), (rd_T51 l0 (rd t208 x70_2)).f1⟩ : S51), y213⟩ : S193) (Kd.R_mono (Kd.R_tight rfl (Kd.R_mono (ok' := fun k_ => ((fun k_ => some k_ ≠ (.slice (some ad206) t203.length co56 : Value).ownBlock ∧ some k_ ≠ (.slice (some ad211) t208.length co65 : Value).ownBlock)) k_ ∧ some k_ ≠ (u189000 : Value).ownBlock) (Kd.R_apart' (HO215.out) (Kd.S_typed HO_189000.out) (by decide)) (fun k_ hk => ⟨⟨hk.1.1.2, hk.1.2⟩, hk.2⟩))) (fun _ h_ => h_))); (case aB => exact bl_); (case aF => exact (fun k_ hk => ⟨Kd.fresh' (Kd.R_lt (by (with_reducible repeat (first | apply Kd.R_alloc | apply Kd.R_drewN | apply Kd.R_drew)); exact HO_52.out)) k_ hk, Kd.fresh' (Kd.R_lt (by (with_reducible repeat (first | apply Kd.R_alloc | apply Kd.R_drewN | apply Kd.R_drew)); exact HO_68.out)) k_ hk⟩)); (case aO => exact (by (with_reducible repeat (first | apply Kd.S_alloc | apply Kd.S_drewN | apply Kd.S_drew)); exact Kd.S_mono HO_189000.out (fun k_ hk => ⟨⟨hk.1.1, hk.1.2⟩, fun e_ => hk.2 e_⟩))); (case aS => exact bls_); (case aL => have := LMc71.out; omega); intro v217 w78 ho hb hg hat; rw [← Ny216.out] at ho; replace HO_52 := Aside0.mk (Kd.R_over' (by (with_reducible repeat (first | apply Kd.R_alloc | apply Kd.R_drewN | apply Kd.R_drew)); exact HO_52.out) (Kd.S_typed (by (with_reducible repeat (first | apply Kd.S_alloc | apply Kd.S_drewN | apply Kd.S_drew)); exact HO_189000.out)) (by decide) hg); replace HO_68 := Aside0.mk (Kd.R_over' (by (with_reducible repeat (first | apply Kd.R_alloc | apply Kd.R_drewN | apply Kd.R_drew)); exact HO_68.out) (Kd.S_typed (by (with_reducible repeat (first | apply Kd.S_alloc | apply Kd.S_drewN | apply Kd.S_drew)); exact HO_189000.out)) (by decide) hg); replace BK184 := Aside0.mk (blk_grown (g := gb184) (o := .cells #[.int .i64 a1_0, .int .i64 a1_1, .int .i64 a1_2, .int .i64 a1_3, .int .i64 a1_4, .int .i64 a1_5, .int .i64 a1_6, .int .i64 a1_7, .int .i64 a1_8, .int .i64 a1_9] 56 (0, 0)) (bk_ BK184) hg (Kd.S_ne HO_189000.out BK184.out (by decide))); replace BK188 := Aside0.mk (blk_grown (g := gb188) (o := .cells #[u189000] 190 (0, 0)) (bk_ BK188) hg (Kd.S_ne HO_189000.out BK188.out (by decide))); replace HB := Aside0.mk (hb); have HO218 := Aside0.mk (ho); clear HO_189000; clear HO215; clear ho hb hg hat; obtain ⟨Ao79, co79, eo79⟩ := Kd.S_slice HO218.out; subst eo79; have hcz80 := blk_cell BK188.out; have hfz80 := blk_frozen BK188.out))
          go_roundg k2
          case measure => have := HK1.out; have := HK2.out; omega
          case rel => exact ⟨(wrap64 (x70_2 + 1)), (y216), (.slice Ao79 y216.length co79), rf_, H', ⟨by have := HK1.out; have := HK2.out; omega⟩, ⟨by (with_reducible repeat (first | apply Kd.R_alloc | apply Kd.R_drewN | apply Kd.R_drew)); exact Kd.R_mono (Kd.R_far (p := ⟨gb188, 0, none⟩) (Kd.R_types HO_52.out BK188.out (by decide)) (fun _ hk => hk.2) (.slice Ao79 y216.length co79)) (fun _ hk => hk.1.1)⟩, ⟨by (with_reducible repeat (first | apply Kd.R_alloc | apply Kd.R_drewN | apply Kd.R_drew)); exact Kd.R_mono (Kd.R_far (p := ⟨gb188, 0, none⟩) (Kd.R_types HO_68.out BK188.out (by decide)) (fun _ hk => hk.2) (.slice Ao79 y216.length co79)) (fun _ hk => hk.1.1)⟩, ⟨by (with_reducible repeat (first | apply Kd.S_alloc | apply Kd.S_drewN | apply Kd.S_drew)); exact Kd.S_mono (Kd.S_far (p := ⟨gb188, 0, none⟩) (Kd.S_types HO218.out BK188.out (by decide)) (fun _ hk => hk.2) (.slice Ao79 y216.length co79)) (fun _ hk => ⟨hk.1.1, hk.1.2⟩)⟩, ⟨bk_ BK184⟩, ⟨bk_ BK188⟩, ⟨bl_⟩⟩
         ·rw [if_neg c66] at H
          have c66b0 : decide (x70_2 < (t208.length : Int)) = false := decide_eq_false c66
          clear c66
          have H' := Aside0.mk H
          clear H
          go_wp2
          go_roundg k2
          case measure => have := HK1.out; have := HK2.out; omega
          case rel => exact ⟨(wrap64 (x54_1 + 1)), (x189000_2), (u189000), rf_, H', ⟨by have := HK1.out; have := HK2.out; omega⟩, ⟨by (with_reducible repeat (first | apply Kd.R_alloc | apply Kd.R_drewN | apply Kd.R_drew)); exact Kd.R_mono HO_52.out (fun _ hk => trivial)⟩, ⟨by (with_reducible repeat (first | apply Kd.S_alloc | apply Kd.S_drewN | apply Kd.S_drew)); exact Kd.S_mono HO_189000.out (fun _ hk => hk.1)⟩, ⟨bk_ BK184⟩, ⟨bk_ BK188⟩, ⟨bl_⟩⟩
      ·rw [if_neg c57] at H
       have c57b0 : decide (x54_1 < (t203.length : Int)) = false := decide_eq_false c57
       clear c57
       obtain rfl := Option.some.inj H
       have hnb81 := NB188_184.out
       have hnc81 := NB184_188.out
       have hcz82 := blk_cell BK188.out
       have hfz82 := blk_frozen BK188.out
       go_wp2
       go_ret
       exact ⟨_, eq_, by (with_reducible repeat (first | apply Kd.S_alloc | apply Kd.S_drewN | apply Kd.S_drew)); exact Kd.S_mono HO_189000.out (fun _ hk => trivial), bl_⟩
   ·rw [if_neg c45] at H
    have c45b0 : (a1_0 == 3) = false := beq_eq_false_iff_ne.mpr c45
    have c45b1 : (a1_0 != 3) = true := bne_iff_ne.mpr c45
    by_cases c83 : a1_0 = 4
    ·rw [if_pos c83] at H
     have c83b0 : (a1_0 == 4) = true := beq_iff_eq.mpr c83
     have c83b1 : (a1_0 != 4) = false := bne_eq_false_iff_eq.mpr c83
     clear c83
     obtain ⟨t219, A84, H⟩ := bindE_ H
     have H' := Aside0.mk H
     clear H
     go_enter Try.func169, Try.ntmps169
     go_wp2_with (first | (go_at_call 203; go_in) | (go_end0; simp only []; go_at_K) | ((with_reducible refine gate_dst (N := 3) rfl ?_); refine box_event ?hg (N := 3) ?hd (cs := #[.int .i64 a1_0, .int .i64 a1_1, .int .i64 a1_2, .int .i64 a1_3, .int .i64 a1_4, .int .i64 a1_5, .int .i64 a1_6, .int .i64 a1_7, .int .i64 a1_8, .int .i64 a1_9]) (t := 56) ?hr ?_; (case hd => rfl); (case hg => rfl); (case hr => first | (go_simp; done) | (go_simp; rfl)); intro gb184 hg w85 hbox hb; have BK184 := Aside0.mk (hbox); have GW184 := gs_ hg; have GE184 := gs_ hg; replace HB := hbs_ hb; clear hb hbox hg) | ((with_reducible refine gate_dst (N := 16) rfl ?_); refine Kd.S_lit k193 _ 193 ?hg (N := 16) ?hd (xs := ([] : List (S193))) (inner := []) (ok := fun _ => True) (okp := fun _ => True) ?hr ?hp (fun _ hk => hk) trivial (Below.refl _ _) (Nat.le_refl _) (by simp) ?_; (case hd => rfl); (case hg => rfl); (case hr => first | (go_simp; done) | (go_simp; rfl)); (case hp => exact (Reps.none _ _)); intro v186 w86 ho87 hb hg_ hnew_; clear hg_ hnew_; (first | rw [← Ny185.out] at ho87 | (simp only [Int.reduceToNat] at ho87; rw [← Ny185.out] at ho87)); have HO187 := Aside0.mk (Kd.S_lower ho87 bls_); replace BK184 := bkb_ BK184 hb; replace HB := hbs_ hb; clear hb ho87) | ((with_reducible refine gate_dst (N := 5) rfl ?_); refine box_event ?hg (N := 5) ?hd (cs := #[.slice none 0 0]) (t := 190) ?hr ?_; (case hd => rfl); (case hg => rfl); (case hr => first | (go_simp; done) | (go_simp; rfl)); intro gb188 hg w88 hbox hb; replace HO187 := Aside0.mk (Kd.S_below (by (with_reducible repeat (first | apply Kd.S_alloc | apply Kd.S_drewN | apply Kd.S_drew)); exact HO187.out) hb); have BK188 := Aside0.mk (hbox); have GW188 := gs_ hg; have GE188 := gs_ hg; replace HB := hbs_ hb; have NB184_188 := nl_ hg BK184; have NB188_184 := nr_ hg BK184; replace BK184 := bkb_ BK184 hb; clear hb hbox hg; obtain ⟨Ao89, co89, eo89⟩ := Kd.S_slice HO187.out; subst eo89; have hnb90 := NB188_184.out; have hnc90 := NB184_188.out; have hcz91 := blk_cell BK188.out; have hfz91 := blk_frozen BK188.out; have hcz92 := blk_cell BK184.out; have hfz92 := blk_frozen BK184.out) | ((with_reducible refine gate_callee (f := 204) rfl ?_); refine goesC_ (some 91) Try.func204 #[.slice A0 l0.length c0, .agg #[.int .i64 a1_4, .int .i64 a1_5]] ?_; (with_reducible refine (impl_whoOf.calls k _ _ l0 a1_4 a1_5 t219 _ ?side1 ?side2 A84.out).mono ?_); (case side1 => exact Kd.C_below HR0.out bl_); (case side2 => exact HC0.out); rintro e w93 ⟨v220, rfl, ho0, hb⟩; refine ⟨_, rfl, ?_⟩; replace HO187 := Aside0.mk (Kd.S_elder' (by (with_reducible repeat (first | apply Kd.S_alloc | apply Kd.S_drewN | apply Kd.S_drew)); exact (Kd.S_mono (Kd.S_far (p := ⟨gb188, 0, none⟩) (Kd.S_types HO187.out BK188.out (by decide)) (fun _ hk => hk.2) (.slice Ao89 y185.length co89)) (fun _ h_ => h_.1))) (Kd.R_base ho0) hb); have HO221 := Aside0.mk (Kd.R_lower ho0 bls_); replace BK184 := Aside0.mk (blk_below (g := gb184) (o := .cells #[.int .i64 a1_0, .int .i64 a1_1, .int .i64 a1_2, .int .i64 a1_3, .int .i64 a1_4, .int .i64 a1_5, .int .i64 a1_6, .int .i64 a1_7, .int .i64 a1_8, .int .i64 a1_9] 56 (0, 0)) (bk_ BK184) hb); replace BK188 := Aside0.mk (blk_below (g := gb188) (o := .cells #[.slice Ao89 y185.length co89] 190 (0, 0)) (bk_ BK188) hb); replace HB := hbs_ hb; (try clear hb); (try clear hb2); (try clear hk); (try clear hi); (try clear ho0); obtain ⟨Ao94, co94, eo94⟩ := Kd.R_slice HO221.out; subst eo94))
     go_loopg [93] k (fun kq v93 w' => ∃ (x93_1 : Int) (x189000_1 : List (S193)) (u189000 : Value), v93 = .int .i64 x93_1 ∧ Aside0 (impl_derive.l3 kq l0 t219 (t219.length : Int) x93_1 a1_0 a1_1 a1_2 a1_3 a1_4 a1_5 a1_6 a1_7 a1_8 a1_9 x189000_1 = some r) ∧ Aside0 (kq ≤ k) ∧ Aside0 (Kd.R (Kd.int .i64) 3 w' w.heap.size (fun _ => True) (.slice Ao94 t219.length co94) t219) ∧ Aside0 (Kd.S k193 193 w' w.heap.size (fun k_ => some k_ ≠ ((.slice Ao94 t219.length co94) : Value).ownBlock) u189000 x189000_1) ∧ Aside0 (w'.heap[gb184]? = some (.cells #[.int .i64 a1_0, .int .i64 a1_1, .int .i64 a1_2, .int .i64 a1_3, .int .i64 a1_4, .int .i64 a1_5, .int .i64 a1_6, .int .i64 a1_7, .int .i64 a1_8, .int .i64 a1_9] 56 (0, 0))) ∧ Aside0 (w'.heap[gb188]? = some (.cells #[u189000] 190 (0, 0))) ∧ Aside0 (Below w.heap.size w w'))
     case atStart => exact ⟨(0), (y185), (.slice Ao89 y185.length co89), rf_, H', ⟨Nat.le_refl _⟩, ⟨by (with_reducible repeat (first | apply Kd.R_alloc | apply Kd.R_drewN | apply Kd.R_drew)); exact HO221.out⟩, ⟨by (with_reducible repeat (first | apply Kd.S_alloc | apply Kd.S_drewN | apply Kd.S_drew)); exact Kd.S_mono HO187.out (fun _ hk => hk.2)⟩, ⟨bk_ BK184⟩, ⟨bk_ BK188⟩, ⟨bl_⟩⟩
     case round =>
      clear H'
      try clear c1
      try clear p1
      try clear q1
      try clear hx1
      try clear c2
      try clear p2
      try clear q2
      try clear hx2
      try clear c3
      try clear c3b0
      try clear c3b1
      try clear c4
      try clear c5
      try clear c6
      try clear p6
      try clear c7
      try clear c8
      try clear c9
      try clear c10
      try clear c16
      try clear c16b0
      try clear c16b1
      try clear p19
      try clear q19
      try clear hx19
      try clear c20
      try clear p20
      try clear q20
      try clear hx20
      try clear p21
      try clear q21
      try clear hx21
      try clear c23
      try clear c28
      try clear c28b0
      try clear c29
      try clear c29b0
      try clear c30
      try clear c30b0
      try clear c31
      try clear c31b0
      try clear c32
      try clear c32b0
      try clear c33
      try clear c36
      try clear c43
      try clear c45
      try clear c45b0
      try clear c45b1
      try clear c52
      try clear c57
      try clear c57b0
      try clear c58
      try clear c58b0
      try clear c59
      try clear c59b0
      try clear c60
      try clear c60b0
      try clear c61
      try clear c61b0
      try clear p64
      try clear c66
      try clear c66b0
      try clear c67
      try clear c67b0
      try clear c68
      try clear c68b0
      try clear c69
      try clear c69b0
      try clear c70
      try clear c70b0
      try clear c71
      try clear c74
      try clear c81
      try clear c83
      try clear c83b0
      try clear c83b1
      try clear c90
      try clear hcz11
      try clear hcz12
      try clear hcz15
      try clear hcz24
      try clear hcz25
      try clear hcz37
      try clear hcz38
      try clear hcz42
      try clear hcz44
      try clear hcz53
      try clear hcz54
      try clear hcz75
      try clear hcz76
      try clear hcz80
      try clear hcz82
      try clear hcz91
      try clear hcz92
      try clear hfz11
      try clear hfz12
      try clear hfz15
      try clear hfz24
      try clear hfz25
      try clear hfz37
      try clear hfz38
      try clear hfz42
      try clear hfz44
      try clear hfz53
      try clear hfz54
      try clear hfz75
      try clear hfz76
      try clear hfz80
      try clear hfz82
      try clear hfz91
      try clear hfz92
      try clear hx195_0
      try clear hx196_0
      try clear hx196_1
      try clear hx196_2
      try clear hx206_0
      try clear hx207_0
      try clear hx207_1
      try clear hx207_2
      try clear hx211_0
      try clear hx212_0
      try clear hx212_1
      try clear hx212_2
      try clear p1
      try clear p19
      try clear p195
      try clear p196
      try clear p2
      try clear p20
      try clear p206
      try clear p207
      try clear p211
      try clear p212
      try clear p6
      try clear p64
      try clear q1
      try clear q19
      try clear q195
      try clear q196
      try clear q2
      try clear q20
      try clear q206
      try clear q207
      try clear q211
      try clear q212
      obtain ⟨x93_1, x189000_1, u189000, rfl, HA, HK1, HO_91, HO_189000, BK184, BK188, HB⟩ := hrel
      cases gk with
      | zero => exact absurd HA.out (by simp [impl_derive.l3])
      | succ k1 =>
       have H := HA.out
       clear HA
       simp only [impl_derive.l3] at H
       by_cases c95 : x93_1 < (t219.length : Int)
       ·rw [if_pos c95] at H
        have c95b0 : decide (x93_1 < (t219.length : Int)) = true := decide_eq_true c95
        clear c95
        obtain ⟨c96b0, H⟩ := ifd_ H
        obtain ⟨c97b0, H⟩ := ifd_ H
        obtain ⟨c98b0, H⟩ := ifd_ H
        obtain ⟨c99b0, H⟩ := ifd_ H
        obtain ⟨t224, A100, H⟩ := bindE_ H
        by_cases c101 : t224 ≥ 0
        ·rw [if_pos c101] at H
         have c101b0 : decide (0 ≤ t224) = true := decide_eq_true c101
         clear c101
         obtain ⟨y226, hy226⟩ : ∃ y_ : List Int, y_ = (([rd t219 x93_1, t224] : List Int)) := ⟨_, rfl⟩
         replace H : (if x189000_1.length < 2932031007402 then (impl_derive.l3 k1 l0 t219 (t219.length : Int) (wrap64 (x93_1 + 1)) a1_0 a1_1 a1_2 a1_3 a1_4 a1_5 a1_6 a1_7 a1_8 a1_9 (x189000_1 ++ [(⟨(⟨(⟨a1_1, a1_2⟩ : S49), (rd_T51 l0 (rd t219 x93_1)).f1⟩ : S51), y226⟩ : S193)])) else (none)) = some r := by first | (rw [hy226]; with_reducible exact H) | (have H2_ := (Option.bind_some _ _).symm.trans H; rw [hy226]; with_reducible exact H2_) | (have H2_ := (Option.bind_some _ _).symm.trans H; with_reducible exact H2_) | with_reducible exact H | (rw [hy226]; exact H) | exact H
         have Ny226 := Aside0.mk hy226
         clear hy226
         obtain ⟨c102, H⟩ := ifn_ H
         have LMc102 := Aside0.mk c102
         clear c102
         obtain ⟨y229, hy229⟩ : ∃ y_ : List (S193), y_ = (x189000_1 ++ [(⟨(⟨(⟨a1_1, a1_2⟩ : S49), (rd_T51 l0 (rd t219 x93_1)).f1⟩ : S51), y226⟩ : S193)]) := ⟨_, rfl⟩
         replace H : (impl_derive.l3 k1 l0 t219 (t219.length : Int) (wrap64 (x93_1 + 1)) a1_0 a1_1 a1_2 a1_3 a1_4 a1_5 a1_6 a1_7 a1_8 a1_9 y229) = some r := by first | (rw [hy229]; with_reducible exact H) | (have H2_ := (Option.bind_some _ _).symm.trans H; rw [hy229]; with_reducible exact H2_) | (have H2_ := (Option.bind_some _ _).symm.trans H; with_reducible exact H2_) | with_reducible exact H | (rw [hy229]; exact H) | exact H
         have Ny229 := Aside0.mk hy229
         clear hy229
         have H' := Aside0.mk H
         clear H
         have p222 : 0 ≤ (x93_1 : Int) := od_
         have q222 : x93_1 < (t219.length : Int) := od_
         obtain ⟨ad222, e222, hx222_0⟩ := Kd.at_int (Kd.R_reads' HO_91.out).2.2 x93_1 p222 q222
         cases e222
         replace p222 := eq_true p222
         replace q222 := eq_true q222
         try go_wp2
         replace HO_91 := Aside0.mk (Kd.R_drew HO_91.out)
         replace HO_189000 := Aside0.mk (Kd.S_drew HO_189000.out)
         replace BK184 := Aside0.mk (blk_drew BK184.out)
         replace BK188 := Aside0.mk (blk_drew BK188.out)
         replace HB := Aside0.mk (below_drew1 HB.out)
         have p223 : 0 ≤ ((rd t219 x93_1) : Int) := od_
         have q223 : (rd t219 x93_1) < (l0.length : Int) := od_
         obtain ⟨ad223, e223, hx223_0, hx223_1, hx223_2⟩ := at_T51 HR0.out (rd t219 x93_1) p223 q223
         have hw223_2 := hx223_2
         have hw223_1 := hx223_1
         have hw223_0 := hx223_0
         cases e223
         replace hx223_0 := cb_ HB hx223_0
         replace hx223_1 := cb_ HB hx223_1
         replace hx223_2 := cb_ HB hx223_2
         replace p223 := eq_true p223
         replace q223 := eq_true q223
         refine start_ (n := 11) (S := fun w' => w'.cell? ⟨gb184, 0, none⟩ = some (.int .i64 a1_0) ∧ w'.cell? ⟨gb184, 1, none⟩ = some (.int .i64 a1_1) ∧ w'.cell? ⟨gb184, 2, none⟩ = some (.int .i64 a1_2) ∧ w'.cell? ⟨gb184, 3, none⟩ = some (.int .i64 a1_3) ∧ w'.cell? ⟨gb184, 4, none⟩ = some (.int .i64 a1_4) ∧ w'.cell? ⟨gb184, 5, none⟩ = some (.int .i64 a1_5) ∧ w'.cell? ⟨gb184, 6, none⟩ = some (.int .i64 a1_6) ∧ w'.cell? ⟨gb184, 7, none⟩ = some (.int .i64 a1_7) ∧ w'.cell? ⟨gb184, 8, none⟩ = some (.int .i64 a1_8) ∧ w'.cell? ⟨gb184, 9, none⟩ = some (.int .i64 a1_9) ∧ w'.cell? (ad223.add (((rd t219 x93_1)).toNat * 3)) = some (.int .i64 ((rd_T51 l0 (rd t219 x93_1)).f0.f0)) ∧ w'.cell? ⟨(ad223.add (((rd t219 x93_1)).toNat * 3)).block, (ad223.add (((rd t219 x93_1)).toNat * 3)).off + 1, none⟩ = some (.int .i64 ((rd_T51 l0 (rd t219 x93_1)).f0.f1)) ∧ w'.cell? ⟨(ad223.add (((rd t219 x93_1)).toNat * 3)).block, (ad223.add (((rd t219 x93_1)).toNat * 3)).off + 2, none⟩ = some (.int .i64 ((rd_T51 l0 (rd t219 x93_1)).f1))) (ds := []) #[false, false, false, false, false, false, false, false, false, false, false] (by kernel_rfl) rfl rfl ⟨(blk_cell BK184.out 0).trans rfl, (blk_cell BK184.out 1).trans rfl, (blk_cell BK184.out 2).trans rfl, (blk_cell BK184.out 3).trans rfl, (blk_cell BK184.out 4).trans rfl, (blk_cell BK184.out 5).trans rfl, (blk_cell BK184.out 6).trans rfl, (blk_cell BK184.out 7).trans rfl, (blk_cell BK184.out 8).trans rfl, (blk_cell BK184.out 9).trans rfl, ((HB.out.cell (World.block_lt_of_cell? w _ hw223_0)).trans hw223_0), ((HB.out.cell (World.block_lt_of_cell? w _ hw223_1)).trans hw223_1), ((HB.out.cell (World.block_lt_of_cell? w _ hw223_2)).trans hw223_2)⟩ (fun hHeld => ?_); refine with_tabW impl_derive.tab26 impl_derive.bits26 (fun HT_ HW_ => ?_)
         generalize wr.drew = w103 at HO_91 HO_189000 BK184 BK188 HB hx223_0 hx223_1 hx223_2 hHeld ⊢
         refine pureZ_ (i := 0) (some 97) #[true, false, false, false, false, false, false, false, false, false, false] (any_of HT_.out (by kernel_rfl)) ?_
         refine pureZ_ (i := 1) (some 98) #[true, true, false, false, false, false, false, false, false, false, false] (any_of HT_.out (by kernel_rfl)) ?_
         refine pureZ_ (i := 3) (some 100) #[true, true, false, true, false, false, false, false, false, false, false] (any_of HT_.out (by kernel_rfl)) ?_
         refine pureZ_ (i := 4) (some 101) #[true, true, false, true, true, false, false, false, false, false, false] (any_of HT_.out (by kernel_rfl)) ?_
         refine pureZ_ (i := 5) (some 102) #[true, true, false, true, true, true, false, false, false, false, false] (any_of HT_.out (by kernel_rfl)) ?_
         refine pureZ_ (i := 6) (some 103) #[true, true, false, true, true, true, true, false, false, false, false] (any_of HT_.out (by kernel_rfl)) ?_
         refine takeZ_ (i := 2) (some 99) #[true, true, true, true, true, true, true, false, false, false, false] (take_ofW HT_.out HW_.out (by kernel_rfl)) hHeld ?_
         refine takeZ_ (i := 7) (some 104) #[true, true, true, true, true, true, true, true, false, false, false] (take_ofW HT_.out HW_.out (by kernel_rfl)) hHeld ?_
         refine pureZ_ (i := 8) (some 105) #[true, true, true, true, true, true, true, true, true, false, false] (any_of HT_.out (by kernel_rfl)) ?_
         refine one_ (i := 9) (N := some 106) #[true, true, true, true, true, true, true, true, true, true, false] rfl rfl (one_of HT_.out (by kernel_rfl)) (by decide) (fun K hK => ?_)
         refine goes_ Try.func102 (by kernel_rfl) rfl #[.slice (some ad223) l0.length c0, .agg #[.int .i64 a1_6, .int .i64 a1_7, .int .i64 ((rd_T51 l0 (rd t219 x93_1)).f1)]] (by rfl) rfl rfl (by (try simp only [List.map_toArray, List.map_cons, List.map_nil]); first | done | rfl | (simp only [List.length_drop, List.length_take]; rfl)) ?_
         with_reducible refine (impl_Fact_102.calls k1 _ _ l0 a1_6 a1_7 ((rd_T51 l0 (rd t219 x93_1)).f1) t224 _ ?side1 ?side2 A100.out).mono ?_
         (case side1 => repeat (first | exact (Kd.C_below HR0.out HB.out) | (with_reducible refine Kd.C_alloc ?_ _) | (with_reducible refine Kd.C_drewN ?_ _) | (with_reducible refine Kd.C_drew ?_)))
         (case side2 => exact HC0.out)
         rintro e w104 ⟨rfl, hb⟩
         refine ⟨_, rfl, ?_⟩
         replace HO_91 := hob_ HO_91 hb
         replace HO_189000 := Aside0.mk (Kd.S_below (by (with_reducible repeat (first | apply Kd.S_alloc | apply Kd.S_drewN | apply Kd.S_drew)); exact HO_189000.out) hb)
         replace BK184 := bkb_ BK184 hb
         replace BK188 := bkb_ BK188 hb
         replace HB := hbs_ hb
         (try clear hb)
         (try clear hb2)
         (try clear hk)
         (try clear hi)
         refine hK.out _ _ ⟨(blk_cell BK184.out 0).trans rfl, (blk_cell BK184.out 1).trans rfl, (blk_cell BK184.out 2).trans rfl, (blk_cell BK184.out 3).trans rfl, (blk_cell BK184.out 4).trans rfl, (blk_cell BK184.out 5).trans rfl, (blk_cell BK184.out 6).trans rfl, (blk_cell BK184.out 7).trans rfl, (blk_cell BK184.out 8).trans rfl, (blk_cell BK184.out 9).trans rfl, ((HB.out.cell (World.block_lt_of_cell? w _ hw223_0)).trans hw223_0), ((HB.out.cell (World.block_lt_of_cell? w _ hw223_1)).trans hw223_1), ((HB.out.cell (World.block_lt_of_cell? w _ hw223_2)).trans hw223_2)⟩ (fun hHeld => ?_)
         clear hK K
         refine norm_ (a' := ?_) ?_ ?_
         rotate_left
         ·show Act.put _ (some 106) _ = _
          simp only [Act.put, List.setIfInBounds_toArray, List.set_cons_zero, List.set_cons_succ, i64_w, i32_w]
          rfl
         refine pureZ_ (i := 10) (some 15) #[true, true, true, true, true, true, true, true, true, true, true] (any_of HT_.out (by kernel_rfl)) ?_
         refine done_ (done_of HT_.out (by kernel_rfl)) ?_
         have p225 : 0 ≤ ((rd t219 x93_1) : Int) := od_
         have q225 : (rd t219 x93_1) < (l0.length : Int) := od_
         obtain ⟨ad225, e225, hx225_0, hx225_1, hx225_2⟩ := at_T51 HR0.out (rd t219 x93_1) p225 q225
         obtain rfl : ad223 = ad225 := (by injection e225)
         replace hx225_0 := cb_ HB hx225_0
         replace hx225_1 := cb_ HB hx225_1
         replace hx225_2 := cb_ HB hx225_2
         replace p225 := eq_true p225
         replace q225 := eq_true q225
         try go_wp2_with (first | (go_at_call 203; go_in) | (go_end0; simp only []; go_at_K) | ((with_reducible refine gate_dst (N := 117) rfl ?_); refine Kd.R_lit (Kd.int .i64) _ 3 ?hg (N := 117) ?hd (xs := ([rd t219 x93_1, t224] : List Int)) (inner := [.int .i64 (rd t219 x93_1), .int .i64 t224]) (ok := fun _ => True) (okp := fun _ => True) ?hr ?hp (fun _ hk => hk) trivial (Below.refl _ _) (Nat.le_refl _) (by simp) ?_; (case hd => rfl); (case hg => rfl); (case hr => first | (go_simp; done) | (go_simp; rfl)); (case hp => exact (Reps.one (show Kd.M (Kd.int .i64) _ _ _ (rd t219 x93_1) [.int .i64 (rd t219 x93_1)] from rfl) (Reps.one (show Kd.M (Kd.int .i64) _ _ _ t224 [.int .i64 t224] from rfl) (Reps.none _ _)))); intro v227 w105 ho106 hb hg_ hnew_; clear hg_ hnew_; (first | rw [← Ny226.out] at ho106 | (simp only [Int.reduceToNat] at ho106; rw [← Ny226.out] at ho106)); replace HO_189000 := Aside0.mk (Kd.S_elder' (by (with_reducible repeat (first | apply Kd.S_alloc | apply Kd.S_drewN | apply Kd.S_drew)); exact HO_189000.out) (Kd.R_base ho106) hb); have HO228 := Aside0.mk (Kd.R_lower (Kd.R_new' ho106 (Kd.R_lt (by (with_reducible repeat (first | apply Kd.R_alloc | apply Kd.R_drewN | apply Kd.R_drew)); exact HO_91.out))) bls_); replace HO_91 := Aside0.mk (Kd.R_elder' (by (with_reducible repeat (first | apply Kd.R_alloc | apply Kd.R_drewN | apply Kd.R_drew)); exact HO_91.out) (Kd.R_base ho106) hb); replace BK184 := bkb_ BK184 hb; replace BK188 := bkb_ BK188 hb; replace HB := hbs_ hb; clear hb ho106; have hnb107 := NB188_184.out; have hnc107 := NB184_188.out; have hcz108 := blk_cell BK188.out; have hfz108 := blk_frozen BK188.out; have hcz109 := blk_cell BK184.out; have hfz109 := blk_frozen BK184.out; obtain ⟨Ao110, co110, eo110⟩ := Kd.R_slice HO228.out; subst eo110) | ((with_reducible refine gate_builtin (b := .append) (xs := #[.tmp 6, .tmp 13]) rfl ?_); at_builtin; refine Kd.S_append k193 (w0 := w) w.heap.size rfl (.tmp 6) (.tmp 13) 190 193 (.agg #[(.int .i64 0), (.int .i64 0), (.int .i64 0), (.slice none 0 0)]) 48 rfl Try.underlying190 info193 rfl (by decide) (by omega) u189000 x189000_1 (⟨(⟨(⟨a1_1, a1_2⟩ : S49), (rd_T51 l0 (rd t219 x93_1)).f1⟩ : S51), y226⟩ : S193) [.int .i64 a1_1, .int .i64 a1_2, .int .i64 ((rd_T51 l0 (rd t219 x93_1)).f1), .slice Ao110 y226.length co110] (fun k_ => some k_ ≠ (.slice (some ad222) t219.length co94 : Value).ownBlock) (fun k_ => some k_ = (.slice Ao110 y226.length co110 : Value).ownBlock) rfl rfl ?aP (fun k_ hk_ => ((Kd.R_mono (ok' := fun k_ => ((fun k_ => some k_ ≠ (.slice (some ad222) t219.length co94 : Value).ownBlock)) k_ ∧ some k_ ≠ (u189000 : Value).ownBlock) (Kd.R_apart' (HO228.out) (Kd.S_typed HO_189000.out) (by decide)) (fun k_ hk => ⟨hk.1.2, hk.2⟩))).1 k_ hk_.symm) ?aF ?aO ?aB ?aS ?aL ?_; (case aP => exact k193_mkM _ _ _ (⟨(⟨(⟨a1_1, a1_2⟩ : S49), (rd_T51 l0 (rd t219 x93_1)).f1⟩ : S51), y226⟩ : S193) (Kd.R_mono (Kd.R_tight rfl (Kd.R_mono (ok' := fun k_ => ((fun k_ => some k_ ≠ (.slice (some ad222) t219.length co94 : Value).ownBlock)) k_ ∧ some k_ ≠ (u189000 : Value).ownBlock) (Kd.R_apart' (HO228.out) (Kd.S_typed HO_189000.out) (by decide)) (fun k_ hk => ⟨hk.1.2, hk.2⟩))) (fun _ h_ => h_))); (case aB => exact bl_); (case aF => exact (fun k_ hk => Kd.fresh' (Kd.R_lt (by (with_reducible repeat (first | apply Kd.R_alloc | apply Kd.R_drewN | apply Kd.R_drew)); exact HO_91.out)) k_ hk)); (case aO => exact (by (with_reducible repeat (first | apply Kd.S_alloc | apply Kd.S_drewN | apply Kd.S_drew)); exact Kd.S_mono HO_189000.out (fun k_ hk => ⟨hk.1, fun e_ => hk.2 e_⟩))); (case aS => exact bls_); (case aL => have := LMc102.out; omega); intro v230 w111 ho hb hg hat; rw [← Ny229.out] at ho; replace HO_91 := Aside0.mk (Kd.R_over' (by (with_reducible repeat (first | apply Kd.R_alloc | apply Kd.R_drewN | apply Kd.R_drew)); exact HO_91.out) (Kd.S_typed (by (with_reducible repeat (first | apply Kd.S_alloc | apply Kd.S_drewN | apply Kd.S_drew)); exact HO_189000.out)) (by decide) hg); replace BK184 := Aside0.mk (blk_grown (g := gb184) (o := .cells #[.int .i64 a1_0, .int .i64 a1_1, .int .i64 a1_2, .int .i64 a1_3, .int .i64 a1_4, .int .i64 a1_5, .int .i64 a1_6, .int .i64 a1_7, .int .i64 a1_8, .int .i64 a1_9] 56 (0, 0)) (bk_ BK184) hg (Kd.S_ne HO_189000.out BK184.out (by decide))); replace BK188 := Aside0.mk (blk_grown (g := gb188) (o := .cells #[u189000] 190 (0, 0)) (bk_ BK188) hg (Kd.S_ne HO_189000.out BK188.out (by decide))); replace HB := Aside0.mk (hb); have HO231 := Aside0.mk (ho); clear HO_189000; clear HO228; clear ho hb hg hat; obtain ⟨Ao112, co112, eo112⟩ := Kd.S_slice HO231.out; subst eo112; have hcz113 := blk_cell BK188.out; have hfz113 := blk_frozen BK188.out))
         go_roundg k1
         case measure => have := HK1.out; omega
         case rel => exact ⟨(wrap64 (x93_1 + 1)), (y229), (.slice Ao112 y229.length co112), rf_, H', ⟨by have := HK1.out; omega⟩, ⟨by (with_reducible repeat (first | apply Kd.R_alloc | apply Kd.R_drewN | apply Kd.R_drew)); exact Kd.R_mono (Kd.R_far (p := ⟨gb188, 0, none⟩) (Kd.R_types HO_91.out BK188.out (by decide)) (fun _ hk => hk.2) (.slice Ao112 y229.length co112)) (fun _ hk => trivial)⟩, ⟨by (with_reducible repeat (first | apply Kd.S_alloc | apply Kd.S_drewN | apply Kd.S_drew)); exact Kd.S_mono (Kd.S_far (p := ⟨gb188, 0, none⟩) (Kd.S_types HO231.out BK188.out (by decide)) (fun _ hk => hk.2) (.slice Ao112 y229.length co112)) (fun _ hk => hk.1)⟩, ⟨bk_ BK184⟩, ⟨bk_ BK188⟩, ⟨bl_⟩⟩
        ·rw [if_neg c101] at H
         have c101b0 : decide (0 ≤ t224) = false := decide_eq_false c101
         clear c101
         have H' := Aside0.mk H
         clear H
         have p222 : 0 ≤ (x93_1 : Int) := od_
         have q222 : x93_1 < (t219.length : Int) := od_
         obtain ⟨ad222, e222, hx222_0⟩ := Kd.at_int (Kd.R_reads' HO_91.out).2.2 x93_1 p222 q222
         cases e222
         replace p222 := eq_true p222
         replace q222 := eq_true q222
         try go_wp2
         replace HO_91 := Aside0.mk (Kd.R_drew HO_91.out)
         replace HO_189000 := Aside0.mk (Kd.S_drew HO_189000.out)
         replace BK184 := Aside0.mk (blk_drew BK184.out)
         replace BK188 := Aside0.mk (blk_drew BK188.out)
         replace HB := Aside0.mk (below_drew1 HB.out)
         have p223 : 0 ≤ ((rd t219 x93_1) : Int) := od_
         have q223 : (rd t219 x93_1) < (l0.length : Int) := od_
         obtain ⟨ad223, e223, hx223_0, hx223_1, hx223_2⟩ := at_T51 HR0.out (rd t219 x93_1) p223 q223
         have hw223_2 := hx223_2
         have hw223_1 := hx223_1
         have hw223_0 := hx223_0
         cases e223
         replace hx223_0 := cb_ HB hx223_0
         replace hx223_1 := cb_ HB hx223_1
         replace hx223_2 := cb_ HB hx223_2
         replace p223 := eq_true p223
         replace q223 := eq_true q223
         refine start_ (n := 11) (S := fun w' => w'.cell? ⟨gb184, 0, none⟩ = some (.int .i64 a1_0) ∧ w'.cell? ⟨gb184, 1, none⟩ = some (.int .i64 a1_1) ∧ w'.cell? ⟨gb184, 2, none⟩ = some (.int .i64 a1_2) ∧ w'.cell? ⟨gb184, 3, none⟩ = some (.int .i64 a1_3) ∧ w'.cell? ⟨gb184, 4, none⟩ = some (.int .i64 a1_4) ∧ w'.cell? ⟨gb184, 5, none⟩ = some (.int .i64 a1_5) ∧ w'.cell? ⟨gb184, 6, none⟩ = some (.int .i64 a1_6) ∧ w'.cell? ⟨gb184, 7, none⟩ = some (.int .i64 a1_7) ∧ w'.cell? ⟨gb184, 8, none⟩ = some (.int .i64 a1_8) ∧ w'.cell? ⟨gb184, 9, none⟩ = some (.int .i64 a1_9) ∧ w'.cell? (ad223.add (((rd t219 x93_1)).toNat * 3)) = some (.int .i64 ((rd_T51 l0 (rd t219 x93_1)).f0.f0)) ∧ w'.cell? ⟨(ad223.add (((rd t219 x93_1)).toNat * 3)).block, (ad223.add (((rd t219 x93_1)).toNat * 3)).off + 1, none⟩ = some (.int .i64 ((rd_T51 l0 (rd t219 x93_1)).f0.f1)) ∧ w'.cell? ⟨(ad223.add (((rd t219 x93_1)).toNat * 3)).block, (ad223.add (((rd t219 x93_1)).toNat * 3)).off + 2, none⟩ = some (.int .i64 ((rd_T51 l0 (rd t219 x93_1)).f1))) (ds := []) #[false, false, false, false, false, false, false, false, false, false, false] (by kernel_rfl) rfl rfl ⟨(blk_cell BK184.out 0).trans rfl, (blk_cell BK184.out 1).trans rfl, (blk_cell BK184.out 2).trans rfl, (blk_cell BK184.out 3).trans rfl, (blk_cell BK184.out 4).trans rfl, (blk_cell BK184.out 5).trans rfl, (blk_cell BK184.out 6).trans rfl, (blk_cell BK184.out 7).trans rfl, (blk_cell BK184.out 8).trans rfl, (blk_cell BK184.out 9).trans rfl, ((HB.out.cell (World.block_lt_of_cell? w _ hw223_0)).trans hw223_0), ((HB.out.cell (World.block_lt_of_cell? w _ hw223_1)).trans hw223_1), ((HB.out.cell (World.block_lt_of_cell? w _ hw223_2)).trans hw223_2)⟩ (fun hHeld => ?_); refine with_tabW impl_derive.tab26 impl_derive.bits26 (fun HT_ HW_ => ?_)
         generalize wr.drew = w114 at HO_91 HO_189000 BK184 BK188 HB hx223_0 hx223_1 hx223_2 hHeld ⊢
         refine pureZ_ (i := 0) (some 97) #[true, false, false, false, false, false, false, false, false, false, false] (any_of HT_.out (by kernel_rfl)) ?_
         refine pureZ_ (i := 1) (some 98) #[true, true, false, false, false, false, false, false, false, false, false] (any_of HT_.out (by kernel_rfl)) ?_
         refine pureZ_ (i := 3) (some 100) #[true, true, false, true, false, false, false, false, false, false, false] (any_of HT_.out (by kernel_rfl)) ?_
         refine pureZ_ (i := 4) (some 101) #[true, true, false, true, true, false, false, false, false, false, false] (any_of HT_.out (by kernel_rfl)) ?_
         refine pureZ_ (i := 5) (some 102) #[true, true, false, true, true, true, false, false, false, false, false] (any_of HT_.out (by kernel_rfl)) ?_
         refine pureZ_ (i := 6) (some 103) #[true, true, false, true, true, true, true, false, false, false, false] (any_of HT_.out (by kernel_rfl)) ?_
         refine takeZ_ (i := 2) (some 99) #[true, true, true, true, true, true, true, false, false, false, false] (take_ofW HT_.out HW_.out (by kernel_rfl)) hHeld ?_
         refine takeZ_ (i := 7) (some 104) #[true, true, true, true, true, true, true, true, false, false, false] (take_ofW HT_.out HW_.out (by kernel_rfl)) hHeld ?_
         refine pureZ_ (i := 8) (some 105) #[true, true, true, true, true, true, true, true, true, false, false] (any_of HT_.out (by kernel_rfl)) ?_
         refine one_ (i := 9) (N := some 106) #[true, true, true, true, true, true, true, true, true, true, false] rfl rfl (one_of HT_.out (by kernel_rfl)) (by decide) (fun K hK => ?_)
         refine goes_ Try.func102 (by kernel_rfl) rfl #[.slice (some ad223) l0.length c0, .agg #[.int .i64 a1_6, .int .i64 a1_7, .int .i64 ((rd_T51 l0 (rd t219 x93_1)).f1)]] (by rfl) rfl rfl (by (try simp only [List.map_toArray, List.map_cons, List.map_nil]); first | done | rfl | (simp only [List.length_drop, List.length_take]; rfl)) ?_
         with_reducible refine (impl_Fact_102.calls k1 _ _ l0 a1_6 a1_7 ((rd_T51 l0 (rd t219 x93_1)).f1) t224 _ ?side1 ?side2 A100.out).mono ?_
         (case side1 => repeat (first | exact (Kd.C_below HR0.out HB.out) | (with_reducible refine Kd.C_alloc ?_ _) | (with_reducible refine Kd.C_drewN ?_ _) | (with_reducible refine Kd.C_drew ?_)))
         (case side2 => exact HC0.out)
         rintro e w115 ⟨rfl, hb⟩
         refine ⟨_, rfl, ?_⟩
         replace HO_91 := hob_ HO_91 hb
         replace HO_189000 := Aside0.mk (Kd.S_below (by (with_reducible repeat (first | apply Kd.S_alloc | apply Kd.S_drewN | apply Kd.S_drew)); exact HO_189000.out) hb)
         replace BK184 := bkb_ BK184 hb
         replace BK188 := bkb_ BK188 hb
         replace HB := hbs_ hb
         (try clear hb)
         (try clear hb2)
         (try clear hk)
         (try clear hi)
         refine hK.out _ _ ⟨(blk_cell BK184.out 0).trans rfl, (blk_cell BK184.out 1).trans rfl, (blk_cell BK184.out 2).trans rfl, (blk_cell BK184.out 3).trans rfl, (blk_cell BK184.out 4).trans rfl, (blk_cell BK184.out 5).trans rfl, (blk_cell BK184.out 6).trans rfl, (blk_cell BK184.out 7).trans rfl, (blk_cell BK184.out 8).trans rfl, (blk_cell BK184.out 9).trans rfl, ((HB.out.cell (World.block_lt_of_cell? w _ hw223_0)).trans hw223_0), ((HB.out.cell (World.block_lt_of_cell? w _ hw223_1)).trans hw223_1), ((HB.out.cell (World.block_lt_of_cell? w _ hw223_2)).trans hw223_2)⟩ (fun hHeld => ?_)
         clear hK K
         refine norm_ (a' := ?_) ?_ ?_
         rotate_left
         ·show Act.put _ (some 106) _ = _
          simp only [Act.put, List.setIfInBounds_toArray, List.set_cons_zero, List.set_cons_succ, i64_w, i32_w]
          rfl
         refine pureZ_ (i := 10) (some 15) #[true, true, true, true, true, true, true, true, true, true, true] (any_of HT_.out (by kernel_rfl)) ?_
         refine done_ (done_of HT_.out (by kernel_rfl)) ?_
         try go_wp2
         go_roundg k1
         case measure => have := HK1.out; omega
         case rel => exact ⟨(wrap64 (x93_1 + 1)), (x189000_1), (u189000), rf_, H', ⟨by have := HK1.out; omega⟩, ⟨by (with_reducible repeat (first | apply Kd.R_alloc | apply Kd.R_drewN | apply Kd.R_drew)); exact HO_91.out⟩, ⟨by (with_reducible repeat (first | apply Kd.S_alloc | apply Kd.S_drewN | apply Kd.S_drew)); exact HO_189000.out⟩, ⟨bk_ BK184⟩, ⟨bk_ BK188⟩, ⟨bl_⟩⟩
       ·rw [if_neg c95] at H
        have c95b0 : decide (x93_1 < (t219.length : Int)) = false := decide_eq_false c95
        clear c95
        obtain rfl := Option.some.inj H
        have hnb116 := NB188_184.out
        have hnc116 := NB184_188.out
        have hcz117 := blk_cell BK188.out
        have hfz117 := blk_frozen BK188.out
        go_wp2
        go_ret
        exact ⟨_, eq_, by (with_reducible repeat (first | apply Kd.S_alloc | apply Kd.S_drewN | apply Kd.S_drew)); exact Kd.S_mono HO_189000.out (fun _ hk => trivial), bl_⟩
    ·rw [if_neg c83] at H
     have c83b0 : (a1_0 == 4) = false := beq_eq_false_iff_ne.mpr c83
     have c83b1 : (a1_0 != 4) = true := bne_iff_ne.mpr c83
     obtain rfl := Option.some.inj H
     go_enter Try.func169, Try.ntmps169
     go_wp2_with (first | (go_at_call 203; go_in) | (go_end0; simp only []; go_at_K) | ((with_reducible refine gate_dst (N := 3) rfl ?_); refine box_event ?hg (N := 3) ?hd (cs := #[.int .i64 a1_0, .int .i64 a1_1, .int .i64 a1_2, .int .i64 a1_3, .int .i64 a1_4, .int .i64 a1_5, .int .i64 a1_6, .int .i64 a1_7, .int .i64 a1_8, .int .i64 a1_9]) (t := 56) ?hr ?_; (case hd => rfl); (case hg => rfl); (case hr => first | (go_simp; done) | (go_simp; rfl)); intro gb184 hg w118 hbox hb; have BK184 := Aside0.mk (hbox); have GW184 := gs_ hg; have GE184 := gs_ hg; replace HB := hbs_ hb; clear hb hbox hg) | ((with_reducible refine gate_dst (N := 16) rfl ?_); refine Kd.S_lit k193 _ 193 ?hg (N := 16) ?hd (xs := ([] : List (S193))) (inner := []) (ok := fun _ => True) (okp := fun _ => True) ?hr ?hp (fun _ hk => hk) trivial (Below.refl _ _) (Nat.le_refl _) (by simp) ?_; (case hd => rfl); (case hg => rfl); (case hr => first | (go_simp; done) | (go_simp; rfl)); (case hp => exact (Reps.none _ _)); intro v186 w119 ho120 hb hg_ hnew_; clear hg_ hnew_; (first | rw [← Ny185.out] at ho120 | (simp only [Int.reduceToNat] at ho120; rw [← Ny185.out] at ho120)); have HO187 := Aside0.mk (Kd.S_lower ho120 bls_); replace BK184 := bkb_ BK184 hb; replace HB := hbs_ hb; clear hb ho120) | ((with_reducible refine gate_dst (N := 5) rfl ?_); refine box_event ?hg (N := 5) ?hd (cs := #[.slice none 0 0]) (t := 190) ?hr ?_; (case hd => rfl); (case hg => rfl); (case hr => first | (go_simp; done) | (go_simp; rfl)); intro gb188 hg w121 hbox hb; replace HO187 := Aside0.mk (Kd.S_below (by (with_reducible repeat (first | apply Kd.S_alloc | apply Kd.S_drewN | apply Kd.S_drew)); exact HO187.out) hb); have BK188 := Aside0.mk (hbox); have GW188 := gs_ hg; have GE188 := gs_ hg; replace HB := hbs_ hb; have NB184_188 := nl_ hg BK184; have NB188_184 := nr_ hg BK184; replace BK184 := bkb_ BK184 hb; clear hb hbox hg; obtain ⟨Ao122, co122, eo122⟩ := Kd.S_slice HO187.out; subst eo122; have hnb123 := NB188_184.out; have hnc123 := NB184_188.out; have hcz124 := blk_cell BK188.out; have hfz124 := blk_frozen BK188.out; have hcz125 := blk_cell BK184.out; have hfz125 := blk_frozen BK184.out))
     go_ret
     exact ⟨_, eq_, by (with_reducible repeat (first | apply Kd.S_alloc | apply Kd.S_drewN | apply Kd.S_drew)); exact Kd.S_mono (Kd.S_far (p := ⟨gb188, 0, none⟩) (Kd.S_types HO187.out BK188.out (by decide)) (fun _ hk => hk.2) (.slice Ao122 y185.length co122)) (fun _ hk => trivial), bl_⟩
end Go.Proofs.Ytjpjidgfcljpcaa.PA
