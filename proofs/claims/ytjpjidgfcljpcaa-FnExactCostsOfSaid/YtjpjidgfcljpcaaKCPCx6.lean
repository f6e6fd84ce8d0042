import Derived.Test.YtjpjidgfcljpcaaKCPCx5
-- printed by wip/tools
namespace Go.Proofs.Ytjpjidgfcljpcaa.PC
open Go.RowKit Go.Proofs.YtjpjidgfcljpcaaW.PrintWords Go.Proofs.YtjpjidgfcljpcaaW.PrintLast Go.Proofs.YtjpjidgfcljpcaaW.PrintMore
attribute [local go_sem] max2_int min2_int max_two min_two max_three min_three max_four min_four
set_option linter.unusedVariables false
set_option linter.unusedSimpArgs false
attribute [local go_sem high] eqA49
mutual
def spec_l19By.j0 : Nat → List (S51) → List Int → Bool → Int → Int → Int → Int → Int → Int → Int → Int → Int → Int → Int → Int → Int → Option (Int × List Int)
 | 0, _, _, _, _, _, _, _, _, _, _, _, _, _, _, _, _ => none
 | k + 1, x0, x1, x22, x172000, x172001, x172002, x172003, x172004, x172005, x172006, x172007, x172008, x172009, x173000, x173001, x173002 => if x22 = true then (some (0, ([] : List Int))) else (if x172000 = 1 then (if x172003 = x173002 then (some (1, (([] : List Int)))) else (some (0, ([] : List Int)))) else (if x172000 = 2 then ((spec_l19At.f k x0 x172004 x172005 x173002).bind fun t178 => (if t178 < 0 then (some (0, ([] : List Int))) else (if 0 ≤ t178 then (if t178 < (x1.length : Int) then (if (rd x1 t178) = 0 then (some (0, ([] : List Int))) else ((spec_l19Cap.f (wrap64 (1 + (rd x1 t178)))).bind fun t181 => (some (t181, (([t178] : List Int)))))) else (none)) else (none)))) else (if x172000 = 4 then ((spec_l19At.f k x0 x172004 x172005 x173002).bind fun t185 => ((spec_l19At.f k x0 x172006 x172007 x173002).bind fun t186 => ((spec_l19Two.f x1 t185 t186).bind fun bt187 => (some (bt187.1, bt187.2))))) else (spec_l19By.l0 k x0 x1 0 x172000 x172001 x172002 x172003 x172004 x172005 x172006 x172007 x172008 x172009 x173000 x173001 x173002 0 ([] : List Int)))))
def spec_l19By.l0 : Nat → List (S51) → List Int → Int → Int → Int → Int → Int → Int → Int → Int → Int → Int → Int → Int → Int → Int → Int → List Int → Option (Int × List Int)
 | 0, _, _, _, _, _, _, _, _, _, _, _, _, _, _, _, _, _, _ => none
 | k + 1, x0, x1, x11, x172000, x172001, x172002, x172003, x172004, x172005, x172006, x172007, x172008, x172009, x173000, x173001, x173002, x192000, x192001 => if x11 < (x0.length : Int) then (if 0 ≤ x11 then (if (((rd_T51 x0 x11).f0.f0) == x172004 && (((rd_T51 x0 x11).f0.f1) == x172005)) = true then ((spec_l19At.f k x0 ((rd_T51 x0 x11).f1) x172007 x173002).bind fun t194 => ((spec_l19Two.f x1 x11 t194).bind fun bt195 => ((spec_l19Better.f x192000 x192001 bt195.1 bt195.2).bind fun bt199 => (spec_l19By.l0 k x0 x1 (wrap64 (x11 + 1)) x172000 x172001 x172002 x172003 x172004 x172005 x172006 x172007 x172008 x172009 x173000 x173001 x173002 bt199.1 bt199.2)))) else (spec_l19By.l0 k x0 x1 (wrap64 (x11 + 1)) x172000 x172001 x172002 x172003 x172004 x172005 x172006 x172007 x172008 x172009 x173000 x173001 x173002 x192000 x192001)) else (none)) else (some (x192000, x192001))
end
def spec_l19By.f (k : Nat) (l0 : List (S51)) (l1 : List Int) (a2_0 : Int) (a2_1 : Int) (a2_2 : Int) (a2_3 : Int) (a2_4 : Int) (a2_5 : Int) (a2_6 : Int) (a2_7 : Int) (a2_8 : Int) (a2_9 : Int) (a3_0 : Int) (a3_1 : Int) (a3_2 : Int) : Option (Int × List Int) := (spec_CredOk.f k a2_0 a2_1 a2_2 a2_3 a2_4 a2_5 a2_6 a2_7 a2_8 a2_9).bind fun t174 => (if t174 = true then (spec_l19By.j0 k l0 l1 (!(a2_1 == a3_0) || (!(a2_2 == a3_1))) a2_0 a2_1 a2_2 a2_3 a2_4 a2_5 a2_6 a2_7 a2_8 a2_9 a3_0 a3_1 a3_2) else (spec_l19By.j0 k l0 l1 true a2_0 a2_1 a2_2 a2_3 a2_4 a2_5 a2_6 a2_7 a2_8 a2_9 a3_0 a3_1 a3_2))
def spec_l19By.T14 : Bool × List (List Nat × List Nat) := (true, [([], []), ([], []), ([], []), ([2], [2]), ([], []), ([4], [4]), ([3, 5], [3, 5]), ([1, 6], [1, 6]), ([], []), ([], []), ([9], [9]), ([], []), ([11], [11]), ([10, 12], [10, 12]), ([8, 13, 7], [8, 13]), ([0, 7, 14, 14], [0, 7, 14]), ([15, 15, 0, 1, 2, 3, 4, 5, 6, 7, 8, 9, 10, 11, 12, 13, 14, 15], [15])])
def spec_l19By.B14 : List Nat := [0, 0, 0, 4, 0, 16, 60, 126, 0, 0, 512, 0, 2048, 7680, 16382, 32767, 65535]
theorem spec_l19By.tab14 : rtab .any (opsOf Try.f166 14) = spec_l19By.T14 := by kernel_rfl
theorem spec_l19By.bits14 : waitsOk spec_l19By.T14.2 spec_l19By.B14 = true := by kernel_rfl
def spec_l19By.T19 : Bool × List (List Nat × List Nat) := (true, [([], []), ([], []), ([0, 1], [0, 1]), ([2], [2]), ([3], [3]), ([], []), ([5], [5]), ([4, 6], [4, 6])])
def spec_l19By.B19 : List Nat := [0, 0, 3, 7, 15, 0, 32, 127]
theorem spec_l19By.tab19 : rtab .any (opsOf Try.f166 19) = spec_l19By.T19 := by kernel_rfl
theorem spec_l19By.bits19 : waitsOk spec_l19By.T19.2 spec_l19By.B19 = true := by kernel_rfl
def spec_l19By.T20 : Bool × List (List Nat × List Nat) := (true, [([], []), ([], []), ([], []), ([1, 2], [1, 2]), ([3], [3]), ([4], [4]), ([], []), ([6], [6]), ([7], [7]), ([5, 8], [5, 8]), ([], []), ([10], [10]), ([9, 11], [9, 11]), ([0, 12], [0, 12]), ([13, 13, 0, 1, 2, 3, 4, 5, 6, 7, 8, 9, 10, 11, 12, 13], [13])])
def spec_l19By.B20 : List Nat := [0, 0, 0, 6, 14, 30, 0, 64, 192, 510, 0, 1024, 4094, 8191, 16383]
theorem spec_l19By.tab20 : rtab .any (opsOf Try.f166 20) = spec_l19By.T20 := by kernel_rfl
theorem spec_l19By.bits20 : waitsOk spec_l19By.T20.2 spec_l19By.B20 = true := by kernel_rfl
set_option maxHeartbeats 8000000 in
set_option maxRecDepth 100000 in
theorem spec_l19By.calls (k : Nat) (A0 : Option Addr) (c0 : Nat) (l0 : List (S51)) (A1 : Option Addr) (c1 : Nat) (l1 : List Int) (a2_0 : Int) (a2_1 : Int) (a2_2 : Int) (a2_3 : Int) (a2_4 : Int) (a2_5 : Int) (a2_6 : Int) (a2_7 : Int) (a2_8 : Int) (a2_9 : Int) (a3_0 : Int) (a3_1 : Int) (a3_2 : Int) (r1 : Int) (r2 : List Int) (w : World) (hr0 : Kd.C k51 w A0 l0.length l0) (hc0 : l0.length ≤ c0) (hr1 : Kd.C (Kd.int .i64) w A1 l1.length l1) (hc1 : l1.length ≤ c1) (h : spec_l19By.f k l0 l1 a2_0 a2_1 a2_2 a2_3 a2_4 a2_5 a2_6 a2_7 a2_8 a2_9 a3_0 a3_1 a3_2 = some (r1, r2)) :
  Calls Try.prog 166 #[.slice A0 l0.length c0, .slice A1 l1.length c1, .agg #[.int .i64 a2_0, .int .i64 a2_1, .int .i64 a2_2, .int .i64 a2_3, .int .i64 a2_4, .int .i64 a2_5, .int .i64 a2_6, .int .i64 a2_7, .int .i64 a2_8, .int .i64 a2_9], .agg #[.int .i64 a3_0, .int .i64 a3_1, .int .i64 a3_2]] w fun e w' => ∃ v1_ : Value, e = .returned (.agg #[.int .i64 r1, v1_]) ∧ Kd.R (Kd.int .i64) 3 w' w.heap.size (fun _ => True) v1_ r2 ∧ Below w.heap.size w w' := by
 have hu56 := Try.underlying56
 have hu51 := Try.underlying51
 have hu183 := Try.underlying183
 have hu49 := Try.underlying49
 have HR0 := Aside0.mk hr0
 have HC0 := Aside0.mk hc0
 clear hr0 hc0
 have HR1 := Aside0.mk hr1
 have HC1 := Aside0.mk hc1
 clear hr1 hc1
 have HB := Aside0.mk (Below.refl w.heap.size w)
 have H : ((spec_CredOk.f k a2_0 a2_1 a2_2 a2_3 a2_4 a2_5 a2_6 a2_7 a2_8 a2_9).bind fun t174 => (if t174 = true then (spec_l19By.j0 k l0 l1 (!(a2_1 == a3_0) || (!(a2_2 == a3_1))) a2_0 a2_1 a2_2 a2_3 a2_4 a2_5 a2_6 a2_7 a2_8 a2_9 a3_0 a3_1 a3_2) else (spec_l19By.j0 k l0 l1 true a2_0 a2_1 a2_2 a2_3 a2_4 a2_5 a2_6 a2_7 a2_8 a2_9 a3_0 a3_1 a3_2))) = some (r1, r2) := h
 clear h
 have HC5 := Aside0.mk H
 clear H
 go_enter Try.func166, Try.ntmps166
 go_upto_region 1 with (first | ((with_reducible refine gate_dst (N := 6) rfl ?_); refine box_event ?hg (N := 6) ?hd (cs := #[.int .i64 a2_0, .int .i64 a2_1, .int .i64 a2_2, .int .i64 a2_3, .int .i64 a2_4, .int .i64 a2_5, .int .i64 a2_6, .int .i64 a2_7, .int .i64 a2_8, .int .i64 a2_9]) (t := 56) ?hr ?_; (case hd => rfl); (case hg => rfl); (case hr => first | (go_simp; done) | (go_simp; rfl)); intro gb171 hg w6 hbox hb; have BK171 := Aside0.mk (hbox); have GW171 := gs_ hg; have GE171 := gs_ hg; replace HB := hbs_ hb; clear hb hbox hg) | ((with_reducible refine gate_dst (N := 7) rfl ?_); refine box_event ?hg (N := 7) ?hd (cs := #[.int .i64 a3_0, .int .i64 a3_1, .int .i64 a3_2]) (t := 51) ?hr ?_; (case hd => rfl); (case hg => rfl); (case hr => first | (go_simp; done) | (go_simp; rfl)); intro gb172 hg w7 hbox hb; have BK172 := Aside0.mk (hbox); have GW172 := gs_ hg; have GE172 := gs_ hg; replace HB := hbs_ hb; have NB171_172 := nl_ hg BK171; have NB172_171 := nr_ hg BK171; replace BK171 := bkb_ BK171 hb; clear hb hbox hg) | ((with_reducible refine gate_dst (N := 8) rfl ?_); refine box_event ?hg (N := 8) ?hd (cs := #[.int .i64 0, .slice none 0 0]) (t := 183) ?hr ?_; (case hd => rfl); (case hg => rfl); (case hr => first | (go_simp; done) | (go_simp; rfl)); intro gb173 hg w8 hbox hb; have BK173 := Aside0.mk (hbox); have GW173 := gs_ hg; have GE173 := gs_ hg; replace HB := hbs_ hb; have NB171_173 := nl_ hg BK171; have NB173_171 := nr_ hg BK171; replace BK171 := bkb_ BK171 hb; have NB172_173 := nl_ hg BK172; have NB173_172 := nr_ hg BK172; replace BK172 := bkb_ BK172 hb; clear hb hbox hg))
 (try simp only [Act.put, List.setIfInBounds_toArray, List.set_cons_zero, List.set_cons_succ])
 go_cut [22] (fun v22 wc => ∃ (kq : Nat) (x22_4 : Bool), v22 = .bool x22_4 ∧ Aside0 (spec_l19By.j0 kq l0 l1 x22_4 a2_0 a2_1 a2_2 a2_3 a2_4 a2_5 a2_6 a2_7 a2_8 a2_9 a3_0 a3_1 a3_2 = some (r1, r2)) ∧ Aside0 (kq ≤ k) ∧ Aside0 (wc.heap[gb171]? = some (.cells #[.int .i64 a2_0, .int .i64 a2_1, .int .i64 a2_2, .int .i64 a2_3, .int .i64 a2_4, .int .i64 a2_5, .int .i64 a2_6, .int .i64 a2_7, .int .i64 a2_8, .int .i64 a2_9] 56 (0, 0))) ∧ Aside0 (wc.heap[gb172]? = some (.cells #[.int .i64 a3_0, .int .i64 a3_1, .int .i64 a3_2] 51 (0, 0))) ∧ Aside0 (wc.heap[gb173]? = some (.cells #[.int .i64 0, (.slice none 0 0)] 183 (0, 0))) ∧ Aside0 (Below w.heap.size w wc))
 case first =>
  have H := HC5.out
  clear HC5
  obtain ⟨t174, A9, H⟩ := bindE_ H
  by_cases c10 : t174 = true
  ·subst c10
   replace H := ite_t_ H
   have H' := Aside0.mk H
   clear H
   have hnb11 := NB171_172.out
   have hnc11 := NB172_171.out
   have hnb12 := NB171_173.out
   have hnc12 := NB173_171.out
   have hcz13 := blk_cell BK171.out
   have hfz13 := blk_frozen BK171.out
   go_wp2_with (first | ((with_reducible refine gate_callee (f := 94) rfl ?_); refine goesC_ (some 14) Try.func94 #[.agg #[.int .i64 a2_0, .int .i64 a2_1, .int .i64 a2_2, .int .i64 a2_3, .int .i64 a2_4, .int .i64 a2_5, .int .i64 a2_6, .int .i64 a2_7, .int .i64 a2_8, .int .i64 a2_9]] ?_; (with_reducible refine (spec_CredOk.calls k a2_0 a2_1 a2_2 a2_3 a2_4 a2_5 a2_6 a2_7 a2_8 a2_9 true _ A9.out).mono ?_); rintro e w14 ⟨rfl, hb⟩; refine ⟨_, rfl, ?_⟩; replace BK171 := bkb_ BK171 hb; replace BK172 := bkb_ BK172 hb; replace BK173 := bkb_ BK173 hb; replace HB := hbs_ hb; clear hb; have hcz15 := blk_cell BK171.out; have hfz15 := blk_frozen BK171.out; have hnb16 := NB172_173.out; have hnc16 := NB173_172.out; have hcz17 := blk_cell BK172.out; have hfz17 := blk_frozen BK172.out))
   go_meet
   case rel => exact ⟨_, ((!(a2_1 == a3_0) || (!(a2_2 == a3_1)))), rf_, H', ⟨by first | omega | exact Nat.le_refl _⟩, ⟨bk_ BK171⟩, ⟨bk_ BK172⟩, ⟨bk_ BK173⟩, ⟨bl_⟩⟩
  ·replace c10 := Bool.eq_false_iff.mpr c10
   subst c10
   replace H := ite_f_ H
   have H' := Aside0.mk H
   clear H
   have hnb18 := NB171_172.out
   have hnc18 := NB172_171.out
   have hnb19 := NB171_173.out
   have hnc19 := NB173_171.out
   have hcz20 := blk_cell BK171.out
   have hfz20 := blk_frozen BK171.out
   go_wp2_with (first | ((with_reducible refine gate_callee (f := 94) rfl ?_); refine goesC_ (some 14) Try.func94 #[.agg #[.int .i64 a2_0, .int .i64 a2_1, .int .i64 a2_2, .int .i64 a2_3, .int .i64 a2_4, .int .i64 a2_5, .int .i64 a2_6, .int .i64 a2_7, .int .i64 a2_8, .int .i64 a2_9]] ?_; (with_reducible refine (spec_CredOk.calls k a2_0 a2_1 a2_2 a2_3 a2_4 a2_5 a2_6 a2_7 a2_8 a2_9 false _ A9.out).mono ?_); rintro e w21 ⟨rfl, hb⟩; refine ⟨_, rfl, ?_⟩; replace BK171 := bkb_ BK171 hb; replace BK172 := bkb_ BK172 hb; replace BK173 := bkb_ BK173 hb; replace HB := hbs_ hb; clear hb))
   go_meet
   case rel => exact ⟨_, (true), rf_, H', ⟨by first | omega | exact Nat.le_refl _⟩, ⟨bk_ BK171⟩, ⟨bk_ BK172⟩, ⟨bk_ BK173⟩, ⟨bl_⟩⟩
 case rest =>
  clear HC5
  try clear c1
  try clear p2
  try clear c9
  try clear c10
  try clear c11
  try clear c12
  try clear c16
  try clear c18
  try clear c19
  try clear hcz13
  try clear hcz15
  try clear hcz17
  try clear hcz20
  try clear hfz13
  try clear hfz15
  try clear hfz17
  try clear hfz20
  obtain ⟨kq, x22_4, rfl, HA, HJ4, BK171, BK172, BK173, HB⟩ := hcut
  cases kq with
  | zero => exact absurd HA.out (by simp [spec_l19By.j0])
  | succ kj4 =>
   have H := HA.out
   clear HA
   simp only [spec_l19By.j0] at H
   by_cases c22 : x22_4 = true
   ·subst c22
    replace H := ite_t_ H
    simp only [Option.some.injEq, Prod.mk.injEq] at H
    obtain ⟨rfl, rfl⟩ := H
    have hnb23 := NB173_171.out
    have hnc23 := NB171_173.out
    have hnb24 := NB173_172.out
    have hnc24 := NB172_173.out
    have hcz25 := blk_cell BK173.out
    have hfz25 := blk_frozen BK173.out
    go_wp2
    refine bodyPost_ret (results_cell_row rfl _ _ gb173 183 #[.int .i64 0, .slice none 0 0] (0, 0) _ rfl (bk_ BK173) Try.underlying183 rfl (by kernel_rfl)) rfl ?_
    exact ⟨_, eq_, by first | exact Kd.R_nil _ _ _ _ _ | exact Kd.N_nil _ _ _ _ _ | exact Kd.V_nil _ _ _ _ _ | exact Kd.Q_nil _ _ _ _ _ | exact Kd.S_nil _ _ _ _ _, bl_⟩
   ·replace c22 := Bool.eq_false_iff.mpr c22
    subst c22
    replace H := ite_f_ H
    by_cases c26 : a2_0 = 1
    ·rw [if_pos c26] at H
     have c26b0 : (a2_0 == 1) = true := beq_iff_eq.mpr c26
     have c26b1 : (a2_0 != 1) = false := bne_eq_false_iff_eq.mpr c26
     clear c26
     by_cases c27 : a2_3 = a3_2
     ·rw [if_pos c27] at H
      have c27b0 : (a2_3 == a3_2) = true := beq_iff_eq.mpr c27
      have c27b1 : (a2_3 != a3_2) = false := bne_eq_false_iff_eq.mpr c27
      clear c27
      obtain ⟨y175, hy175⟩ : ∃ y_ : List Int, y_ = (([] : List Int)) := ⟨_, rfl⟩
      replace H : (some (1, y175)) = some (r1, r2) := by first | (rw [hy175]; with_reducible exact H) | (have H2_ := (Option.bind_some _ _).symm.trans H; rw [hy175]; with_reducible exact H2_) | (have H2_ := (Option.bind_some _ _).symm.trans H; with_reducible exact H2_) | with_reducible exact H | (rw [hy175]; exact H) | exact H
      have Ny175 := Aside0.mk hy175
      clear hy175
      simp only [Option.some.injEq, Prod.mk.injEq] at H
      obtain ⟨rfl, rfl⟩ := H
      have hnb28 := NB171_172.out
      have hnc28 := NB172_171.out
      have hnb29 := NB171_173.out
      have hnc29 := NB173_171.out
      have hcz30 := blk_cell BK171.out
      have hfz30 := blk_frozen BK171.out
      have hnb31 := NB172_173.out
      have hnc31 := NB173_172.out
      have hcz32 := blk_cell BK172.out
      have hfz32 := blk_frozen BK172.out
      go_wp2_with (first | ((with_reducible refine gate_dst (N := 33) rfl ?_); refine Kd.R_lit (Kd.int .i64) _ 3 ?hg (N := 33) ?hd (xs := ([] : List Int)) (inner := []) (ok := fun _ => True) (okp := fun _ => True) ?hr ?hp (fun _ hk => hk) trivial (Below.refl _ _) (Nat.le_refl _) (by simp) ?_; (case hd => rfl); (case hg => rfl); (case hr => first | (go_simp; done) | (go_simp; rfl)); (case hp => exact (Reps.none _ _)); intro v176 w33 ho34 hb hg_ hnew_; clear hg_ hnew_; (first | rw [← Ny175.out] at ho34 | (simp only [Int.reduceToNat] at ho34; rw [← Ny175.out] at ho34)); have HO177 := Aside0.mk (Kd.R_lower ho34 bls_); replace BK171 := bkb_ BK171 hb; replace BK172 := bkb_ BK172 hb; replace BK173 := bkb_ BK173 hb; replace HB := hbs_ hb; clear hb ho34; obtain ⟨Ao35, co35, eo35⟩ := Kd.R_slice HO177.out; subst eo35; have hcz36 := blk_cell BK173.out; have hfz36 := blk_frozen BK173.out))
      refine bodyPost_ret (results_cell_row rfl _ _ gb173 183 #[.int .i64 1, .slice Ao35 y175.length co35] (0, 0) _ rfl (bk_ BK173) Try.underlying183 rfl (by kernel_rfl)) rfl ?_
      exact ⟨_, eq_, by (with_reducible repeat (first | apply Kd.R_alloc | apply Kd.R_drewN | apply Kd.R_drew)); exact Kd.R_mono (Kd.R_far (p := ⟨gb173, 1, none⟩) (Kd.R_far (p := ⟨gb173, 0, none⟩) (Kd.R_types HO177.out BK173.out (by decide)) (fun _ hk => hk.2) (.int .i64 1)) (fun _ hk => hk.2) (.slice Ao35 y175.length co35)) (fun _ hk => trivial), bl_⟩
     ·rw [if_neg c27] at H
      have c27b0 : (a2_3 == a3_2) = false := beq_eq_false_iff_ne.mpr c27
      have c27b1 : (a2_3 != a3_2) = true := bne_iff_ne.mpr c27
      simp only [Option.some.injEq, Prod.mk.injEq] at H
      obtain ⟨rfl, rfl⟩ := H
      have hnb37 := NB171_172.out
      have hnc37 := NB172_171.out
      have hnb38 := NB171_173.out
      have hnc38 := NB173_171.out
      have hcz39 := blk_cell BK171.out
      have hfz39 := blk_frozen BK171.out
      have hnb40 := NB172_173.out
      have hnc40 := NB173_172.out
      have hcz41 := blk_cell BK172.out
      have hfz41 := blk_frozen BK172.out
      have hcz42 := blk_cell BK173.out
      have hfz42 := blk_frozen BK173.out
      go_wp2
      refine bodyPost_ret (results_cell_row rfl _ _ gb173 183 #[.int .i64 0, .slice none 0 0] (0, 0) _ rfl (bk_ BK173) Try.underlying183 rfl (by kernel_rfl)) rfl ?_
      exact ⟨_, eq_, by first | exact Kd.R_nil _ _ _ _ _ | exact Kd.N_nil _ _ _ _ _ | exact Kd.V_nil _ _ _ _ _ | exact Kd.Q_nil _ _ _ _ _ | exact Kd.S_nil _ _ _ _ _, bl_⟩
    ·rw [if_neg c26] at H
     have c26b0 : (a2_0 == 1) = false := beq_eq_false_iff_ne.mpr c26
     have c26b1 : (a2_0 != 1) = true := bne_iff_ne.mpr c26
     by_cases c43 : a2_0 = 2
     ·rw [if_pos c43] at H
      have c43b0 : (a2_0 == 2) = true := beq_iff_eq.mpr c43
      have c43b1 : (a2_0 != 2) = false := bne_eq_false_iff_eq.mpr c43
      clear c43
      obtain ⟨t178, A44, H⟩ := bindE_ H
      by_cases c45 : t178 < 0
      ·rw [if_pos c45] at H
       have c45b0 : decide (t178 < 0) = true := decide_eq_true c45
       clear c45
       simp only [Option.some.injEq, Prod.mk.injEq] at H
       obtain ⟨rfl, rfl⟩ := H
       have hnb46 := NB171_172.out
       have hnc46 := NB172_171.out
       have hnb47 := NB171_173.out
       have hnc47 := NB173_171.out
       have hcz48 := blk_cell BK171.out
       have hfz48 := blk_frozen BK171.out
       have hnb49 := NB172_173.out
       have hnc49 := NB173_172.out
       have hcz50 := blk_cell BK172.out
       have hfz50 := blk_frozen BK172.out
       go_wp2_with (first | ((with_reducible refine gate_callee (f := 198) rfl ?_); refine goesC_ (some 44) Try.func198 #[.slice A0 l0.length c0, .agg #[.int .i64 a2_4, .int .i64 a2_5, .int .i64 a3_2]] ?_; (with_reducible refine (spec_l19At.calls kj4 _ _ l0 a2_4 a2_5 a3_2 t178 _ ?side1 ?side2 A44.out).mono ?_); (case side1 => repeat (first | exact (Kd.C_below HR0.out HB.out) | (with_reducible refine Kd.C_alloc ?_ _) | (with_reducible refine Kd.C_drewN ?_ _) | (with_reducible refine Kd.C_drew ?_))); (case side2 => exact HC0.out); rintro e w51 ⟨rfl, hb⟩; refine ⟨_, rfl, ?_⟩; replace BK171 := bkb_ BK171 hb; replace BK172 := bkb_ BK172 hb; replace BK173 := bkb_ BK173 hb; replace HB := hbs_ hb; clear hb; have hcz52 := blk_cell BK173.out; have hfz52 := blk_frozen BK173.out))
       refine bodyPost_ret (results_cell_row rfl _ _ gb173 183 #[.int .i64 0, .slice none 0 0] (0, 0) _ rfl (bk_ BK173) Try.underlying183 rfl (by kernel_rfl)) rfl ?_
       exact ⟨_, eq_, by first | exact Kd.R_nil _ _ _ _ _ | exact Kd.N_nil _ _ _ _ _ | exact Kd.V_nil _ _ _ _ _ | exact Kd.Q_nil _ _ _ _ _ | exact Kd.S_nil _ _ _ _ _, bl_⟩
      ·rw [if_neg c45] at H
       have c45b0 : decide (t178 < 0) = false := decide_eq_false c45
       clear c45
       obtain ⟨c53b0, H⟩ := ifd_ H
       obtain ⟨c54b0, H⟩ := ifd_ H
       by_cases c55 : (rd l1 t178) = 0
       ·rw [if_pos c55] at H
        have c55b0 : ((rd l1 t178) == 0) = true := beq_iff_eq.mpr c55
        have c55b1 : ((rd l1 t178) != 0) = false := bne_eq_false_iff_eq.mpr c55
        clear c55
        simp only [Option.some.injEq, Prod.mk.injEq] at H
        obtain ⟨rfl, rfl⟩ := H
        have hnb56 := NB171_172.out
        have hnc56 := NB172_171.out
        have hnb57 := NB171_173.out
        have hnc57 := NB173_171.out
        have hcz58 := blk_cell BK171.out
        have hfz58 := blk_frozen BK171.out
        have hnb59 := NB172_173.out
        have hnc59 := NB173_172.out
        have hcz60 := blk_cell BK172.out
        have hfz60 := blk_frozen BK172.out
        go_wp2_with (first | ((with_reducible refine gate_callee (f := 198) rfl ?_); refine goesC_ (some 44) Try.func198 #[.slice A0 l0.length c0, .agg #[.int .i64 a2_4, .int .i64 a2_5, .int .i64 a3_2]] ?_; (with_reducible refine (spec_l19At.calls kj4 _ _ l0 a2_4 a2_5 a3_2 t178 _ ?side1 ?side2 A44.out).mono ?_); (case side1 => repeat (first | exact (Kd.C_below HR0.out HB.out) | (with_reducible refine Kd.C_alloc ?_ _) | (with_reducible refine Kd.C_drewN ?_ _) | (with_reducible refine Kd.C_drew ?_))); (case side2 => exact HC0.out); rintro e w61 ⟨rfl, hb⟩; refine ⟨_, rfl, ?_⟩; replace BK171 := bkb_ BK171 hb; replace BK172 := bkb_ BK172 hb; replace BK173 := bkb_ BK173 hb; replace HB := hbs_ hb; clear hb; have p179 : 0 ≤ (t178 : Int) := od_; have q179 : t178 < (l1.length : Int) := od_; obtain ⟨ad179, e179, hx179_0⟩ := Kd.at_int (Kd.C_below HR1.out HB.out) t178 p179 q179; cases e179; replace p179 := eq_true p179; replace q179 := eq_true q179; have hcz62 := blk_cell BK173.out; have hfz62 := blk_frozen BK173.out))
        refine bodyPost_ret (results_cell_row rfl _ _ gb173 183 #[.int .i64 0, .slice none 0 0] (0, 0) _ rfl (bk_ BK173) Try.underlying183 rfl (by kernel_rfl)) rfl ?_
        exact ⟨_, eq_, by first | exact Kd.R_nil _ _ _ _ _ | exact Kd.N_nil _ _ _ _ _ | exact Kd.V_nil _ _ _ _ _ | exact Kd.Q_nil _ _ _ _ _ | exact Kd.S_nil _ _ _ _ _, bl_⟩
       ·rw [if_neg c55] at H
        have c55b0 : ((rd l1 t178) == 0) = false := beq_eq_false_iff_ne.mpr c55
        have c55b1 : ((rd l1 t178) != 0) = true := bne_iff_ne.mpr c55
        obtain ⟨t181, A63, H⟩ := bindE_ H
        obtain ⟨y182, hy182⟩ : ∃ y_ : List Int, y_ = (([t178] : List Int)) := ⟨_, rfl⟩
        replace H : (some (t181, y182)) = some (r1, r2) := by first | (rw [hy182]; with_reducible exact H) | (have H2_ := (Option.bind_some _ _).symm.trans H; rw [hy182]; with_reducible exact H2_) | (have H2_ := (Option.bind_some _ _).symm.trans H; with_reducible exact H2_) | with_reducible exact H | (rw [hy182]; exact H) | exact H
        have Ny182 := Aside0.mk hy182
        clear hy182
        simp only [Option.some.injEq, Prod.mk.injEq] at H
        obtain ⟨rfl, rfl⟩ := H
        have hnb64 := NB171_172.out
        have hnc64 := NB172_171.out
        have hnb65 := NB171_173.out
        have hnc65 := NB173_171.out
        have hcz66 := blk_cell BK171.out
        have hfz66 := blk_frozen BK171.out
        have hnb67 := NB172_173.out
        have hnc67 := NB173_172.out
        have hcz68 := blk_cell BK172.out
        have hfz68 := blk_frozen BK172.out
        go_wp2_with (first | ((with_reducible refine gate_callee (f := 198) rfl ?_); refine goesC_ (some 44) Try.func198 #[.slice A0 l0.length c0, .agg #[.int .i64 a2_4, .int .i64 a2_5, .int .i64 a3_2]] ?_; (with_reducible refine (spec_l19At.calls kj4 _ _ l0 a2_4 a2_5 a3_2 t178 _ ?side1 ?side2 A44.out).mono ?_); (case side1 => repeat (first | exact (Kd.C_below HR0.out HB.out) | (with_reducible refine Kd.C_alloc ?_ _) | (with_reducible refine Kd.C_drewN ?_ _) | (with_reducible refine Kd.C_drew ?_))); (case side2 => exact HC0.out); rintro e w69 ⟨rfl, hb⟩; refine ⟨_, rfl, ?_⟩; replace BK171 := bkb_ BK171 hb; replace BK172 := bkb_ BK172 hb; replace BK173 := bkb_ BK173 hb; replace HB := hbs_ hb; clear hb; have p179 : 0 ≤ (t178 : Int) := od_; have q179 : t178 < (l1.length : Int) := od_; obtain ⟨ad179, e179, hx179_0⟩ := Kd.at_int (Kd.C_below HR1.out HB.out) t178 p179 q179; cases e179; replace p179 := eq_true p179; replace q179 := eq_true q179; have p180 : 0 ≤ (t178 : Int) := od_; have q180 : t178 < (l1.length : Int) := od_; obtain ⟨ad180, e180, hx180_0⟩ := Kd.at_int HR1.out t178 p180 q180; obtain rfl : ad179 = ad180 := (by injection e180); replace hx180_0 := cb_ HB hx180_0; replace p180 := eq_true p180; replace q180 := eq_true q180) | ((with_reducible refine gate_callee (f := 109) rfl ?_); refine goesC_ (some 60) Try.func109 #[.int .i64 (wrap64 (1 + (rd l1 t178)))] ?_; (with_reducible refine (spec_l19Cap.calls (wrap64 (1 + (rd l1 t178))) t181 _ A63.out).mono ?_); rintro e w' ⟨rfl, ⟨nd, rfl⟩⟩; refine ⟨_, rfl, ?_⟩; (try (rw [drewN_self w69]; generalize hq_ : World.drewN w69 _ = w69; have n0_ : Aside0 (w69.heap[gb171]? = some (.cells #[.int .i64 a2_0, .int .i64 a2_1, .int .i64 a2_2, .int .i64 a2_3, .int .i64 a2_4, .int .i64 a2_5, .int .i64 a2_6, .int .i64 a2_7, .int .i64 a2_8, .int .i64 a2_9] 56 (0, 0))) := ⟨by rw [← hq_]; exact (bk_ BK171)⟩; have n1_ : Aside0 (w69.heap[gb172]? = some (.cells #[.int .i64 a3_0, .int .i64 a3_1, .int .i64 a3_2] 51 (0, 0))) := ⟨by rw [← hq_]; exact (bk_ BK172)⟩; have n2_ : Aside0 (w69.heap[gb173]? = some (.cells #[.int .i64 0, .slice none 0 0] 183 (0, 0))) := ⟨by rw [← hq_]; exact (bk_ BK173)⟩; have n3_ : Aside0 (Below w.heap.size w w69) := ⟨by rw [← hq_]; exact bl_⟩; clear BK171 BK172 BK173 HB hq_; have BK171 := n0_; have BK172 := n1_; have BK173 := n2_; have HB := n3_; clear n0_ n1_ n2_ n3_))) | ((with_reducible refine gate_dst (N := 62) rfl ?_); refine Kd.R_lit (Kd.int .i64) _ 3 ?hg (N := 62) ?hd (xs := ([t178] : List Int)) (inner := [.int .i64 t178]) (ok := fun _ => True) (okp := fun _ => True) ?hr ?hp (fun _ hk => hk) trivial (Below.refl _ _) (Nat.le_refl _) (by simp) ?_; (case hd => rfl); (case hg => rfl); (case hr => first | (go_simp; done) | (go_simp; rfl)); (case hp => exact (Reps.one (show Kd.M (Kd.int .i64) _ _ _ t178 [.int .i64 t178] from rfl) (Reps.none _ _))); intro v183 w70 ho71 hb hg_ hnew_; clear hg_ hnew_; (first | rw [← Ny182.out] at ho71 | (simp only [Int.reduceToNat] at ho71; rw [← Ny182.out] at ho71)); have HO184 := Aside0.mk (Kd.R_lower ho71 bls_); replace BK171 := bkb_ BK171 hb; replace BK172 := bkb_ BK172 hb; replace BK173 := bkb_ BK173 hb; replace HB := hbs_ hb; clear hb ho71; obtain ⟨Ao72, co72, eo72⟩ := Kd.R_slice HO184.out; subst eo72; have hcz73 := blk_cell BK173.out; have hfz73 := blk_frozen BK173.out))
        refine bodyPost_ret (results_cell_row rfl _ _ gb173 183 #[.int .i64 t181, .slice Ao72 y182.length co72] (0, 0) _ rfl (bk_ BK173) Try.underlying183 rfl (by kernel_rfl)) rfl ?_
        exact ⟨_, eq_, by (with_reducible repeat (first | apply Kd.R_alloc | apply Kd.R_drewN | apply Kd.R_drew)); exact Kd.R_mono (Kd.R_far (p := ⟨gb173, 1, none⟩) (Kd.R_far (p := ⟨gb173, 0, none⟩) (Kd.R_types HO184.out BK173.out (by decide)) (fun _ hk => hk.2) (.int .i64 t181)) (fun _ hk => hk.2) (.slice Ao72 y182.length co72)) (fun _ hk => trivial), bl_⟩
     ·rw [if_neg c43] at H
      have c43b0 : (a2_0 == 2) = false := beq_eq_false_iff_ne.mpr c43
      have c43b1 : (a2_0 != 2) = true := bne_iff_ne.mpr c43
      by_cases c74 : a2_0 = 4
      ·rw [if_pos c74] at H
       have c74b0 : (a2_0 == 4) = true := beq_iff_eq.mpr c74
       have c74b1 : (a2_0 != 4) = false := bne_eq_false_iff_eq.mpr c74
       clear c74
       obtain ⟨t185, A75, H⟩ := bindE_ H
       obtain ⟨t186, A76, H⟩ := bindE_ H
       obtain ⟨⟨t187, t188⟩, A77, H⟩ := bindE_ H
       replace H : (some (t187, t188)) = some (r1, r2) := H
       simp only [Option.some.injEq, Prod.mk.injEq] at H
       obtain ⟨rfl, rfl⟩ := H
       have hnb78 := NB171_172.out
       have hnc78 := NB172_171.out
       have hnb79 := NB171_173.out
       have hnc79 := NB173_171.out
       have hcz80 := blk_cell BK171.out
       have hfz80 := blk_frozen BK171.out
       try go_wp2
       replace BK171 := Aside0.mk (blk_drew BK171.out)
       replace BK172 := Aside0.mk (blk_drew BK172.out)
       replace BK173 := Aside0.mk (blk_drew BK173.out)
       replace HB := Aside0.mk (below_drew1 HB.out)
       refine start_ (n := 17) (S := fun w' => w'.cell? ⟨gb171, 0, none⟩ = some (.int .i64 a2_0) ∧ w'.cell? ⟨gb171, 1, none⟩ = some (.int .i64 a2_1) ∧ w'.cell? ⟨gb171, 2, none⟩ = some (.int .i64 a2_2) ∧ w'.cell? ⟨gb171, 3, none⟩ = some (.int .i64 a2_3) ∧ w'.cell? ⟨gb171, 4, none⟩ = some (.int .i64 a2_4) ∧ w'.cell? ⟨gb171, 5, none⟩ = some (.int .i64 a2_5) ∧ w'.cell? ⟨gb171, 6, none⟩ = some (.int .i64 a2_6) ∧ w'.cell? ⟨gb171, 7, none⟩ = some (.int .i64 a2_7) ∧ w'.cell? ⟨gb171, 8, none⟩ = some (.int .i64 a2_8) ∧ w'.cell? ⟨gb171, 9, none⟩ = some (.int .i64 a2_9) ∧ w'.cell? ⟨gb172, 0, none⟩ = some (.int .i64 a3_0) ∧ w'.cell? ⟨gb172, 1, none⟩ = some (.int .i64 a3_1) ∧ w'.cell? ⟨gb172, 2, none⟩ = some (.int .i64 a3_2)) (ds := []) #[false, false, false, false, false, false, false, false, false, false, false, false, false, false, false, false, false] (by kernel_rfl) rfl rfl ⟨(blk_cell BK171.out 0).trans rfl, (blk_cell BK171.out 1).trans rfl, (blk_cell BK171.out 2).trans rfl, (blk_cell BK171.out 3).trans rfl, (blk_cell BK171.out 4).trans rfl, (blk_cell BK171.out 5).trans rfl, (blk_cell BK171.out 6).trans rfl, (blk_cell BK171.out 7).trans rfl, (blk_cell BK171.out 8).trans rfl, (blk_cell BK171.out 9).trans rfl, (blk_cell BK172.out 0).trans rfl, (blk_cell BK172.out 1).trans rfl, (blk_cell BK172.out 2).trans rfl⟩ (fun hHeld => ?_); refine with_tabW spec_l19By.tab14 spec_l19By.bits14 (fun HT_ HW_ => ?_)
       generalize wc.drew = w81 at BK171 BK172 BK173 HB hHeld ⊢
       refine pureZ_ (i := 0) (some 66) #[true, false, false, false, false, false, false, false, false, false, false, false, false, false, false, false, false] (any_of HT_.out (by kernel_rfl)) ?_
       refine pureZ_ (i := 1) (some 67) #[true, true, false, false, false, false, false, false, false, false, false, false, false, false, false, false, false] (any_of HT_.out (by kernel_rfl)) ?_
       refine pureZ_ (i := 2) (some 68) #[true, true, true, false, false, false, false, false, false, false, false, false, false, false, false, false, false] (any_of HT_.out (by kernel_rfl)) ?_
       refine pureZ_ (i := 4) (some 70) #[true, true, true, false, true, false, false, false, false, false, false, false, false, false, false, false, false] (any_of HT_.out (by kernel_rfl)) ?_
       refine pureZ_ (i := 8) (some 74) #[true, true, true, false, true, false, false, false, true, false, false, false, false, false, false, false, false] (any_of HT_.out (by kernel_rfl)) ?_
       refine pureZ_ (i := 9) (some 75) #[true, true, true, false, true, false, false, false, true, true, false, false, false, false, false, false, false] (any_of HT_.out (by kernel_rfl)) ?_
       refine pureZ_ (i := 11) (some 77) #[true, true, true, false, true, false, false, false, true, true, false, true, false, false, false, false, false] (any_of HT_.out (by kernel_rfl)) ?_
       refine takeZ_ (i := 3) (some 69) #[true, true, true, true, true, false, false, false, true, true, false, true, false, false, false, false, false] (take_ofW HT_.out HW_.out (by kernel_rfl)) hHeld ?_
       refine takeZ_ (i := 5) (some 71) #[true, true, true, true, true, true, false, false, true, true, false, true, false, false, false, false, false] (take_ofW HT_.out HW_.out (by kernel_rfl)) hHeld ?_
       refine pureZ_ (i := 6) (some 72) #[true, true, true, true, true, true, true, false, true, true, false, true, false, false, false, false, false] (any_of HT_.out (by kernel_rfl)) ?_
       refine takeZ_ (i := 10) (some 76) #[true, true, true, true, true, true, true, false, true, true, true, true, false, false, false, false, false] (take_ofW HT_.out HW_.out (by kernel_rfl)) hHeld ?_
       refine takeZ_ (i := 12) (some 78) #[true, true, true, true, true, true, true, false, true, true, true, true, true, false, false, false, false] (take_ofW HT_.out HW_.out (by kernel_rfl)) hHeld ?_
       refine pureZ_ (i := 13) (some 79) #[true, true, true, true, true, true, true, false, true, true, true, true, true, true, false, false, false] (any_of HT_.out (by kernel_rfl)) ?_
       refine one_ (i := 7) (N := some 73) #[true, true, true, true, true, true, true, true, true, true, true, true, true, true, false, false, false] rfl rfl (one_of HT_.out (by kernel_rfl)) (by decide) (fun K hK => ?_)
       refine goes_ Try.func198 (by kernel_rfl) rfl #[.slice A0 l0.length c0, .agg #[.int .i64 a2_4, .int .i64 a2_5, .int .i64 a3_2]] (by rfl) rfl rfl (by (try simp only [List.map_toArray, List.map_cons, List.map_nil]); first | done | rfl | (simp only [List.length_drop, List.length_take]; rfl)) ?_
       with_reducible refine (spec_l19At.calls kj4 _ _ l0 a2_4 a2_5 a3_2 t185 _ ?side1 ?side2 A75.out).mono ?_
       (case side1 => repeat (first | exact (Kd.C_below HR0.out HB.out) | (with_reducible refine Kd.C_alloc ?_ _) | (with_reducible refine Kd.C_drewN ?_ _) | (with_reducible refine Kd.C_drew ?_)))
       (case side2 => exact HC0.out)
       rintro e w82 ⟨rfl, hb⟩
       refine ⟨_, rfl, ?_⟩
       replace BK171 := bkb_ BK171 hb
       replace BK172 := bkb_ BK172 hb
       replace BK173 := bkb_ BK173 hb
       replace HB := hbs_ hb
       (try clear hb)
       (try clear hb2)
       (try clear hk)
       (try clear hi)
       refine hK.out _ _ ⟨(blk_cell BK171.out 0).trans rfl, (blk_cell BK171.out 1).trans rfl, (blk_cell BK171.out 2).trans rfl, (blk_cell BK171.out 3).trans rfl, (blk_cell BK171.out 4).trans rfl, (blk_cell BK171.out 5).trans rfl, (blk_cell BK171.out 6).trans rfl, (blk_cell BK171.out 7).trans rfl, (blk_cell BK171.out 8).trans rfl, (blk_cell BK171.out 9).trans rfl, (blk_cell BK172.out 0).trans rfl, (blk_cell BK172.out 1).trans rfl, (blk_cell BK172.out 2).trans rfl⟩ (fun hHeld => ?_)
       clear hK K
       refine norm_ (a' := ?_) ?_ ?_
       rotate_left
       ·show Act.put _ (some 73) _ = _
        simp only [Act.put, List.setIfInBounds_toArray, List.set_cons_zero, List.set_cons_succ, i64_w, i32_w]
        rfl
       refine one_ (i := 14) (N := some 80) #[true, true, true, true, true, true, true, true, true, true, true, true, true, true, true, false, false] rfl rfl (one_of HT_.out (by kernel_rfl)) (by decide) (fun K hK => ?_)
       refine goes_ Try.func198 (by kernel_rfl) rfl #[.slice A0 l0.length c0, .agg #[.int .i64 a2_6, .int .i64 a2_7, .int .i64 a3_2]] (by rfl) rfl rfl (by (try simp only [List.map_toArray, List.map_cons, List.map_nil]); first | done | rfl | (simp only [List.length_drop, List.length_take]; rfl)) ?_
       with_reducible refine (spec_l19At.calls kj4 _ _ l0 a2_6 a2_7 a3_2 t186 _ ?side1 ?side2 A76.out).mono ?_
       (case side1 => repeat (first | exact (Kd.C_below HR0.out HB.out) | (with_reducible refine Kd.C_alloc ?_ _) | (with_reducible refine Kd.C_drewN ?_ _) | (with_reducible refine Kd.C_drew ?_)))
       (case side2 => exact HC0.out)
       rintro e w83 ⟨rfl, hb⟩
       refine ⟨_, rfl, ?_⟩
       replace BK171 := bkb_ BK171 hb
       replace BK172 := bkb_ BK172 hb
       replace BK173 := bkb_ BK173 hb
       replace HB := hbs_ hb
       (try clear hb)
       (try clear hb2)
       (try clear hk)
       (try clear hi)
       refine hK.out _ _ ⟨(blk_cell BK171.out 0).trans rfl, (blk_cell BK171.out 1).trans rfl, (blk_cell BK171.out 2).trans rfl, (blk_cell BK171.out 3).trans rfl, (blk_cell BK171.out 4).trans rfl, (blk_cell BK171.out 5).trans rfl, (blk_cell BK171.out 6).trans rfl, (blk_cell BK171.out 7).trans rfl, (blk_cell BK171.out 8).trans rfl, (blk_cell BK171.out 9).trans rfl, (blk_cell BK172.out 0).trans rfl, (blk_cell BK172.out 1).trans rfl, (blk_cell BK172.out 2).trans rfl⟩ (fun hHeld => ?_)
       clear hK K
       refine norm_ (a' := ?_) ?_ ?_
       rotate_left
       ·show Act.put _ (some 80) _ = _
        simp only [Act.put, List.setIfInBounds_toArray, List.set_cons_zero, List.set_cons_succ, i64_w, i32_w]
        rfl
       refine one_ (i := 15) (N := some 81) #[true, true, true, true, true, true, true, true, true, true, true, true, true, true, true, true, false] rfl rfl (one_of HT_.out (by kernel_rfl)) (by decide) (fun K hK => ?_)
       refine goes_ Try.func199 (by kernel_rfl) rfl #[.slice A1 l1.length c1, .int .i64 t185, .int .i64 t186] (by rfl) rfl rfl (by (try simp only [List.map_toArray, List.map_cons, List.map_nil]); first | done | rfl | (simp only [List.length_drop, List.length_take]; rfl)) ?_
       with_reducible refine (spec_l19Two.calls _ _ l1 t185 t186 t187 t188 _ ?side1 ?side2 A77.out).mono ?_
       (case side1 => repeat (first | exact (Kd.C_below HR1.out HB.out) | (with_reducible refine Kd.C_alloc ?_ _) | (with_reducible refine Kd.C_drewN ?_ _) | (with_reducible refine Kd.C_drew ?_)))
       (case side2 => exact HC1.out)
       rintro e w84 ⟨v189, rfl, ho0, hb⟩
       refine ⟨_, rfl, ?_⟩
       have HO190 := Aside0.mk (Kd.R_lower ho0 bls_)
       replace BK171 := bkb_ BK171 hb
       replace BK172 := bkb_ BK172 hb
       replace BK173 := bkb_ BK173 hb
       replace HB := hbs_ hb
       (try clear hb)
       (try clear hb2)
       (try clear hk)
       (try clear hi)
       (try clear ho0)
       obtain ⟨Ao86, co86, eo86⟩ := Kd.R_slice HO190.out
       (first | subst eo86 | (injection eo86 with f1_ f2_ f3_; have f4_ := f1_.symm; have f5_ := f3_.symm; clear f1_ f2_ f3_; subst f4_; subst f5_))
       refine hK.out _ _ ⟨(blk_cell BK171.out 0).trans rfl, (blk_cell BK171.out 1).trans rfl, (blk_cell BK171.out 2).trans rfl, (blk_cell BK171.out 3).trans rfl, (blk_cell BK171.out 4).trans rfl, (blk_cell BK171.out 5).trans rfl, (blk_cell BK171.out 6).trans rfl, (blk_cell BK171.out 7).trans rfl, (blk_cell BK171.out 8).trans rfl, (blk_cell BK171.out 9).trans rfl, (blk_cell BK172.out 0).trans rfl, (blk_cell BK172.out 1).trans rfl, (blk_cell BK172.out 2).trans rfl⟩ (fun hHeld => ?_)
       clear hK K
       refine norm_ (a' := ?_) ?_ ?_
       rotate_left
       ·show Act.put _ (some 81) _ = _
        simp only [Act.put, List.setIfInBounds_toArray, List.set_cons_zero, List.set_cons_succ, i64_w, i32_w]
        rfl
       refine one_ (i := 16) (N := none) #[true, true, true, true, true, true, true, true, true, true, true, true, true, true, true, true, true] rfl rfl (one_of HT_.out (by kernel_rfl)) (by decide) (fun K hK => ?_)
       have hs85 : w84.cell? ⟨gb173, 0, none⟩ = some (.int .i64 0) := (blk_cell BK173.out 0).trans rfl
       have hfs85 := blk_frozen BK173.out 0
       have hns85_0 := NB171_173.out
       have hns85_1 := NB172_173.out
       have hms85_0 := NB173_171.out
       have hms85_1 := NB173_172.out
       have hs87 : w84.cell? ⟨gb173, 1, none⟩ = some (.slice none 0 0) := (blk_cell BK173.out 1).trans rfl
       have hfs87 := blk_frozen BK173.out 1
       have hns87_0 := NB171_173.out
       have hns87_1 := NB172_173.out
       have hms87_0 := NB173_171.out
       have hms87_1 := NB173_172.out
       refine skip_ (w1 := ?_) (by rfl) rfl ?_ ?_
       rotate_left
       ·go_simp
        rfl
       refine hK.out _ _ ⟨((cell_far (p := ⟨gb173, _, none⟩) NB171_173.out _).trans (((cell_far (p := ⟨gb173, _, none⟩) NB171_173.out _).trans (hHeld.1)))), ((cell_far (p := ⟨gb173, _, none⟩) NB171_173.out _).trans (((cell_far (p := ⟨gb173, _, none⟩) NB171_173.out _).trans (hHeld.2.1)))), ((cell_far (p := ⟨gb173, _, none⟩) NB171_173.out _).trans (((cell_far (p := ⟨gb173, _, none⟩) NB171_173.out _).trans (hHeld.2.2.1)))), ((cell_far (p := ⟨gb173, _, none⟩) NB171_173.out _).trans (((cell_far (p := ⟨gb173, _, none⟩) NB171_173.out _).trans (hHeld.2.2.2.1)))), ((cell_far (p := ⟨gb173, _, none⟩) NB171_173.out _).trans (((cell_far (p := ⟨gb173, _, none⟩) NB171_173.out _).trans (hHeld.2.2.2.2.1)))), ((cell_far (p := ⟨gb173, _, none⟩) NB171_173.out _).trans (((cell_far (p := ⟨gb173, _, none⟩) NB171_173.out _).trans (hHeld.2.2.2.2.2.1)))), ((cell_far (p := ⟨gb173, _, none⟩) NB171_173.out _).trans (((cell_far (p := ⟨gb173, _, none⟩) NB171_173.out _).trans (hHeld.2.2.2.2.2.2.1)))), ((cell_far (p := ⟨gb173, _, none⟩) NB171_173.out _).trans (((cell_far (p := ⟨gb173, _, none⟩) NB171_173.out _).trans (hHeld.2.2.2.2.2.2.2.1)))), ((cell_far (p := ⟨gb173, _, none⟩) NB171_173.out _).trans (((cell_far (p := ⟨gb173, _, none⟩) NB171_173.out _).trans (hHeld.2.2.2.2.2.2.2.2.1)))), ((cell_far (p := ⟨gb173, _, none⟩) NB171_173.out _).trans (((cell_far (p := ⟨gb173, _, none⟩) NB171_173.out _).trans (hHeld.2.2.2.2.2.2.2.2.2.1)))), ((cell_far (p := ⟨gb173, _, none⟩) NB172_173.out _).trans (((cell_far (p := ⟨gb173, _, none⟩) NB172_173.out _).trans (hHeld.2.2.2.2.2.2.2.2.2.2.1)))), ((cell_far (p := ⟨gb173, _, none⟩) NB172_173.out _).trans (((cell_far (p := ⟨gb173, _, none⟩) NB172_173.out _).trans (hHeld.2.2.2.2.2.2.2.2.2.2.2.1)))), ((cell_far (p := ⟨gb173, _, none⟩) NB172_173.out _).trans (((cell_far (p := ⟨gb173, _, none⟩) NB172_173.out _).trans (hHeld.2.2.2.2.2.2.2.2.2.2.2.2))))⟩ (fun hHeld => ?_)
       clear hK K
       refine done_ (done_of HT_.out (by kernel_rfl)) ?_
       try go_wp2
       refine bodyPost_ret (results_cell_row rfl _ _ gb173 183 #[.int .i64 t187, .slice Ao86 t188.length co86] (0, 0) _ rfl (bk_ BK173) Try.underlying183 rfl (by kernel_rfl)) rfl ?_
       exact ⟨_, eq_, by (with_reducible repeat (first | apply Kd.R_alloc | apply Kd.R_drewN | apply Kd.R_drew)); exact Kd.R_mono (Kd.R_far (p := ⟨gb173, 1, none⟩) (Kd.R_far (p := ⟨gb173, 0, none⟩) (Kd.R_types HO190.out BK173.out (by decide)) (fun _ hk => hk.2) (.int .i64 t187)) (fun _ hk => hk.2) (.slice Ao86 t188.length co86)) (fun _ hk => trivial), bl_⟩
      ·rw [if_neg c74] at H
       have c74b0 : (a2_0 == 4) = false := beq_eq_false_iff_ne.mpr c74
       have c74b1 : (a2_0 != 4) = true := bne_iff_ne.mpr c74
       have H' := Aside0.mk H
       clear H
       have hnb88 := NB171_172.out
       have hnc88 := NB172_171.out
       have hnb89 := NB171_173.out
       have hnc89 := NB173_171.out
       have hcz90 := blk_cell BK171.out
       have hfz90 := blk_frozen BK171.out
       go_wp2_with (first | ((with_reducible refine gate_dst (N := 10) rfl ?_); refine box_event ?hg (N := 10) ?hd (cs := #[.int .i64 0, .slice none 0 0]) (t := 183) ?hr ?_; (case hd => rfl); (case hg => rfl); (case hr => first | (go_simp; done) | (go_simp; rfl)); intro gb191 hg w91 hbox hb; have BK191 := Aside0.mk (hbox); have GW191 := gs_ hg; have GE191 := gs_ hg; replace HB := hbs_ hb; have NB171_191 := nl_ hg BK171; have NB191_171 := nr_ hg BK171; replace BK171 := bkb_ BK171 hb; have NB172_191 := nl_ hg BK172; have NB191_172 := nr_ hg BK172; replace BK172 := bkb_ BK172 hb; have NB173_191 := nl_ hg BK173; have NB191_173 := nr_ hg BK173; replace BK173 := bkb_ BK173 hb; clear hb hbox hg; have hnb92 := NB191_171.out; have hnc92 := NB171_191.out; have hnb93 := NB191_172.out; have hnc93 := NB172_191.out; have hnb94 := NB191_173.out; have hnc94 := NB173_191.out; have hcz95 := blk_cell BK191.out; have hfz95 := blk_frozen BK191.out))
       go_loopg [11] kj4 (fun kq v11 w' => ∃ (x11_2 : Int) (x192000_2 : Int) (x192001_2 : List Int) (u192001 : Value), v11 = .int .i64 x11_2 ∧ Aside0 (spec_l19By.l0 kq l0 l1 x11_2 a2_0 a2_1 a2_2 a2_3 a2_4 a2_5 a2_6 a2_7 a2_8 a2_9 a3_0 a3_1 a3_2 x192000_2 x192001_2 = some (r1, r2)) ∧ Aside0 (kq ≤ kj4) ∧ Aside0 (Kd.R (Kd.int .i64) 3 w' w.heap.size (fun _ => True) u192001 x192001_2) ∧ Aside0 (w'.heap[gb171]? = some (.cells #[.int .i64 a2_0, .int .i64 a2_1, .int .i64 a2_2, .int .i64 a2_3, .int .i64 a2_4, .int .i64 a2_5, .int .i64 a2_6, .int .i64 a2_7, .int .i64 a2_8, .int .i64 a2_9] 56 (0, 0))) ∧ Aside0 (w'.heap[gb172]? = some (.cells #[.int .i64 a3_0, .int .i64 a3_1, .int .i64 a3_2] 51 (0, 0))) ∧ Aside0 (w'.heap[gb173]? = some (.cells #[.int .i64 0, (.slice none 0 0)] 183 (0, 0))) ∧ Aside0 (w'.heap[gb191]? = some (.cells #[.int .i64 x192000_2, u192001] 183 (0, 0))) ∧ Aside0 (Below w.heap.size w w'))
       case atStart => exact ⟨(0), (0), (([] : List Int)), (.slice none 0 0), rf_, H', ⟨Nat.le_refl _⟩, ⟨by first | exact Kd.R_nil _ _ _ _ _ | exact Kd.N_nil _ _ _ _ _ | exact Kd.V_nil _ _ _ _ _ | exact Kd.Q_nil _ _ _ _ _ | exact Kd.S_nil _ _ _ _ _⟩, ⟨bk_ BK171⟩, ⟨bk_ BK172⟩, ⟨bk_ BK173⟩, ⟨bk_ BK191⟩, ⟨bl_⟩⟩
       case round =>
        clear H'
        try clear c1
        try clear p1
        try clear q1
        try clear hx1
        try clear c2
        try clear p2
        try clear c3
        try clear c4
        try clear c5
        try clear c6
        try clear p6
        try clear c7
        try clear c8
        try clear c9
        try clear c10
        try clear p17
        try clear q17
        try clear hx17
        try clear p18
        try clear q18
        try clear hx18
        try clear c19
        try clear c22
        try clear c23
        try clear c24
        try clear c26
        try clear c26b0
        try clear c26b1
        try clear c27
        try clear c27b0
        try clear c27b1
        try clear c28
        try clear c29
        try clear c31
        try clear c37
        try clear c38
        try clear c40
        try clear c43
        try clear c43b0
        try clear c43b1
        try clear c45
        try clear c45b0
        try clear c46
        try clear c47
        try clear c49
        try clear c53
        try clear c53b0
        try clear c54
        try clear c54b0
        try clear c55
        try clear c55b0
        try clear c55b1
        try clear c56
        try clear c57
        try clear c59
        try clear c64
        try clear p64
        try clear c65
        try clear c67
        try clear c74
        try clear c74b0
        try clear c74b1
        try clear c78
        try clear c79
        try clear c88
        try clear c89
        try clear c92
        try clear c93
        try clear c94
        try clear hcz25
        try clear hcz30
        try clear hcz32
        try clear hcz36
        try clear hcz39
        try clear hcz41
        try clear hcz42
        try clear hcz48
        try clear hcz50
        try clear hcz52
        try clear hcz58
        try clear hcz60
        try clear hcz62
        try clear hcz66
        try clear hcz68
        try clear hcz73
        try clear hcz80
        try clear hcz90
        try clear hcz95
        try clear hfz17
        try clear hfz20
        try clear hfz25
        try clear hfz30
        try clear hfz32
        try clear hfz36
        try clear hfz39
        try clear hfz41
        try clear hfz42
        try clear hfz48
        try clear hfz50
        try clear hfz52
        try clear hfz58
        try clear hfz60
        try clear hfz62
        try clear hfz66
        try clear hfz68
        try clear hfz73
        try clear hfz80
        try clear hfz90
        try clear hfz95
        try clear hx179_0
        try clear hx180_0
        try clear p179
        try clear p180
        try clear q179
        try clear q180
        obtain ⟨x11_2, x192000_2, x192001_2, u192001, rfl, HA, HK2, HO_192001, BK171, BK172, BK173, BK191, HB⟩ := hrel
        cases gk with
        | zero => exact absurd HA.out (by simp [spec_l19By.l0])
        | succ k2 =>
         have H := HA.out
         clear HA
         simp only [spec_l19By.l0] at H
         by_cases c96 : x11_2 < (l0.length : Int)
         ·rw [if_pos c96] at H
          have c96b0 : decide (x11_2 < (l0.length : Int)) = true := decide_eq_true c96
          clear c96
          obtain ⟨c97b0, H⟩ := ifd_ H
          by_cases c98 : (((rd_T51 l0 x11_2).f0.f0) == a2_4 && (((rd_T51 l0 x11_2).f0.f1) == a2_5)) = true
          ·rw [if_pos c98] at H
           have c98b0 : (((rd_T51 l0 x11_2).f0.f0) == a2_4 && (((rd_T51 l0 x11_2).f0.f1) == a2_5)) = true := c98
           (try (have c98b1 : decide (((rd_T51 l0 x11_2).f0.f0) = a2_4 && (((rd_T51 l0 x11_2).f0.f1) == a2_5)) = true := by simpa using c98))
           (try (have c98b2 : (((rd_T51 l0 x11_2).f0.f0) == a2_4 && (((rd_T51 l0 x11_2).f0.f1) == a2_5)) = true := by simpa using c98))
           clear c98
           obtain ⟨t194, A99, H⟩ := bindE_ H
           obtain ⟨⟨t195, t196⟩, A100, H⟩ := bindE_ H
           replace H : ((spec_l19Better.f x192000_2 x192001_2 t195 t196).bind fun bt199 => (spec_l19By.l0 k2 l0 l1 (wrap64 (x11_2 + 1)) a2_0 a2_1 a2_2 a2_3 a2_4 a2_5 a2_6 a2_7 a2_8 a2_9 a3_0 a3_1 a3_2 bt199.1 bt199.2)) = some (r1, r2) := H
           obtain ⟨⟨t199, t200⟩, A101, H⟩ := bindE_ H
           replace H : (spec_l19By.l0 k2 l0 l1 (wrap64 (x11_2 + 1)) a2_0 a2_1 a2_2 a2_3 a2_4 a2_5 a2_6 a2_7 a2_8 a2_9 a3_0 a3_1 a3_2 t199 t200) = some (r1, r2) := H
           have H' := Aside0.mk H
           clear H
           try go_wp2
           replace HO_192001 := Aside0.mk (Kd.R_drew HO_192001.out)
           replace BK171 := Aside0.mk (blk_drew BK171.out)
           replace BK172 := Aside0.mk (blk_drew BK172.out)
           replace BK173 := Aside0.mk (blk_drew BK173.out)
           replace BK191 := Aside0.mk (blk_drew BK191.out)
           replace HB := Aside0.mk (below_drew1 HB.out)
           have p192 : 0 ≤ (x11_2 : Int) := od_
           have q192 : x11_2 < (l0.length : Int) := od_
           obtain ⟨ad192, e192, hx192_0, hx192_1, hx192_2⟩ := at_T51 HR0.out x11_2 p192 q192
           have hw192_2 := hx192_2
           have hw192_1 := hx192_1
           have hw192_0 := hx192_0
           cases e192
           replace hx192_0 := cb_ HB hx192_0
           replace hx192_1 := cb_ HB hx192_1
           replace hx192_2 := cb_ HB hx192_2
           replace p192 := eq_true p192
           replace q192 := eq_true q192
           refine start_ (n := 8) (S := fun w' => w'.cell? ⟨gb171, 0, none⟩ = some (.int .i64 a2_0) ∧ w'.cell? ⟨gb171, 1, none⟩ = some (.int .i64 a2_1) ∧ w'.cell? ⟨gb171, 2, none⟩ = some (.int .i64 a2_2) ∧ w'.cell? ⟨gb171, 3, none⟩ = some (.int .i64 a2_3) ∧ w'.cell? ⟨gb171, 4, none⟩ = some (.int .i64 a2_4) ∧ w'.cell? ⟨gb171, 5, none⟩ = some (.int .i64 a2_5) ∧ w'.cell? ⟨gb171, 6, none⟩ = some (.int .i64 a2_6) ∧ w'.cell? ⟨gb171, 7, none⟩ = some (.int .i64 a2_7) ∧ w'.cell? ⟨gb171, 8, none⟩ = some (.int .i64 a2_8) ∧ w'.cell? ⟨gb171, 9, none⟩ = some (.int .i64 a2_9) ∧ w'.cell? (ad192.add ((x11_2).toNat * 3)) = some (.int .i64 ((rd_T51 l0 x11_2).f0.f0)) ∧ w'.cell? ⟨(ad192.add ((x11_2).toNat * 3)).block, (ad192.add ((x11_2).toNat * 3)).off + 1, none⟩ = some (.int .i64 ((rd_T51 l0 x11_2).f0.f1)) ∧ w'.cell? ⟨(ad192.add ((x11_2).toNat * 3)).block, (ad192.add ((x11_2).toNat * 3)).off + 2, none⟩ = some (.int .i64 ((rd_T51 l0 x11_2).f1))) (ds := []) #[false, false, false, false, false, false, false, false] (by kernel_rfl) rfl rfl ⟨(blk_cell BK171.out 0).trans rfl, (blk_cell BK171.out 1).trans rfl, (blk_cell BK171.out 2).trans rfl, (blk_cell BK171.out 3).trans rfl, (blk_cell BK171.out 4).trans rfl, (blk_cell BK171.out 5).trans rfl, (blk_cell BK171.out 6).trans rfl, (blk_cell BK171.out 7).trans rfl, (blk_cell BK171.out 8).trans rfl, (blk_cell BK171.out 9).trans rfl, (cb_ HB hw192_0 :), (cb_ HB hw192_1 :), (cb_ HB hw192_2 :)⟩ (fun hHeld => ?_); refine with_tabW spec_l19By.tab19 spec_l19By.bits19 (fun HT_ HW_ => ?_)
           generalize wr.drew = w102 at HO_192001 BK171 BK172 BK173 BK191 HB hx192_0 hx192_1 hx192_2 hHeld ⊢
           refine pureZ_ (i := 0) (some 89) #[true, false, false, false, false, false, false, false] (any_of HT_.out (by kernel_rfl)) ?_
           refine pureZ_ (i := 1) (some 90) #[true, true, false, false, false, false, false, false] (any_of HT_.out (by kernel_rfl)) ?_
           refine pureZ_ (i := 2) (some 91) #[true, true, true, false, false, false, false, false] (any_of HT_.out (by kernel_rfl)) ?_
           refine pureZ_ (i := 3) (some 92) #[true, true, true, true, false, false, false, false] (any_of HT_.out (by kernel_rfl)) ?_
           refine pureZ_ (i := 5) (some 94) #[true, true, true, true, false, true, false, false] (any_of HT_.out (by kernel_rfl)) ?_
           refine takeZ_ (i := 4) (some 93) #[true, true, true, true, true, true, false, false] (take_ofW HT_.out HW_.out (by kernel_rfl)) hHeld ?_
           refine takeZ_ (i := 6) (some 95) #[true, true, true, true, true, true, true, false] (take_ofW HT_.out HW_.out (by kernel_rfl)) hHeld ?_
           refine pureZ_ (i := 7) (some 96) #[true, true, true, true, true, true, true, true] (any_of HT_.out (by kernel_rfl)) ?_
           refine done_ (done_of HT_.out (by kernel_rfl)) ?_
           try go_wp2
           replace HO_192001 := Aside0.mk (Kd.R_drew HO_192001.out)
           replace BK171 := Aside0.mk (blk_drew BK171.out)
           replace BK172 := Aside0.mk (blk_drew BK172.out)
           replace BK173 := Aside0.mk (blk_drew BK173.out)
           replace BK191 := Aside0.mk (blk_drew BK191.out)
           replace HB := Aside0.mk (below_drew1 HB.out)
           have p193 : 0 ≤ (x11_2 : Int) := od_
           have q193 : x11_2 < (l0.length : Int) := od_
           obtain ⟨ad193, e193, hx193_0, hx193_1, hx193_2⟩ := at_T51 HR0.out x11_2 p193 q193
           have hw193_2 := hx193_2
           have hw193_1 := hx193_1
           have hw193_0 := hx193_0
           obtain rfl : ad192 = ad193 := (by injection e193)
           replace hx193_0 := cb_ HB hx193_0
           replace hx193_1 := cb_ HB hx193_1
           replace hx193_2 := cb_ HB hx193_2
           replace p193 := eq_true p193
           replace q193 := eq_true q193
           refine start_ (n := 15) (S := fun w' => w'.cell? ⟨gb171, 0, none⟩ = some (.int .i64 a2_0) ∧ w'.cell? ⟨gb171, 1, none⟩ = some (.int .i64 a2_1) ∧ w'.cell? ⟨gb171, 2, none⟩ = some (.int .i64 a2_2) ∧ w'.cell? ⟨gb171, 3, none⟩ = some (.int .i64 a2_3) ∧ w'.cell? ⟨gb171, 4, none⟩ = some (.int .i64 a2_4) ∧ w'.cell? ⟨gb171, 5, none⟩ = some (.int .i64 a2_5) ∧ w'.cell? ⟨gb171, 6, none⟩ = some (.int .i64 a2_6) ∧ w'.cell? ⟨gb171, 7, none⟩ = some (.int .i64 a2_7) ∧ w'.cell? ⟨gb171, 8, none⟩ = some (.int .i64 a2_8) ∧ w'.cell? ⟨gb171, 9, none⟩ = some (.int .i64 a2_9) ∧ w'.cell? ⟨gb172, 0, none⟩ = some (.int .i64 a3_0) ∧ w'.cell? ⟨gb172, 1, none⟩ = some (.int .i64 a3_1) ∧ w'.cell? ⟨gb172, 2, none⟩ = some (.int .i64 a3_2) ∧ w'.cell? (ad192.add ((x11_2).toNat * 3)) = some (.int .i64 ((rd_T51 l0 x11_2).f0.f0)) ∧ w'.cell? ⟨(ad192.add ((x11_2).toNat * 3)).block, (ad192.add ((x11_2).toNat * 3)).off + 1, none⟩ = some (.int .i64 ((rd_T51 l0 x11_2).f0.f1)) ∧ w'.cell? ⟨(ad192.add ((x11_2).toNat * 3)).block, (ad192.add ((x11_2).toNat * 3)).off + 2, none⟩ = some (.int .i64 ((rd_T51 l0 x11_2).f1))) (ds := []) #[false, false, false, false, false, false, false, false, false, false, false, false, false, false, false] (by kernel_rfl) rfl rfl ⟨(blk_cell BK171.out 0).trans rfl, (blk_cell BK171.out 1).trans rfl, (blk_cell BK171.out 2).trans rfl, (blk_cell BK171.out 3).trans rfl, (blk_cell BK171.out 4).trans rfl, (blk_cell BK171.out 5).trans rfl, (blk_cell BK171.out 6).trans rfl, (blk_cell BK171.out 7).trans rfl, (blk_cell BK171.out 8).trans rfl, (blk_cell BK171.out 9).trans rfl, (blk_cell BK172.out 0).trans rfl, (blk_cell BK172.out 1).trans rfl, (blk_cell BK172.out 2).trans rfl, (cb_ HB hw193_0 :), (cb_ HB hw193_1 :), (cb_ HB hw193_2 :)⟩ (fun hHeld => ?_); refine with_tabW spec_l19By.tab20 spec_l19By.bits20 (fun HT_ HW_ => ?_)
           generalize w102.drew = w103 at HO_192001 BK171 BK172 BK173 BK191 HB hx193_0 hx193_1 hx193_2 hHeld ⊢
           refine pureZ_ (i := 0) (some 97) #[true, false, false, false, false, false, false, false, false, false, false, false, false, false, false] (any_of HT_.out (by kernel_rfl)) ?_
           refine pureZ_ (i := 1) (some 98) #[true, true, false, false, false, false, false, false, false, false, false, false, false, false, false] (any_of HT_.out (by kernel_rfl)) ?_
           refine pureZ_ (i := 2) (some 99) #[true, true, true, false, false, false, false, false, false, false, false, false, false, false, false] (any_of HT_.out (by kernel_rfl)) ?_
           refine pureZ_ (i := 3) (some 100) #[true, true, true, true, false, false, false, false, false, false, false, false, false, false, false] (any_of HT_.out (by kernel_rfl)) ?_
           refine pureZ_ (i := 4) (some 101) #[true, true, true, true, true, false, false, false, false, false, false, false, false, false, false] (any_of HT_.out (by kernel_rfl)) ?_
           refine pureZ_ (i := 6) (some 103) #[true, true, true, true, true, false, true, false, false, false, false, false, false, false, false] (any_of HT_.out (by kernel_rfl)) ?_
           refine pureZ_ (i := 7) (some 104) #[true, true, true, true, true, false, true, true, false, false, false, false, false, false, false] (any_of HT_.out (by kernel_rfl)) ?_
           refine pureZ_ (i := 10) (some 107) #[true, true, true, true, true, false, true, true, false, false, true, false, false, false, false] (any_of HT_.out (by kernel_rfl)) ?_
           refine takeZ_ (i := 5) (some 102) #[true, true, true, true, true, true, true, true, false, false, true, false, false, false, false] (take_ofW HT_.out HW_.out (by kernel_rfl)) hHeld ?_
           refine takeZ_ (i := 8) (some 105) #[true, true, true, true, true, true, true, true, true, false, true, false, false, false, false] (take_ofW HT_.out HW_.out (by kernel_rfl)) hHeld ?_
           refine pureZ_ (i := 9) (some 106) #[true, true, true, true, true, true, true, true, true, true, true, false, false, false, false] (any_of HT_.out (by kernel_rfl)) ?_
           refine takeZ_ (i := 11) (some 108) #[true, true, true, true, true, true, true, true, true, true, true, true, false, false, false] (take_ofW HT_.out HW_.out (by kernel_rfl)) hHeld ?_
           refine pureZ_ (i := 12) (some 109) #[true, true, true, true, true, true, true, true, true, true, true, true, true, false, false] (any_of HT_.out (by kernel_rfl)) ?_
           refine one_ (i := 13) (N := some 110) #[true, true, true, true, true, true, true, true, true, true, true, true, true, true, false] rfl rfl (one_of HT_.out (by kernel_rfl)) (by decide) (fun K hK => ?_)
           refine goes_ Try.func198 (by kernel_rfl) rfl #[.slice (some ad192) l0.length c0, .agg #[.int .i64 ((rd_T51 l0 x11_2).f1), .int .i64 a2_7, .int .i64 a3_2]] (by rfl) rfl rfl (by (try simp only [List.map_toArray, List.map_cons, List.map_nil]); first | done | rfl | (simp only [List.length_drop, List.length_take]; rfl)) ?_
           with_reducible refine (spec_l19At.calls k2 _ _ l0 ((rd_T51 l0 x11_2).f1) a2_7 a3_2 t194 _ ?side1 ?side2 A99.out).mono ?_
           (case side1 => repeat (first | exact (Kd.C_below HR0.out HB.out) | (with_reducible refine Kd.C_alloc ?_ _) | (with_reducible refine Kd.C_drewN ?_ _) | (with_reducible refine Kd.C_drew ?_)))
           (case side2 => exact HC0.out)
           rintro e w104 ⟨rfl, hb⟩
           refine ⟨_, rfl, ?_⟩
           replace HO_192001 := hob_ HO_192001 hb
           replace BK171 := bkb_ BK171 hb
           replace BK172 := bkb_ BK172 hb
           replace BK173 := bkb_ BK173 hb
           replace BK191 := bkb_ BK191 hb
           replace HB := hbs_ hb
           (try clear hb)
           (try clear hb2)
           (try clear hk)
           (try clear hi)
           refine hK.out _ _ ⟨(blk_cell BK171.out 0).trans rfl, (blk_cell BK171.out 1).trans rfl, (blk_cell BK171.out 2).trans rfl, (blk_cell BK171.out 3).trans rfl, (blk_cell BK171.out 4).trans rfl, (blk_cell BK171.out 5).trans rfl, (blk_cell BK171.out 6).trans rfl, (blk_cell BK171.out 7).trans rfl, (blk_cell BK171.out 8).trans rfl, (blk_cell BK171.out 9).trans rfl, (blk_cell BK172.out 0).trans rfl, (blk_cell BK172.out 1).trans rfl, (blk_cell BK172.out 2).trans rfl, (cb_ HB hw193_0 :), (cb_ HB hw193_1 :), (cb_ HB hw193_2 :)⟩ (fun hHeld => ?_)
           clear hK K
           refine norm_ (a' := ?_) ?_ ?_
           rotate_left
           ·show Act.put _ (some 110) _ = _
            simp only [Act.put, List.setIfInBounds_toArray, List.set_cons_zero, List.set_cons_succ, i64_w, i32_w]
            rfl
           refine pureZ_ (i := 14) (some 12) #[true, true, true, true, true, true, true, true, true, true, true, true, true, true, true] (any_of HT_.out (by kernel_rfl)) ?_
           refine done_ (done_of HT_.out (by kernel_rfl)) ?_
           try go_wp2
           replace HO_192001 := Aside0.mk (Kd.R_drew HO_192001.out)
           replace BK171 := Aside0.mk (blk_drew BK171.out)
           replace BK172 := Aside0.mk (blk_drew BK172.out)
           replace BK173 := Aside0.mk (blk_drew BK173.out)
           replace BK191 := Aside0.mk (blk_drew BK191.out)
           replace HB := Aside0.mk (below_drew1 HB.out)
           refine start_ (n := 7) (S := fun w' => w'.cell? ⟨gb191, 0, none⟩ = some (.int .i64 x192000_2) ∧ w'.cell? ⟨gb191, 1, none⟩ = some (u192001)) (ds := [6]) #[false, false, false, false, false, false, false] (by kernel_rfl) rfl rfl ⟨(blk_cell BK191.out 0).trans rfl, (blk_cell BK191.out 1).trans rfl⟩ (fun hHeld => ?_)
           generalize w104.drew = w105 at HO_192001 BK171 BK172 BK173 BK191 HB hHeld ⊢
           refine pure_ (i := 1) (N := some 112) (v := ?_) (a' := ?_) #[false, true, false, false, false, false, false] rfl rfl (by kernel_rfl) (fun _ _ _ h => h) (Or.inl ⟨by rfl, ?_⟩) ?_ ?_
           rotate_left
           ·intro w'
            go_simp
            with_reducible rfl
           rotate_left
           ·simp only [Act.put, List.setIfInBounds_toArray, List.set_cons_zero, List.set_cons_succ, i64_w, i32_w]
            rfl
           refine pure_ (i := 2) (N := some 113) (v := ?_) (a' := ?_) #[false, true, true, false, false, false, false] rfl rfl (by kernel_rfl) (fun _ _ _ h => h) (Or.inl ⟨by rfl, ?_⟩) ?_ ?_
           rotate_left
           ·intro w'
            go_simp
            with_reducible rfl
           rotate_left
           ·simp only [Act.put, List.setIfInBounds_toArray, List.set_cons_zero, List.set_cons_succ, i64_w, i32_w]
            rfl
           refine pure_ (i := 3) (N := some 114) (v := ?_) (a' := ?_) #[false, true, true, true, false, false, false] rfl rfl (by kernel_rfl) (fun _ _ _ h => h) (Or.inl ⟨by rfl, ?_⟩) ?_ ?_
           rotate_left
           ·intro w'
            go_simp
            with_reducible rfl
           rotate_left
           ·simp only [Act.put, List.setIfInBounds_toArray, List.set_cons_zero, List.set_cons_succ, i64_w, i32_w]
            rfl
           refine take_ (i := 0) (N := some 111) (v := ?_) (a' := ?_) #[true, true, true, true, false, false, false] rfl rfl (by kernel_rfl) (fun _ _ _ h => h) (Or.inl ⟨by rfl, ?_⟩) hHeld ?_ ?_
           rotate_left
           ·rintro w' ⟨s0, s1⟩
            go_simp
            with_reducible rfl
           rotate_left
           ·simp only [Act.put, List.setIfInBounds_toArray, List.set_cons_zero, List.set_cons_succ, i64_w, i32_w]
            rfl
           refine one_ (i := 4) (N := some 115) #[true, true, true, true, true, false, false] rfl rfl (by kernel_rfl) (by decide) (fun K hK => ?_)
           refine goes_ Try.func199 (by kernel_rfl) rfl #[.slice A1 l1.length c1, .int .i64 x11_2, .int .i64 t194] (by rfl) rfl rfl (by (try simp only [List.map_toArray, List.map_cons, List.map_nil]); first | done | rfl | (simp only [List.length_drop, List.length_take]; rfl)) ?_
           with_reducible refine (spec_l19Two.calls _ _ l1 x11_2 t194 t195 t196 _ ?side1 ?side2 A100.out).mono ?_
           (case side1 => repeat (first | exact (Kd.C_below HR1.out HB.out) | (with_reducible refine Kd.C_alloc ?_ _) | (with_reducible refine Kd.C_drewN ?_ _) | (with_reducible refine Kd.C_drew ?_)))
           (case side2 => exact HC1.out)
           rintro e w106 ⟨v197, rfl, ho0, hb⟩
           refine ⟨_, rfl, ?_⟩
           have HO198 := Aside0.mk (Kd.R_lower (Kd.R_new' ho0 (Kd.R_lt (by (with_reducible repeat (first | apply Kd.R_alloc | apply Kd.R_drewN | apply Kd.R_drew)); exact HO_192001.out))) bls_)
           replace HO_192001 := Aside0.mk (Kd.R_elder' (by (with_reducible repeat (first | apply Kd.R_alloc | apply Kd.R_drewN | apply Kd.R_drew)); exact HO_192001.out) (Kd.R_base ho0) hb)
           replace BK171 := bkb_ BK171 hb
           replace BK172 := bkb_ BK172 hb
           replace BK173 := bkb_ BK173 hb
           replace BK191 := bkb_ BK191 hb
           replace HB := hbs_ hb
           (try clear hb)
           (try clear hb2)
           (try clear hk)
           (try clear hi)
           (try clear ho0)
           obtain ⟨Ao107, co107, eo107⟩ := Kd.R_slice HO_192001.out
           (first | subst eo107 | (injection eo107 with f1_ f2_ f3_; have f4_ := f1_.symm; have f5_ := f3_.symm; clear f1_ f2_ f3_; subst f4_; subst f5_))
           obtain ⟨Ao108, co108, eo108⟩ := Kd.R_slice HO198.out
           (first | subst eo108 | (injection eo108 with f1_ f2_ f3_; have f4_ := f1_.symm; have f5_ := f3_.symm; clear f1_ f2_ f3_; subst f4_; subst f5_))
           refine hK.out _ _ ⟨(blk_cell BK191.out 0).trans rfl, (blk_cell BK191.out 1).trans rfl⟩ (fun hHeld => ?_)
           clear hK K
           refine norm_ (a' := ?_) ?_ ?_
           rotate_left
           ·show Act.put _ (some 115) _ = _
            simp only [Act.put, List.setIfInBounds_toArray, List.set_cons_zero, List.set_cons_succ, i64_w, i32_w]
            rfl
           refine one_ (i := 5) (N := some 116) #[true, true, true, true, true, true, false] rfl rfl (by kernel_rfl) (by decide) (fun K hK => ?_)
           refine goes_ Try.func200 (by kernel_rfl) rfl #[.agg #[.int .i64 x192000_2, .slice Ao107 x192001_2.length co107], .agg #[.int .i64 t195, .slice Ao108 t196.length co108]] (by rfl) rfl rfl (by (try simp only [List.map_toArray, List.map_cons, List.map_nil]); first | done | rfl | (simp only [List.length_drop, List.length_take]; rfl)) ?_
           with_reducible refine (spec_l19Better.calls x192000_2 (fun k_ => some k_ = (.slice Ao107 x192001_2.length co107 : Value).ownBlock) (.slice Ao107 x192001_2.length co107) x192001_2 t195 (fun k_ => some k_ = (.slice Ao108 t196.length co108 : Value).ownBlock) (.slice Ao108 t196.length co108) t196 t199 t200 w _ ?side1 ?side2 ?side3 ?side4 ?side5 A101.out).mono ?_
           (case side1 => repeat (first | (with_reducible first | exact HB.out | apply below_alloc | apply pw_below_drewN | apply below_drew1 | refine below_set ?_ GE171.out | refine below_set ?_ GE172.out | refine below_set ?_ GE173.out | refine below_set ?_ GE191.out) | exact HB.out))
           (case side2 => exact Kd.R_tight rfl HO_192001.out)
           (case side3 => exact fun k_ e_ => (HO_192001.out.1 k_ e_.symm).2)
           (case side4 => exact Kd.R_tight rfl HO198.out)
           (case side5 => exact fun k_ e_ => (HO198.out.1 k_ e_.symm).2)
           rintro e w109 ⟨v201, rfl, ho0, hb, hkp⟩
           refine ⟨_, rfl, ?_⟩
           replace BK171 := Aside0.mk (blk_kept (bk_ BK171) hkp (fun hs_ => Or.elim hs_ (fun e_ => (fun e_ => (Kd.R_ne HO_192001.out BK171.out (by decide)) e_) e_) (fun e_ => (fun e_ => (Kd.R_ne HO198.out BK171.out (by decide)) e_) e_)))
           replace BK172 := Aside0.mk (blk_kept (bk_ BK172) hkp (fun hs_ => Or.elim hs_ (fun e_ => (fun e_ => (Kd.R_ne HO_192001.out BK172.out (by decide)) e_) e_) (fun e_ => (fun e_ => (Kd.R_ne HO198.out BK172.out (by decide)) e_) e_)))
           replace BK173 := Aside0.mk (blk_kept (bk_ BK173) hkp (fun hs_ => Or.elim hs_ (fun e_ => (fun e_ => (Kd.R_ne HO_192001.out BK173.out (by decide)) e_) e_) (fun e_ => (fun e_ => (Kd.R_ne HO198.out BK173.out (by decide)) e_) e_)))
           replace BK191 := Aside0.mk (blk_kept (bk_ BK191) hkp (fun hs_ => Or.elim hs_ (fun e_ => (fun e_ => (Kd.R_ne HO_192001.out BK191.out (by decide)) e_) e_) (fun e_ => (fun e_ => (Kd.R_ne HO198.out BK191.out (by decide)) e_) e_)))
           have HO202 := Aside0.mk (Kd.R_mono (ok' := fun k_ => True) ho0 (fun k_ hk_ => trivial))
           replace HB := Aside0.mk (hb)
           clear HO198
           clear HO_192001
           (try clear hb)
           (try clear hkp)
           (try clear ho0)
           obtain ⟨Ao111, co111, eo111⟩ := Kd.R_slice HO202.out
           (first | subst eo111 | (injection eo111 with f1_ f2_ f3_; have f4_ := f1_.symm; have f5_ := f3_.symm; clear f1_ f2_ f3_; subst f4_; subst f5_))
           refine hK.out _ _ ⟨(blk_cell BK191.out 0).trans rfl, (blk_cell BK191.out 1).trans rfl⟩ (fun hHeld => ?_)
           clear hK K
           refine norm_ (a' := ?_) ?_ ?_
           rotate_left
           ·show Act.put _ (some 116) _ = _
            simp only [Act.put, List.setIfInBounds_toArray, List.set_cons_zero, List.set_cons_succ, i64_w, i32_w]
            rfl
           refine last_ (i := 6) (N := none) #[true, true, true, true, true, true, true] rfl rfl (by kernel_rfl) (by decide) (fun K hK => ?_)
           have hs110 : w109.cell? ⟨gb191, 0, none⟩ = some (.int .i64 x192000_2) := (blk_cell BK191.out 0).trans rfl
           have hfs110 := blk_frozen BK191.out 0
           have hns110_0 := NB171_191.out
           have hns110_1 := NB172_191.out
           have hns110_2 := NB173_191.out
           have hms110_0 := NB191_171.out
           have hms110_1 := NB191_172.out
           have hms110_2 := NB191_173.out
           have hs112 : w109.cell? ⟨gb191, 1, none⟩ = some (.slice Ao107 x192001_2.length co107) := (blk_cell BK191.out 1).trans rfl
           have hfs112 := blk_frozen BK191.out 1
           have hns112_0 := NB171_191.out
           have hns112_1 := NB172_191.out
           have hns112_2 := NB173_191.out
           have hms112_0 := NB191_171.out
           have hms112_1 := NB191_172.out
           have hms112_2 := NB191_173.out
           refine skip_ (w1 := ?_) (by rfl) rfl ?_ ?_
           rotate_left
           ·go_simp
            rfl
           refine hK.out _ _ ?_
           clear hK K
           refine done_ (by kernel_rfl) ?_
           try go_wp2
           go_roundg k2
           case measure => have := HJ4.out; have := HK2.out; omega
           case rel => exact ⟨(wrap64 (x11_2 + 1)), (t199), (t200), (.slice Ao111 t200.length co111), rf_, H', ⟨by have := HJ4.out; have := HK2.out; omega⟩, ⟨by (with_reducible repeat (first | apply Kd.R_alloc | apply Kd.R_drewN | apply Kd.R_drew)); exact Kd.R_mono (Kd.R_far (p := ⟨gb191, 1, none⟩) (Kd.R_far (p := ⟨gb191, 0, none⟩) (Kd.R_types HO202.out BK191.out (by decide)) (fun _ hk => hk.2) (.int .i64 t199)) (fun _ hk => hk.2) (.slice Ao111 t200.length co111)) (fun _ hk => trivial)⟩, ⟨bk_ BK171⟩, ⟨bk_ BK172⟩, ⟨bk_ BK173⟩, ⟨bk_ BK191⟩, ⟨bl_⟩⟩
          ·rw [if_neg c98] at H
           have c98b0 : (((rd_T51 l0 x11_2).f0.f0) == a2_4 && (((rd_T51 l0 x11_2).f0.f1) == a2_5)) = false := by simpa using c98
           (try (have c98b1 : decide (((rd_T51 l0 x11_2).f0.f0) = a2_4 && (((rd_T51 l0 x11_2).f0.f1) == a2_5)) = false := by simpa using c98))
           (try (have c98b2 : (((rd_T51 l0 x11_2).f0.f0) == a2_4 && (((rd_T51 l0 x11_2).f0.f1) == a2_5)) = false := by simpa using c98))
           (try (have c98b3 : ¬ (((rd_T51 l0 x11_2).f0.f0) = a2_4 && (((rd_T51 l0 x11_2).f0.f1) == a2_5)) := by simpa using c98))
           clear c98
           have H' := Aside0.mk H
           clear H
           try go_wp2
           replace HO_192001 := Aside0.mk (Kd.R_drew HO_192001.out)
           replace BK171 := Aside0.mk (blk_drew BK171.out)
           replace BK172 := Aside0.mk (blk_drew BK172.out)
           replace BK173 := Aside0.mk (blk_drew BK173.out)
           replace BK191 := Aside0.mk (blk_drew BK191.out)
           replace HB := Aside0.mk (below_drew1 HB.out)
           have p192 : 0 ≤ (x11_2 : Int) := od_
           have q192 : x11_2 < (l0.length : Int) := od_
           obtain ⟨ad192, e192, hx192_0, hx192_1, hx192_2⟩ := at_T51 HR0.out x11_2 p192 q192
           have hw192_2 := hx192_2
           have hw192_1 := hx192_1
           have hw192_0 := hx192_0
           cases e192
           replace hx192_0 := cb_ HB hx192_0
           replace hx192_1 := cb_ HB hx192_1
           replace hx192_2 := cb_ HB hx192_2
           replace p192 := eq_true p192
           replace q192 := eq_true q192
           refine start_ (n := 8) (S := fun w' => w'.cell? ⟨gb171, 0, none⟩ = some (.int .i64 a2_0) ∧ w'.cell? ⟨gb171, 1, none⟩ = some (.int .i64 a2_1) ∧ w'.cell? ⟨gb171, 2, none⟩ = some (.int .i64 a2_2) ∧ w'.cell? ⟨gb171, 3, none⟩ = some (.int .i64 a2_3) ∧ w'.cell? ⟨gb171, 4, none⟩ = some (.int .i64 a2_4) ∧ w'.cell? ⟨gb171, 5, none⟩ = some (.int .i64 a2_5) ∧ w'.cell? ⟨gb171, 6, none⟩ = some (.int .i64 a2_6) ∧ w'.cell? ⟨gb171, 7, none⟩ = some (.int .i64 a2_7) ∧ w'.cell? ⟨gb171, 8, none⟩ = some (.int .i64 a2_8) ∧ w'.cell? ⟨gb171, 9, none⟩ = some (.int .i64 a2_9) ∧ w'.cell? (ad192.add ((x11_2).toNat * 3)) = some (.int .i64 ((rd_T51 l0 x11_2).f0.f0)) ∧ w'.cell? ⟨(ad192.add ((x11_2).toNat * 3)).block, (ad192.add ((x11_2).toNat * 3)).off + 1, none⟩ = some (.int .i64 ((rd_T51 l0 x11_2).f0.f1)) ∧ w'.cell? ⟨(ad192.add ((x11_2).toNat * 3)).block, (ad192.add ((x11_2).toNat * 3)).off + 2, none⟩ = some (.int .i64 ((rd_T51 l0 x11_2).f1))) (ds := []) #[false, false, false, false, false, false, false, false] (by kernel_rfl) rfl rfl ⟨(blk_cell BK171.out 0).trans rfl, (blk_cell BK171.out 1).trans rfl, (blk_cell BK171.out 2).trans rfl, (blk_cell BK171.out 3).trans rfl, (blk_cell BK171.out 4).trans rfl, (blk_cell BK171.out 5).trans rfl, (blk_cell BK171.out 6).trans rfl, (blk_cell BK171.out 7).trans rfl, (blk_cell BK171.out 8).trans rfl, (blk_cell BK171.out 9).trans rfl, (cb_ HB hw192_0 :), (cb_ HB hw192_1 :), (cb_ HB hw192_2 :)⟩ (fun hHeld => ?_); refine with_tabW spec_l19By.tab19 spec_l19By.bits19 (fun HT_ HW_ => ?_)
           generalize wr.drew = w113 at HO_192001 BK171 BK172 BK173 BK191 HB hx192_0 hx192_1 hx192_2 hHeld ⊢
           refine pureZ_ (i := 0) (some 89) #[true, false, false, false, false, false, false, false] (any_of HT_.out (by kernel_rfl)) ?_
           refine pureZ_ (i := 1) (some 90) #[true, true, false, false, false, false, false, false] (any_of HT_.out (by kernel_rfl)) ?_
           refine pureZ_ (i := 2) (some 91) #[true, true, true, false, false, false, false, false] (any_of HT_.out (by kernel_rfl)) ?_
           refine pureZ_ (i := 3) (some 92) #[true, true, true, true, false, false, false, false] (any_of HT_.out (by kernel_rfl)) ?_
           refine pureZ_ (i := 5) (some 94) #[true, true, true, true, false, true, false, false] (any_of HT_.out (by kernel_rfl)) ?_
           refine takeZ_ (i := 4) (some 93) #[true, true, true, true, true, true, false, false] (take_ofW HT_.out HW_.out (by kernel_rfl)) hHeld ?_
           refine takeZ_ (i := 6) (some 95) #[true, true, true, true, true, true, true, false] (take_ofW HT_.out HW_.out (by kernel_rfl)) hHeld ?_
           refine pureZ_ (i := 7) (some 96) #[true, true, true, true, true, true, true, true] (any_of HT_.out (by kernel_rfl)) ?_
           refine done_ (done_of HT_.out (by kernel_rfl)) ?_
           try go_wp2
           go_roundg k2
           case measure => have := HJ4.out; have := HK2.out; omega
           case rel => exact ⟨(wrap64 (x11_2 + 1)), (x192000_2), (x192001_2), (u192001), rf_, H', ⟨by have := HJ4.out; have := HK2.out; omega⟩, ⟨by (with_reducible repeat (first | apply Kd.R_alloc | apply Kd.R_drewN | apply Kd.R_drew)); exact HO_192001.out⟩, ⟨bk_ BK171⟩, ⟨bk_ BK172⟩, ⟨bk_ BK173⟩, ⟨bk_ BK191⟩, ⟨bl_⟩⟩
         ·rw [if_neg c96] at H
          have c96b0 : decide (x11_2 < (l0.length : Int)) = false := decide_eq_false c96
          clear c96
          simp only [Option.some.injEq, Prod.mk.injEq] at H
          obtain ⟨rfl, rfl⟩ := H
          have hnb114 := NB191_171.out
          have hnc114 := NB171_191.out
          have hnb115 := NB191_172.out
          have hnc115 := NB172_191.out
          have hnb116 := NB191_173.out
          have hnc116 := NB173_191.out
          have hcz117 := blk_cell BK191.out
          have hfz117 := blk_frozen BK191.out
          have hnb118 := NB173_171.out
          have hnc118 := NB171_173.out
          have hnb119 := NB173_172.out
          have hnc119 := NB172_173.out
          have hcz120 := blk_cell BK173.out
          have hfz120 := blk_frozen BK173.out
          obtain ⟨Ao121, co121, eo121⟩ := Kd.R_slice HO_192001.out
          subst eo121
          go_wp2
          refine bodyPost_ret (results_cell_row rfl _ _ gb173 183 #[.int .i64 x192000_2, .slice Ao121 x192001_2.length co121] (0, 0) _ rfl (bk_ BK173) Try.underlying183 rfl (by kernel_rfl)) rfl ?_
          exact ⟨_, eq_, by (with_reducible repeat (first | apply Kd.R_alloc | apply Kd.R_drewN | apply Kd.R_drew)); exact Kd.R_mono (Kd.R_far (p := ⟨gb173, 1, none⟩) (Kd.R_far (p := ⟨gb173, 0, none⟩) (Kd.R_types HO_192001.out BK173.out (by decide)) (fun _ hk => hk.2) (.int .i64 x192000_2)) (fun _ hk => hk.2) (.slice Ao121 x192001_2.length co121)) (fun _ hk => trivial), bl_⟩
end Go.Proofs.Ytjpjidgfcljpcaa.PC
