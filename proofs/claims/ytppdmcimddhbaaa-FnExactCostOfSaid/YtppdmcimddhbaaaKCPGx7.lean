import Derived.Test.YtppdmcimddhbaaaKCPGx6
-- printed by wip/tools
namespace Go.Proofs.Ytppdmcimddhbaaa.PG
open Go.RowKit Go.Proofs.YtppdmcimddhbaaaW.PrintWords Go.Proofs.YtppdmcimddhbaaaW.PrintLast Go.Proofs.YtppdmcimddhbaaaW.PrintMore
attribute [local go_sem] max2_int min2_int max_two min_two max_three min_three max_four min_four
set_option linter.unusedVariables false
set_option linter.unusedSimpArgs false
attribute [local go_sem high] eqA27
mutual
def spec_l19By.j0 : Nat → List (S29) → List Int → Bool → Int → Int → Int → Int → Int → Int → Int → Int → Int → Int → Int → Int → Int → Option (Int × List Int)
 | 0, _, _, _, _, _, _, _, _, _, _, _, _, _, _, _, _ => none
 | k + 1, x0, x1, x22, x209000, x209001, x209002, x209003, x209004, x209005, x209006, x209007, x209008, x209009, x210000, x210001, x210002 => if x22 = true then (some (0, ([] : List Int))) else (if x209000 = 1 then (if x209003 = x210002 then (some (1, (([] : List Int)))) else (some (0, ([] : List Int)))) else (if x209000 = 2 then ((spec_l19At.f k x0 x209004 x209005 x210002).bind fun t215 => (if t215 < 0 then (some (0, ([] : List Int))) else (if 0 ≤ t215 then (if t215 < (x1.length : Int) then (if (rd x1 t215) = 0 then (some (0, ([] : List Int))) else ((spec_l19Cap.f (wrap64 (1 + (rd x1 t215)))).bind fun t218 => (some (t218, (([t215] : List Int)))))) else (none)) else (none)))) else (if x209000 = 4 then ((spec_l19At.f k x0 x209004 x209005 x210002).bind fun t222 => ((spec_l19At.f k x0 x209006 x209007 x210002).bind fun t223 => ((spec_l19Two.f x1 t222 t223).bind fun bt224 => (some (bt224.1, bt224.2))))) else (spec_l19By.l0 k x0 x1 0 x209000 x209001 x209002 x209003 x209004 x209005 x209006 x209007 x209008 x209009 x210000 x210001 x210002 0 ([] : List Int)))))
def spec_l19By.l0 : Nat → List (S29) → List Int → Int → Int → Int → Int → Int → Int → Int → Int → Int → Int → Int → Int → Int → Int → Int → List Int → Option (Int × List Int)
 | 0, _, _, _, _, _, _, _, _, _, _, _, _, _, _, _, _, _, _ => none
 | k + 1, x0, x1, x11, x209000, x209001, x209002, x209003, x209004, x209005, x209006, x209007, x209008, x209009, x210000, x210001, x210002, x229000, x229001 => if x11 < (x0.length : Int) then (if 0 ≤ x11 then (if (((rd_T29 x0 x11).f0.f0) == x209004 && (((rd_T29 x0 x11).f0.f1) == x209005)) = true then ((spec_l19At.f k x0 ((rd_T29 x0 x11).f1) x209007 x210002).bind fun t231 => ((spec_l19Two.f x1 x11 t231).bind fun bt232 => ((spec_l19Better.f x229000 x229001 bt232.1 bt232.2).bind fun bt236 => (spec_l19By.l0 k x0 x1 (wrap64 (x11 + 1)) x209000 x209001 x209002 x209003 x209004 x209005 x209006 x209007 x209008 x209009 x210000 x210001 x210002 bt236.1 bt236.2)))) else (spec_l19By.l0 k x0 x1 (wrap64 (x11 + 1)) x209000 x209001 x209002 x209003 x209004 x209005 x209006 x209007 x209008 x209009 x210000 x210001 x210002 x229000 x229001)) else (none)) else (some (x229000, x229001))
end
def spec_l19By.f (k : Nat) (l0 : List (S29)) (l1 : List Int) (a2_0 : Int) (a2_1 : Int) (a2_2 : Int) (a2_3 : Int) (a2_4 : Int) (a2_5 : Int) (a2_6 : Int) (a2_7 : Int) (a2_8 : Int) (a2_9 : Int) (a3_0 : Int) (a3_1 : Int) (a3_2 : Int) : Option (Int × List Int) := (spec_CredOk.f k a2_0 a2_1 a2_2 a2_3 a2_4 a2_5 a2_6 a2_7 a2_8 a2_9).bind fun t211 => (if t211 = true then (spec_l19By.j0 k l0 l1 (!(a2_1 == a3_0) || (!(a2_2 == a3_1))) a2_0 a2_1 a2_2 a2_3 a2_4 a2_5 a2_6 a2_7 a2_8 a2_9 a3_0 a3_1 a3_2) else (spec_l19By.j0 k l0 l1 true a2_0 a2_1 a2_2 a2_3 a2_4 a2_5 a2_6 a2_7 a2_8 a2_9 a3_0 a3_1 a3_2))
def spec_l19By.T14 : Bool × List (List Nat × List Nat) := (true, [([], []), ([], []), ([], []), ([2], [2]), ([], []), ([4], [4]), ([3, 5], [3, 5]), ([1, 6], [1, 6]), ([], []), ([], []), ([9], [9]), ([], []), ([11], [11]), ([10, 12], [10, 12]), ([8, 13, 7], [8, 13]), ([0, 7, 14, 14], [0, 7, 14]), ([15, 15, 0, 1, 2, 3, 4, 5, 6, 7, 8, 9, 10, 11, 12, 13, 14, 15], [15])])
def spec_l19By.B14 : List Nat := [0, 0, 0, 4, 0, 16, 60, 126, 0, 0, 512, 0, 2048, 7680, 16382, 32767, 65535]
theorem spec_l19By.tab14 : rtab .any (opsOf Try.f142 14) = spec_l19By.T14 := by kernel_rfl
theorem spec_l19By.bits14 : waitsOk spec_l19By.T14.2 spec_l19By.B14 = true := by kernel_rfl
def spec_l19By.T19 : Bool × List (List Nat × List Nat) := (true, [([], []), ([], []), ([0, 1], [0, 1]), ([2], [2]), ([3], [3]), ([], []), ([5], [5]), ([4, 6], [4, 6])])
def spec_l19By.B19 : List Nat := [0, 0, 3, 7, 15, 0, 32, 127]
theorem spec_l19By.tab19 : rtab .any (opsOf Try.f142 19) = spec_l19By.T19 := by kernel_rfl
theorem spec_l19By.bits19 : waitsOk spec_l19By.T19.2 spec_l19By.B19 = true := by kernel_rfl
def spec_l19By.T20 : Bool × List (List Nat × List Nat) := (true, [([], []), ([], []), ([], []), ([1, 2], [1, 2]), ([3], [3]), ([4], [4]), ([], []), ([6], [6]), ([7], [7]), ([5, 8], [5, 8]), ([], []), ([10], [10]), ([9, 11], [9, 11]), ([0, 12], [0, 12]), ([13, 13, 0, 1, 2, 3, 4, 5, 6, 7, 8, 9, 10, 11, 12, 13], [13])])
def spec_l19By.B20 : List Nat := [0, 0, 0, 6, 14, 30, 0, 64, 192, 510, 0, 1024, 4094, 8191, 16383]
theorem spec_l19By.tab20 : rtab .any (opsOf Try.f142 20) = spec_l19By.T20 := by kernel_rfl
theorem spec_l19By.bits20 : waitsOk spec_l19By.T20.2 spec_l19By.B20 = true := by kernel_rfl
set_option maxHeartbeats 8000000 in
set_option maxRecDepth 100000 in
theorem spec_l19By.calls (k : Nat) (A0 : Option Addr) (c0 : Nat) (l0 : List (S29)) (A1 : Option Addr) (c1 : Nat) (l1 : List Int) (a2_0 : Int) (a2_1 : Int) (a2_2 : Int) (a2_3 : Int) (a2_4 : Int) (a2_5 : Int) (a2_6 : Int) (a2_7 : Int) (a2_8 : Int) (a2_9 : Int) (a3_0 : Int) (a3_1 : Int) (a3_2 : Int) (r1 : Int) (r2 : List Int) (w : World) (hr0 : Kd.C k29 w A0 l0.length l0) (hc0 : l0.length ≤ c0) (hr1 : Kd.C (Kd.int .i64) w A1 l1.length l1) (hc1 : l1.length ≤ c1) (h : spec_l19By.f k l0 l1 a2_0 a2_1 a2_2 a2_3 a2_4 a2_5 a2_6 a2_7 a2_8 a2_9 a3_0 a3_1 a3_2 = some (r1, r2)) :
  Calls Try.prog 142 #[.slice A0 l0.length c0, .slice A1 l1.length c1, .agg #[.int .i64 a2_0, .int .i64 a2_1, .int .i64 a2_2, .int .i64 a2_3, .int .i64 a2_4, .int .i64 a2_5, .int .i64 a2_6, .int .i64 a2_7, .int .i64 a2_8, .int .i64 a2_9], .agg #[.int .i64 a3_0, .int .i64 a3_1, .int .i64 a3_2]] w fun e w' => ∃ v1_ : Value, e = .returned (.agg #[.int .i64 r1, v1_]) ∧ Kd.R (Kd.int .i64) 3 w' w.heap.size (fun _ => True) v1_ r2 ∧ Below w.heap.size w w' := by
 have hu46 := Try.underlying46
 have hu29 := Try.underlying29
 have hu167 := Try.underlying167
 have hu27 := Try.underlying27
 have HR0 := Aside0.mk hr0
 have HC0 := Aside0.mk hc0
 clear hr0 hc0
 have HR1 := Aside0.mk hr1
 have HC1 := Aside0.mk hc1
 clear hr1 hc1
 have HB := Aside0.mk (Below.refl w.heap.size w)
 have H : ((spec_CredOk.f k a2_0 a2_1 a2_2 a2_3 a2_4 a2_5 a2_6 a2_7 a2_8 a2_9).bind fun t211 => (if t211 = true then (spec_l19By.j0 k l0 l1 (!(a2_1 == a3_0) || (!(a2_2 == a3_1))) a2_0 a2_1 a2_2 a2_3 a2_4 a2_5 a2_6 a2_7 a2_8 a2_9 a3_0 a3_1 a3_2) else (spec_l19By.j0 k l0 l1 true a2_0 a2_1 a2_2 a2_3 a2_4 a2_5 a2_6 a2_7 a2_8 a2_9 a3_0 a3_1 a3_2))) = some (r1, r2) := h
 clear h
 have HC5 := Aside0.mk H
 clear H
 go_enter Try.func142, Try.ntmps142
 go_upto_region 1 with (first | ((with_reducible refine gate_dst (N := 6) rfl ?_); refine box_event ?hg (N := 6) ?hd (cs := #[.int .i64 a2_0, .int .i64 a2_1, .int .i64 a2_2, .int .i64 a2_3, .int .i64 a2_4, .int .i64 a2_5, .int .i64 a2_6, .int .i64 a2_7, .int .i64 a2_8, .int .i64 a2_9]) (t := 46) ?hr ?_; (case hd => rfl); (case hg => rfl); (case hr => first | (go_simp; done) | (go_simp; rfl)); intro gb208 hg w6 hbox hb; have BK208 := Aside0.mk (hbox); have GW208 := gs_ hg; have GE208 := gs_ hg; replace HB := hbs_ hb; clear hb hbox hg) | ((with_reducible refine gate_dst (N := 7) rfl ?_); refine box_event ?hg (N := 7) ?hd (cs := #[.int .i64 a3_0, .int .i64 a3_1, .int .i64 a3_2]) (t := 29) ?hr ?_; (case hd => rfl); (case hg => rfl); (case hr => first | (go_simp; done) | (go_simp; rfl)); intro gb209 hg w7 hbox hb; have BK209 := Aside0.mk (hbox); have GW209 := gs_ hg; have GE209 := gs_ hg; replace HB := hbs_ hb; have NB208_209 := nl_ hg BK208; have NB209_208 := nr_ hg BK208; replace BK208 := bkb_ BK208 hb; clear hb hbox hg) | ((with_reducible refine gate_dst (N := 8) rfl ?_); refine box_event ?hg (N := 8) ?hd (cs := #[.int .i64 0, .slice none 0 0]) (t := 167) ?hr ?_; (case hd => rfl); (case hg => rfl); (case hr => first | (go_simp; done) | (go_simp; rfl)); intro gb210 hg w8 hbox hb; have BK210 := Aside0.mk (hbox); have GW210 := gs_ hg; have GE210 := gs_ hg; replace HB := hbs_ hb; have NB208_210 := nl_ hg BK208; have NB210_208 := nr_ hg BK208; replace BK208 := bkb_ BK208 hb; have NB209_210 := nl_ hg BK209; have NB210_209 := nr_ hg BK209; replace BK209 := bkb_ BK209 hb; clear hb hbox hg))
 (try simp only [Act.put, List.setIfInBounds_toArray, List.set_cons_zero, List.set_cons_succ])
 go_cut [22] (fun v22 wc => ∃ (kq : Nat) (x22_4 : Bool), v22 = .bool x22_4 ∧ Aside0 (spec_l19By.j0 kq l0 l1 x22_4 a2_0 a2_1 a2_2 a2_3 a2_4 a2_5 a2_6 a2_7 a2_8 a2_9 a3_0 a3_1 a3_2 = some (r1, r2)) ∧ Aside0 (kq ≤ k) ∧ Aside0 (wc.heap[gb208]? = some (.cells #[.int .i64 a2_0, .int .i64 a2_1, .int .i64 a2_2, .int .i64 a2_3, .int .i64 a2_4, .int .i64 a2_5, .int .i64 a2_6, .int .i64 a2_7, .int .i64 a2_8, .int .i64 a2_9] 46 (0, 0))) ∧ Aside0 (wc.heap[gb209]? = some (.cells #[.int .i64 a3_0, .int .i64 a3_1, .int .i64 a3_2] 29 (0, 0))) ∧ Aside0 (wc.heap[gb210]? = some (.cells #[.int .i64 0, (.slice none 0 0)] 167 (0, 0))) ∧ Aside0 (Below w.heap.size w wc))
 case first =>
  have H := HC5.out
  clear HC5
  obtain ⟨t211, A9, H⟩ := bindE_ H
  by_cases c10 : t211 = true
  ·subst c10
   replace H := ite_t_ H
   have H' := Aside0.mk H
   clear H
   have hnb11 := NB208_209.out
   have hnc11 := NB209_208.out
   have hnb12 := NB208_210.out
   have hnc12 := NB210_208.out
   have hcz13 := blk_cell BK208.out
   have hfz13 := blk_frozen BK208.out
   go_wp2_with (first | ((with_reducible refine gate_callee (f := 115) rfl ?_); refine goesC_ (some 14) Try.func115 #[.agg #[.int .i64 a2_0, .int .i64 a2_1, .int .i64 a2_2, .int .i64 a2_3, .int .i64 a2_4, .int .i64 a2_5, .int .i64 a2_6, .int .i64 a2_7, .int .i64 a2_8, .int .i64 a2_9]] ?_; (with_reducible refine (spec_CredOk.calls k a2_0 a2_1 a2_2 a2_3 a2_4 a2_5 a2_6 a2_7 a2_8 a2_9 true _ A9.out).mono ?_); rintro e w14 ⟨rfl, hb⟩; refine ⟨_, rfl, ?_⟩; replace BK208 := bkb_ BK208 hb; replace BK209 := bkb_ BK209 hb; replace BK210 := bkb_ BK210 hb; replace HB := hbs_ hb; clear hb; have hcz15 := blk_cell BK208.out; have hfz15 := blk_frozen BK208.out; have hnb16 := NB209_210.out; have hnc16 := NB210_209.out; have hcz17 := blk_cell BK209.out; have hfz17 := blk_frozen BK209.out))
   go_meet
   case rel => exact ⟨_, ((!(a2_1 == a3_0) || (!(a2_2 == a3_1)))), rf_, H', ⟨by first | omega | exact Nat.le_refl _⟩, ⟨bk_ BK208⟩, ⟨bk_ BK209⟩, ⟨bk_ BK210⟩, ⟨bl_⟩⟩
  ·replace c10 := Bool.eq_false_iff.mpr c10
   subst c10
   replace H := ite_f_ H
   have H' := Aside0.mk H
   clear H
   have hnb18 := NB208_209.out
   have hnc18 := NB209_208.out
   have hnb19 := NB208_210.out
   have hnc19 := NB210_208.out
   have hcz20 := blk_cell BK208.out
   have hfz20 := blk_frozen BK208.out
   go_wp2_with (first | ((with_reducible refine gate_callee (f := 115) rfl ?_); refine goesC_ (some 14) Try.func115 #[.agg #[.int .i64 a2_0, .int .i64 a2_1, .int .i64 a2_2, .int .i64 a2_3, .int .i64 a2_4, .int .i64 a2_5, .int .i64 a2_6, .int .i64 a2_7, .int .i64 a2_8, .int .i64 a2_9]] ?_; (with_reducible refine (spec_CredOk.calls k a2_0 a2_1 a2_2 a2_3 a2_4 a2_5 a2_6 a2_7 a2_8 a2_9 false _ A9.out).mono ?_); rintro e w21 ⟨rfl, hb⟩; refine ⟨_, rfl, ?_⟩; replace BK208 := bkb_ BK208 hb; replace BK209 := bkb_ BK209 hb; replace BK210 := bkb_ BK210 hb; replace HB := hbs_ hb; clear hb))
   go_meet
   case rel => exact ⟨_, (true), rf_, H', ⟨by first | omega | exact Nat.le_refl _⟩, ⟨bk_ BK208⟩, ⟨bk_ BK209⟩, ⟨bk_ BK210⟩, ⟨bl_⟩⟩
 case rest =>
  clear HC5
  try clear c1
  try clear p2
  try clear c10
  try clear c11
  try clear c12
  try clear c14
  try clear c16
  try clear c18
  try clear c19
  try clear hcz13
  try clear hcz15
  try clear hcz17
  try clear hcz20
  try clear hfz13
  try clear hfz15
  try clear hfz17
  try clear hfz20
  obtain ⟨kq, x22_4, rfl, HA, HJ4, BK208, BK209, BK210, HB⟩ := hcut
  cases kq with
  | zero => exact absurd HA.out (by simp [spec_l19By.j0])
  | succ kj4 =>
   have H := HA.out
   clear HA
   simp only [spec_l19By.j0] at H
   by_cases c22 : x22_4 = true
   ·subst c22
    replace H := ite_t_ H
    simp only [Option.some.injEq, Prod.mk.injEq] at H
    obtain ⟨rfl, rfl⟩ := H
    have hnb23 := NB210_208.out
    have hnc23 := NB208_210.out
    have hnb24 := NB210_209.out
    have hnc24 := NB209_210.out
    have hcz25 := blk_cell BK210.out
    have hfz25 := blk_frozen BK210.out
    go_wp2
    refine bodyPost_ret (results_cell_row rfl _ _ gb210 167 #[.int .i64 0, .slice none 0 0] (0, 0) _ rfl (bk_ BK210) Try.underlying167 rfl (by kernel_rfl)) rfl ?_
    exact ⟨_, eq_, by first | exact Kd.R_nil _ _ _ _ _ | exact Kd.N_nil _ _ _ _ _ | exact Kd.V_nil _ _ _ _ _ | exact Kd.Q_nil _ _ _ _ _ | exact Kd.S_nil _ _ _ _ _, bl_⟩
   ·replace c22 := Bool.eq_false_iff.mpr c22
    subst c22
    replace H := ite_f_ H
    by_cases c26 : a2_0 = 1
    ·rw [if_pos c26] at H
     have c26b0 : (a2_0 == 1) = true := beq_iff_eq.mpr c26
     have c26b1 : (a2_0 != 1) = false := bne_eq_false_iff_eq.mpr c26
     clear c26
     by_cases c27 : a2_3 = a3_2
     ·rw [if_pos c27] at H
      have c27b0 : (a2_3 == a3_2) = true := beq_iff_eq.mpr c27
      have c27b1 : (a2_3 != a3_2) = false := bne_eq_false_iff_eq.mpr c27
      clear c27
      obtain ⟨y212, hy212⟩ : ∃ y_ : List Int, y_ = (([] : List Int)) := ⟨_, rfl⟩
      replace H : (some (1, y212)) = some (r1, r2) := by first | (rw [hy212]; with_reducible exact H) | (have H2_ := (Option.bind_some _ _).symm.trans H; rw [hy212]; with_reducible exact H2_) | (have H2_ := (Option.bind_some _ _).symm.trans H; with_reducible exact H2_) | with_reducible exact H | (rw [hy212]; exact H) | exact H
      have Ny212 := Aside0.mk hy212
      clear hy212
      simp only [Option.some.injEq, Prod.mk.injEq] at H
      obtain ⟨rfl, rfl⟩ := H
      have hnb28 := NB208_209.out
      have hnc28 := NB209_208.out
      have hnb29 := NB208_210.out
      have hnc29 := NB210_208.out
      have hcz30 := blk_cell BK208.out
      have hfz30 := blk_frozen BK208.out
      have hnb31 := NB209_210.out
      have hnc31 := NB210_209.out
      have hcz32 := blk_cell BK209.out
      have hfz32 := blk_frozen BK209.out
      go_wp2_with (first | ((with_reducible refine gate_dst (N := 33) rfl ?_); refine Kd.R_lit (Kd.int .i64) _ 3 ?hg (N := 33) ?hd (xs := ([] : List Int)) (inner := []) (ok := fun _ => True) (okp := fun _ => True) ?hr ?hp (fun _ hk => hk) trivial (Below.refl _ _) (Nat.le_refl _) (by simp) ?_; (case hd => rfl); (case hg => rfl); (case hr => first | (go_simp; done) | (go_simp; rfl)); (case hp => exact (Reps.none _ _)); intro v213 w33 ho34 hb hg_ hnew_; clear hg_ hnew_; (first | rw [← Ny212.out] at ho34 | (simp only [Int.reduceToNat] at ho34; rw [← Ny212.out] at ho34)); have HO214 := Aside0.mk (Kd.R_lower ho34 bls_); replace BK208 := bkb_ BK208 hb; replace BK209 := bkb_ BK209 hb; replace BK210 := bkb_ BK210 hb; replace HB := hbs_ hb; clear hb ho34; obtain ⟨Ao35, co35, eo35⟩ := Kd.R_slice HO214.out; subst eo35; have hcz36 := blk_cell BK210.out; have hfz36 := blk_frozen BK210.out))
      refine bodyPost_ret (results_cell_row rfl _ _ gb210 167 #[.int .i64 1, .slice Ao35 y212.length co35] (0, 0) _ rfl (bk_ BK210) Try.underlying167 rfl (by kernel_rfl)) rfl ?_
      exact ⟨_, eq_, by (with_reducible repeat (first | apply Kd.R_alloc | apply Kd.R_drewN | apply Kd.R_drew)); exact Kd.R_mono (Kd.R_far (p := ⟨gb210, 1, none⟩) (Kd.R_far (p := ⟨gb210, 0, none⟩) (Kd.R_types HO214.out BK210.out (by decide)) (fun _ hk => hk.2) (.int .i64 1)) (fun _ hk => hk.2) (.slice Ao35 y212.length co35)) (fun _ hk => trivial), bl_⟩
     ·rw [if_neg c27] at H
      have c27b0 : (a2_3 == a3_2) = false := beq_eq_false_iff_ne.mpr c27
      have c27b1 : (a2_3 != a3_2) = true := bne_iff_ne.mpr c27
      simp only [Option.some.injEq, Prod.mk.injEq] at H
      obtain ⟨rfl, rfl⟩ := H
      have hnb37 := NB208_209.out
      have hnc37 := NB209_208.out
      have hnb38 := NB208_210.out
      have hnc38 := NB210_208.out
      have hcz39 := blk_cell BK208.out
      have hfz39 := blk_frozen BK208.out
      have hnb40 := NB209_210.out
      have hnc40 := NB210_209.out
      have hcz41 := blk_cell BK209.out
      have hfz41 := blk_frozen BK209.out
      have hcz42 := blk_cell BK210.out
      have hfz42 := blk_frozen BK210.out
      go_wp2
      refine bodyPost_ret (results_cell_row rfl _ _ gb210 167 #[.int .i64 0, .slice none 0 0] (0, 0) _ rfl (bk_ BK210) Try.underlying167 rfl (by kernel_rfl)) rfl ?_
      exact ⟨_, eq_, by first | exact Kd.R_nil _ _ _ _ _ | exact Kd.N_nil _ _ _ _ _ | exact Kd.V_nil _ _ _ _ _ | exact Kd.Q_nil _ _ _ _ _ | exact Kd.S_nil _ _ _ _ _, bl_⟩
    ·rw [if_neg c26] at H
     have c26b0 : (a2_0 == 1) = false := beq_eq_false_iff_ne.mpr c26
     have c26b1 : (a2_0 != 1) = true := bne_iff_ne.mpr c26
     by_cases c43 : a2_0 = 2
     ·rw [if_pos c43] at H
      have c43b0 : (a2_0 == 2) = true := beq_iff_eq.mpr c43
      have c43b1 : (a2_0 != 2) = false := bne_eq_false_iff_eq.mpr c43
      clear c43
      obtain ⟨t215, A44, H⟩ := bindE_ H
      by_cases c45 : t215 < 0
      ·rw [if_pos c45] at H
       have c45b0 : decide (t215 < 0) = true := decide_eq_true c45
       clear c45
       simp only [Option.some.injEq, Prod.mk.injEq] at H
       obtain ⟨rfl, rfl⟩ := H
       have hnb46 := NB208_209.out
       have hnc46 := NB209_208.out
       have hnb47 := NB208_210.out
       have hnc47 := NB210_208.out
       have hcz48 := blk_cell BK208.out
       have hfz48 := blk_frozen BK208.out
       have hnb49 := NB209_210.out
       have hnc49 := NB210_209.out
       have hcz50 := blk_cell BK209.out
       have hfz50 := blk_frozen BK209.out
       go_wp2_with (first | ((with_reducible refine gate_callee (f := 117) rfl ?_); refine goesC_ (some 44) Try.func117 #[.slice A0 l0.length c0, .agg #[.int .i64 a2_4, .int .i64 a2_5, .int .i64 a3_2]] ?_; (with_reducible refine (spec_l19At.calls kj4 _ _ l0 a2_4 a2_5 a3_2 t215 _ ?side1 ?side2 A44.out).mono ?_); (case side1 => repeat (first | exact (Kd.C_below HR0.out HB.out) | (with_reducible refine Kd.C_alloc ?_ _) | (with_reducible refine Kd.C_drewN ?_ _) | (with_reducible refine Kd.C_drew ?_))); (case side2 => exact HC0.out); rintro e w51 ⟨rfl, hb⟩; refine ⟨_, rfl, ?_⟩; replace BK208 := bkb_ BK208 hb; replace BK209 := bkb_ BK209 hb; replace BK210 := bkb_ BK210 hb; replace HB := hbs_ hb; clear hb; have hcz52 := blk_cell BK210.out; have hfz52 := blk_frozen BK210.out))
       refine bodyPost_ret (results_cell_row rfl _ _ gb210 167 #[.int .i64 0, .slice none 0 0] (0, 0) _ rfl (bk_ BK210) Try.underlying167 rfl (by kernel_rfl)) rfl ?_
       exact ⟨_, eq_, by first | exact Kd.R_nil _ _ _ _ _ | exact Kd.N_nil _ _ _ _ _ | exact Kd.V_nil _ _ _ _ _ | exact Kd.Q_nil _ _ _ _ _ | exact Kd.S_nil _ _ _ _ _, bl_⟩
      ·rw [if_neg c45] at H
       have c45b0 : decide (t215 < 0) = false := decide_eq_false c45
       clear c45
       obtain ⟨c53b0, H⟩ := ifd_ H
       obtain ⟨c54b0, H⟩ := ifd_ H
       by_cases c55 : (rd l1 t215) = 0
       ·rw [if_pos c55] at H
        have c55b0 : ((rd l1 t215) == 0) = true := beq_iff_eq.mpr c55
        have c55b1 : ((rd l1 t215) != 0) = false := bne_eq_false_iff_eq.mpr c55
        clear c55
        simp only [Option.some.injEq, Prod.mk.injEq] at H
        obtain ⟨rfl, rfl⟩ := H
        have hnb56 := NB208_209.out
        have hnc56 := NB209_208.out
        have hnb57 := NB208_210.out
        have hnc57 := NB210_208.out
        have hcz58 := blk_cell BK208.out
        have hfz58 := blk_frozen BK208.out
        have hnb59 := NB209_210.out
        have hnc59 := NB210_209.out
        have hcz60 := blk_cell BK209.out
        have hfz60 := blk_frozen BK209.out
        go_wp2_with (first | ((with_reducible refine gate_callee (f := 117) rfl ?_); refine goesC_ (some 44) Try.func117 #[.slice A0 l0.length c0, .agg #[.int .i64 a2_4, .int .i64 a2_5, .int .i64 a3_2]] ?_; (with_reducible refine (spec_l19At.calls kj4 _ _ l0 a2_4 a2_5 a3_2 t215 _ ?side1 ?side2 A44.out).mono ?_); (case side1 => repeat (first | exact (Kd.C_below HR0.out HB.out) | (with_reducible refine Kd.C_alloc ?_ _) | (with_reducible refine Kd.C_drewN ?_ _) | (with_reducible refine Kd.C_drew ?_))); (case side2 => exact HC0.out); rintro e w61 ⟨rfl, hb⟩; refine ⟨_, rfl, ?_⟩; replace BK208 := bkb_ BK208 hb; replace BK209 := bkb_ BK209 hb; replace BK210 := bkb_ BK210 hb; replace HB := hbs_ hb; clear hb; have p216 : 0 ≤ (t215 : Int) := od_; have q216 : t215 < (l1.length : Int) := od_; obtain ⟨ad216, e216, hx216_0⟩ := Kd.at_int (Kd.C_below HR1.out HB.out) t215 p216 q216; cases e216; replace p216 := eq_true p216; replace q216 := eq_true q216; have hcz62 := blk_cell BK210.out; have hfz62 := blk_frozen BK210.out))
        refine bodyPost_ret (results_cell_row rfl _ _ gb210 167 #[.int .i64 0, .slice none 0 0] (0, 0) _ rfl (bk_ BK210) Try.underlying167 rfl (by kernel_rfl)) rfl ?_
        exact ⟨_, eq_, by first | exact Kd.R_nil _ _ _ _ _ | exact Kd.N_nil _ _ _ _ _ | exact Kd.V_nil _ _ _ _ _ | exact Kd.Q_nil _ _ _ _ _ | exact Kd.S_nil _ _ _ _ _, bl_⟩
       ·rw [if_neg c55] at H
        have c55b0 : ((rd l1 t215) == 0) = false := beq_eq_false_iff_ne.mpr c55
        have c55b1 : ((rd l1 t215) != 0) = true := bne_iff_ne.mpr c55
        obtain ⟨t218, A63, H⟩ := bindE_ H
        obtain ⟨y219, hy219⟩ : ∃ y_ : List Int, y_ = (([t215] : List Int)) := ⟨_, rfl⟩
        replace H : (some (t218, y219)) = some (r1, r2) := by first | (rw [hy219]; with_reducible exact H) | (have H2_ := (Option.bind_some _ _).symm.trans H; rw [hy219]; with_reducible exact H2_) | (have H2_ := (Option.bind_some _ _).symm.trans H; with_reducible exact H2_) | with_reducible exact H | (rw [hy219]; exact H) | exact H
        have Ny219 := Aside0.mk hy219
        clear hy219
        simp only [Option.some.injEq, Prod.mk.injEq] at H
        obtain ⟨rfl, rfl⟩ := H
        have hnb64 := NB208_209.out
        have hnc64 := NB209_208.out
        have hnb65 := NB208_210.out
        have hnc65 := NB210_208.out
        have hcz66 := blk_cell BK208.out
        have hfz66 := blk_frozen BK208.out
        have hnb67 := NB209_210.out
        have hnc67 := NB210_209.out
        have hcz68 := blk_cell BK209.out
        have hfz68 := blk_frozen BK209.out
        go_wp2_with (first | ((with_reducible refine gate_callee (f := 117) rfl ?_); refine goesC_ (some 44) Try.func117 #[.slice A0 l0.length c0, .agg #[.int .i64 a2_4, .int .i64 a2_5, .int .i64 a3_2]] ?_; (with_reducible refine (spec_l19At.calls kj4 _ _ l0 a2_4 a2_5 a3_2 t215 _ ?side1 ?side2 A44.out).mono ?_); (case side1 => repeat (first | exact (Kd.C_below HR0.out HB.out) | (with_reducible refine Kd.C_alloc ?_ _) | (with_reducible refine Kd.C_drewN ?_ _) | (with_reducible refine Kd.C_drew ?_))); (case side2 => exact HC0.out); rintro e w69 ⟨rfl, hb⟩; refine ⟨_, rfl, ?_⟩; replace BK208 := bkb_ BK208 hb; replace BK209 := bkb_ BK209 hb; replace BK210 := bkb_ BK210 hb; replace HB := hbs_ hb; clear hb; have p216 : 0 ≤ (t215 : Int) := od_; have q216 : t215 < (l1.length : Int) := od_; obtain ⟨ad216, e216, hx216_0⟩ := Kd.at_int (Kd.C_below HR1.out HB.out) t215 p216 q216; cases e216; replace p216 := eq_true p216; replace q216 := eq_true q216; have p217 : 0 ≤ (t215 : Int) := od_; have q217 : t215 < (l1.length : Int) := od_; obtain ⟨ad217, e217, hx217_0⟩ := Kd.at_int HR1.out t215 p217 q217; obtain rfl : ad216 = ad217 := (by injection e217); replace hx217_0 := cb_ HB hx217_0; replace p217 := eq_true p217; replace q217 := eq_true q217) | ((with_reducible refine gate_callee (f := 91) rfl ?_); refine goesC_ (some 60) Try.func91 #[.int .i64 (wrap64 (1 + (rd l1 t215)))] ?_; (with_reducible refine (spec_l19Cap.calls (wrap64 (1 + (rd l1 t215))) t218 _ A63.out).mono ?_); rintro e w' ⟨rfl, ⟨nd, rfl⟩⟩; refine ⟨_, rfl, ?_⟩; (try (rw [drewN_self w69]; generalize hq_ : World.drewN w69 _ = w69; have n0_ : Aside0 (w69.heap[gb208]? = some (.cells #[.int .i64 a2_0, .int .i64 a2_1, .int .i64 a2_2, .int .i64 a2_3, .int .i64 a2_4, .int .i64 a2_5, .int .i64 a2_6, .int .i64 a2_7, .int .i64 a2_8, .int .i64 a2_9] 46 (0, 0))) := ⟨by rw [← hq_]; exact (bk_ BK208)⟩; have n1_ : Aside0 (w69.heap[gb209]? = some (.cells #[.int .i64 a3_0, .int .i64 a3_1, .int .i64 a3_2] 29 (0, 0))) := ⟨by rw [← hq_]; exact (bk_ BK209)⟩; have n2_ : Aside0 (w69.heap[gb210]? = some (.cells #[.int .i64 0, .slice none 0 0] 167 (0, 0))) := ⟨by rw [← hq_]; exact (bk_ BK210)⟩; have n3_ : Aside0 (Below w.heap.size w w69) := ⟨by rw [← hq_]; exact bl_⟩; clear BK208 BK209 BK210 HB hq_; have BK208 := n0_; have BK209 := n1_; have BK210 := n2_; have HB := n3_; clear n0_ n1_ n2_ n3_))) | ((with_reducible refine gate_dst (N := 62) rfl ?_); refine Kd.R_lit (Kd.int .i64) _ 3 ?hg (N := 62) ?hd (xs := ([t215] : List Int)) (inner := [.int .i64 t215]) (ok := fun _ => True) (okp := fun _ => True) ?hr ?hp (fun _ hk => hk) trivial (Below.refl _ _) (Nat.le_refl _) (by simp) ?_; (case hd => rfl); (case hg => rfl); (case hr => first | (go_simp; done) | (go_simp; rfl)); (case hp => exact (Reps.one (show Kd.M (Kd.int .i64) _ _ _ t215 [.int .i64 t215] from rfl) (Reps.none _ _))); intro v220 w70 ho71 hb hg_ hnew_; clear hg_ hnew_; (first | rw [← Ny219.out] at ho71 | (simp only [Int.reduceToNat] at ho71; rw [← Ny219.out] at ho71)); have HO221 := Aside0.mk (Kd.R_lower ho71 bls_); replace BK208 := bkb_ BK208 hb; replace BK209 := bkb_ BK209 hb; replace BK210 := bkb_ BK210 hb; replace HB := hbs_ hb; clear hb ho71; obtain ⟨Ao72, co72, eo72⟩ := Kd.R_slice HO221.out; subst eo72; have hcz73 := blk_cell BK210.out; have hfz73 := blk_frozen BK210.out))
        refine bodyPost_ret (results_cell_row rfl _ _ gb210 167 #[.int .i64 t218, .slice Ao72 y219.length co72] (0, 0) _ rfl (bk_ BK210) Try.underlying167 rfl (by kernel_rfl)) rfl ?_
        exact ⟨_, eq_, by (with_reducible repeat (first | apply Kd.R_alloc | apply Kd.R_drewN | apply Kd.R_drew)); exact Kd.R_mono (Kd.R_far (p := ⟨gb210, 1, none⟩) (Kd.R_far (p := ⟨gb210, 0, none⟩) (Kd.R_types HO221.out BK210.out (by decide)) (fun _ hk => hk.2) (.int .i64 t218)) (fun _ hk => hk.2) (.slice Ao72 y219.length co72)) (fun _ hk => trivial), bl_⟩
     ·rw [if_neg c43] at H
      have c43b0 : (a2_0 == 2) = false := beq_eq_false_iff_ne.mpr c43
      have c43b1 : (a2_0 != 2) = true := bne_iff_ne.mpr c43
      by_cases c74 : a2_0 = 4
      ·rw [if_pos c74] at H
       have c74b0 : (a2_0 == 4) = true := beq_iff_eq.mpr c74
       have c74b1 : (a2_0 != 4) = false := bne_eq_false_iff_eq.mpr c74
       clear c74
       obtain ⟨t222, A75, H⟩ := bindE_ H
       obtain ⟨t223, A76, H⟩ := bindE_ H
       obtain ⟨⟨t224, t225⟩, A77, H⟩ := bindE_ H
       replace H : (some (t224, t225)) = some (r1, r2) := H
       simp only [Option.some.injEq, Prod.mk.injEq] at H
       obtain ⟨rfl, rfl⟩ := H
       have hnb78 := NB208_209.out
       have hnc78 := NB209_208.out
       have hnb79 := NB208_210.out
       have hnc79 := NB210_208.out
       have hcz80 := blk_cell BK208.out
       have hfz80 := blk_frozen BK208.out
       try go_wp2
       replace BK208 := Aside0.mk (blk_drew BK208.out)
       replace BK209 := Aside0.mk (blk_drew BK209.out)
       replace BK210 := Aside0.mk (blk_drew BK210.out)
       replace HB := Aside0.mk (below_drew1 HB.out)
       refine start_ (n := 17) (S := fun w' => w'.cell? ⟨gb208, 0, none⟩ = some (.int .i64 a2_0) ∧ w'.cell? ⟨gb208, 1, none⟩ = some (.int .i64 a2_1) ∧ w'.cell? ⟨gb208, 2, none⟩ = some (.int .i64 a2_2) ∧ w'.cell? ⟨gb208, 3, none⟩ = some (.int .i64 a2_3) ∧ w'.cell? ⟨gb208, 4, none⟩ = some (.int .i64 a2_4) ∧ w'.cell? ⟨gb208, 5, none⟩ = some (.int .i64 a2_5) ∧ w'.cell? ⟨gb208, 6, none⟩ = some (.int .i64 a2_6) ∧ w'.cell? ⟨gb208, 7, none⟩ = some (.int .i64 a2_7) ∧ w'.cell? ⟨gb208, 8, none⟩ = some (.int .i64 a2_8) ∧ w'.cell? ⟨gb208, 9, none⟩ = some (.int .i64 a2_9) ∧ w'.cell? ⟨gb209, 0, none⟩ = some (.int .i64 a3_0) ∧ w'.cell? ⟨gb209, 1, none⟩ = some (.int .i64 a3_1) ∧ w'.cell? ⟨gb209, 2, none⟩ = some (.int .i64 a3_2)) (ds := []) #[false, false, false, false, false, false, false, false, false, false, false, false, false, false, false, false, false] (by kernel_rfl) rfl rfl ⟨(blk_cell BK208.out 0).trans rfl, (blk_cell BK208.out 1).trans rfl, (blk_cell BK208.out 2).trans rfl, (blk_cell BK208.out 3).trans rfl, (blk_cell BK208.out 4).trans rfl, (blk_cell BK208.out 5).trans rfl, (blk_cell BK208.out 6).trans rfl, (blk_cell BK208.out 7).trans rfl, (blk_cell BK208.out 8).trans rfl, (blk_cell BK208.out 9).trans rfl, (blk_cell BK209.out 0).trans rfl, (blk_cell BK209.out 1).trans rfl, (blk_cell BK209.out 2).trans rfl⟩ (fun hHeld => ?_); refine with_tabW spec_l19By.tab14 spec_l19By.bits14 (fun HT_ HW_ => ?_)
       generalize wc.drew = w81 at BK208 BK209 BK210 HB hHeld ⊢
       refine pureZ_ (i := 0) (some 66) #[true, false, false, false, false, false, false, false, false, false, false, false, false, false, false, false, false] (any_of HT_.out (by kernel_rfl)) ?_
       refine pureZ_ (i := 1) (some 67) #[true, true, false, false, false, false, false, false, false, false, false, false, false, false, false, false, false] (any_of HT_.out (by kernel_rfl)) ?_
       refine pureZ_ (i := 2) (some 68) #[true, true, true, false, false, false, false, false, false, false, false, false, false, false, false, false, false] (any_of HT_.out (by kernel_rfl)) ?_
       refine pureZ_ (i := 4) (some 70) #[true, true, true, false, true, false, false, false, false, false, false, false, false, false, false, false, false] (any_of HT_.out (by kernel_rfl)) ?_
       refine pureZ_ (i := 8) (some 74) #[true, true, true, false, true, false, false, false, true, false, false, false, false, false, false, false, false] (any_of HT_.out (by kernel_rfl)) ?_
       refine pureZ_ (i := 9) (some 75) #[true, true, true, false, true, false, false, false, true, true, false, false, false, false, false, false, false] (any_of HT_.out (by kernel_rfl)) ?_
       refine pureZ_ (i := 11) (some 77) #[true, true, true, false, true, false, false, false, true, true, false, true, false, false, false, false, false] (any_of HT_.out (by kernel_rfl)) ?_
       refine takeZ_ (i := 3) (some 69) #[true, true, true, true, true, false, false, false, true, true, false, true, false, false, false, false, false] (take_ofW HT_.out HW_.out (by kernel_rfl)) hHeld ?_
       refine takeZ_ (i := 5) (some 71) #[true, true, true, true, true, true, false, false, true, true, false, true, false, false, false, false, false] (take_ofW HT_.out HW_.out (by kernel_rfl)) hHeld ?_
       refine pureZ_ (i := 6) (some 72) #[true, true, true, true, true, true, true, false, true, true, false, true, false, false, false, false, false] (any_of HT_.out (by kernel_rfl)) ?_
       refine takeZ_ (i := 10) (some 76) #[true, true, true, true, true, true, true, false, true, true, true, true, false, false, false, false, false] (take_ofW HT_.out HW_.out (by kernel_rfl)) hHeld ?_
       refine takeZ_ (i := 12) (some 78) #[true, true, true, true, true, true, true, false, true, true, true, true, true, false, false, false, false] (take_ofW HT_.out HW_.out (by kernel_rfl)) hHeld ?_
       refine pureZ_ (i := 13) (some 79) #[true, true, true, true, true, true, true, false, true, true, true, true, true, true, false, false, false] (any_of HT_.out (by kernel_rfl)) ?_
       refine one_ (i := 7) (N := some 73) #[true, true, true, true, true, true, true, true, true, true, true, true, true, true, false, false, false] rfl rfl (one_of HT_.out (by kernel_rfl)) (by decide) (fun K hK => ?_)
       refine goes_ Try.func117 (by kernel_rfl) rfl #[.slice A0 l0.length c0, .agg #[.int .i64 a2_4, .int .i64 a2_5, .int .i64 a3_2]] (by rfl) rfl rfl (by (try simp only [List.map_toArray, List.map_cons, List.map_nil]); first | done | rfl | (simp only [List.length_drop, List.length_take]; rfl)) ?_
       with_reducible refine (spec_l19At.calls kj4 _ _ l0 a2_4 a2_5 a3_2 t222 _ ?side1 ?side2 A75.out).mono ?_
       (case side1 => repeat (first | exact (Kd.C_below HR0.out HB.out) | (with_reducible refine Kd.C_alloc ?_ _) | (with_reducible refine Kd.C_drewN ?_ _) | (with_reducible refine Kd.C_drew ?_)))
       (case side2 => exact HC0.out)
       rintro e w82 ⟨rfl, hb⟩
       refine ⟨_, rfl, ?_⟩
       replace BK208 := bkb_ BK208 hb
       replace BK209 := bkb_ BK209 hb
       replace BK210 := bkb_ BK210 hb
       replace HB := hbs_ hb
       (try clear hb)
       (try clear hb2)
       (try clear hk)
       (try clear hi)
       refine hK.out _ _ ⟨(blk_cell BK208.out 0).trans rfl, (blk_cell BK208.out 1).trans rfl, (blk_cell BK208.out 2).trans rfl, (blk_cell BK208.out 3).trans rfl, (blk_cell BK208.out 4).trans rfl, (blk_cell BK208.out 5).trans rfl, (blk_cell BK208.out 6).trans rfl, (blk_cell BK208.out 7).trans rfl, (blk_cell BK208.out 8).trans rfl, (blk_cell BK208.out 9).trans rfl, (blk_cell BK209.out 0).trans rfl, (blk_cell BK209.out 1).trans rfl, (blk_cell BK209.out 2).trans rfl⟩ (fun hHeld => ?_)
       clear hK K
       refine norm_ (a' := ?_) ?_ ?_
       rotate_left
       ·show Act.put _ (some 73) _ = _
        simp only [Act.put, List.setIfInBounds_toArray, List.set_cons_zero, List.set_cons_succ, i64_w, i32_w]
        rfl
       refine one_ (i := 14) (N := some 80) #[true, true, true, true, true, true, true, true, true, true, true, true, true, true, true, false, false] rfl rfl (one_of HT_.out (by kernel_rfl)) (by decide) (fun K hK => ?_)
       refine goes_ Try.func117 (by kernel_rfl) rfl #[.slice A0 l0.length c0, .agg #[.int .i64 a2_6, .int .i64 a2_7, .int .i64 a3_2]] (by rfl) rfl rfl (by (try simp only [List.map_toArray, List.map_cons, List.map_nil]); first | done | rfl | (simp only [List.length_drop, List.length_take]; rfl)) ?_
       with_reducible refine (spec_l19At.calls kj4 _ _ l0 a2_6 a2_7 a3_2 t223 _ ?side1 ?side2 A76.out).mono ?_
       (case side1 => repeat (first | exact (Kd.C_below HR0.out HB.out) | (with_reducible refine Kd.C_alloc ?_ _) | (with_reducible refine Kd.C_drewN ?_ _) | (with_reducible refine Kd.C_drew ?_)))
       (case side2 => exact HC0.out)
       rintro e w83 ⟨rfl, hb⟩
       refine ⟨_, rfl, ?_⟩
       replace BK208 := bkb_ BK208 hb
       replace BK209 := bkb_ BK209 hb
       replace BK210 := bkb_ BK210 hb
       replace HB := hbs_ hb
       (try clear hb)
       (try clear hb2)
       (try clear hk)
       (try clear hi)
       refine hK.out _ _ ⟨(blk_cell BK208.out 0).trans rfl, (blk_cell BK208.out 1).trans rfl, (blk_cell BK208.out 2).trans rfl, (blk_cell BK208.out 3).trans rfl, (blk_cell BK208.out 4).trans rfl, (blk_cell BK208.out 5).trans rfl, (blk_cell BK208.out 6).trans rfl, (blk_cell BK208.out 7).trans rfl, (blk_cell BK208.out 8).trans rfl, (blk_cell BK208.out 9).trans rfl, (blk_cell BK209.out 0).trans rfl, (blk_cell BK209.out 1).trans rfl, (blk_cell BK209.out 2).trans rfl⟩ (fun hHeld => ?_)
       clear hK K
       refine norm_ (a' := ?_) ?_ ?_
       rotate_left
       ·show Act.put _ (some 80) _ = _
        simp only [Act.put, List.setIfInBounds_toArray, List.set_cons_zero, List.set_cons_succ, i64_w, i32_w]
        rfl
       refine one_ (i := 15) (N := some 81) #[true, true, true, true, true, true, true, true, true, true, true, true, true, true, true, true, false] rfl rfl (one_of HT_.out (by kernel_rfl)) (by decide) (fun K hK => ?_)
       refine goes_ Try.func149 (by kernel_rfl) rfl #[.slice A1 l1.length c1, .int .i64 t222, .int .i64 t223] (by rfl) rfl rfl (by (try simp only [List.map_toArray, List.map_cons, List.map_nil]); first | done | rfl | (simp only [List.length_drop, List.length_take]; rfl)) ?_
       with_reducible refine (spec_l19Two.calls _ _ l1 t222 t223 t224 t225 _ ?side1 ?side2 A77.out).mono ?_
       (case side1 => repeat (first | exact (Kd.C_below HR1.out HB.out) | (with_reducible refine Kd.C_alloc ?_ _) | (with_reducible refine Kd.C_drewN ?_ _) | (with_reducible refine Kd.C_drew ?_)))
       (case side2 => exact HC1.out)
       rintro e w84 ⟨v226, rfl, ho0, hb⟩
       refine ⟨_, rfl, ?_⟩
       have HO227 := Aside0.mk (Kd.R_lower ho0 bls_)
       replace BK208 := bkb_ BK208 hb
       replace BK209 := bkb_ BK209 hb
       replace BK210 := bkb_ BK210 hb
       replace HB := hbs_ hb
       (try clear hb)
       (try clear hb2)
       (try clear hk)
       (try clear hi)
       (try clear ho0)
       obtain ⟨Ao86, co86, eo86⟩ := Kd.R_slice HO227.out
       (first | subst eo86 | (injection eo86 with f1_ f2_ f3_; have f4_ := f1_.symm; have f5_ := f3_.symm; clear f1_ f2_ f3_; subst f4_; subst f5_))
       refine hK.out _ _ ⟨(blk_cell BK208.out 0).trans rfl, (blk_cell BK208.out 1).trans rfl, (blk_cell BK208.out 2).trans rfl, (blk_cell BK208.out 3).trans rfl, (blk_cell BK208.out 4).trans rfl, (blk_cell BK208.out 5).trans rfl, (blk_cell BK208.out 6).trans rfl, (blk_cell BK208.out 7).trans rfl, (blk_cell BK208.out 8).trans rfl, (blk_cell BK208.out 9).trans rfl, (blk_cell BK209.out 0).trans rfl, (blk_cell BK209.out 1).trans rfl, (blk_cell BK209.out 2).trans rfl⟩ (fun hHeld => ?_)
       clear hK K
       refine norm_ (a' := ?_) ?_ ?_
       rotate_left
       ·show Act.put _ (some 81) _ = _
        simp only [Act.put, List.setIfInBounds_toArray, List.set_cons_zero, List.set_cons_succ, i64_w, i32_w]
        rfl
       refine one_ (i := 16) (N := none) #[true, true, true, true, true, true, true, true, true, true, true, true, true, true, true, true, true] rfl rfl (one_of HT_.out (by kernel_rfl)) (by decide) (fun K hK => ?_)
       have hs85 : w84.cell? ⟨gb210, 0, none⟩ = some (.int .i64 0) := (blk_cell BK210.out 0).trans rfl
       have hfs85 := blk_frozen BK210.out 0
       have hns85_0 := NB208_210.out
       have hns85_1 := NB209_210.out
       have hms85_0 := NB210_208.out
       have hms85_1 := NB210_209.out
       have hs87 : w84.cell? ⟨gb210, 1, none⟩ = some (.slice none 0 0) := (blk_cell BK210.out 1).trans rfl
       have hfs87 := blk_frozen BK210.out 1
       have hns87_0 := NB208_210.out
       have hns87_1 := NB209_210.out
       have hms87_0 := NB210_208.out
       have hms87_1 := NB210_209.out
       refine skip_ (w1 := ?_) (by rfl) rfl ?_ ?_
       rotate_left
       ·go_simp
        rfl
       refine hK.out _ _ ⟨((cell_far (p := ⟨gb210, _, none⟩) NB208_210.out _).trans (((cell_far (p := ⟨gb210, _, none⟩) NB208_210.out _).trans (hHeld.1)))), ((cell_far (p := ⟨gb210, _, none⟩) NB208_210.out _).trans (((cell_far (p := ⟨gb210, _, none⟩) NB208_210.out _).trans (hHeld.2.1)))), ((cell_far (p := ⟨gb210, _, none⟩) NB208_210.out _).trans (((cell_far (p := ⟨gb210, _, none⟩) NB208_210.out _).trans (hHeld.2.2.1)))), ((cell_far (p := ⟨gb210, _, none⟩) NB208_210.out _).trans (((cell_far (p := ⟨gb210, _, none⟩) NB208_210.out _).trans (hHeld.2.2.2.1)))), ((cell_far (p := ⟨gb210, _, none⟩) NB208_210.out _).trans (((cell_far (p := ⟨gb210, _, none⟩) NB208_210.out _).trans (hHeld.2.2.2.2.1)))), ((cell_far (p := ⟨gb210, _, none⟩) NB208_210.out _).trans (((cell_far (p := ⟨gb210, _, none⟩) NB208_210.out _).trans (hHeld.2.2.2.2.2.1)))), ((cell_far (p := ⟨gb210, _, none⟩) NB208_210.out _).trans (((cell_far (p := ⟨gb210, _, none⟩) NB208_210.out _).trans (hHeld.2.2.2.2.2.2.1)))), ((cell_far (p := ⟨gb210, _, none⟩) NB208_210.out _).trans (((cell_far (p := ⟨gb210, _, none⟩) NB208_210.out _).trans (hHeld.2.2.2.2.2.2.2.1)))), ((cell_far (p := ⟨gb210, _, none⟩) NB208_210.out _).trans (((cell_far (p := ⟨gb210, _, none⟩) NB208_210.out _).trans (hHeld.2.2.2.2.2.2.2.2.1)))), ((cell_far (p := ⟨gb210, _, none⟩) NB208_210.out _).trans (((cell_far (p := ⟨gb210, _, none⟩) NB208_210.out _).trans (hHeld.2.2.2.2.2.2.2.2.2.1)))), ((cell_far (p := ⟨gb210, _, none⟩) NB209_210.out _).trans (((cell_far (p := ⟨gb210, _, none⟩) NB209_210.out _).trans (hHeld.2.2.2.2.2.2.2.2.2.2.1)))), ((cell_far (p := ⟨gb210, _, none⟩) NB209_210.out _).trans (((cell_far (p := ⟨gb210, _, none⟩) NB209_210.out _).trans (hHeld.2.2.2.2.2.2.2.2.2.2.2.1)))), ((cell_far (p := ⟨gb210, _, none⟩) NB209_210.out _).trans (((cell_far (p := ⟨gb210, _, none⟩) NB209_210.out _).trans (hHeld.2.2.2.2.2.2.2.2.2.2.2.2))))⟩ (fun hHeld => ?_)
       clear hK K
       refine done_ (done_of HT_.out (by kernel_rfl)) ?_
       try go_wp2
       refine bodyPost_ret (results_cell_row rfl _ _ gb210 167 #[.int .i64 t224, .slice Ao86 t225.length co86] (0, 0) _ rfl (bk_ BK210) Try.underlying167 rfl (by kernel_rfl)) rfl ?_
       exact ⟨_, eq_, by (with_reducible repeat (first | apply Kd.R_alloc | apply Kd.R_drewN | apply Kd.R_drew)); exact Kd.R_mono (Kd.R_far (p := ⟨gb210, 1, none⟩) (Kd.R_far (p := ⟨gb210, 0, none⟩) (Kd.R_types HO227.out BK210.out (by decide)) (fun _ hk => hk.2) (.int .i64 t224)) (fun _ hk => hk.2) (.slice Ao86 t225.length co86)) (fun _ hk => trivial), bl_⟩
      ·rw [if_neg c74] at H
       have c74b0 : (a2_0 == 4) = false := beq_eq_false_iff_ne.mpr c74
       have c74b1 : (a2_0 != 4) = true := bne_iff_ne.mpr c74
       have H' := Aside0.mk H
       clear H
       have hnb88 := NB208_209.out
       have hnc88 := NB209_208.out
       have hnb89 := NB208_210.out
       have hnc89 := NB210_208.out
       have hcz90 := blk_cell BK208.out
       have hfz90 := blk_frozen BK208.out
       go_wp2_with (first | ((with_reducible refine gate_dst (N := 10) rfl ?_); refine box_event ?hg (N := 10) ?hd (cs := #[.int .i64 0, .slice none 0 0]) (t := 167) ?hr ?_; (case hd => rfl); (case hg => rfl); (case hr => first | (go_simp; done) | (go_simp; rfl)); intro gb228 hg w91 hbox hb; have BK228 := Aside0.mk (hbox); have GW228 := gs_ hg; have GE228 := gs_ hg; replace HB := hbs_ hb; have NB208_228 := nl_ hg BK208; have NB228_208 := nr_ hg BK208; replace BK208 := bkb_ BK208 hb; have NB209_228 := nl_ hg BK209; have NB228_209 := nr_ hg BK209; replace BK209 := bkb_ BK209 hb; have NB210_228 := nl_ hg BK210; have NB228_210 := nr_ hg BK210; replace BK210 := bkb_ BK210 hb; clear hb hbox hg; have hnb92 := NB228_208.out; have hnc92 := NB208_228.out; have hnb93 := NB228_209.out; have hnc93 := NB209_228.out; have hnb94 := NB228_210.out; have hnc94 := NB210_228.out; have hcz95 := blk_cell BK228.out; have hfz95 := blk_frozen BK228.out))
       go_loopg [11] kj4 (fun kq v11 w' => ∃ (x11_2 : Int) (x229000_2 : Int) (x229001_2 : List Int) (u229001 : Value), v11 = .int .i64 x11_2 ∧ Aside0 (spec_l19By.l0 kq l0 l1 x11_2 a2_0 a2_1 a2_2 a2_3 a2_4 a2_5 a2_6 a2_7 a2_8 a2_9 a3_0 a3_1 a3_2 x229000_2 x229001_2 = some (r1, r2)) ∧ Aside0 (kq ≤ kj4) ∧ Aside0 (Kd.R (Kd.int .i64) 3 w' w.heap.size (fun _ => True) u229001 x229001_2) ∧ Aside0 (w'.heap[gb208]? = some (.cells #[.int .i64 a2_0, .int .i64 a2_1, .int .i64 a2_2, .int .i64 a2_3, .int .i64 a2_4, .int .i64 a2_5, .int .i64 a2_6, .int .i64 a2_7, .int .i64 a2_8, .int .i64 a2_9] 46 (0, 0))) ∧ Aside0 (w'.heap[gb209]? = some (.cells #[.int .i64 a3_0, .int .i64 a3_1, .int .i64 a3_2] 29 (0, 0))) ∧ Aside0 (w'.heap[gb210]? = some (.cells #[.int .i64 0, (.slice none 0 0)] 167 (0, 0))) ∧ Aside0 (w'.heap[gb228]? = some (.cells #[.int .i64 x229000_2, u229001] 167 (0, 0))) ∧ Aside0 (Below w.heap.size w w'))
       case atStart => exact ⟨(0), (0), (([] : List Int)), (.slice none 0 0), rf_, H', ⟨Nat.le_refl _⟩, ⟨by first | exact Kd.R_nil _ _ _ _ _ | exact Kd.N_nil _ _ _ _ _ | exact Kd.V_nil _ _ _ _ _ | exact Kd.Q_nil _ _ _ _ _ | exact Kd.S_nil _ _ _ _ _⟩, ⟨bk_ BK208⟩, ⟨bk_ BK209⟩, ⟨bk_ BK210⟩, ⟨bk_ BK228⟩, ⟨bl_⟩⟩
       case round =>
        clear H'
        try clear c1
        try clear c2
        try clear p2
        try clear q2
        try clear hx2
        try clear c3
        try clear c4
        try clear c5
        try clear c6
        try clear p6
        try clear c7
        try clear c8
        try clear c9
        try clear c11
        try clear c14
        try clear p21
        try clear q21
        try clear hx21
        try clear c22
        try clear c23
        try clear c24
        try clear c26
        try clear c26b0
        try clear c26b1
        try clear c27
        try clear c27b0
        try clear c27b1
        try clear c28
        try clear c29
        try clear c31
        try clear c37
        try clear c38
        try clear c40
        try clear c43
        try clear c43b0
        try clear c43b1
        try clear c45
        try clear c45b0
        try clear c46
        try clear c47
        try clear c49
        try clear c53
        try clear c53b0
        try clear c54
        try clear c54b0
        try clear c55
        try clear c55b0
        try clear c55b1
        try clear c56
        try clear c57
        try clear c59
        try clear c64
        try clear p64
        try clear c65
        try clear c67
        try clear c74
        try clear c74b0
        try clear c74b1
        try clear c78
        try clear c79
        try clear c88
        try clear c89
        try clear c91
        try clear c92
        try clear c93
        try clear c94
        try clear hcz25
        try clear hcz30
        try clear hcz32
        try clear hcz36
        try clear hcz39
        try clear hcz41
        try clear hcz42
        try clear hcz48
        try clear hcz50
        try clear hcz52
        try clear hcz58
        try clear hcz60
        try clear hcz62
        try clear hcz66
        try clear hcz68
        try clear hcz73
        try clear hcz80
        try clear hcz90
        try clear hcz95
        try clear hfz17
        try clear hfz20
        try clear hfz25
        try clear hfz30
        try clear hfz32
        try clear hfz36
        try clear hfz39
        try clear hfz41
        try clear hfz42
        try clear hfz48
        try clear hfz50
        try clear hfz52
        try clear hfz58
        try clear hfz60
        try clear hfz62
        try clear hfz66
        try clear hfz68
        try clear hfz73
        try clear hfz80
        try clear hfz90
        try clear hfz95
        try clear hx216_0
        try clear hx217_0
        try clear p216
        try clear p217
        try clear q216
        try clear q217
        obtain ⟨x11_2, x229000_2, x229001_2, u229001, rfl, HA, HK2, HO_229001, BK208, BK209, BK210, BK228, HB⟩ := hrel
        cases gk with
        | zero => exact absurd HA.out (by simp [spec_l19By.l0])
        | succ k2 =>
         have H := HA.out
         clear HA
         simp only [spec_l19By.l0] at H
         by_cases c96 : x11_2 < (l0.length : Int)
         ·rw [if_pos c96] at H
          have c96b0 : decide (x11_2 < (l0.length : Int)) = true := decide_eq_true c96
          clear c96
          obtain ⟨c97b0, H⟩ := ifd_ H
          by_cases c98 : (((rd_T29 l0 x11_2).f0.f0) == a2_4 && (((rd_T29 l0 x11_2).f0.f1) == a2_5)) = true
          ·rw [if_pos c98] at H
           have c98b0 : (((rd_T29 l0 x11_2).f0.f0) == a2_4 && (((rd_T29 l0 x11_2).f0.f1) == a2_5)) = true := c98
           (try (have c98b1 : decide (((rd_T29 l0 x11_2).f0.f0) = a2_4 && (((rd_T29 l0 x11_2).f0.f1) == a2_5)) = true := by simpa using c98))
           (try (have c98b2 : (((rd_T29 l0 x11_2).f0.f0) == a2_4 && (((rd_T29 l0 x11_2).f0.f1) == a2_5)) = true := by simpa using c98))
           clear c98
           obtain ⟨t231, A99, H⟩ := bindE_ H
           obtain ⟨⟨t232, t233⟩, A100, H⟩ := bindE_ H
           replace H : ((spec_l19Better.f x229000_2 x229001_2 t232 t233).bind fun bt236 => (spec_l19By.l0 k2 l0 l1 (wrap64 (x11_2 + 1)) a2_0 a2_1 a2_2 a2_3 a2_4 a2_5 a2_6 a2_7 a2_8 a2_9 a3_0 a3_1 a3_2 bt236.1 bt236.2)) = some (r1, r2) := H
           obtain ⟨⟨t236, t237⟩, A101, H⟩ := bindE_ H
           replace H : (spec_l19By.l0 k2 l0 l1 (wrap64 (x11_2 + 1)) a2_0 a2_1 a2_2 a2_3 a2_4 a2_5 a2_6 a2_7 a2_8 a2_9 a3_0 a3_1 a3_2 t236 t237) = some (r1, r2) := H
           have H' := Aside0.mk H
           clear H
           try go_wp2
           replace HO_229001 := Aside0.mk (Kd.R_drew HO_229001.out)
           replace BK208 := Aside0.mk (blk_drew BK208.out)
           replace BK209 := Aside0.mk (blk_drew BK209.out)
           replace BK210 := Aside0.mk (blk_drew BK210.out)
           replace BK228 := Aside0.mk (blk_drew BK228.out)
           replace HB := Aside0.mk (below_drew1 HB.out)
           have p229 : 0 ≤ (x11_2 : Int) := od_
           have q229 : x11_2 < (l0.length : Int) := od_
           obtain ⟨ad229, e229, hx229_0, hx229_1, hx229_2⟩ := at_T29 HR0.out x11_2 p229 q229
           have hw229_2 := hx229_2
           have hw229_1 := hx229_1
           have hw229_0 := hx229_0
           cases e229
           replace hx229_0 := cb_ HB hx229_0
           replace hx229_1 := cb_ HB hx229_1
           replace hx229_2 := cb_ HB hx229_2
           replace p229 := eq_true p229
           replace q229 := eq_true q229
           refine start_ (n := 8) (S := fun w' => w'.cell? ⟨gb208, 0, none⟩ = some (.int .i64 a2_0) ∧ w'.cell? ⟨gb208, 1, none⟩ = some (.int .i64 a2_1) ∧ w'.cell? ⟨gb208, 2, none⟩ = some (.int .i64 a2_2) ∧ w'.cell? ⟨gb208, 3, none⟩ = some (.int .i64 a2_3) ∧ w'.cell? ⟨gb208, 4, none⟩ = some (.int .i64 a2_4) ∧ w'.cell? ⟨gb208, 5, none⟩ = some (.int .i64 a2_5) ∧ w'.cell? ⟨gb208, 6, none⟩ = some (.int .i64 a2_6) ∧ w'.cell? ⟨gb208, 7, none⟩ = some (.int .i64 a2_7) ∧ w'.cell? ⟨gb208, 8, none⟩ = some (.int .i64 a2_8) ∧ w'.cell? ⟨gb208, 9, none⟩ = some (.int .i64 a2_9) ∧ w'.cell? (ad229.add ((x11_2).toNat * 3)) = some (.int .i64 ((rd_T29 l0 x11_2).f0.f0)) ∧ w'.cell? ⟨(ad229.add ((x11_2).toNat * 3)).block, (ad229.add ((x11_2).toNat * 3)).off + 1, none⟩ = some (.int .i64 ((rd_T29 l0 x11_2).f0.f1)) ∧ w'.cell? ⟨(ad229.add ((x11_2).toNat * 3)).block, (ad229.add ((x11_2).toNat * 3)).off + 2, none⟩ = some (.int .i64 ((rd_T29 l0 x11_2).f1))) (ds := []) #[false, false, false, false, false, false, false, false] (by kernel_rfl) rfl rfl ⟨(blk_cell BK208.out 0).trans rfl, (blk_cell BK208.out 1).trans rfl, (blk_cell BK208.out 2).trans rfl, (blk_cell BK208.out 3).trans rfl, (blk_cell BK208.out 4).trans rfl, (blk_cell BK208.out 5).trans rfl, (blk_cell BK208.out 6).trans rfl, (blk_cell BK208.out 7).trans rfl, (blk_cell BK208.out 8).trans rfl, (blk_cell BK208.out 9).trans rfl, (cb_ HB hw229_0 :), (cb_ HB hw229_1 :), (cb_ HB hw229_2 :)⟩ (fun hHeld => ?_); refine with_tabW spec_l19By.tab19 spec_l19By.bits19 (fun HT_ HW_ => ?_)
           generalize wr.drew = w102 at HO_229001 BK208 BK209 BK210 BK228 HB hx229_0 hx229_1 hx229_2 hHeld ⊢
           refine pureZ_ (i := 0) (some 89) #[true, false, false, false, false, false, false, false] (any_of HT_.out (by kernel_rfl)) ?_
           refine pureZ_ (i := 1) (some 90) #[true, true, false, false, false, false, false, false] (any_of HT_.out (by kernel_rfl)) ?_
           refine pureZ_ (i := 2) (some 91) #[true, true, true, false, false, false, false, false] (any_of HT_.out (by kernel_rfl)) ?_
           refine pureZ_ (i := 3) (some 92) #[true, true, true, true, false, false, false, false] (any_of HT_.out (by kernel_rfl)) ?_
           refine pureZ_ (i := 5) (some 94) #[true, true, true, true, false, true, false, false] (any_of HT_.out (by kernel_rfl)) ?_
           refine takeZ_ (i := 4) (some 93) #[true, true, true, true, true, true, false, false] (take_ofW HT_.out HW_.out (by kernel_rfl)) hHeld ?_
           refine takeZ_ (i := 6) (some 95) #[true, true, true, true, true, true, true, false] (take_ofW HT_.out HW_.out (by kernel_rfl)) hHeld ?_
           refine pureZ_ (i := 7) (some 96) #[true, true, true, true, true, true, true, true] (any_of HT_.out (by kernel_rfl)) ?_
           refine done_ (done_of HT_.out (by kernel_rfl)) ?_
           try go_wp2
           replace HO_229001 := Aside0.mk (Kd.R_drew HO_229001.out)
           replace BK208 := Aside0.mk (blk_drew BK208.out)
           replace BK209 := Aside0.mk (blk_drew BK209.out)
           replace BK210 := Aside0.mk (blk_drew BK210.out)
           replace BK228 := Aside0.mk (blk_drew BK228.out)
           replace HB := Aside0.mk (below_drew1 HB.out)
           have p230 : 0 ≤ (x11_2 : Int) := od_
           have q230 : x11_2 < (l0.length : Int) := od_
           obtain ⟨ad230, e230, hx230_0, hx230_1, hx230_2⟩ := at_T29 HR0.out x11_2 p230 q230
           have hw230_2 := hx230_2
           have hw230_1 := hx230_1
           have hw230_0 := hx230_0
           obtain rfl : ad229 = ad230 := (by injection e230)
           replace hx230_0 := cb_ HB hx230_0
           replace hx230_1 := cb_ HB hx230_1
           replace hx230_2 := cb_ HB hx230_2
           replace p230 := eq_true p230
           replace q230 := eq_true q230
           refine start_ (n := 15) (S := fun w' => w'.cell? ⟨gb208, 0, none⟩ = some (.int .i64 a2_0) ∧ w'.cell? ⟨gb208, 1, none⟩ = some (.int .i64 a2_1) ∧ w'.cell? ⟨gb208, 2, none⟩ = some (.int .i64 a2_2) ∧ w'.cell? ⟨gb208, 3, none⟩ = some (.int .i64 a2_3) ∧ w'.cell? ⟨gb208, 4, none⟩ = some (.int .i64 a2_4) ∧ w'.cell? ⟨gb208, 5, none⟩ = some (.int .i64 a2_5) ∧ w'.cell? ⟨gb208, 6, none⟩ = some (.int .i64 a2_6) ∧ w'.cell? ⟨gb208, 7, none⟩ = some (.int .i64 a2_7) ∧ w'.cell? ⟨gb208, 8, none⟩ = some (.int .i64 a2_8) ∧ w'.cell? ⟨gb208, 9, none⟩ = some (.int .i64 a2_9) ∧ w'.cell? ⟨gb209, 0, none⟩ = some (.int .i64 a3_0) ∧ w'.cell? ⟨gb209, 1, none⟩ = some (.int .i64 a3_1) ∧ w'.cell? ⟨gb209, 2, none⟩ = some (.int .i64 a3_2) ∧ w'.cell? (ad229.add ((x11_2).toNat * 3)) = some (.int .i64 ((rd_T29 l0 x11_2).f0.f0)) ∧ w'.cell? ⟨(ad229.add ((x11_2).toNat * 3)).block, (ad229.add ((x11_2).toNat * 3)).off + 1, none⟩ = some (.int .i64 ((rd_T29 l0 x11_2).f0.f1)) ∧ w'.cell? ⟨(ad229.add ((x11_2).toNat * 3)).block, (ad229.add ((x11_2).toNat * 3)).off + 2, none⟩ = some (.int .i64 ((rd_T29 l0 x11_2).f1))) (ds := []) #[false, false, false, false, false, false, false, false, false, false, false, false, false, false, false] (by kernel_rfl) rfl rfl ⟨(blk_cell BK208.out 0).trans rfl, (blk_cell BK208.out 1).trans rfl, (blk_cell BK208.out 2).trans rfl, (blk_cell BK208.out 3).trans rfl, (blk_cell BK208.out 4).trans rfl, (blk_cell BK208.out 5).trans rfl, (blk_cell BK208.out 6).trans rfl, (blk_cell BK208.out 7).trans rfl, (blk_cell BK208.out 8).trans rfl, (blk_cell BK208.out 9).trans rfl, (blk_cell BK209.out 0).trans rfl, (blk_cell BK209.out 1).trans rfl, (blk_cell BK209.out 2).trans rfl, (cb_ HB hw230_0 :), (cb_ HB hw230_1 :), (cb_ HB hw230_2 :)⟩ (fun hHeld => ?_); refine with_tabW spec_l19By.tab20 spec_l19By.bits20 (fun HT_ HW_ => ?_)
           generalize w102.drew = w103 at HO_229001 BK208 BK209 BK210 BK228 HB hx230_0 hx230_1 hx230_2 hHeld ⊢
           refine pureZ_ (i := 0) (some 97) #[true, false, false, false, false, false, false, false, false, false, false, false, false, false, false] (any_of HT_.out (by kernel_rfl)) ?_
           refine pureZ_ (i := 1) (some 98) #[true, true, false, false, false, false, false, false, false, false, false, false, false, false, false] (any_of HT_.out (by kernel_rfl)) ?_
           refine pureZ_ (i := 2) (some 99) #[true, true, true, false, false, false, false, false, false, false, false, false, false, false, false] (any_of HT_.out (by kernel_rfl)) ?_
           refine pureZ_ (i := 3) (some 100) #[true, true, true, true, false, false, false, false, false, false, false, false, false, false, false] (any_of HT_.out (by kernel_rfl)) ?_
           refine pureZ_ (i := 4) (some 101) #[true, true, true, true, true, false, false, false, false, false, false, false, false, false, false] (any_of HT_.out (by kernel_rfl)) ?_
           refine pureZ_ (i := 6) (some 103) #[true, true, true, true, true, false, true, false, false, false, false, false, false, false, false] (any_of HT_.out (by kernel_rfl)) ?_
           refine pureZ_ (i := 7) (some 104) #[true, true, true, true, true, false, true, true, false, false, false, false, false, false, false] (any_of HT_.out (by kernel_rfl)) ?_
           refine pureZ_ (i := 10) (some 107) #[true, true, true, true, true, false, true, true, false, false, true, false, false, false, false] (any_of HT_.out (by kernel_rfl)) ?_
           refine takeZ_ (i := 5) (some 102) #[true, true, true, true, true, true, true, true, false, false, true, false, false, false, false] (take_ofW HT_.out HW_.out (by kernel_rfl)) hHeld ?_
           refine takeZ_ (i := 8) (some 105) #[true, true, true, true, true, true, true, true, true, false, true, false, false, false, false] (take_ofW HT_.out HW_.out (by kernel_rfl)) hHeld ?_
           refine pureZ_ (i := 9) (some 106) #[true, true, true, true, true, true, true, true, true, true, true, false, false, false, false] (any_of HT_.out (by kernel_rfl)) ?_
           refine takeZ_ (i := 11) (some 108) #[true, true, true, true, true, true, true, true, true, true, true, true, false, false, false] (take_ofW HT_.out HW_.out (by kernel_rfl)) hHeld ?_
           refine pureZ_ (i := 12) (some 109) #[true, true, true, true, true, true, true, true, true, true, true, true, true, false, false] (any_of HT_.out (by kernel_rfl)) ?_
           refine one_ (i := 13) (N := some 110) #[true, true, true, true, true, true, true, true, true, true, true, true, true, true, false] rfl rfl (one_of HT_.out (by kernel_rfl)) (by decide) (fun K hK => ?_)
           refine goes_ Try.func117 (by kernel_rfl) rfl #[.slice (some ad229) l0.length c0, .agg #[.int .i64 ((rd_T29 l0 x11_2).f1), .int .i64 a2_7, .int .i64 a3_2]] (by rfl) rfl rfl (by (try simp only [List.map_toArray, List.map_cons, List.map_nil]); first | done | rfl | (simp only [List.length_drop, List.length_take]; rfl)) ?_
           with_reducible refine (spec_l19At.calls k2 _ _ l0 ((rd_T29 l0 x11_2).f1) a2_7 a3_2 t231 _ ?side1 ?side2 A99.out).mono ?_
           (case side1 => repeat (first | exact (Kd.C_below HR0.out HB.out) | (with_reducible refine Kd.C_alloc ?_ _) | (with_reducible refine Kd.C_drewN ?_ _) | (with_reducible refine Kd.C_drew ?_)))
           (case side2 => exact HC0.out)
           rintro e w104 ⟨rfl, hb⟩
           refine ⟨_, rfl, ?_⟩
           replace HO_229001 := hob_ HO_229001 hb
           replace BK208 := bkb_ BK208 hb
           replace BK209 := bkb_ BK209 hb
           replace BK210 := bkb_ BK210 hb
           replace BK228 := bkb_ BK228 hb
           replace HB := hbs_ hb
           (try clear hb)
           (try clear hb2)
           (try clear hk)
           (try clear hi)
           refine hK.out _ _ ⟨(blk_cell BK208.out 0).trans rfl, (blk_cell BK208.out 1).trans rfl, (blk_cell BK208.out 2).trans rfl, (blk_cell BK208.out 3).trans rfl, (blk_cell BK208.out 4).trans rfl, (blk_cell BK208.out 5).trans rfl, (blk_cell BK208.out 6).trans rfl, (blk_cell BK208.out 7).trans rfl, (blk_cell BK208.out 8).trans rfl, (blk_cell BK208.out 9).trans rfl, (blk_cell BK209.out 0).trans rfl, (blk_cell BK209.out 1).trans rfl, (blk_cell BK209.out 2).trans rfl, (cb_ HB hw230_0 :), (cb_ HB hw230_1 :), (cb_ HB hw230_2 :)⟩ (fun hHeld => ?_)
           clear hK K
           refine norm_ (a' := ?_) ?_ ?_
           rotate_left
           ·show Act.put _ (some 110) _ = _
            simp only [Act.put, List.setIfInBounds_toArray, List.set_cons_zero, List.set_cons_succ, i64_w, i32_w]
            rfl
           refine pureZ_ (i := 14) (some 12) #[true, true, true, true, true, true, true, true, true, true, true, true, true, true, true] (any_of HT_.out (by kernel_rfl)) ?_
           refine done_ (done_of HT_.out (by kernel_rfl)) ?_
           try go_wp2
           replace HO_229001 := Aside0.mk (Kd.R_drew HO_229001.out)
           replace BK208 := Aside0.mk (blk_drew BK208.out)
           replace BK209 := Aside0.mk (blk_drew BK209.out)
           replace BK210 := Aside0.mk (blk_drew BK210.out)
           replace BK228 := Aside0.mk (blk_drew BK228.out)
           replace HB := Aside0.mk (below_drew1 HB.out)
           refine start_ (n := 7) (S := fun w' => w'.cell? ⟨gb228, 0, none⟩ = some (.int .i64 x229000_2) ∧ w'.cell? ⟨gb228, 1, none⟩ = some (u229001)) (ds := [6]) #[false, false, false, false, false, false, false] (by kernel_rfl) rfl rfl ⟨(blk_cell BK228.out 0).trans rfl, (blk_cell BK228.out 1).trans rfl⟩ (fun hHeld => ?_)
           generalize w104.drew = w105 at HO_229001 BK208 BK209 BK210 BK228 HB hHeld ⊢
           refine pure_ (i := 1) (N := some 112) (v := ?_) (a' := ?_) #[false, true, false, false, false, false, false] rfl rfl (by kernel_rfl) (fun _ _ _ h => h) (Or.inl ⟨by rfl, ?_⟩) ?_ ?_
           rotate_left
           ·intro w'
            go_simp
            with_reducible rfl
           rotate_left
           ·simp only [Act.put, List.setIfInBounds_toArray, List.set_cons_zero, List.set_cons_succ, i64_w, i32_w]
            rfl
           refine pure_ (i := 2) (N := some 113) (v := ?_) (a' := ?_) #[false, true, true, false, false, false, false] rfl rfl (by kernel_rfl) (fun _ _ _ h => h) (Or.inl ⟨by rfl, ?_⟩) ?_ ?_
           rotate_left
           ·intro w'
            go_simp
            with_reducible rfl
           rotate_left
           ·simp only [Act.put, List.setIfInBounds_toArray, List.set_cons_zero, List.set_cons_succ, i64_w, i32_w]
            rfl
           refine pure_ (i := 3) (N := some 114) (v := ?_) (a' := ?_) #[false, true, true, true, false, false, false] rfl rfl (by kernel_rfl) (fun _ _ _ h => h) (Or.inl ⟨by rfl, ?_⟩) ?_ ?_
           rotate_left
           ·intro w'
            go_simp
            with_reducible rfl
           rotate_left
           ·simp only [Act.put, List.setIfInBounds_toArray, List.set_cons_zero, List.set_cons_succ, i64_w, i32_w]
            rfl
           refine take_ (i := 0) (N := some 111) (v := ?_) (a' := ?_) #[true, true, true, true, false, false, false] rfl rfl (by kernel_rfl) (fun _ _ _ h => h) (Or.inl ⟨by rfl, ?_⟩) hHeld ?_ ?_
           rotate_left
           ·rintro w' ⟨s0, s1⟩
            go_simp
            with_reducible rfl
           rotate_left
           ·simp only [Act.put, List.setIfInBounds_toArray, List.set_cons_zero, List.set_cons_succ, i64_w, i32_w]
            rfl
           refine one_ (i := 4) (N := some 115) #[true, true, true, true, true, false, false] rfl rfl (by kernel_rfl) (by decide) (fun K hK => ?_)
           refine goes_ Try.func149 (by kernel_rfl) rfl #[.slice A1 l1.length c1, .int .i64 x11_2, .int .i64 t231] (by rfl) rfl rfl (by (try simp only [List.map_toArray, List.map_cons, List.map_nil]); first | done | rfl | (simp only [List.length_drop, List.length_take]; rfl)) ?_
           with_reducible refine (spec_l19Two.calls _ _ l1 x11_2 t231 t232 t233 _ ?side1 ?side2 A100.out).mono ?_
           (case side1 => repeat (first | exact (Kd.C_below HR1.out HB.out) | (with_reducible refine Kd.C_alloc ?_ _) | (with_reducible refine Kd.C_drewN ?_ _) | (with_reducible refine Kd.C_drew ?_)))
           (case side2 => exact HC1.out)
           rintro e w106 ⟨v234, rfl, ho0, hb⟩
           refine ⟨_, rfl, ?_⟩
           have HO235 := Aside0.mk (Kd.R_lower (Kd.R_new' ho0 (Kd.R_lt (by (with_reducible repeat (first | apply Kd.R_alloc | apply Kd.R_drewN | apply Kd.R_drew)); exact HO_229001.out))) bls_)
           replace HO_229001 := Aside0.mk (Kd.R_elder' (by (with_reducible repeat (first | apply Kd.R_alloc | apply Kd.R_drewN | apply Kd.R_drew)); exact HO_229001.out) (Kd.R_base ho0) hb)
           replace BK208 := bkb_ BK208 hb
           replace BK209 := bkb_ BK209 hb
           replace BK210 := bkb_ BK210 hb
           replace BK228 := bkb_ BK228 hb
           replace HB := hbs_ hb
           (try clear hb)
           (try clear hb2)
           (try clear hk)
           (try clear hi)
           (try clear ho0)
           obtain ⟨Ao107, co107, eo107⟩ := Kd.R_slice HO_229001.out
           (first | subst eo107 | (injection eo107 with f1_ f2_ f3_; have f4_ := f1_.symm; have f5_ := f3_.symm; clear f1_ f2_ f3_; subst f4_; subst f5_))
           obtain ⟨Ao108, co108, eo108⟩ := Kd.R_slice HO235.out
           (first | subst eo108 | (injection eo108 with f1_ f2_ f3_; have f4_ := f1_.symm; have f5_ := f3_.symm; clear f1_ f2_ f3_; subst f4_; subst f5_))
           refine hK.out _ _ ⟨(blk_cell BK228.out 0).trans rfl, (blk_cell BK228.out 1).trans rfl⟩ (fun hHeld => ?_)
           clear hK K
           refine norm_ (a' := ?_) ?_ ?_
           rotate_left
           ·show Act.put _ (some 115) _ = _
            simp only [Act.put, List.setIfInBounds_toArray, List.set_cons_zero, List.set_cons_succ, i64_w, i32_w]
            rfl
           refine one_ (i := 5) (N := some 116) #[true, true, true, true, true, true, false] rfl rfl (by kernel_rfl) (by decide) (fun K hK => ?_)
           refine goes_ Try.func150 (by kernel_rfl) rfl #[.agg #[.int .i64 x229000_2, .slice Ao107 x229001_2.length co107], .agg #[.int .i64 t232, .slice Ao108 t233.length co108]] (by rfl) rfl rfl (by (try simp only [List.map_toArray, List.map_cons, List.map_nil]); first | done | rfl | (simp only [List.length_drop, List.length_take]; rfl)) ?_
           with_reducible refine (spec_l19Better.calls x229000_2 (fun k_ => some k_ = (.slice Ao107 x229001_2.length co107 : Value).ownBlock) (.slice Ao107 x229001_2.length co107) x229001_2 t232 (fun k_ => some k_ = (.slice Ao108 t233.length co108 : Value).ownBlock) (.slice Ao108 t233.length co108) t233 t236 t237 w _ ?side1 ?side2 ?side3 ?side4 ?side5 A101.out).mono ?_
           (case side1 => repeat (first | (with_reducible first | exact HB.out | apply below_alloc | apply pw_below_drewN | apply below_drew1 | refine below_set ?_ GE208.out | refine below_set ?_ GE209.out | refine below_set ?_ GE210.out | refine below_set ?_ GE228.out) | exact HB.out))
           (case side2 => exact Kd.R_tight rfl HO_229001.out)
           (case side3 => exact fun k_ e_ => (HO_229001.out.1 k_ e_.symm).2)
           (case side4 => exact Kd.R_tight rfl HO235.out)
           (case side5 => exact fun k_ e_ => (HO235.out.1 k_ e_.symm).2)
           rintro e w109 ⟨v238, rfl, ho0, hb, hkp⟩
           refine ⟨_, rfl, ?_⟩
           replace BK208 := Aside0.mk (blk_kept (bk_ BK208) hkp (fun hs_ => Or.elim hs_ (fun e_ => (fun e_ => (Kd.R_ne HO_229001.out BK208.out (by decide)) e_) e_) (fun e_ => (fun e_ => (Kd.R_ne HO235.out BK208.out (by decide)) e_) e_)))
           replace BK209 := Aside0.mk (blk_kept (bk_ BK209) hkp (fun hs_ => Or.elim hs_ (fun e_ => (fun e_ => (Kd.R_ne HO_229001.out BK209.out (by decide)) e_) e_) (fun e_ => (fun e_ => (Kd.R_ne HO235.out BK209.out (by decide)) e_) e_)))
           replace BK210 := Aside0.mk (blk_kept (bk_ BK210) hkp (fun hs_ => Or.elim hs_ (fun e_ => (fun e_ => (Kd.R_ne HO_229001.out BK210.out (by decide)) e_) e_) (fun e_ => (fun e_ => (Kd.R_ne HO235.out BK210.out (by decide)) e_) e_)))
           replace BK228 := Aside0.mk (blk_kept (bk_ BK228) hkp (fun hs_ => Or.elim hs_ (fun e_ => (fun e_ => (Kd.R_ne HO_229001.out BK228.out (by decide)) e_) e_) (fun e_ => (fun e_ => (Kd.R_ne HO235.out BK228.out (by decide)) e_) e_)))
           have HO239 := Aside0.mk (Kd.R_mono (ok' := fun k_ => True) ho0 (fun k_ hk_ => trivial))
           replace HB := Aside0.mk (hb)
           clear HO235
           clear HO_229001
           (try clear hb)
           (try clear hkp)
           (try clear ho0)
           obtain ⟨Ao111, co111, eo111⟩ := Kd.R_slice HO239.out
           (first | subst eo111 | (injection eo111 with f1_ f2_ f3_; have f4_ := f1_.symm; have f5_ := f3_.symm; clear f1_ f2_ f3_; subst f4_; subst f5_))
           refine hK.out _ _ ⟨(blk_cell BK228.out 0).trans rfl, (blk_cell BK228.out 1).trans rfl⟩ (fun hHeld => ?_)
           clear hK K
           refine norm_ (a' := ?_) ?_ ?_
           rotate_left
           ·show Act.put _ (some 116) _ = _
            simp only [Act.put, List.setIfInBounds_toArray, List.set_cons_zero, List.set_cons_succ, i64_w, i32_w]
            rfl
           refine last_ (i := 6) (N := none) #[true, true, true, true, true, true, true] rfl rfl (by kernel_rfl) (by decide) (fun K hK => ?_)
           have hs110 : w109.cell? ⟨gb228, 0, none⟩ = some (.int .i64 x229000_2) := (blk_cell BK228.out 0).trans rfl
           have hfs110 := blk_frozen BK228.out 0
           have hns110_0 := NB208_228.out
           have hns110_1 := NB209_228.out
           have hns110_2 := NB210_228.out
           have hms110_0 := NB228_208.out
           have hms110_1 := NB228_209.out
           have hms110_2 := NB228_210.out
           have hs112 : w109.cell? ⟨gb228, 1, none⟩ = some (.slice Ao107 x229001_2.length co107) := (blk_cell BK228.out 1).trans rfl
           have hfs112 := blk_frozen BK228.out 1
           have hns112_0 := NB208_228.out
           have hns112_1 := NB209_228.out
           have hns112_2 := NB210_228.out
           have hms112_0 := NB228_208.out
           have hms112_1 := NB228_209.out
           have hms112_2 := NB228_210.out
           refine skip_ (w1 := ?_) (by rfl) rfl ?_ ?_
           rotate_left
           ·go_simp
            rfl
           refine hK.out _ _ ?_
           clear hK K
           refine done_ (by kernel_rfl) ?_
           try go_wp2
           go_roundg k2
           case measure => have := HJ4.out; have := HK2.out; omega
           case rel => exact ⟨(wrap64 (x11_2 + 1)), (t236), (t237), (.slice Ao111 t237.length co111), rf_, H', ⟨by have := HJ4.out; have := HK2.out; omega⟩, ⟨by (with_reducible repeat (first | apply Kd.R_alloc | apply Kd.R_drewN | apply Kd.R_drew)); exact Kd.R_mono (Kd.R_far (p := ⟨gb228, 1, none⟩) (Kd.R_far (p := ⟨gb228, 0, none⟩) (Kd.R_types HO239.out BK228.out (by decide)) (fun _ hk => hk.2) (.int .i64 t236)) (fun _ hk => hk.2) (.slice Ao111 t237.length co111)) (fun _ hk => trivial)⟩, ⟨bk_ BK208⟩, ⟨bk_ BK209⟩, ⟨bk_ BK210⟩, ⟨bk_ BK228⟩, ⟨bl_⟩⟩
          ·rw [if_neg c98] at H
           have c98b0 : (((rd_T29 l0 x11_2).f0.f0) == a2_4 && (((rd_T29 l0 x11_2).f0.f1) == a2_5)) = false := by simpa using c98
           (try (have c98b1 : decide (((rd_T29 l0 x11_2).f0.f0) = a2_4 && (((rd_T29 l0 x11_2).f0.f1) == a2_5)) = false := by simpa using c98))
           (try (have c98b2 : (((rd_T29 l0 x11_2).f0.f0) == a2_4 && (((rd_T29 l0 x11_2).f0.f1) == a2_5)) = false := by simpa using c98))
           (try (have c98b3 : ¬ (((rd_T29 l0 x11_2).f0.f0) = a2_4 && (((rd_T29 l0 x11_2).f0.f1) == a2_5)) := by simpa using c98))
           clear c98
           have H' := Aside0.mk H
           clear H
           try go_wp2
           replace HO_229001 := Aside0.mk (Kd.R_drew HO_229001.out)
           replace BK208 := Aside0.mk (blk_drew BK208.out)
           replace BK209 := Aside0.mk (blk_drew BK209.out)
           replace BK210 := Aside0.mk (blk_drew BK210.out)
           replace BK228 := Aside0.mk (blk_drew BK228.out)
           replace HB := Aside0.mk (below_drew1 HB.out)
           have p229 : 0 ≤ (x11_2 : Int) := od_
           have q229 : x11_2 < (l0.length : Int) := od_
           obtain ⟨ad229, e229, hx229_0, hx229_1, hx229_2⟩ := at_T29 HR0.out x11_2 p229 q229
           have hw229_2 := hx229_2
           have hw229_1 := hx229_1
           have hw229_0 := hx229_0
           cases e229
           replace hx229_0 := cb_ HB hx229_0
           replace hx229_1 := cb_ HB hx229_1
           replace hx229_2 := cb_ HB hx229_2
           replace p229 := eq_true p229
           replace q229 := eq_true q229
           refine start_ (n := 8) (S := fun w' => w'.cell? ⟨gb208, 0, none⟩ = some (.int .i64 a2_0) ∧ w'.cell? ⟨gb208, 1, none⟩ = some (.int .i64 a2_1) ∧ w'.cell? ⟨gb208, 2, none⟩ = some (.int .i64 a2_2) ∧ w'.cell? ⟨gb208, 3, none⟩ = some (.int .i64 a2_3) ∧ w'.cell? ⟨gb208, 4, none⟩ = some (.int .i64 a2_4) ∧ w'.cell? ⟨gb208, 5, none⟩ = some (.int .i64 a2_5) ∧ w'.cell? ⟨gb208, 6, none⟩ = some (.int .i64 a2_6) ∧ w'.cell? ⟨gb208, 7, none⟩ = some (.int .i64 a2_7) ∧ w'.cell? ⟨gb208, 8, none⟩ = some (.int .i64 a2_8) ∧ w'.cell? ⟨gb208, 9, none⟩ = some (.int .i64 a2_9) ∧ w'.cell? (ad229.add ((x11_2).toNat * 3)) = some (.int .i64 ((rd_T29 l0 x11_2).f0.f0)) ∧ w'.cell? ⟨(ad229.add ((x11_2).toNat * 3)).block, (ad229.add ((x11_2).toNat * 3)).off + 1, none⟩ = some (.int .i64 ((rd_T29 l0 x11_2).f0.f1)) ∧ w'.cell? ⟨(ad229.add ((x11_2).toNat * 3)).block, (ad229.add ((x11_2).toNat * 3)).off + 2, none⟩ = some (.int .i64 ((rd_T29 l0 x11_2).f1))) (ds := []) #[false, false, false, false, false, false, false, false] (by kernel_rfl) rfl rfl ⟨(blk_cell BK208.out 0).trans rfl, (blk_cell BK208.out 1).trans rfl, (blk_cell BK208.out 2).trans rfl, (blk_cell BK208.out 3).trans rfl, (blk_cell BK208.out 4).trans rfl, (blk_cell BK208.out 5).trans rfl, (blk_cell BK208.out 6).trans rfl, (blk_cell BK208.out 7).trans rfl, (blk_cell BK208.out 8).trans rfl, (blk_cell BK208.out 9).trans rfl, (cb_ HB hw229_0 :), (cb_ HB hw229_1 :), (cb_ HB hw229_2 :)⟩ (fun hHeld => ?_); refine with_tabW spec_l19By.tab19 spec_l19By.bits19 (fun HT_ HW_ => ?_)
           generalize wr.drew = w113 at HO_229001 BK208 BK209 BK210 BK228 HB hx229_0 hx229_1 hx229_2 hHeld ⊢
           refine pureZ_ (i := 0) (some 89) #[true, false, false, false, false, false, false, false] (any_of HT_.out (by kernel_rfl)) ?_
           refine pureZ_ (i := 1) (some 90) #[true, true, false, false, false, false, false, false] (any_of HT_.out (by kernel_rfl)) ?_
           refine pureZ_ (i := 2) (some 91) #[true, true, true, false, false, false, false, false] (any_of HT_.out (by kernel_rfl)) ?_
           refine pureZ_ (i := 3) (some 92) #[true, true, true, true, false, false, false, false] (any_of HT_.out (by kernel_rfl)) ?_
           refine pureZ_ (i := 5) (some 94) #[true, true, true, true, false, true, false, false] (any_of HT_.out (by kernel_rfl)) ?_
           refine takeZ_ (i := 4) (some 93) #[true, true, true, true, true, true, false, false] (take_ofW HT_.out HW_.out (by kernel_rfl)) hHeld ?_
           refine takeZ_ (i := 6) (some 95) #[true, true, true, true, true, true, true, false] (take_ofW HT_.out HW_.out (by kernel_rfl)) hHeld ?_
           refine pureZ_ (i := 7) (some 96) #[true, true, true, true, true, true, true, true] (any_of HT_.out (by kernel_rfl)) ?_
           refine done_ (done_of HT_.out (by kernel_rfl)) ?_
           try go_wp2
           go_roundg k2
           case measure => have := HJ4.out; have := HK2.out; omega
           case rel => exact ⟨(wrap64 (x11_2 + 1)), (x229000_2), (x229001_2), (u229001), rf_, H', ⟨by have := HJ4.out; have := HK2.out; omega⟩, ⟨by (with_reducible repeat (first | apply Kd.R_alloc | apply Kd.R_drewN | apply Kd.R_drew)); exact HO_229001.out⟩, ⟨bk_ BK208⟩, ⟨bk_ BK209⟩, ⟨bk_ BK210⟩, ⟨bk_ BK228⟩, ⟨bl_⟩⟩
         ·rw [if_neg c96] at H
          have c96b0 : decide (x11_2 < (l0.length : Int)) = false := decide_eq_false c96
          clear c96
          simp only [Option.some.injEq, Prod.mk.injEq] at H
          obtain ⟨rfl, rfl⟩ := H
          have hnb114 := NB228_208.out
          have hnc114 := NB208_228.out
          have hnb115 := NB228_209.out
          have hnc115 := NB209_228.out
          have hnb116 := NB228_210.out
          have hnc116 := NB210_228.out
          have hcz117 := blk_cell BK228.out
          have hfz117 := blk_frozen BK228.out
          have hnb118 := NB210_208.out
          have hnc118 := NB208_210.out
          have hnb119 := NB210_209.out
          have hnc119 := NB209_210.out
          have hcz120 := blk_cell BK210.out
          have hfz120 := blk_frozen BK210.out
          obtain ⟨Ao121, co121, eo121⟩ := Kd.R_slice HO_229001.out
          subst eo121
          go_wp2
          refine bodyPost_ret (results_cell_row rfl _ _ gb210 167 #[.int .i64 x229000_2, .slice Ao121 x229001_2.length co121] (0, 0) _ rfl (bk_ BK210) Try.underlying167 rfl (by kernel_rfl)) rfl ?_
          exact ⟨_, eq_, by (with_reducible repeat (first | apply Kd.R_alloc | apply Kd.R_drewN | apply Kd.R_drew)); exact Kd.R_mono (Kd.R_far (p := ⟨gb210, 1, none⟩) (Kd.R_far (p := ⟨gb210, 0, none⟩) (Kd.R_types HO_229001.out BK210.out (by decide)) (fun _ hk => hk.2) (.int .i64 x229000_2)) (fun _ hk => hk.2) (.slice Ao121 x229001_2.length co121)) (fun _ hk => trivial), bl_⟩
end Go.Proofs.Ytppdmcimddhbaaa.PG
