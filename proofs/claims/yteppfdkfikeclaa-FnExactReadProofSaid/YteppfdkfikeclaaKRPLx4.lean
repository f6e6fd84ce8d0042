import Derived.Test.YteppfdkfikeclaaKRPLx3
-- A text of this claim: written by the session's own program out of the translation (wip/tools). Lean checks it.
namespace Go.Proofs.Yteppfdkfikeclaa.PL
open Go.RowKit Go.Proofs.YteppfdkfikeclaaW.PrintWords Go.Proofs.YteppfdkfikeclaaW.PrintLast Go.Proofs.YteppfdkfikeclaaW.PrintMore
attribute [local go_sem] max2_int min2_int max_two min_two max_three min_three max_four min_four   -- for this text's walks alone
set_option linter.unusedVariables false
set_option linter.unusedSimpArgs false
def spec_ReadCred.l0 : Nat → ByteArray → List Int → Int → Int → Option (Int × Int × Int × Int × Int × Int × Int × Int × Int × Int × Bool)
 | 0, _, _, _, _ => none
 | k + 1, x0, x4, x5, x6 => if x6 < 10 then ((spec_ReadVar.f k x0 x5).bind fun bt145 => (if bt145.2.2 = true then (if x4.length < 17592186044416 then (spec_ReadCred.l0 k x0 (x4 ++ [bt145.1]) bt145.2.1 (wrap64 (x6 + 1))) else (none)) else (some (0, 0, 0, 0, 0, 0, 0, 0, 0, 0, false)))) else (if 0 < (x4.length : Int) then (if 1 < (x4.length : Int) then (if 2 < (x4.length : Int) then (if 3 < (x4.length : Int) then (if 4 < (x4.length : Int) then (if 5 < (x4.length : Int) then (if 6 < (x4.length : Int) then (if 7 < (x4.length : Int) then (if 8 < (x4.length : Int) then (if 9 < (x4.length : Int) then ((spec_CredOk.f k (rd x4 0) (rd x4 1) (rd x4 2) (rd x4 3) (rd x4 4) (rd x4 5) (rd x4 6) (rd x4 7) (rd x4 8) (rd x4 9)).bind fun t162 => (if t162 = true then ((spec_CredText.f k (rd x4 0) (rd x4 1) (rd x4 2) (rd x4 3) (rd x4 4) (rd x4 5) (rd x4 6) (rd x4 7) (rd x4 8) (rd x4 9)).bind fun t163 => (if t163.toList = x0.toList then (some (rd x4 0, rd x4 1, rd x4 2, rd x4 3, rd x4 4, rd x4 5, rd x4 6, rd x4 7, rd x4 8, rd x4 9, true)) else (some (0, 0, 0, 0, 0, 0, 0, 0, 0, 0, false)))) else (some (0, 0, 0, 0, 0, 0, 0, 0, 0, 0, false)))) else (none)) else (none)) else (none)) else (none)) else (none)) else (none)) else (none)) else (none)) else (none)) else (none))
def spec_ReadCred.f (k : Nat) (a0 : ByteArray) : Option (Int × Int × Int × Int × Int × Int × Int × Int × Int × Int × Bool) := spec_ReadCred.l0 k a0 (([] : List Int)) 0 0
def spec_ReadCred.T11 : Bool × List (List Nat × List Nat) := (true, [([], []), ([0], [0]), ([1], [1]), ([], []), ([3], [3]), ([4], [4]), ([], []), ([6], [6]), ([7], [7]), ([5, 8], [5, 8]), ([], []), ([10], [10]), ([11], [11]), ([], []), ([13], [13]), ([14], [14]), ([], []), ([16], [16]), ([17], [17]), ([15, 18], [15, 18]), ([], []), ([20], [20]), ([21], [21]), ([], []), ([23], [23]), ([24], [24]), ([22, 25], [22, 25]), ([], []), ([27], [27]), ([28], [28]), ([], []), ([30], [30]), ([31], [31]), ([2, 9, 12, 19, 26, 29, 32], [2, 9, 12, 19, 26, 29, 32]), ([], []), ([34, 33, 0, 1, 2, 3, 4, 5, 6, 7, 8, 9, 10, 11, 12, 13, 14, 15, 16, 17, 18, 19, 20, 21, 22, 23, 24, 25, 26, 27, 28, 29, 30, 31, 32, 33, 34], [33, 34])])
def spec_ReadCred.B11 : List Nat := [0, 1, 3, 0, 8, 24, 0, 64, 192, 504, 0, 1024, 3072, 0, 8192, 24576, 0, 65536, 196608, 516096, 0, 1048576, 3145728, 0, 8388608, 25165824, 66060288, 0, 134217728, 402653184, 0, 1073741824, 3221225472, 8589934591, 0, 34359738367]
theorem spec_ReadCred.tab11 : rtab .any (opsOf Try.f16 11) = spec_ReadCred.T11 := by kernel_rfl
theorem spec_ReadCred.bits11 : waitsOk spec_ReadCred.T11.2 spec_ReadCred.B11 = true := by kernel_rfl
set_option maxHeartbeats 8000000 in
set_option maxRecDepth 100000 in
theorem spec_ReadCred.calls (k : Nat) (a0 : ByteArray) (r1 : Int) (r2 : Int) (r3 : Int) (r4 : Int) (r5 : Int) (r6 : Int) (r7 : Int) (r8 : Int) (r9 : Int) (r10 : Int) (r11 : Bool) (w : World) (h : spec_ReadCred.f k a0 = some (r1, r2, r3, r4, r5, r6, r7, r8, r9, r10, r11)) :
  Calls Try.prog 16 #[.string a0] w fun e w' => e = .returned (.tuple #[.agg #[.int .i64 r1, .int .i64 r2, .int .i64 r3, .int .i64 r4, .int .i64 r5, .int .i64 r6, .int .i64 r7, .int .i64 r8, .int .i64 r9, .int .i64 r10], .bool r11]) ∧ Below w.heap.size w w' := by
 have hu31 := Try.underlying31
 have hu29 := Try.underlying29
 have HB := Aside0.mk (Below.refl w.heap.size w)
 have H : (spec_ReadCred.l0 k a0 (([] : List Int)) 0 0) = some (r1, r2, r3, r4, r5, r6, r7, r8, r9, r10, r11) := h
 clear h
 obtain ⟨y142, hy142⟩ : ∃ y_ : List Int, y_ = (([] : List Int)) := ⟨_, rfl⟩
 replace H : (spec_ReadCred.l0 k a0 y142 0 0) = some (r1, r2, r3, r4, r5, r6, r7, r8, r9, r10, r11) := by first | (rw [hy142]; with_reducible exact H) | (have H2_ := (Option.bind_some _ _).symm.trans H; rw [hy142]; with_reducible exact H2_) | (have H2_ := (Option.bind_some _ _).symm.trans H; with_reducible exact H2_) | with_reducible exact H | (rw [hy142]; exact H) | exact H
 have Ny142 := Aside0.mk hy142
 clear hy142
 have H' := Aside0.mk H
 clear H
 go_enter Try.func16, Try.ntmps16
 go_wp2_with (first | ((with_reducible refine gate_dst (N := 2) rfl ?_); refine box_event ?hg (N := 2) ?hd (cs := #[.int .i64 0, .int .i64 0, .int .i64 0, .int .i64 0, .int .i64 0, .int .i64 0, .int .i64 0, .int .i64 0, .int .i64 0, .int .i64 0]) (t := 31) ?hr ?_; (case hd => rfl); (case hg => rfl); (case hr => first | (go_simp; done) | (go_simp; rfl)); intro gb141 hg w2 hbox hb; have BK141 := Aside0.mk (hbox); have GW141 := gs_ hg; have GE141 := gs_ hg; replace HB := hbs_ hb; clear hb hbox hg) | ((with_reducible refine gate_dst (N := 11) rfl ?_); refine Kd.R_lit (Kd.int .i64) _ 3 ?hg (N := 11) ?hd (xs := ([] : List Int)) (inner := []) (ok := fun _ => True) (okp := fun _ => True) ?hr ?hp (fun _ hk => hk) trivial (Below.refl _ _) (Nat.le_refl _) (by simp) ?_; (case hd => rfl); (case hg => rfl); (case hr => first | (go_simp; done) | (go_simp; rfl)); (case hp => exact (Reps.none _ _)); intro v143 w3 ho4 hb hg_ hnew_; clear hg_ hnew_; (first | rw [← Ny142.out] at ho4 | (simp only [Int.reduceToNat] at ho4; rw [← Ny142.out] at ho4)); have HO144 := Aside0.mk (Kd.R_lower ho4 bls_); replace BK141 := bkb_ BK141 hb; replace HB := hbs_ hb; clear hb ho4))
 go_loopg [4, 5, 6] k (fun kq v4 v5 v6 w' => ∃ (x4_1 : List Int) (x5_1 : Int) (x6_1 : Int) (x142000_1 : Int) (x142001_1 : Int) (x142002_1 : Int) (x142003_1 : Int) (x142004_1 : Int) (x142005_1 : Int) (x142006_1 : Int) (x142007_1 : Int) (x142008_1 : Int) (x142009_1 : Int), v5 = .int .i64 x5_1 ∧ v6 = .int .i64 x6_1 ∧ Aside0 (spec_ReadCred.l0 kq a0 x4_1 x5_1 x6_1 = some (r1, r2, r3, r4, r5, r6, r7, r8, r9, r10, r11)) ∧ Aside0 (kq ≤ k) ∧ Aside0 (Kd.R (Kd.int .i64) 3 w' w.heap.size (fun _ => True) v4 x4_1) ∧ Aside0 (w'.heap[gb141]? = some (.cells #[.int .i64 x142000_1, .int .i64 x142001_1, .int .i64 x142002_1, .int .i64 x142003_1, .int .i64 x142004_1, .int .i64 x142005_1, .int .i64 x142006_1, .int .i64 x142007_1, .int .i64 x142008_1, .int .i64 x142009_1] 31 (0, 0))) ∧ Aside0 (Below w.heap.size w w'))
 case atStart => exact ⟨(y142), (0), (0), (0), (0), (0), (0), (0), (0), (0), (0), (0), (0), (by first | rfl | (simp; done) | (simp [*]; done)), (by first | rfl | (simp; done) | (simp [*]; done)), H', ⟨Nat.le_refl _⟩, ⟨by (with_reducible repeat (first | apply Kd.R_alloc | apply Kd.R_drewN | apply Kd.R_drew)); exact HO144.out⟩, ⟨bk_ BK141⟩, ⟨bl_⟩⟩
 case round =>
  clear H'
  try clear c1
  try clear p2
  obtain ⟨x4_1, x5_1, x6_1, x142000_1, x142001_1, x142002_1, x142003_1, x142004_1, x142005_1, x142006_1, x142007_1, x142008_1, x142009_1, rfl, rfl, HA, HK1, HO_4, BK141, HB⟩ := hrel
  cases gk with
  | zero => exact absurd HA.out (by simp [spec_ReadCred.l0])
  | succ k1 =>
   have H := HA.out
   clear HA
   simp only [spec_ReadCred.l0] at H
   by_cases c5 : x6_1 < 10
   ·rw [if_pos c5] at H
    have c5b0 : decide (x6_1 < 10) = true := decide_eq_true c5
    clear c5
    obtain ⟨⟨t145, t146, t147⟩, A6, H⟩ := bindE_ H
    replace H : (if t147 = true then (if x4_1.length < 17592186044416 then (spec_ReadCred.l0 k1 a0 (x4_1 ++ [t145]) t146 (wrap64 (x6_1 + 1))) else (none)) else (some (0, 0, 0, 0, 0, 0, 0, 0, 0, 0, false))) = some (r1, r2, r3, r4, r5, r6, r7, r8, r9, r10, r11) := H
    by_cases c7 : t147 = true
    ·subst c7
     replace H := ite_t_ H
     by_cases c8 : x4_1.length < 17592186044416
     ·rw [if_pos c8] at H
      have LMc8 := Aside0.mk c8
      clear c8
      obtain ⟨y148, hy148⟩ : ∃ y_ : List Int, y_ = (x4_1 ++ [t145]) := ⟨_, rfl⟩
      replace H : (spec_ReadCred.l0 k1 a0 y148 t146 (wrap64 (x6_1 + 1))) = some (r1, r2, r3, r4, r5, r6, r7, r8, r9, r10, r11) := by first | (rw [hy148]; with_reducible exact H) | (have H2_ := (Option.bind_some _ _).symm.trans H; rw [hy148]; with_reducible exact H2_) | (have H2_ := (Option.bind_some _ _).symm.trans H; with_reducible exact H2_) | with_reducible exact H | (rw [hy148]; exact H) | exact H
      have Ny148 := Aside0.mk hy148
      clear hy148
      have H' := Aside0.mk H
      clear H
      go_wp2_with (first | ((with_reducible refine gate_callee (f := 17) rfl ?_); refine goesC_ (some 19) Try.func17 #[.string a0, .int .i64 x5_1] ?_; (with_reducible refine (spec_ReadVar.calls k1 a0 x5_1 t145 t146 true _ A6.out).mono ?_); rintro e w9 ⟨rfl, hb⟩; refine ⟨_, rfl, ?_⟩; replace HO_4 := Aside0.mk (Kd.R_below (by (with_reducible repeat (first | apply Kd.R_alloc | apply Kd.R_drewN | apply Kd.R_drew)); exact HO_4.out) hb); replace BK141 := bkb_ BK141 hb; replace HB := hbs_ hb; clear hb) | ((with_reducible refine gate_builtin (b := .append) (xs := #[.tmp 26, .tmp 28]) rfl ?_); at_builtin; refine Kd.R_append (Kd.int .i64) (w0 := w) w.heap.size rfl (.tmp 26) (.tmp 28) 34 3 (.int .i64 0) 8 rfl Try.underlying34 info3 rfl (by decide) (by omega) u4 x4_1 t145 [.int .i64 t145] (fun _ => True) (fun _ => False) rfl rfl ?aP (fun _ hk => hk.elim) ?aF ?aO ?aB ?aS ?aL ?_; (case aP => exact rfl); (case aB => exact bl_); (case aF => exact (fun _ _ => trivial)); (case aO => exact (by (with_reducible repeat (first | apply Kd.R_alloc | apply Kd.R_drewN | apply Kd.R_drew)); exact HO_4.out)); (case aS => exact bls_); (case aL => have := LMc8.out; omega); intro v149 w10 ho hb hg hat; rw [← Ny148.out] at ho; replace BK141 := Aside0.mk (blk_grown (g := gb141) (o := .cells #[.int .i64 x142000_1, .int .i64 x142001_1, .int .i64 x142002_1, .int .i64 x142003_1, .int .i64 x142004_1, .int .i64 x142005_1, .int .i64 x142006_1, .int .i64 x142007_1, .int .i64 x142008_1, .int .i64 x142009_1] 31 (0, 0)) (bk_ BK141) hg (Kd.R_ne HO_4.out BK141.out (by decide))); replace HB := Aside0.mk (hb); have HO150 := Aside0.mk (ho); clear HO_4; clear ho hb hg hat))
      go_roundg k1
      case measure => have := HK1.out; omega
      case rel => exact ⟨(y148), (t146), (wrap64 (x6_1 + 1)), (x142000_1), (x142001_1), (x142002_1), (x142003_1), (x142004_1), (x142005_1), (x142006_1), (x142007_1), (x142008_1), (x142009_1), (by first | rfl | (simp; done) | (simp [*]; done)), (by first | rfl | (simp; done) | (simp [*]; done)), H', ⟨by have := HK1.out; omega⟩, ⟨by (with_reducible repeat (first | apply Kd.R_alloc | apply Kd.R_drewN | apply Kd.R_drew)); exact HO150.out⟩, ⟨bk_ BK141⟩, ⟨bl_⟩⟩
     ·rw [if_neg c8] at H
      exact absurd H (by simp)
    ·replace c7 := Bool.eq_false_iff.mpr c7
     subst c7
     replace H := ite_f_ H
     simp only [Option.some.injEq, Prod.mk.injEq] at H
     obtain ⟨rfl, rfl, rfl, rfl, rfl, rfl, rfl, rfl, rfl, rfl, rfl⟩ := H
     go_wp2_with (first | ((with_reducible refine gate_callee (f := 17) rfl ?_); refine goesC_ (some 19) Try.func17 #[.string a0, .int .i64 x5_1] ?_; (with_reducible refine (spec_ReadVar.calls k1 a0 x5_1 t145 t146 false _ A6.out).mono ?_); rintro e w11 ⟨rfl, hb⟩; refine ⟨_, rfl, ?_⟩; replace HO_4 := Aside0.mk (Kd.R_below (by (with_reducible repeat (first | apply Kd.R_alloc | apply Kd.R_drewN | apply Kd.R_drew)); exact HO_4.out) hb); replace BK141 := bkb_ BK141 hb; replace HB := hbs_ hb; clear hb; have hcz12 := blk_cell BK141.out; have hfz12 := blk_frozen BK141.out))
     refine bodyPost_ret (results_ct rfl _ _ gb141 31 #[.int .i64 0, .int .i64 0, .int .i64 0, .int .i64 0, .int .i64 0, .int .i64 0, .int .i64 0, .int .i64 0, .int .i64 0, .int .i64 0] (0, 0) _ rfl (bk_ BK141) Try.underlying31 rfl (by kernel_rfl)) rfl ?_
     exact ⟨eq_, bl_⟩
   ·rw [if_neg c5] at H
    have c5b0 : decide (x6_1 < 10) = false := decide_eq_false c5
    clear c5
    by_cases c13 : 0 < (x4_1.length : Int)
    ·rw [if_pos c13] at H
     have c13b0 : decide (0 < (x4_1.length : Int)) = true := decide_eq_true c13
     have c13b1 : decide (0 < x4_1.length) = true := decide_eq_true (by omega)
     clear c13
     by_cases c14 : 1 < (x4_1.length : Int)
     ·rw [if_pos c14] at H
      have c14b0 : decide (1 < (x4_1.length : Int)) = true := decide_eq_true c14
      have c14b1 : decide (1 < x4_1.length) = true := decide_eq_true (by omega)
      clear c14
      by_cases c15 : 2 < (x4_1.length : Int)
      ·rw [if_pos c15] at H
       have c15b0 : decide (2 < (x4_1.length : Int)) = true := decide_eq_true c15
       have c15b1 : decide (2 < x4_1.length) = true := decide_eq_true (by omega)
       clear c15
       by_cases c16 : 3 < (x4_1.length : Int)
       ·rw [if_pos c16] at H
        have c16b0 : decide (3 < (x4_1.length : Int)) = true := decide_eq_true c16
        have c16b1 : decide (3 < x4_1.length) = true := decide_eq_true (by omega)
        clear c16
        by_cases c17 : 4 < (x4_1.length : Int)
        ·rw [if_pos c17] at H
         have c17b0 : decide (4 < (x4_1.length : Int)) = true := decide_eq_true c17
         have c17b1 : decide (4 < x4_1.length) = true := decide_eq_true (by omega)
         clear c17
         by_cases c18 : 5 < (x4_1.length : Int)
         ·rw [if_pos c18] at H
          have c18b0 : decide (5 < (x4_1.length : Int)) = true := decide_eq_true c18
          have c18b1 : decide (5 < x4_1.length) = true := decide_eq_true (by omega)
          clear c18
          by_cases c19 : 6 < (x4_1.length : Int)
          ·rw [if_pos c19] at H
           have c19b0 : decide (6 < (x4_1.length : Int)) = true := decide_eq_true c19
           have c19b1 : decide (6 < x4_1.length) = true := decide_eq_true (by omega)
           clear c19
           by_cases c20 : 7 < (x4_1.length : Int)
           ·rw [if_pos c20] at H
            have c20b0 : decide (7 < (x4_1.length : Int)) = true := decide_eq_true c20
            have c20b1 : decide (7 < x4_1.length) = true := decide_eq_true (by omega)
            clear c20
            by_cases c21 : 8 < (x4_1.length : Int)
            ·rw [if_pos c21] at H
             have c21b0 : decide (8 < (x4_1.length : Int)) = true := decide_eq_true c21
             have c21b1 : decide (8 < x4_1.length) = true := decide_eq_true (by omega)
             clear c21
             by_cases c22 : 9 < (x4_1.length : Int)
             ·rw [if_pos c22] at H
              have c22b0 : decide (9 < (x4_1.length : Int)) = true := decide_eq_true c22
              have c22b1 : decide (9 < x4_1.length) = true := decide_eq_true (by omega)
              clear c22
              obtain ⟨t162, A23, H⟩ := bindE_ H
              by_cases c24 : t162 = true
              ·subst c24
               replace H := ite_t_ H
               obtain ⟨t163, A25, H⟩ := bindE_ H
               by_cases c26 : t163.toList = a0.toList
               ·rw [if_pos c26] at H
                have c26b0 : (t163.toList == a0.toList) = true := beq_iff_eq.mpr c26
                have c26b1 : (t163.toList != a0.toList) = false := bne_eq_false_iff_eq.mpr c26
                clear c26
                simp only [Option.some.injEq, Prod.mk.injEq] at H
                obtain ⟨rfl, rfl, rfl, rfl, rfl, rfl, rfl, rfl, rfl, rfl, rfl⟩ := H
                try go_wp2
                replace HO_4 := Aside0.mk (Kd.R_drew HO_4.out)
                replace BK141 := Aside0.mk (blk_drew BK141.out)
                replace HB := Aside0.mk (below_drew1 HB.out)
                obtain ⟨Ao28, co28, eo28⟩ := Kd.R_slice HO_4.out
                (first | subst eo28 | (injection eo28 with f1_ f2_ f3_; have f4_ := f1_.symm; have f5_ := f3_.symm; clear f1_ f2_ f3_; subst f4_; subst f5_))
                have p151 : 0 ≤ (0 : Int) := (by omega)
                have q151 : 0 < (x4_1.length : Int) := of_decide_eq_true (by first | (with_reducible assumption) | assumption)
                obtain ⟨ad151, e151, hx151_0⟩ := Kd.at_int (Kd.R_reads' HO_4.out).2.2 0 p151 q151
                cases e151
                have qi151 : (0 < x4_1.length) = True := eq_true (by omega)
                (try rw [show ((0 : Int)).toNat = 0 from rfl] at hx151_0)
                (try rw [Addr.add_zero'] at hx151_0)
                replace p151 := eq_true p151
                replace q151 := eq_true q151
                have p152 : 0 ≤ (1 : Int) := (by omega)
                have q152 : 1 < (x4_1.length : Int) := of_decide_eq_true (by first | (with_reducible assumption) | assumption)
                obtain ⟨ad152, e152, hx152_0⟩ := Kd.at_int (Kd.R_reads' HO_4.out).2.2 1 p152 q152
                obtain rfl : ad151 = ad152 := (by injection e152)
                (try simp only [show (1 : Int).toNat = 1 from rfl, Nat.reduceMul, Nat.reduceEqDiff, Go.Addr.add, ↓reduceIte] at hx152_0)
                have qi152 : (1 < x4_1.length) = True := eq_true (by omega)
                (try rw [show ((1 : Int)).toNat = 1 from rfl] at hx152_0)
                replace p152 := eq_true p152
                replace q152 := eq_true q152
                have p153 : 0 ≤ (2 : Int) := (by omega)
                have q153 : 2 < (x4_1.length : Int) := of_decide_eq_true (by first | (with_reducible assumption) | assumption)
                obtain ⟨ad153, e153, hx153_0⟩ := Kd.at_int (Kd.R_reads' HO_4.out).2.2 2 p153 q153
                obtain rfl : ad151 = ad153 := (by injection e153)
                (try simp only [show (2 : Int).toNat = 2 from rfl, Nat.reduceMul, Nat.reduceEqDiff, Go.Addr.add, ↓reduceIte] at hx153_0)
                have qi153 : (2 < x4_1.length) = True := eq_true (by omega)
                (try rw [show ((2 : Int)).toNat = 2 from rfl] at hx153_0)
                replace p153 := eq_true p153
                replace q153 := eq_true q153
                have p154 : 0 ≤ (3 : Int) := (by omega)
                have q154 : 3 < (x4_1.length : Int) := of_decide_eq_true (by first | (with_reducible assumption) | assumption)
                obtain ⟨ad154, e154, hx154_0⟩ := Kd.at_int (Kd.R_reads' HO_4.out).2.2 3 p154 q154
                obtain rfl : ad151 = ad154 := (by injection e154)
                (try simp only [show (3 : Int).toNat = 3 from rfl, Nat.reduceMul, Nat.reduceEqDiff, Go.Addr.add, ↓reduceIte] at hx154_0)
                have qi154 : (3 < x4_1.length) = True := eq_true (by omega)
                (try rw [show ((3 : Int)).toNat = 3 from rfl] at hx154_0)
                replace p154 := eq_true p154
                replace q154 := eq_true q154
                have p155 : 0 ≤ (4 : Int) := (by omega)
                have q155 : 4 < (x4_1.length : Int) := of_decide_eq_true (by first | (with_reducible assumption) | assumption)
                obtain ⟨ad155, e155, hx155_0⟩ := Kd.at_int (Kd.R_reads' HO_4.out).2.2 4 p155 q155
                obtain rfl : ad151 = ad155 := (by injection e155)
                (try simp only [show (4 : Int).toNat = 4 from rfl, Nat.reduceMul, Nat.reduceEqDiff, Go.Addr.add, ↓reduceIte] at hx155_0)
                have qi155 : (4 < x4_1.length) = True := eq_true (by omega)
                (try rw [show ((4 : Int)).toNat = 4 from rfl] at hx155_0)
                replace p155 := eq_true p155
                replace q155 := eq_true q155
                have p156 : 0 ≤ (5 : Int) := (by omega)
                have q156 : 5 < (x4_1.length : Int) := of_decide_eq_true (by first | (with_reducible assumption) | assumption)
                obtain ⟨ad156, e156, hx156_0⟩ := Kd.at_int (Kd.R_reads' HO_4.out).2.2 5 p156 q156
                obtain rfl : ad151 = ad156 := (by injection e156)
                (try simp only [show (5 : Int).toNat = 5 from rfl, Nat.reduceMul, Nat.reduceEqDiff, Go.Addr.add, ↓reduceIte] at hx156_0)
                have qi156 : (5 < x4_1.length) = True := eq_true (by omega)
                (try rw [show ((5 : Int)).toNat = 5 from rfl] at hx156_0)
                replace p156 := eq_true p156
                replace q156 := eq_true q156
                have p157 : 0 ≤ (6 : Int) := (by omega)
                have q157 : 6 < (x4_1.length : Int) := of_decide_eq_true (by first | (with_reducible assumption) | assumption)
                obtain ⟨ad157, e157, hx157_0⟩ := Kd.at_int (Kd.R_reads' HO_4.out).2.2 6 p157 q157
                obtain rfl : ad151 = ad157 := (by injection e157)
                (try simp only [show (6 : Int).toNat = 6 from rfl, Nat.reduceMul, Nat.reduceEqDiff, Go.Addr.add, ↓reduceIte] at hx157_0)
                have qi157 : (6 < x4_1.length) = True := eq_true (by omega)
                (try rw [show ((6 : Int)).toNat = 6 from rfl] at hx157_0)
                replace p157 := eq_true p157
                replace q157 := eq_true q157
                have p158 : 0 ≤ (7 : Int) := (by omega)
                have q158 : 7 < (x4_1.length : Int) := of_decide_eq_true (by first | (with_reducible assumption) | assumption)
                obtain ⟨ad158, e158, hx158_0⟩ := Kd.at_int (Kd.R_reads' HO_4.out).2.2 7 p158 q158
                obtain rfl : ad151 = ad158 := (by injection e158)
                (try simp only [show (7 : Int).toNat = 7 from rfl, Nat.reduceMul, Nat.reduceEqDiff, Go.Addr.add, ↓reduceIte] at hx158_0)
                have qi158 : (7 < x4_1.length) = True := eq_true (by omega)
                (try rw [show ((7 : Int)).toNat = 7 from rfl] at hx158_0)
                replace p158 := eq_true p158
                replace q158 := eq_true q158
                have p159 : 0 ≤ (8 : Int) := (by omega)
                have q159 : 8 < (x4_1.length : Int) := of_decide_eq_true (by first | (with_reducible assumption) | assumption)
                obtain ⟨ad159, e159, hx159_0⟩ := Kd.at_int (Kd.R_reads' HO_4.out).2.2 8 p159 q159
                obtain rfl : ad151 = ad159 := (by injection e159)
                (try simp only [show (8 : Int).toNat = 8 from rfl, Nat.reduceMul, Nat.reduceEqDiff, Go.Addr.add, ↓reduceIte] at hx159_0)
                have qi159 : (8 < x4_1.length) = True := eq_true (by omega)
                (try rw [show ((8 : Int)).toNat = 8 from rfl] at hx159_0)
                replace p159 := eq_true p159
                replace q159 := eq_true q159
                have p160 : 0 ≤ (9 : Int) := (by omega)
                have q160 : 9 < (x4_1.length : Int) := of_decide_eq_true (by first | (with_reducible assumption) | assumption)
                obtain ⟨ad160, e160, hx160_0⟩ := Kd.at_int (Kd.R_reads' HO_4.out).2.2 9 p160 q160
                obtain rfl : ad151 = ad160 := (by injection e160)
                (try simp only [show (9 : Int).toNat = 9 from rfl, Nat.reduceMul, Nat.reduceEqDiff, Go.Addr.add, ↓reduceIte] at hx160_0)
                have qi160 : (9 < x4_1.length) = True := eq_true (by omega)
                (try rw [show ((9 : Int)).toNat = 9 from rfl] at hx160_0)
                replace p160 := eq_true p160
                replace q160 := eq_true q160
                refine start_ (n := 36) (S := fun w' => w'.cell? ad151 = some (.int .i64 (rd x4_1 0)) ∧ w'.cell? ⟨ad151.block, ad151.off + 1, none⟩ = some (.int .i64 (rd x4_1 1)) ∧ w'.cell? ⟨ad151.block, ad151.off + 2, none⟩ = some (.int .i64 (rd x4_1 2)) ∧ w'.cell? ⟨ad151.block, ad151.off + 3, none⟩ = some (.int .i64 (rd x4_1 3)) ∧ w'.cell? ⟨ad151.block, ad151.off + 4, none⟩ = some (.int .i64 (rd x4_1 4)) ∧ w'.cell? ⟨ad151.block, ad151.off + 5, none⟩ = some (.int .i64 (rd x4_1 5)) ∧ w'.cell? ⟨ad151.block, ad151.off + 6, none⟩ = some (.int .i64 (rd x4_1 6)) ∧ w'.cell? ⟨ad151.block, ad151.off + 7, none⟩ = some (.int .i64 (rd x4_1 7)) ∧ w'.cell? ⟨ad151.block, ad151.off + 8, none⟩ = some (.int .i64 (rd x4_1 8)) ∧ w'.cell? ⟨ad151.block, ad151.off + 9, none⟩ = some (.int .i64 (rd x4_1 9))) (ds := []) #[false, false, false, false, false, false, false, false, false, false, false, false, false, false, false, false, false, false, false, false, false, false, false, false, false, false, false, false, false, false, false, false, false, false, false, false] (by kernel_rfl) rfl rfl ⟨hx151_0, hx152_0, hx153_0, hx154_0, hx155_0, hx156_0, hx157_0, hx158_0, hx159_0, hx160_0⟩ (fun hHeld => ?_); refine with_tabW spec_ReadCred.tab11 spec_ReadCred.bits11 (fun HT_ HW_ => ?_)
                generalize wr.drew = w27 at HO_4 BK141 HB hx151_0 hx152_0 hx153_0 hx154_0 hx155_0 hx156_0 hx157_0 hx158_0 hx159_0 hx160_0 hHeld ⊢
                refine pureZ_ (i := 0) (some 31) #[true, false, false, false, false, false, false, false, false, false, false, false, false, false, false, false, false, false, false, false, false, false, false, false, false, false, false, false, false, false, false, false, false, false, false, false] (any_of HT_.out (by kernel_rfl)) ?_
                refine pureZ_ (i := 1) (some 32) #[true, true, false, false, false, false, false, false, false, false, false, false, false, false, false, false, false, false, false, false, false, false, false, false, false, false, false, false, false, false, false, false, false, false, false, false] (any_of HT_.out (by kernel_rfl)) ?_
                refine pureZ_ (i := 3) (some 34) #[true, true, false, true, false, false, false, false, false, false, false, false, false, false, false, false, false, false, false, false, false, false, false, false, false, false, false, false, false, false, false, false, false, false, false, false] (any_of HT_.out (by kernel_rfl)) ?_
                refine pureZ_ (i := 4) (some 35) #[true, true, false, true, true, false, false, false, false, false, false, false, false, false, false, false, false, false, false, false, false, false, false, false, false, false, false, false, false, false, false, false, false, false, false, false] (any_of HT_.out (by kernel_rfl)) ?_
                refine pureZ_ (i := 6) (some 37) #[true, true, false, true, true, false, true, false, false, false, false, false, false, false, false, false, false, false, false, false, false, false, false, false, false, false, false, false, false, false, false, false, false, false, false, false] (any_of HT_.out (by kernel_rfl)) ?_
                refine pureZ_ (i := 7) (some 38) #[true, true, false, true, true, false, true, true, false, false, false, false, false, false, false, false, false, false, false, false, false, false, false, false, false, false, false, false, false, false, false, false, false, false, false, false] (any_of HT_.out (by kernel_rfl)) ?_
                refine pureZ_ (i := 10) (some 41) #[true, true, false, true, true, false, true, true, false, false, true, false, false, false, false, false, false, false, false, false, false, false, false, false, false, false, false, false, false, false, false, false, false, false, false, false] (any_of HT_.out (by kernel_rfl)) ?_
                refine pureZ_ (i := 11) (some 42) #[true, true, false, true, true, false, true, true, false, false, true, true, false, false, false, false, false, false, false, false, false, false, false, false, false, false, false, false, false, false, false, false, false, false, false, false] (any_of HT_.out (by kernel_rfl)) ?_
                refine pureZ_ (i := 13) (some 44) #[true, true, false, true, true, false, true, true, false, false, true, true, false, true, false, false, false, false, false, false, false, false, false, false, false, false, false, false, false, false, false, false, false, false, false, false] (any_of HT_.out (by kernel_rfl)) ?_
                refine pureZ_ (i := 14) (some 45) #[true, true, false, true, true, false, true, true, false, false, true, true, false, true, true, false, false, false, false, false, false, false, false, false, false, false, false, false, false, false, false, false, false, false, false, false] (any_of HT_.out (by kernel_rfl)) ?_
                refine pureZ_ (i := 16) (some 47) #[true, true, false, true, true, false, true, true, false, false, true, true, false, true, true, false, true, false, false, false, false, false, false, false, false, false, false, false, false, false, false, false, false, false, false, false] (any_of HT_.out (by kernel_rfl)) ?_
                refine pureZ_ (i := 17) (some 48) #[true, true, false, true, true, false, true, true, false, false, true, true, false, true, true, false, true, true, false, false, false, false, false, false, false, false, false, false, false, false, false, false, false, false, false, false] (any_of HT_.out (by kernel_rfl)) ?_
                refine pureZ_ (i := 20) (some 51) #[true, true, false, true, true, false, true, true, false, false, true, true, false, true, true, false, true, true, false, false, true, false, false, false, false, false, false, false, false, false, false, false, false, false, false, false] (any_of HT_.out (by kernel_rfl)) ?_
                refine pureZ_ (i := 21) (some 52) #[true, true, false, true, true, false, true, true, false, false, true, true, false, true, true, false, true, true, false, false, true, true, false, false, false, false, false, false, false, false, false, false, false, false, false, false] (any_of HT_.out (by kernel_rfl)) ?_
                refine pureZ_ (i := 23) (some 54) #[true, true, false, true, true, false, true, true, false, false, true, true, false, true, true, false, true, true, false, false, true, true, false, true, false, false, false, false, false, false, false, false, false, false, false, false] (any_of HT_.out (by kernel_rfl)) ?_
                refine pureZ_ (i := 24) (some 55) #[true, true, false, true, true, false, true, true, false, false, true, true, false, true, true, false, true, true, false, false, true, true, false, true, true, false, false, false, false, false, false, false, false, false, false, false] (any_of HT_.out (by kernel_rfl)) ?_
                refine pureZ_ (i := 27) (some 58) #[true, true, false, true, true, false, true, true, false, false, true, true, false, true, true, false, true, true, false, false, true, true, false, true, true, false, false, true, false, false, false, false, false, false, false, false] (any_of HT_.out (by kernel_rfl)) ?_
                refine pureZ_ (i := 28) (some 59) #[true, true, false, true, true, false, true, true, false, false, true, true, false, true, true, false, true, true, false, false, true, true, false, true, true, false, false, true, true, false, false, false, false, false, false, false] (any_of HT_.out (by kernel_rfl)) ?_
                refine pureZ_ (i := 30) (some 61) #[true, true, false, true, true, false, true, true, false, false, true, true, false, true, true, false, true, true, false, false, true, true, false, true, true, false, false, true, true, false, true, false, false, false, false, false] (any_of HT_.out (by kernel_rfl)) ?_
                refine pureZ_ (i := 31) (some 62) #[true, true, false, true, true, false, true, true, false, false, true, true, false, true, true, false, true, true, false, false, true, true, false, true, true, false, false, true, true, false, true, true, false, false, false, false] (any_of HT_.out (by kernel_rfl)) ?_
                refine takeZ_ (i := 2) (some 33) #[true, true, true, true, true, false, true, true, false, false, true, true, false, true, true, false, true, true, false, false, true, true, false, true, true, false, false, true, true, false, true, true, false, false, false, false] (take_ofW HT_.out HW_.out (by kernel_rfl)) hHeld ?_
                refine takeZ_ (i := 5) (some 36) #[true, true, true, true, true, true, true, true, false, false, true, true, false, true, true, false, true, true, false, false, true, true, false, true, true, false, false, true, true, false, true, true, false, false, false, false] (take_ofW HT_.out HW_.out (by kernel_rfl)) hHeld ?_
                refine takeZ_ (i := 8) (some 39) #[true, true, true, true, true, true, true, true, true, false, true, true, false, true, true, false, true, true, false, false, true, true, false, true, true, false, false, true, true, false, true, true, false, false, false, false] (take_ofW HT_.out HW_.out (by kernel_rfl)) hHeld ?_
                refine pureZ_ (i := 9) (some 40) #[true, true, true, true, true, true, true, true, true, true, true, true, false, true, true, false, true, true, false, false, true, true, false, true, true, false, false, true, true, false, true, true, false, false, false, false] (any_of HT_.out (by kernel_rfl)) ?_
                refine takeZ_ (i := 12) (some 43) #[true, true, true, true, true, true, true, true, true, true, true, true, true, true, true, false, true, true, false, false, true, true, false, true, true, false, false, true, true, false, true, true, false, false, false, false] (take_ofW HT_.out HW_.out (by kernel_rfl)) hHeld ?_
                refine takeZ_ (i := 15) (some 46) #[true, true, true, true, true, true, true, true, true, true, true, true, true, true, true, true, true, true, false, false, true, true, false, true, true, false, false, true, true, false, true, true, false, false, false, false] (take_ofW HT_.out HW_.out (by kernel_rfl)) hHeld ?_
                refine takeZ_ (i := 18) (some 49) #[true, true, true, true, true, true, true, true, true, true, true, true, true, true, true, true, true, true, true, false, true, true, false, true, true, false, false, true, true, false, true, true, false, false, false, false] (take_ofW HT_.out HW_.out (by kernel_rfl)) hHeld ?_
                refine pureZ_ (i := 19) (some 50) #[true, true, true, true, true, true, true, true, true, true, true, true, true, true, true, true, true, true, true, true, true, true, false, true, true, false, false, true, true, false, true, true, false, false, false, false] (any_of HT_.out (by kernel_rfl)) ?_
                refine takeZ_ (i := 22) (some 53) #[true, true, true, true, true, true, true, true, true, true, true, true, true, true, true, true, true, true, true, true, true, true, true, true, true, false, false, true, true, false, true, true, false, false, false, false] (take_ofW HT_.out HW_.out (by kernel_rfl)) hHeld ?_
                refine takeZ_ (i := 25) (some 56) #[true, true, true, true, true, true, true, true, true, true, true, true, true, true, true, true, true, true, true, true, true, true, true, true, true, true, false, true, true, false, true, true, false, false, false, false] (take_ofW HT_.out HW_.out (by kernel_rfl)) hHeld ?_
                refine pureZ_ (i := 26) (some 57) #[true, true, true, true, true, true, true, true, true, true, true, true, true, true, true, true, true, true, true, true, true, true, true, true, true, true, true, true, true, false, true, true, false, false, false, false] (any_of HT_.out (by kernel_rfl)) ?_
                refine takeZ_ (i := 29) (some 60) #[true, true, true, true, true, true, true, true, true, true, true, true, true, true, true, true, true, true, true, true, true, true, true, true, true, true, true, true, true, true, true, true, false, false, false, false] (take_ofW HT_.out HW_.out (by kernel_rfl)) hHeld ?_
                refine takeZ_ (i := 32) (some 63) #[true, true, true, true, true, true, true, true, true, true, true, true, true, true, true, true, true, true, true, true, true, true, true, true, true, true, true, true, true, true, true, true, true, false, false, false] (take_ofW HT_.out HW_.out (by kernel_rfl)) hHeld ?_
                refine pureZ_ (i := 33) (some 64) #[true, true, true, true, true, true, true, true, true, true, true, true, true, true, true, true, true, true, true, true, true, true, true, true, true, true, true, true, true, true, true, true, true, true, false, false] (any_of HT_.out (by kernel_rfl)) ?_
                refine one_ (i := 34) (N := some 10) #[true, true, true, true, true, true, true, true, true, true, true, true, true, true, true, true, true, true, true, true, true, true, true, true, true, true, true, true, true, true, true, true, true, true, true, false] rfl rfl (one_of HT_.out (by kernel_rfl)) (by decide) (fun K hK => ?_)
                refine box_step ?hg (N := 10) ?hd (cs := #[.int .i64 0, .int .i64 0, .int .i64 0, .int .i64 0, .int .i64 0, .int .i64 0, .int .i64 0, .int .i64 0, .int .i64 0, .int .i64 0]) (t := 31) ?hr ?_; (case hd => rfl); (case hg => rfl); (case hr => first | (go_simp; done) | (go_simp; rfl))
                intro gb161 hg w29 hbox hb
                have HS0_ := (hb.cell (World.block_lt_of_cell? _ _ (hHeld.1))).trans (hHeld.1)
                have HS1_ := (hb.cell (World.block_lt_of_cell? _ _ (hHeld.2.1))).trans (hHeld.2.1)
                have HS2_ := (hb.cell (World.block_lt_of_cell? _ _ (hHeld.2.2.1))).trans (hHeld.2.2.1)
                have HS3_ := (hb.cell (World.block_lt_of_cell? _ _ (hHeld.2.2.2.1))).trans (hHeld.2.2.2.1)
                have HS4_ := (hb.cell (World.block_lt_of_cell? _ _ (hHeld.2.2.2.2.1))).trans (hHeld.2.2.2.2.1)
                have HS5_ := (hb.cell (World.block_lt_of_cell? _ _ (hHeld.2.2.2.2.2.1))).trans (hHeld.2.2.2.2.2.1)
                have HS6_ := (hb.cell (World.block_lt_of_cell? _ _ (hHeld.2.2.2.2.2.2.1))).trans (hHeld.2.2.2.2.2.2.1)
                have HS7_ := (hb.cell (World.block_lt_of_cell? _ _ (hHeld.2.2.2.2.2.2.2.1))).trans (hHeld.2.2.2.2.2.2.2.1)
                have HS8_ := (hb.cell (World.block_lt_of_cell? _ _ (hHeld.2.2.2.2.2.2.2.2.1))).trans (hHeld.2.2.2.2.2.2.2.2.1)
                have HS9_ := (hb.cell (World.block_lt_of_cell? _ _ (hHeld.2.2.2.2.2.2.2.2.2))).trans (hHeld.2.2.2.2.2.2.2.2.2)
                replace HO_4 := Aside0.mk (Kd.R_below (by (with_reducible repeat (first | apply Kd.R_alloc | apply Kd.R_drewN | apply Kd.R_drew)); exact HO_4.out) hb)
                have BK161 := Aside0.mk (hbox)
                have GW161 := gs_ hg
                have GE161 := gs_ hg
                replace HB := hbs_ hb
                have NB141_161 := Aside0.mk ((by rw [hg]; exact Nat.ne_of_lt (blk_lt (g := gb141) (o := .cells #[.int .i64 x142000_1, .int .i64 x142001_1, .int .i64 x142002_1, .int .i64 x142003_1, .int .i64 x142004_1, .int .i64 x142005_1, .int .i64 x142006_1, .int .i64 x142007_1, .int .i64 x142008_1, .int .i64 x142009_1] 31 (0, 0)) (bk_ BK141)) : gb141 ≠ gb161))
                have NB161_141 := Aside0.mk ((by rw [hg]; exact Nat.ne_of_gt (blk_lt (g := gb141) (o := .cells #[.int .i64 x142000_1, .int .i64 x142001_1, .int .i64 x142002_1, .int .i64 x142003_1, .int .i64 x142004_1, .int .i64 x142005_1, .int .i64 x142006_1, .int .i64 x142007_1, .int .i64 x142008_1, .int .i64 x142009_1] 31 (0, 0)) (bk_ BK141)) : gb161 ≠ gb141))
                replace BK141 := bkb_ BK141 hb
                clear hb hbox hg
                refine hK.out _ _ ⟨HS0_, HS1_, HS2_, HS3_, HS4_, HS5_, HS6_, HS7_, HS8_, HS9_⟩ (fun hHeld => ?_)
                clear hK K
                refine norm_ (a' := ?_) ?_ ?_
                rotate_left
                ·show Act.put _ (some 10) _ = _
                 simp only [Act.put, List.setIfInBounds_toArray, List.set_cons_zero, List.set_cons_succ, i64_w, i32_w]
                 rfl
                refine one_ (i := 35) (N := none) #[true, true, true, true, true, true, true, true, true, true, true, true, true, true, true, true, true, true, true, true, true, true, true, true, true, true, true, true, true, true, true, true, true, true, true, true] rfl rfl (one_of HT_.out (by kernel_rfl)) (by decide) (fun K hK => ?_)
                have hs30 : w29.cell? ⟨gb161, 0, none⟩ = some (.int .i64 0) := (blk_cell BK161.out 0).trans rfl
                have hfs30 := blk_frozen BK161.out 0
                have hns30_0 := NB141_161.out
                have hms30_0 := NB161_141.out
                have hs31 : w29.cell? ⟨gb161, 1, none⟩ = some (.int .i64 0) := (blk_cell BK161.out 1).trans rfl
                have hfs31 := blk_frozen BK161.out 1
                have hns31_0 := NB141_161.out
                have hms31_0 := NB161_141.out
                have hs32 : w29.cell? ⟨gb161, 2, none⟩ = some (.int .i64 0) := (blk_cell BK161.out 2).trans rfl
                have hfs32 := blk_frozen BK161.out 2
                have hns32_0 := NB141_161.out
                have hms32_0 := NB161_141.out
                have hs33 : w29.cell? ⟨gb161, 3, none⟩ = some (.int .i64 0) := (blk_cell BK161.out 3).trans rfl
                have hfs33 := blk_frozen BK161.out 3
                have hns33_0 := NB141_161.out
                have hms33_0 := NB161_141.out
                have hs34 : w29.cell? ⟨gb161, 4, none⟩ = some (.int .i64 0) := (blk_cell BK161.out 4).trans rfl
                have hfs34 := blk_frozen BK161.out 4
                have hns34_0 := NB141_161.out
                have hms34_0 := NB161_141.out
                have hs35 : w29.cell? ⟨gb161, 5, none⟩ = some (.int .i64 0) := (blk_cell BK161.out 5).trans rfl
                have hfs35 := blk_frozen BK161.out 5
                have hns35_0 := NB141_161.out
                have hms35_0 := NB161_141.out
                have hs36 : w29.cell? ⟨gb161, 6, none⟩ = some (.int .i64 0) := (blk_cell BK161.out 6).trans rfl
                have hfs36 := blk_frozen BK161.out 6
                have hns36_0 := NB141_161.out
                have hms36_0 := NB161_141.out
                have hs37 : w29.cell? ⟨gb161, 7, none⟩ = some (.int .i64 0) := (blk_cell BK161.out 7).trans rfl
                have hfs37 := blk_frozen BK161.out 7
                have hns37_0 := NB141_161.out
                have hms37_0 := NB161_141.out
                have hs38 : w29.cell? ⟨gb161, 8, none⟩ = some (.int .i64 0) := (blk_cell BK161.out 8).trans rfl
                have hfs38 := blk_frozen BK161.out 8
                have hns38_0 := NB141_161.out
                have hms38_0 := NB161_141.out
                have hs39 : w29.cell? ⟨gb161, 9, none⟩ = some (.int .i64 0) := (blk_cell BK161.out 9).trans rfl
                have hfs39 := blk_frozen BK161.out 9
                have hns39_0 := NB141_161.out
                have hms39_0 := NB161_141.out
                refine skip_ (w1 := ?_) (by rfl) rfl ?_ ?_
                rotate_left
                ·go_simp
                 rfl
                refine hK.out _ _ ⟨(cf10_ (g := gb161) (hHeld.1) (Kd.own_blk (Kd.R_ne HO_4.out BK161.out (by decide)))), (cf10_ (g := gb161) (hHeld.2.1) (Kd.own_blk (Kd.R_ne HO_4.out BK161.out (by decide)))), (cf10_ (g := gb161) (hHeld.2.2.1) (Kd.own_blk (Kd.R_ne HO_4.out BK161.out (by decide)))), (cf10_ (g := gb161) (hHeld.2.2.2.1) (Kd.own_blk (Kd.R_ne HO_4.out BK161.out (by decide)))), (cf10_ (g := gb161) (hHeld.2.2.2.2.1) (Kd.own_blk (Kd.R_ne HO_4.out BK161.out (by decide)))), (cf10_ (g := gb161) (hHeld.2.2.2.2.2.1) (Kd.own_blk (Kd.R_ne HO_4.out BK161.out (by decide)))), (cf10_ (g := gb161) (hHeld.2.2.2.2.2.2.1) (Kd.own_blk (Kd.R_ne HO_4.out BK161.out (by decide)))), (cf10_ (g := gb161) (hHeld.2.2.2.2.2.2.2.1) (Kd.own_blk (Kd.R_ne HO_4.out BK161.out (by decide)))), (cf10_ (g := gb161) (hHeld.2.2.2.2.2.2.2.2.1) (Kd.own_blk (Kd.R_ne HO_4.out BK161.out (by decide)))), (cf10_ (g := gb161) (hHeld.2.2.2.2.2.2.2.2.2) (Kd.own_blk (Kd.R_ne HO_4.out BK161.out (by decide))))⟩ (fun hHeld => ?_)
                clear hK K
                refine done_ (done_of HT_.out (by kernel_rfl)) ?_
                have hnb40 := NB161_141.out
                have hnc40 := NB141_161.out
                have hcz41 := blk_cell BK161.out
                have hfz41 := blk_frozen BK161.out
                try go_wp2_with (first | ((with_reducible refine gate_callee (f := 26) rfl ?_); refine goesC_ (some 66) Try.func26 #[.agg #[.int .i64 (rd x4_1 0), .int .i64 (rd x4_1 1), .int .i64 (rd x4_1 2), .int .i64 (rd x4_1 3), .int .i64 (rd x4_1 4), .int .i64 (rd x4_1 5), .int .i64 (rd x4_1 6), .int .i64 (rd x4_1 7), .int .i64 (rd x4_1 8), .int .i64 (rd x4_1 9)]] ?_; (with_reducible refine (spec_CredOk.calls k1 (rd x4_1 0) (rd x4_1 1) (rd x4_1 2) (rd x4_1 3) (rd x4_1 4) (rd x4_1 5) (rd x4_1 6) (rd x4_1 7) (rd x4_1 8) (rd x4_1 9) true _ A23.out).mono ?_); rintro e w42 ⟨rfl, hb⟩; refine ⟨_, rfl, ?_⟩; replace HO_4 := Aside0.mk (Kd.R_below (by (with_reducible repeat (first | apply Kd.R_alloc | apply Kd.R_drewN | apply Kd.R_drew)); exact (Kd.R_mono (Kd.R_far (p := ⟨gb161, 9, none⟩) (Kd.R_far (p := ⟨gb161, 8, none⟩) (Kd.R_far (p := ⟨gb161, 7, none⟩) (Kd.R_far (p := ⟨gb161, 6, none⟩) (Kd.R_far (p := ⟨gb161, 5, none⟩) (Kd.R_far (p := ⟨gb161, 4, none⟩) (Kd.R_far (p := ⟨gb161, 3, none⟩) (Kd.R_far (p := ⟨gb161, 2, none⟩) (Kd.R_far (p := ⟨gb161, 1, none⟩) (Kd.R_far (p := ⟨gb161, 0, none⟩) (Kd.R_types HO_4.out BK161.out (by decide)) (fun _ hk => hk.2) (.int .i64 (rd x4_1 0))) (fun _ hk => hk.2) (.int .i64 (rd x4_1 1))) (fun _ hk => hk.2) (.int .i64 (rd x4_1 2))) (fun _ hk => hk.2) (.int .i64 (rd x4_1 3))) (fun _ hk => hk.2) (.int .i64 (rd x4_1 4))) (fun _ hk => hk.2) (.int .i64 (rd x4_1 5))) (fun _ hk => hk.2) (.int .i64 (rd x4_1 6))) (fun _ hk => hk.2) (.int .i64 (rd x4_1 7))) (fun _ hk => hk.2) (.int .i64 (rd x4_1 8))) (fun _ hk => hk.2) (.int .i64 (rd x4_1 9))) (fun _ h_ => h_.1))) hb); replace BK141 := Aside0.mk (blk_below (g := gb141) (o := .cells #[.int .i64 x142000_1, .int .i64 x142001_1, .int .i64 x142002_1, .int .i64 x142003_1, .int .i64 x142004_1, .int .i64 x142005_1, .int .i64 x142006_1, .int .i64 x142007_1, .int .i64 x142008_1, .int .i64 x142009_1] 31 (0, 0)) (bk_ BK141) hb); replace BK161 := Aside0.mk (blk_below (g := gb161) (o := .cells #[.int .i64 (rd x4_1 0), .int .i64 (rd x4_1 1), .int .i64 (rd x4_1 2), .int .i64 (rd x4_1 3), .int .i64 (rd x4_1 4), .int .i64 (rd x4_1 5), .int .i64 (rd x4_1 6), .int .i64 (rd x4_1 7), .int .i64 (rd x4_1 8), .int .i64 (rd x4_1 9)] 31 (0, 0)) (bk_ BK161) hb); replace HB := hbs_ hb; clear hb; have hcz43 := blk_cell BK161.out; have hfz43 := blk_frozen BK161.out) | (go_at_call 27; (with_reducible refine (spec_CredText.calls k1 (rd x4_1 0) (rd x4_1 1) (rd x4_1 2) (rd x4_1 3) (rd x4_1 4) (rd x4_1 5) (rd x4_1 6) (rd x4_1 7) (rd x4_1 8) (rd x4_1 9) t163 _ A25.out).mono ?_); rintro e w44 ⟨rfl, hb⟩; replace HO_4 := Aside0.mk (Kd.R_below (by (with_reducible repeat (first | apply Kd.R_alloc | apply Kd.R_drewN | apply Kd.R_drew)); exact HO_4.out) hb); replace BK141 := bkb_ BK141 hb; replace BK161 := bkb_ BK161 hb; replace HB := hbs_ hb; clear hb; have hcz45 := blk_cell BK161.out; have hfz45 := blk_frozen BK161.out; have hcz46 := blk_cell BK141.out; have hfz46 := blk_frozen BK141.out))
                refine bodyPost_ret (results_ct rfl _ _ gb141 31 #[.int .i64 (rd x4_1 0), .int .i64 (rd x4_1 1), .int .i64 (rd x4_1 2), .int .i64 (rd x4_1 3), .int .i64 (rd x4_1 4), .int .i64 (rd x4_1 5), .int .i64 (rd x4_1 6), .int .i64 (rd x4_1 7), .int .i64 (rd x4_1 8), .int .i64 (rd x4_1 9)] (0, 0) _ rfl (bk_ BK141) Try.underlying31 rfl (by kernel_rfl)) rfl ?_
                exact ⟨eq_, bl_⟩
               ·rw [if_neg c26] at H
                have c26b0 : (t163.toList == a0.toList) = false := beq_eq_false_iff_ne.mpr c26
                have c26b1 : (t163.toList != a0.toList) = true := bne_iff_ne.mpr c26
                simp only [Option.some.injEq, Prod.mk.injEq] at H
                obtain ⟨rfl, rfl, rfl, rfl, rfl, rfl, rfl, rfl, rfl, rfl, rfl⟩ := H
                try go_wp2
                replace HO_4 := Aside0.mk (Kd.R_drew HO_4.out)
                replace BK141 := Aside0.mk (blk_drew BK141.out)
                replace HB := Aside0.mk (below_drew1 HB.out)
                obtain ⟨Ao48, co48, eo48⟩ := Kd.R_slice HO_4.out
                (first | subst eo48 | (injection eo48 with f1_ f2_ f3_; have f4_ := f1_.symm; have f5_ := f3_.symm; clear f1_ f2_ f3_; subst f4_; subst f5_))
                have p151 : 0 ≤ (0 : Int) := (by omega)
                have q151 : 0 < (x4_1.length : Int) := of_decide_eq_true (by first | (with_reducible assumption) | assumption)
                obtain ⟨ad151, e151, hx151_0⟩ := Kd.at_int (Kd.R_reads' HO_4.out).2.2 0 p151 q151
                cases e151
                have qi151 : (0 < x4_1.length) = True := eq_true (by omega)
                (try rw [show ((0 : Int)).toNat = 0 from rfl] at hx151_0)
                (try rw [Addr.add_zero'] at hx151_0)
                replace p151 := eq_true p151
                replace q151 := eq_true q151
                have p152 : 0 ≤ (1 : Int) := (by omega)
                have q152 : 1 < (x4_1.length : Int) := of_decide_eq_true (by first | (with_reducible assumption) | assumption)
                obtain ⟨ad152, e152, hx152_0⟩ := Kd.at_int (Kd.R_reads' HO_4.out).2.2 1 p152 q152
                obtain rfl : ad151 = ad152 := (by injection e152)
                (try simp only [show (1 : Int).toNat = 1 from rfl, Nat.reduceMul, Nat.reduceEqDiff, Go.Addr.add, ↓reduceIte] at hx152_0)
                have qi152 : (1 < x4_1.length) = True := eq_true (by omega)
                (try rw [show ((1 : Int)).toNat = 1 from rfl] at hx152_0)
                replace p152 := eq_true p152
                replace q152 := eq_true q152
                have p153 : 0 ≤ (2 : Int) := (by omega)
                have q153 : 2 < (x4_1.length : Int) := of_decide_eq_true (by first | (with_reducible assumption) | assumption)
                obtain ⟨ad153, e153, hx153_0⟩ := Kd.at_int (Kd.R_reads' HO_4.out).2.2 2 p153 q153
                obtain rfl : ad151 = ad153 := (by injection e153)
                (try simp only [show (2 : Int).toNat = 2 from rfl, Nat.reduceMul, Nat.reduceEqDiff, Go.Addr.add, ↓reduceIte] at hx153_0)
                have qi153 : (2 < x4_1.length) = True := eq_true (by omega)
                (try rw [show ((2 : Int)).toNat = 2 from rfl] at hx153_0)
                replace p153 := eq_true p153
                replace q153 := eq_true q153
                have p154 : 0 ≤ (3 : Int) := (by omega)
                have q154 : 3 < (x4_1.length : Int) := of_decide_eq_true (by first | (with_reducible assumption) | assumption)
                obtain ⟨ad154, e154, hx154_0⟩ := Kd.at_int (Kd.R_reads' HO_4.out).2.2 3 p154 q154
                obtain rfl : ad151 = ad154 := (by injection e154)
                (try simp only [show (3 : Int).toNat = 3 from rfl, Nat.reduceMul, Nat.reduceEqDiff, Go.Addr.add, ↓reduceIte] at hx154_0)
                have qi154 : (3 < x4_1.length) = True := eq_true (by omega)
                (try rw [show ((3 : Int)).toNat = 3 from rfl] at hx154_0)
                replace p154 := eq_true p154
                replace q154 := eq_true q154
                have p155 : 0 ≤ (4 : Int) := (by omega)
                have q155 : 4 < (x4_1.length : Int) := of_decide_eq_true (by first | (with_reducible assumption) | assumption)
                obtain ⟨ad155, e155, hx155_0⟩ := Kd.at_int (Kd.R_reads' HO_4.out).2.2 4 p155 q155
                obtain rfl : ad151 = ad155 := (by injection e155)
                (try simp only [show (4 : Int).toNat = 4 from rfl, Nat.reduceMul, Nat.reduceEqDiff, Go.Addr.add, ↓reduceIte] at hx155_0)
                have qi155 : (4 < x4_1.length) = True := eq_true (by omega)
                (try rw [show ((4 : Int)).toNat = 4 from rfl] at hx155_0)
                replace p155 := eq_true p155
                replace q155 := eq_true q155
                have p156 : 0 ≤ (5 : Int) := (by omega)
                have q156 : 5 < (x4_1.length : Int) := of_decide_eq_true (by first | (with_reducible assumption) | assumption)
                obtain ⟨ad156, e156, hx156_0⟩ := Kd.at_int (Kd.R_reads' HO_4.out).2.2 5 p156 q156
                obtain rfl : ad151 = ad156 := (by injection e156)
                (try simp only [show (5 : Int).toNat = 5 from rfl, Nat.reduceMul, Nat.reduceEqDiff, Go.Addr.add, ↓reduceIte] at hx156_0)
                have qi156 : (5 < x4_1.length) = True := eq_true (by omega)
                (try rw [show ((5 : Int)).toNat = 5 from rfl] at hx156_0)
                replace p156 := eq_true p156
                replace q156 := eq_true q156
                have p157 : 0 ≤ (6 : Int) := (by omega)
                have q157 : 6 < (x4_1.length : Int) := of_decide_eq_true (by first | (with_reducible assumption) | assumption)
                obtain ⟨ad157, e157, hx157_0⟩ := Kd.at_int (Kd.R_reads' HO_4.out).2.2 6 p157 q157
                obtain rfl : ad151 = ad157 := (by injection e157)
                (try simp only [show (6 : Int).toNat = 6 from rfl, Nat.reduceMul, Nat.reduceEqDiff, Go.Addr.add, ↓reduceIte] at hx157_0)
                have qi157 : (6 < x4_1.length) = True := eq_true (by omega)
                (try rw [show ((6 : Int)).toNat = 6 from rfl] at hx157_0)
                replace p157 := eq_true p157
                replace q157 := eq_true q157
                have p158 : 0 ≤ (7 : Int) := (by omega)
                have q158 : 7 < (x4_1.length : Int) := of_decide_eq_true (by first | (with_reducible assumption) | assumption)
                obtain ⟨ad158, e158, hx158_0⟩ := Kd.at_int (Kd.R_reads' HO_4.out).2.2 7 p158 q158
                obtain rfl : ad151 = ad158 := (by injection e158)
                (try simp only [show (7 : Int).toNat = 7 from rfl, Nat.reduceMul, Nat.reduceEqDiff, Go.Addr.add, ↓reduceIte] at hx158_0)
                have qi158 : (7 < x4_1.length) = True := eq_true (by omega)
                (try rw [show ((7 : Int)).toNat = 7 from rfl] at hx158_0)
                replace p158 := eq_true p158
                replace q158 := eq_true q158
                have p159 : 0 ≤ (8 : Int) := (by omega)
                have q159 : 8 < (x4_1.length : Int) := of_decide_eq_true (by first | (with_reducible assumption) | assumption)
                obtain ⟨ad159, e159, hx159_0⟩ := Kd.at_int (Kd.R_reads' HO_4.out).2.2 8 p159 q159
                obtain rfl : ad151 = ad159 := (by injection e159)
                (try simp only [show (8 : Int).toNat = 8 from rfl, Nat.reduceMul, Nat.reduceEqDiff, Go.Addr.add, ↓reduceIte] at hx159_0)
                have qi159 : (8 < x4_1.length) = True := eq_true (by omega)
                (try rw [show ((8 : Int)).toNat = 8 from rfl] at hx159_0)
                replace p159 := eq_true p159
                replace q159 := eq_true q159
                have p160 : 0 ≤ (9 : Int) := (by omega)
                have q160 : 9 < (x4_1.length : Int) := of_decide_eq_true (by first | (with_reducible assumption) | assumption)
                obtain ⟨ad160, e160, hx160_0⟩ := Kd.at_int (Kd.R_reads' HO_4.out).2.2 9 p160 q160
                obtain rfl : ad151 = ad160 := (by injection e160)
                (try simp only [show (9 : Int).toNat = 9 from rfl, Nat.reduceMul, Nat.reduceEqDiff, Go.Addr.add, ↓reduceIte] at hx160_0)
                have qi160 : (9 < x4_1.length) = True := eq_true (by omega)
                (try rw [show ((9 : Int)).toNat = 9 from rfl] at hx160_0)
                replace p160 := eq_true p160
                replace q160 := eq_true q160
                refine start_ (n := 36) (S := fun w' => w'.cell? ad151 = some (.int .i64 (rd x4_1 0)) ∧ w'.cell? ⟨ad151.block, ad151.off + 1, none⟩ = some (.int .i64 (rd x4_1 1)) ∧ w'.cell? ⟨ad151.block, ad151.off + 2, none⟩ = some (.int .i64 (rd x4_1 2)) ∧ w'.cell? ⟨ad151.block, ad151.off + 3, none⟩ = some (.int .i64 (rd x4_1 3)) ∧ w'.cell? ⟨ad151.block, ad151.off + 4, none⟩ = some (.int .i64 (rd x4_1 4)) ∧ w'.cell? ⟨ad151.block, ad151.off + 5, none⟩ = some (.int .i64 (rd x4_1 5)) ∧ w'.cell? ⟨ad151.block, ad151.off + 6, none⟩ = some (.int .i64 (rd x4_1 6)) ∧ w'.cell? ⟨ad151.block, ad151.off + 7, none⟩ = some (.int .i64 (rd x4_1 7)) ∧ w'.cell? ⟨ad151.block, ad151.off + 8, none⟩ = some (.int .i64 (rd x4_1 8)) ∧ w'.cell? ⟨ad151.block, ad151.off + 9, none⟩ = some (.int .i64 (rd x4_1 9))) (ds := []) #[false, false, false, false, false, false, false, false, false, false, false, false, false, false, false, false, false, false, false, false, false, false, false, false, false, false, false, false, false, false, false, false, false, false, false, false] (by kernel_rfl) rfl rfl ⟨hx151_0, hx152_0, hx153_0, hx154_0, hx155_0, hx156_0, hx157_0, hx158_0, hx159_0, hx160_0⟩ (fun hHeld => ?_); refine with_tabW spec_ReadCred.tab11 spec_ReadCred.bits11 (fun HT_ HW_ => ?_)
                generalize wr.drew = w47 at HO_4 BK141 HB hx151_0 hx152_0 hx153_0 hx154_0 hx155_0 hx156_0 hx157_0 hx158_0 hx159_0 hx160_0 hHeld ⊢
                refine pureZ_ (i := 0) (some 31) #[true, false, false, false, false, false, false, false, false, false, false, false, false, false, false, false, false, false, false, false, false, false, false, false, false, false, false, false, false, false, false, false, false, false, false, false] (any_of HT_.out (by kernel_rfl)) ?_
                refine pureZ_ (i := 1) (some 32) #[true, true, false, false, false, false, false, false, false, false, false, false, false, false, false, false, false, false, false, false, false, false, false, false, false, false, false, false, false, false, false, false, false, false, false, false] (any_of HT_.out (by kernel_rfl)) ?_
                refine pureZ_ (i := 3) (some 34) #[true, true, false, true, false, false, false, false, false, false, false, false, false, false, false, false, false, false, false, false, false, false, false, false, false, false, false, false, false, false, false, false, false, false, false, false] (any_of HT_.out (by kernel_rfl)) ?_
                refine pureZ_ (i := 4) (some 35) #[true, true, false, true, true, false, false, false, false, false, false, false, false, false, false, false, false, false, false, false, false, false, false, false, false, false, false, false, false, false, false, false, false, false, false, false] (any_of HT_.out (by kernel_rfl)) ?_
                refine pureZ_ (i := 6) (some 37) #[true, true, false, true, true, false, true, false, false, false, false, false, false, false, false, false, false, false, false, false, false, false, false, false, false, false, false, false, false, false, false, false, false, false, false, false] (any_of HT_.out (by kernel_rfl)) ?_
                refine pureZ_ (i := 7) (some 38) #[true, true, false, true, true, false, true, true, false, false, false, false, false, false, false, false, false, false, false, false, false, false, false, false, false, false, false, false, false, false, false, false, false, false, false, false] (any_of HT_.out (by kernel_rfl)) ?_
                refine pureZ_ (i := 10) (some 41) #[true, true, false, true, true, false, true, true, false, false, true, false, false, false, false, false, false, false, false, false, false, false, false, false, false, false, false, false, false, false, false, false, false, false, false, false] (any_of HT_.out (by kernel_rfl)) ?_
                refine pureZ_ (i := 11) (some 42) #[true, true, false, true, true, false, true, true, false, false, true, true, false, false, false, false, false, false, false, false, false, false, false, false, false, false, false, false, false, false, false, false, false, false, false, false] (any_of HT_.out (by kernel_rfl)) ?_
                refine pureZ_ (i := 13) (some 44) #[true, true, false, true, true, false, true, true, false, false, true, true, false, true, false, false, false, false, false, false, false, false, false, false, false, false, false, false, false, false, false, false, false, false, false, false] (any_of HT_.out (by kernel_rfl)) ?_
                refine pureZ_ (i := 14) (some 45) #[true, true, false, true, true, false, true, true, false, false, true, true, false, true, true, false, false, false, false, false, false, false, false, false, false, false, false, false, false, false, false, false, false, false, false, false] (any_of HT_.out (by kernel_rfl)) ?_
                refine pureZ_ (i := 16) (some 47) #[true, true, false, true, true, false, true, true, false, false, true, true, false, true, true, false, true, false, false, false, false, false, false, false, false, false, false, false, false, false, false, false, false, false, false, false] (any_of HT_.out (by kernel_rfl)) ?_
                refine pureZ_ (i := 17) (some 48) #[true, true, false, true, true, false, true, true, false, false, true, true, false, true, true, false, true, true, false, false, false, false, false, false, false, false, false, false, false, false, false, false, false, false, false, false] (any_of HT_.out (by kernel_rfl)) ?_
                refine pureZ_ (i := 20) (some 51) #[true, true, false, true, true, false, true, true, false, false, true, true, false, true, true, false, true, true, false, false, true, false, false, false, false, false, false, false, false, false, false, false, false, false, false, false] (any_of HT_.out (by kernel_rfl)) ?_
                refine pureZ_ (i := 21) (some 52) #[true, true, false, true, true, false, true, true, false, false, true, true, false, true, true, false, true, true, false, false, true, true, false, false, false, false, false, false, false, false, false, false, false, false, false, false] (any_of HT_.out (by kernel_rfl)) ?_
                refine pureZ_ (i := 23) (some 54) #[true, true, false, true, true, false, true, true, false, false, true, true, false, true, true, false, true, true, false, false, true, true, false, true, false, false, false, false, false, false, false, false, false, false, false, false] (any_of HT_.out (by kernel_rfl)) ?_
                refine pureZ_ (i := 24) (some 55) #[true, true, false, true, true, false, true, true, false, false, true, true, false, true, true, false, true, true, false, false, true, true, false, true, true, false, false, false, false, false, false, false, false, false, false, false] (any_of HT_.out (by kernel_rfl)) ?_
                refine pureZ_ (i := 27) (some 58) #[true, true, false, true, true, false, true, true, false, false, true, true, false, true, true, false, true, true, false, false, true, true, false, true, true, false, false, true, false, false, false, false, false, false, false, false] (any_of HT_.out (by kernel_rfl)) ?_
                refine pureZ_ (i := 28) (some 59) #[true, true, false, true, true, false, true, true, false, false, true, true, false, true, true, false, true, true, false, false, true, true, false, true, true, false, false, true, true, false, false, false, false, false, false, false] (any_of HT_.out (by kernel_rfl)) ?_
                refine pureZ_ (i := 30) (some 61) #[true, true, false, true, true, false, true, true, false, false, true, true, false, true, true, false, true, true, false, false, true, true, false, true, true, false, false, true, true, false, true, false, false, false, false, false] (any_of HT_.out (by kernel_rfl)) ?_
                refine pureZ_ (i := 31) (some 62) #[true, true, false, true, true, false, true, true, false, false, true, true, false, true, true, false, true, true, false, false, true, true, false, true, true, false, false, true, true, false, true, true, false, false, false, false] (any_of HT_.out (by kernel_rfl)) ?_
                refine takeZ_ (i := 2) (some 33) #[true, true, true, true, true, false, true, true, false, false, true, true, false, true, true, false, true, true, false, false, true, true, false, true, true, false, false, true, true, false, true, true, false, false, false, false] (take_ofW HT_.out HW_.out (by kernel_rfl)) hHeld ?_
                refine takeZ_ (i := 5) (some 36) #[true, true, true, true, true, true, true, true, false, false, true, true, false, true, true, false, true, true, false, false, true, true, false, true, true, false, false, true, true, false, true, true, false, false, false, false] (take_ofW HT_.out HW_.out (by kernel_rfl)) hHeld ?_
                refine takeZ_ (i := 8) (some 39) #[true, true, true, true, true, true, true, true, true, false, true, true, false, true, true, false, true, true, false, false, true, true, false, true, true, false, false, true, true, false, true, true, false, false, false, false] (take_ofW HT_.out HW_.out (by kernel_rfl)) hHeld ?_
                refine pureZ_ (i := 9) (some 40) #[true, true, true, true, true, true, true, true, true, true, true, true, false, true, true, false, true, true, false, false, true, true, false, true, true, false, false, true, true, false, true, true, false, false, false, false] (any_of HT_.out (by kernel_rfl)) ?_
                refine takeZ_ (i := 12) (some 43) #[true, true, true, true, true, true, true, true, true, true, true, true, true, true, true, false, true, true, false, false, true, true, false, true, true, false, false, true, true, false, true, true, false, false, false, false] (take_ofW HT_.out HW_.out (by kernel_rfl)) hHeld ?_
                refine takeZ_ (i := 15) (some 46) #[true, true, true, true, true, true, true, true, true, true, true, true, true, true, true, true, true, true, false, false, true, true, false, true, true, false, false, true, true, false, true, true, false, false, false, false] (take_ofW HT_.out HW_.out (by kernel_rfl)) hHeld ?_
                refine takeZ_ (i := 18) (some 49) #[true, true, true, true, true, true, true, true, true, true, true, true, true, true, true, true, true, true, true, false, true, true, false, true, true, false, false, true, true, false, true, true, false, false, false, false] (take_ofW HT_.out HW_.out (by kernel_rfl)) hHeld ?_
                refine pureZ_ (i := 19) (some 50) #[true, true, true, true, true, true, true, true, true, true, true, true, true, true, true, true, true, true, true, true, true, true, false, true, true, false, false, true, true, false, true, true, false, false, false, false] (any_of HT_.out (by kernel_rfl)) ?_
                refine takeZ_ (i := 22) (some 53) #[true, true, true, true, true, true, true, true, true, true, true, true, true, true, true, true, true, true, true, true, true, true, true, true, true, false, false, true, true, false, true, true, false, false, false, false] (take_ofW HT_.out HW_.out (by kernel_rfl)) hHeld ?_
                refine takeZ_ (i := 25) (some 56) #[true, true, true, true, true, true, true, true, true, true, true, true, true, true, true, true, true, true, true, true, true, true, true, true, true, true, false, true, true, false, true, true, false, false, false, false] (take_ofW HT_.out HW_.out (by kernel_rfl)) hHeld ?_
                refine pureZ_ (i := 26) (some 57) #[true, true, true, true, true, true, true, true, true, true, true, true, true, true, true, true, true, true, true, true, true, true, true, true, true, true, true, true, true, false, true, true, false, false, false, false] (any_of HT_.out (by kernel_rfl)) ?_
                refine takeZ_ (i := 29) (some 60) #[true, true, true, true, true, true, true, true, true, true, true, true, true, true, true, true, true, true, true, true, true, true, true, true, true, true, true, true, true, true, true, true, false, false, false, false] (take_ofW HT_.out HW_.out (by kernel_rfl)) hHeld ?_
                refine takeZ_ (i := 32) (some 63) #[true, true, true, true, true, true, true, true, true, true, true, true, true, true, true, true, true, true, true, true, true, true, true, true, true, true, true, true, true, true, true, true, true, false, false, false] (take_ofW HT_.out HW_.out (by kernel_rfl)) hHeld ?_
                refine pureZ_ (i := 33) (some 64) #[true, true, true, true, true, true, true, true, true, true, true, true, true, true, true, true, true, true, true, true, true, true, true, true, true, true, true, true, true, true, true, true, true, true, false, false] (any_of HT_.out (by kernel_rfl)) ?_
                refine one_ (i := 34) (N := some 10) #[true, true, true, true, true, true, true, true, true, true, true, true, true, true, true, true, true, true, true, true, true, true, true, true, true, true, true, true, true, true, true, true, true, true, true, false] rfl rfl (one_of HT_.out (by kernel_rfl)) (by decide) (fun K hK => ?_)
                refine box_step ?hg (N := 10) ?hd (cs := #[.int .i64 0, .int .i64 0, .int .i64 0, .int .i64 0, .int .i64 0, .int .i64 0, .int .i64 0, .int .i64 0, .int .i64 0, .int .i64 0]) (t := 31) ?hr ?_; (case hd => rfl); (case hg => rfl); (case hr => first | (go_simp; done) | (go_simp; rfl))
                intro gb161 hg w49 hbox hb
                have HS0_ := (hb.cell (World.block_lt_of_cell? _ _ (hHeld.1))).trans (hHeld.1)
                have HS1_ := (hb.cell (World.block_lt_of_cell? _ _ (hHeld.2.1))).trans (hHeld.2.1)
                have HS2_ := (hb.cell (World.block_lt_of_cell? _ _ (hHeld.2.2.1))).trans (hHeld.2.2.1)
                have HS3_ := (hb.cell (World.block_lt_of_cell? _ _ (hHeld.2.2.2.1))).trans (hHeld.2.2.2.1)
                have HS4_ := (hb.cell (World.block_lt_of_cell? _ _ (hHeld.2.2.2.2.1))).trans (hHeld.2.2.2.2.1)
                have HS5_ := (hb.cell (World.block_lt_of_cell? _ _ (hHeld.2.2.2.2.2.1))).trans (hHeld.2.2.2.2.2.1)
                have HS6_ := (hb.cell (World.block_lt_of_cell? _ _ (hHeld.2.2.2.2.2.2.1))).trans (hHeld.2.2.2.2.2.2.1)
                have HS7_ := (hb.cell (World.block_lt_of_cell? _ _ (hHeld.2.2.2.2.2.2.2.1))).trans (hHeld.2.2.2.2.2.2.2.1)
                have HS8_ := (hb.cell (World.block_lt_of_cell? _ _ (hHeld.2.2.2.2.2.2.2.2.1))).trans (hHeld.2.2.2.2.2.2.2.2.1)
                have HS9_ := (hb.cell (World.block_lt_of_cell? _ _ (hHeld.2.2.2.2.2.2.2.2.2))).trans (hHeld.2.2.2.2.2.2.2.2.2)
                replace HO_4 := Aside0.mk (Kd.R_below (by (with_reducible repeat (first | apply Kd.R_alloc | apply Kd.R_drewN | apply Kd.R_drew)); exact HO_4.out) hb)
                have BK161 := Aside0.mk (hbox)
                have GW161 := gs_ hg
                have GE161 := gs_ hg
                replace HB := hbs_ hb
                have NB141_161 := Aside0.mk ((by rw [hg]; exact Nat.ne_of_lt (blk_lt (g := gb141) (o := .cells #[.int .i64 x142000_1, .int .i64 x142001_1, .int .i64 x142002_1, .int .i64 x142003_1, .int .i64 x142004_1, .int .i64 x142005_1, .int .i64 x142006_1, .int .i64 x142007_1, .int .i64 x142008_1, .int .i64 x142009_1] 31 (0, 0)) (bk_ BK141)) : gb141 ≠ gb161))
                have NB161_141 := Aside0.mk ((by rw [hg]; exact Nat.ne_of_gt (blk_lt (g := gb141) (o := .cells #[.int .i64 x142000_1, .int .i64 x142001_1, .int .i64 x142002_1, .int .i64 x142003_1, .int .i64 x142004_1, .int .i64 x142005_1, .int .i64 x142006_1, .int .i64 x142007_1, .int .i64 x142008_1, .int .i64 x142009_1] 31 (0, 0)) (bk_ BK141)) : gb161 ≠ gb141))
                replace BK141 := bkb_ BK141 hb
                clear hb hbox hg
                refine hK.out _ _ ⟨HS0_, HS1_, HS2_, HS3_, HS4_, HS5_, HS6_, HS7_, HS8_, HS9_⟩ (fun hHeld => ?_)
                clear hK K
                refine norm_ (a' := ?_) ?_ ?_
                rotate_left
                ·show Act.put _ (some 10) _ = _
                 simp only [Act.put, List.setIfInBounds_toArray, List.set_cons_zero, List.set_cons_succ, i64_w, i32_w]
                 rfl
                refine one_ (i := 35) (N := none) #[true, true, true, true, true, true, true, true, true, true, true, true, true, true, true, true, true, true, true, true, true, true, true, true, true, true, true, true, true, true, true, true, true, true, true, true] rfl rfl (one_of HT_.out (by kernel_rfl)) (by decide) (fun K hK => ?_)
                have hs50 : w49.cell? ⟨gb161, 0, none⟩ = some (.int .i64 0) := (blk_cell BK161.out 0).trans rfl
                have hfs50 := blk_frozen BK161.out 0
                have hns50_0 := NB141_161.out
                have hms50_0 := NB161_141.out
                have hs51 : w49.cell? ⟨gb161, 1, none⟩ = some (.int .i64 0) := (blk_cell BK161.out 1).trans rfl
                have hfs51 := blk_frozen BK161.out 1
                have hns51_0 := NB141_161.out
                have hms51_0 := NB161_141.out
                have hs52 : w49.cell? ⟨gb161, 2, none⟩ = some (.int .i64 0) := (blk_cell BK161.out 2).trans rfl
                have hfs52 := blk_frozen BK161.out 2
                have hns52_0 := NB141_161.out
                have hms52_0 := NB161_141.out
                have hs53 : w49.cell? ⟨gb161, 3, none⟩ = some (.int .i64 0) := (blk_cell BK161.out 3).trans rfl
                have hfs53 := blk_frozen BK161.out 3
                have hns53_0 := NB141_161.out
                have hms53_0 := NB161_141.out
                have hs54 : w49.cell? ⟨gb161, 4, none⟩ = some (.int .i64 0) := (blk_cell BK161.out 4).trans rfl
                have hfs54 := blk_frozen BK161.out 4
                have hns54_0 := NB141_161.out
                have hms54_0 := NB161_141.out
                have hs55 : w49.cell? ⟨gb161, 5, none⟩ = some (.int .i64 0) := (blk_cell BK161.out 5).trans rfl
                have hfs55 := blk_frozen BK161.out 5
                have hns55_0 := NB141_161.out
                have hms55_0 := NB161_141.out
                have hs56 : w49.cell? ⟨gb161, 6, none⟩ = some (.int .i64 0) := (blk_cell BK161.out 6).trans rfl
                have hfs56 := blk_frozen BK161.out 6
                have hns56_0 := NB141_161.out
                have hms56_0 := NB161_141.out
                have hs57 : w49.cell? ⟨gb161, 7, none⟩ = some (.int .i64 0) := (blk_cell BK161.out 7).trans rfl
                have hfs57 := blk_frozen BK161.out 7
                have hns57_0 := NB141_161.out
                have hms57_0 := NB161_141.out
                have hs58 : w49.cell? ⟨gb161, 8, none⟩ = some (.int .i64 0) := (blk_cell BK161.out 8).trans rfl
                have hfs58 := blk_frozen BK161.out 8
                have hns58_0 := NB141_161.out
                have hms58_0 := NB161_141.out
                have hs59 : w49.cell? ⟨gb161, 9, none⟩ = some (.int .i64 0) := (blk_cell BK161.out 9).trans rfl
                have hfs59 := blk_frozen BK161.out 9
                have hns59_0 := NB141_161.out
                have hms59_0 := NB161_141.out
                refine skip_ (w1 := ?_) (by rfl) rfl ?_ ?_
                rotate_left
                ·go_simp
                 rfl
                refine hK.out _ _ ⟨(cf10_ (g := gb161) (hHeld.1) (Kd.own_blk (Kd.R_ne HO_4.out BK161.out (by decide)))), (cf10_ (g := gb161) (hHeld.2.1) (Kd.own_blk (Kd.R_ne HO_4.out BK161.out (by decide)))), (cf10_ (g := gb161) (hHeld.2.2.1) (Kd.own_blk (Kd.R_ne HO_4.out BK161.out (by decide)))), (cf10_ (g := gb161) (hHeld.2.2.2.1) (Kd.own_blk (Kd.R_ne HO_4.out BK161.out (by decide)))), (cf10_ (g := gb161) (hHeld.2.2.2.2.1) (Kd.own_blk (Kd.R_ne HO_4.out BK161.out (by decide)))), (cf10_ (g := gb161) (hHeld.2.2.2.2.2.1) (Kd.own_blk (Kd.R_ne HO_4.out BK161.out (by decide)))), (cf10_ (g := gb161) (hHeld.2.2.2.2.2.2.1) (Kd.own_blk (Kd.R_ne HO_4.out BK161.out (by decide)))), (cf10_ (g := gb161) (hHeld.2.2.2.2.2.2.2.1) (Kd.own_blk (Kd.R_ne HO_4.out BK161.out (by decide)))), (cf10_ (g := gb161) (hHeld.2.2.2.2.2.2.2.2.1) (Kd.own_blk (Kd.R_ne HO_4.out BK161.out (by decide)))), (cf10_ (g := gb161) (hHeld.2.2.2.2.2.2.2.2.2) (Kd.own_blk (Kd.R_ne HO_4.out BK161.out (by decide))))⟩ (fun hHeld => ?_)
                clear hK K
                refine done_ (done_of HT_.out (by kernel_rfl)) ?_
                have hnb60 := NB161_141.out
                have hnc60 := NB141_161.out
                have hcz61 := blk_cell BK161.out
                have hfz61 := blk_frozen BK161.out
                try go_wp2_with (first | ((with_reducible refine gate_callee (f := 26) rfl ?_); refine goesC_ (some 66) Try.func26 #[.agg #[.int .i64 (rd x4_1 0), .int .i64 (rd x4_1 1), .int .i64 (rd x4_1 2), .int .i64 (rd x4_1 3), .int .i64 (rd x4_1 4), .int .i64 (rd x4_1 5), .int .i64 (rd x4_1 6), .int .i64 (rd x4_1 7), .int .i64 (rd x4_1 8), .int .i64 (rd x4_1 9)]] ?_; (with_reducible refine (spec_CredOk.calls k1 (rd x4_1 0) (rd x4_1 1) (rd x4_1 2) (rd x4_1 3) (rd x4_1 4) (rd x4_1 5) (rd x4_1 6) (rd x4_1 7) (rd x4_1 8) (rd x4_1 9) true _ A23.out).mono ?_); rintro e w62 ⟨rfl, hb⟩; refine ⟨_, rfl, ?_⟩; replace HO_4 := Aside0.mk (Kd.R_below (by (with_reducible repeat (first | apply Kd.R_alloc | apply Kd.R_drewN | apply Kd.R_drew)); exact (Kd.R_mono (Kd.R_far (p := ⟨gb161, 9, none⟩) (Kd.R_far (p := ⟨gb161, 8, none⟩) (Kd.R_far (p := ⟨gb161, 7, none⟩) (Kd.R_far (p := ⟨gb161, 6, none⟩) (Kd.R_far (p := ⟨gb161, 5, none⟩) (Kd.R_far (p := ⟨gb161, 4, none⟩) (Kd.R_far (p := ⟨gb161, 3, none⟩) (Kd.R_far (p := ⟨gb161, 2, none⟩) (Kd.R_far (p := ⟨gb161, 1, none⟩) (Kd.R_far (p := ⟨gb161, 0, none⟩) (Kd.R_types HO_4.out BK161.out (by decide)) (fun _ hk => hk.2) (.int .i64 (rd x4_1 0))) (fun _ hk => hk.2) (.int .i64 (rd x4_1 1))) (fun _ hk => hk.2) (.int .i64 (rd x4_1 2))) (fun _ hk => hk.2) (.int .i64 (rd x4_1 3))) (fun _ hk => hk.2) (.int .i64 (rd x4_1 4))) (fun _ hk => hk.2) (.int .i64 (rd x4_1 5))) (fun _ hk => hk.2) (.int .i64 (rd x4_1 6))) (fun _ hk => hk.2) (.int .i64 (rd x4_1 7))) (fun _ hk => hk.2) (.int .i64 (rd x4_1 8))) (fun _ hk => hk.2) (.int .i64 (rd x4_1 9))) (fun _ h_ => h_.1))) hb); replace BK141 := Aside0.mk (blk_below (g := gb141) (o := .cells #[.int .i64 x142000_1, .int .i64 x142001_1, .int .i64 x142002_1, .int .i64 x142003_1, .int .i64 x142004_1, .int .i64 x142005_1, .int .i64 x142006_1, .int .i64 x142007_1, .int .i64 x142008_1, .int .i64 x142009_1] 31 (0, 0)) (bk_ BK141) hb); replace BK161 := Aside0.mk (blk_below (g := gb161) (o := .cells #[.int .i64 (rd x4_1 0), .int .i64 (rd x4_1 1), .int .i64 (rd x4_1 2), .int .i64 (rd x4_1 3), .int .i64 (rd x4_1 4), .int .i64 (rd x4_1 5), .int .i64 (rd x4_1 6), .int .i64 (rd x4_1 7), .int .i64 (rd x4_1 8), .int .i64 (rd x4_1 9)] 31 (0, 0)) (bk_ BK161) hb); replace HB := hbs_ hb; clear hb; have hcz63 := blk_cell BK161.out; have hfz63 := blk_frozen BK161.out) | (go_at_call 27; (with_reducible refine (spec_CredText.calls k1 (rd x4_1 0) (rd x4_1 1) (rd x4_1 2) (rd x4_1 3) (rd x4_1 4) (rd x4_1 5) (rd x4_1 6) (rd x4_1 7) (rd x4_1 8) (rd x4_1 9) t163 _ A25.out).mono ?_); rintro e w64 ⟨rfl, hb⟩; replace HO_4 := Aside0.mk (Kd.R_below (by (with_reducible repeat (first | apply Kd.R_alloc | apply Kd.R_drewN | apply Kd.R_drew)); exact HO_4.out) hb); replace BK141 := bkb_ BK141 hb; replace BK161 := bkb_ BK161 hb; replace HB := hbs_ hb; clear hb; have hcz65 := blk_cell BK141.out; have hfz65 := blk_frozen BK141.out))
                refine bodyPost_ret (results_ct rfl _ _ gb141 31 #[.int .i64 0, .int .i64 0, .int .i64 0, .int .i64 0, .int .i64 0, .int .i64 0, .int .i64 0, .int .i64 0, .int .i64 0, .int .i64 0] (0, 0) _ rfl (bk_ BK141) Try.underlying31 rfl (by kernel_rfl)) rfl ?_
                exact ⟨eq_, bl_⟩
              ·replace c24 := Bool.eq_false_iff.mpr c24
               subst c24
               replace H := ite_f_ H
               simp only [Option.some.injEq, Prod.mk.injEq] at H
               obtain ⟨rfl, rfl, rfl, rfl, rfl, rfl, rfl, rfl, rfl, rfl, rfl⟩ := H
               try go_wp2
               replace HO_4 := Aside0.mk (Kd.R_drew HO_4.out)
               replace BK141 := Aside0.mk (blk_drew BK141.out)
               replace HB := Aside0.mk (below_drew1 HB.out)
               obtain ⟨Ao67, co67, eo67⟩ := Kd.R_slice HO_4.out
               (first | subst eo67 | (injection eo67 with f1_ f2_ f3_; have f4_ := f1_.symm; have f5_ := f3_.symm; clear f1_ f2_ f3_; subst f4_; subst f5_))
               have p151 : 0 ≤ (0 : Int) := (by omega)
               have q151 : 0 < (x4_1.length : Int) := of_decide_eq_true (by first | (with_reducible assumption) | assumption)
               obtain ⟨ad151, e151, hx151_0⟩ := Kd.at_int (Kd.R_reads' HO_4.out).2.2 0 p151 q151
               cases e151
               have qi151 : (0 < x4_1.length) = True := eq_true (by omega)
               (try rw [show ((0 : Int)).toNat = 0 from rfl] at hx151_0)
               (try rw [Addr.add_zero'] at hx151_0)
               replace p151 := eq_true p151
               replace q151 := eq_true q151
               have p152 : 0 ≤ (1 : Int) := (by omega)
               have q152 : 1 < (x4_1.length : Int) := of_decide_eq_true (by first | (with_reducible assumption) | assumption)
               obtain ⟨ad152, e152, hx152_0⟩ := Kd.at_int (Kd.R_reads' HO_4.out).2.2 1 p152 q152
               obtain rfl : ad151 = ad152 := (by injection e152)
               (try simp only [show (1 : Int).toNat = 1 from rfl, Nat.reduceMul, Nat.reduceEqDiff, Go.Addr.add, ↓reduceIte] at hx152_0)
               have qi152 : (1 < x4_1.length) = True := eq_true (by omega)
               (try rw [show ((1 : Int)).toNat = 1 from rfl] at hx152_0)
               replace p152 := eq_true p152
               replace q152 := eq_true q152
               have p153 : 0 ≤ (2 : Int) := (by omega)
               have q153 : 2 < (x4_1.length : Int) := of_decide_eq_true (by first | (with_reducible assumption) | assumption)
               obtain ⟨ad153, e153, hx153_0⟩ := Kd.at_int (Kd.R_reads' HO_4.out).2.2 2 p153 q153
               obtain rfl : ad151 = ad153 := (by injection e153)
               (try simp only [show (2 : Int).toNat = 2 from rfl, Nat.reduceMul, Nat.reduceEqDiff, Go.Addr.add, ↓reduceIte] at hx153_0)
               have qi153 : (2 < x4_1.length) = True := eq_true (by omega)
               (try rw [show ((2 : Int)).toNat = 2 from rfl] at hx153_0)
               replace p153 := eq_true p153
               replace q153 := eq_true q153
               have p154 : 0 ≤ (3 : Int) := (by omega)
               have q154 : 3 < (x4_1.length : Int) := of_decide_eq_true (by first | (with_reducible assumption) | assumption)
               obtain ⟨ad154, e154, hx154_0⟩ := Kd.at_int (Kd.R_reads' HO_4.out).2.2 3 p154 q154
               obtain rfl : ad151 = ad154 := (by injection e154)
               (try simp only [show (3 : Int).toNat = 3 from rfl, Nat.reduceMul, Nat.reduceEqDiff, Go.Addr.add, ↓reduceIte] at hx154_0)
               have qi154 : (3 < x4_1.length) = True := eq_true (by omega)
               (try rw [show ((3 : Int)).toNat = 3 from rfl] at hx154_0)
               replace p154 := eq_true p154
               replace q154 := eq_true q154
               have p155 : 0 ≤ (4 : Int) := (by omega)
               have q155 : 4 < (x4_1.length : Int) := of_decide_eq_true (by first | (with_reducible assumption) | assumption)
               obtain ⟨ad155, e155, hx155_0⟩ := Kd.at_int (Kd.R_reads' HO_4.out).2.2 4 p155 q155
               obtain rfl : ad151 = ad155 := (by injection e155)
               (try simp only [show (4 : Int).toNat = 4 from rfl, Nat.reduceMul, Nat.reduceEqDiff, Go.Addr.add, ↓reduceIte] at hx155_0)
               have qi155 : (4 < x4_1.length) = True := eq_true (by omega)
               (try rw [show ((4 : Int)).toNat = 4 from rfl] at hx155_0)
               replace p155 := eq_true p155
               replace q155 := eq_true q155
               have p156 : 0 ≤ (5 : Int) := (by omega)
               have q156 : 5 < (x4_1.length : Int) := of_decide_eq_true (by first | (with_reducible assumption) | assumption)
               obtain ⟨ad156, e156, hx156_0⟩ := Kd.at_int (Kd.R_reads' HO_4.out).2.2 5 p156 q156
               obtain rfl : ad151 = ad156 := (by injection e156)
               (try simp only [show (5 : Int).toNat = 5 from rfl, Nat.reduceMul, Nat.reduceEqDiff, Go.Addr.add, ↓reduceIte] at hx156_0)
               have qi156 : (5 < x4_1.length) = True := eq_true (by omega)
               (try rw [show ((5 : Int)).toNat = 5 from rfl] at hx156_0)
               replace p156 := eq_true p156
               replace q156 := eq_true q156
               have p157 : 0 ≤ (6 : Int) := (by omega)
               have q157 : 6 < (x4_1.length : Int) := of_decide_eq_true (by first | (with_reducible assumption) | assumption)
               obtain ⟨ad157, e157, hx157_0⟩ := Kd.at_int (Kd.R_reads' HO_4.out).2.2 6 p157 q157
               obtain rfl : ad151 = ad157 := (by injection e157)
               (try simp only [show (6 : Int).toNat = 6 from rfl, Nat.reduceMul, Nat.reduceEqDiff, Go.Addr.add, ↓reduceIte] at hx157_0)
               have qi157 : (6 < x4_1.length) = True := eq_true (by omega)
               (try rw [show ((6 : Int)).toNat = 6 from rfl] at hx157_0)
               replace p157 := eq_true p157
               replace q157 := eq_true q157
               have p158 : 0 ≤ (7 : Int) := (by omega)
               have q158 : 7 < (x4_1.length : Int) := of_decide_eq_true (by first | (with_reducible assumption) | assumption)
               obtain ⟨ad158, e158, hx158_0⟩ := Kd.at_int (Kd.R_reads' HO_4.out).2.2 7 p158 q158
               obtain rfl : ad151 = ad158 := (by injection e158)
               (try simp only [show (7 : Int).toNat = 7 from rfl, Nat.reduceMul, Nat.reduceEqDiff, Go.Addr.add, ↓reduceIte] at hx158_0)
               have qi158 : (7 < x4_1.length) = True := eq_true (by omega)
               (try rw [show ((7 : Int)).toNat = 7 from rfl] at hx158_0)
               replace p158 := eq_true p158
               replace q158 := eq_true q158
               have p159 : 0 ≤ (8 : Int) := (by omega)
               have q159 : 8 < (x4_1.length : Int) := of_decide_eq_true (by first | (with_reducible assumption) | assumption)
               obtain ⟨ad159, e159, hx159_0⟩ := Kd.at_int (Kd.R_reads' HO_4.out).2.2 8 p159 q159
               obtain rfl : ad151 = ad159 := (by injection e159)
               (try simp only [show (8 : Int).toNat = 8 from rfl, Nat.reduceMul, Nat.reduceEqDiff, Go.Addr.add, ↓reduceIte] at hx159_0)
               have qi159 : (8 < x4_1.length) = True := eq_true (by omega)
               (try rw [show ((8 : Int)).toNat = 8 from rfl] at hx159_0)
               replace p159 := eq_true p159
               replace q159 := eq_true q159
               have p160 : 0 ≤ (9 : Int) := (by omega)
               have q160 : 9 < (x4_1.length : Int) := of_decide_eq_true (by first | (with_reducible assumption) | assumption)
               obtain ⟨ad160, e160, hx160_0⟩ := Kd.at_int (Kd.R_reads' HO_4.out).2.2 9 p160 q160
               obtain rfl : ad151 = ad160 := (by injection e160)
               (try simp only [show (9 : Int).toNat = 9 from rfl, Nat.reduceMul, Nat.reduceEqDiff, Go.Addr.add, ↓reduceIte] at hx160_0)
               have qi160 : (9 < x4_1.length) = True := eq_true (by omega)
               (try rw [show ((9 : Int)).toNat = 9 from rfl] at hx160_0)
               replace p160 := eq_true p160
               replace q160 := eq_true q160
               refine start_ (n := 36) (S := fun w' => w'.cell? ad151 = some (.int .i64 (rd x4_1 0)) ∧ w'.cell? ⟨ad151.block, ad151.off + 1, none⟩ = some (.int .i64 (rd x4_1 1)) ∧ w'.cell? ⟨ad151.block, ad151.off + 2, none⟩ = some (.int .i64 (rd x4_1 2)) ∧ w'.cell? ⟨ad151.block, ad151.off + 3, none⟩ = some (.int .i64 (rd x4_1 3)) ∧ w'.cell? ⟨ad151.block, ad151.off + 4, none⟩ = some (.int .i64 (rd x4_1 4)) ∧ w'.cell? ⟨ad151.block, ad151.off + 5, none⟩ = some (.int .i64 (rd x4_1 5)) ∧ w'.cell? ⟨ad151.block, ad151.off + 6, none⟩ = some (.int .i64 (rd x4_1 6)) ∧ w'.cell? ⟨ad151.block, ad151.off + 7, none⟩ = some (.int .i64 (rd x4_1 7)) ∧ w'.cell? ⟨ad151.block, ad151.off + 8, none⟩ = some (.int .i64 (rd x4_1 8)) ∧ w'.cell? ⟨ad151.block, ad151.off + 9, none⟩ = some (.int .i64 (rd x4_1 9))) (ds := []) #[false, false, false, false, false, false, false, false, false, false, false, false, false, false, false, false, false, false, false, false, false, false, false, false, false, false, false, false, false, false, false, false, false, false, false, false] (by kernel_rfl) rfl rfl ⟨hx151_0, hx152_0, hx153_0, hx154_0, hx155_0, hx156_0, hx157_0, hx158_0, hx159_0, hx160_0⟩ (fun hHeld => ?_); refine with_tabW spec_ReadCred.tab11 spec_ReadCred.bits11 (fun HT_ HW_ => ?_)
               generalize wr.drew = w66 at HO_4 BK141 HB hx151_0 hx152_0 hx153_0 hx154_0 hx155_0 hx156_0 hx157_0 hx158_0 hx159_0 hx160_0 hHeld ⊢
               refine pureZ_ (i := 0) (some 31) #[true, false, false, false, false, false, false, false, false, false, false, false, false, false, false, false, false, false, false, false, false, false, false, false, false, false, false, false, false, false, false, false, false, false, false, false] (any_of HT_.out (by kernel_rfl)) ?_
               refine pureZ_ (i := 1) (some 32) #[true, true, false, false, false, false, false, false, false, false, false, false, false, false, false, false, false, false, false, false, false, false, false, false, false, false, false, false, false, false, false, false, false, false, false, false] (any_of HT_.out (by kernel_rfl)) ?_
               refine pureZ_ (i := 3) (some 34) #[true, true, false, true, false, false, false, false, false, false, false, false, false, false, false, false, false, false, false, false, false, false, false, false, false, false, false, false, false, false, false, false, false, false, false, false] (any_of HT_.out (by kernel_rfl)) ?_
               refine pureZ_ (i := 4) (some 35) #[true, true, false, true, true, false, false, false, false, false, false, false, false, false, false, false, false, false, false, false, false, false, false, false, false, false, false, false, false, false, false, false, false, false, false, false] (any_of HT_.out (by kernel_rfl)) ?_
               refine pureZ_ (i := 6) (some 37) #[true, true, false, true, true, false, true, false, false, false, false, false, false, false, false, false, false, false, false, false, false, false, false, false, false, false, false, false, false, false, false, false, false, false, false, false] (any_of HT_.out (by kernel_rfl)) ?_
               refine pureZ_ (i := 7) (some 38) #[true, true, false, true, true, false, true, true, false, false, false, false, false, false, false, false, false, false, false, false, false, false, false, false, false, false, false, false, false, false, false, false, false, false, false, false] (any_of HT_.out (by kernel_rfl)) ?_
               refine pureZ_ (i := 10) (some 41) #[true, true, false, true, true, false, true, true, false, false, true, false, false, false, false, false, false, false, false, false, false, false, false, false, false, false, false, false, false, false, false, false, false, false, false, false] (any_of HT_.out (by kernel_rfl)) ?_
               refine pureZ_ (i := 11) (some 42) #[true, true, false, true, true, false, true, true, false, false, true, true, false, false, false, false, false, false, false, false, false, false, false, false, false, false, false, false, false, false, false, false, false, false, false, false] (any_of HT_.out (by kernel_rfl)) ?_
               refine pureZ_ (i := 13) (some 44) #[true, true, false, true, true, false, true, true, false, false, true, true, false, true, false, false, false, false, false, false, false, false, false, false, false, false, false, false, false, false, false, false, false, false, false, false] (any_of HT_.out (by kernel_rfl)) ?_
               refine pureZ_ (i := 14) (some 45) #[true, true, false, true, true, false, true, true, false, false, true, true, false, true, true, false, false, false, false, false, false, false, false, false, false, false, false, false, false, false, false, false, false, false, false, false] (any_of HT_.out (by kernel_rfl)) ?_
               refine pureZ_ (i := 16) (some 47) #[true, true, false, true, true, false, true, true, false, false, true, true, false, true, true, false, true, false, false, false, false, false, false, false, false, false, false, false, false, false, false, false, false, false, false, false] (any_of HT_.out (by kernel_rfl)) ?_
               refine pureZ_ (i := 17) (some 48) #[true, true, false, true, true, false, true, true, false, false, true, true, false, true, true, false, true, true, false, false, false, false, false, false, false, false, false, false, false, false, false, false, false, false, false, false] (any_of HT_.out (by kernel_rfl)) ?_
               refine pureZ_ (i := 20) (some 51) #[true, true, false, true, true, false, true, true, false, false, true, true, false, true, true, false, true, true, false, false, true, false, false, false, false, false, false, false, false, false, false, false, false, false, false, false] (any_of HT_.out (by kernel_rfl)) ?_
               refine pureZ_ (i := 21) (some 52) #[true, true, false, true, true, false, true, true, false, false, true, true, false, true, true, false, true, true, false, false, true, true, false, false, false, false, false, false, false, false, false, false, false, false, false, false] (any_of HT_.out (by kernel_rfl)) ?_
               refine pureZ_ (i := 23) (some 54) #[true, true, false, true, true, false, true, true, false, false, true, true, false, true, true, false, true, true, false, false, true, true, false, true, false, false, false, false, false, false, false, false, false, false, false, false] (any_of HT_.out (by kernel_rfl)) ?_
               refine pureZ_ (i := 24) (some 55) #[true, true, false, true, true, false, true, true, false, false, true, true, false, true, true, false, true, true, false, false, true, true, false, true, true, false, false, false, false, false, false, false, false, false, false, false] (any_of HT_.out (by kernel_rfl)) ?_
               refine pureZ_ (i := 27) (some 58) #[true, true, false, true, true, false, true, true, false, false, true, true, false, true, true, false, true, true, false, false, true, true, false, true, true, false, false, true, false, false, false, false, false, false, false, false] (any_of HT_.out (by kernel_rfl)) ?_
               refine pureZ_ (i := 28) (some 59) #[true, true, false, true, true, false, true, true, false, false, true, true, false, true, true, false, true, true, false, false, true, true, false, true, true, false, false, true, true, false, false, false, false, false, false, false] (any_of HT_.out (by kernel_rfl)) ?_
               refine pureZ_ (i := 30) (some 61) #[true, true, false, true, true, false, true, true, false, false, true, true, false, true, true, false, true, true, false, false, true, true, false, true, true, false, false, true, true, false, true, false, false, false, false, false] (any_of HT_.out (by kernel_rfl)) ?_
               refine pureZ_ (i := 31) (some 62) #[true, true, false, true, true, false, true, true, false, false, true, true, false, true, true, false, true, true, false, false, true, true, false, true, true, false, false, true, true, false, true, true, false, false, false, false] (any_of HT_.out (by kernel_rfl)) ?_
               refine takeZ_ (i := 2) (some 33) #[true, true, true, true, true, false, true, true, false, false, true, true, false, true, true, false, true, true, false, false, true, true, false, true, true, false, false, true, true, false, true, true, false, false, false, false] (take_ofW HT_.out HW_.out (by kernel_rfl)) hHeld ?_
               refine takeZ_ (i := 5) (some 36) #[true, true, true, true, true, true, true, true, false, false, true, true, false, true, true, false, true, true, false, false, true, true, false, true, true, false, false, true, true, false, true, true, false, false, false, false] (take_ofW HT_.out HW_.out (by kernel_rfl)) hHeld ?_
               refine takeZ_ (i := 8) (some 39) #[true, true, true, true, true, true, true, true, true, false, true, true, false, true, true, false, true, true, false, false, true, true, false, true, true, false, false, true, true, false, true, true, false, false, false, false] (take_ofW HT_.out HW_.out (by kernel_rfl)) hHeld ?_
               refine pureZ_ (i := 9) (some 40) #[true, true, true, true, true, true, true, true, true, true, true, true, false, true, true, false, true, true, false, false, true, true, false, true, true, false, false, true, true, false, true, true, false, false, false, false] (any_of HT_.out (by kernel_rfl)) ?_
               refine takeZ_ (i := 12) (some 43) #[true, true, true, true, true, true, true, true, true, true, true, true, true, true, true, false, true, true, false, false, true, true, false, true, true, false, false, true, true, false, true, true, false, false, false, false] (take_ofW HT_.out HW_.out (by kernel_rfl)) hHeld ?_
               refine takeZ_ (i := 15) (some 46) #[true, true, true, true, true, true, true, true, true, true, true, true, true, true, true, true, true, true, false, false, true, true, false, true, true, false, false, true, true, false, true, true, false, false, false, false] (take_ofW HT_.out HW_.out (by kernel_rfl)) hHeld ?_
               refine takeZ_ (i := 18) (some 49) #[true, true, true, true, true, true, true, true, true, true, true, true, true, true, true, true, true, true, true, false, true, true, false, true, true, false, false, true, true, false, true, true, false, false, false, false] (take_ofW HT_.out HW_.out (by kernel_rfl)) hHeld ?_
               refine pureZ_ (i := 19) (some 50) #[true, true, true, true, true, true, true, true, true, true, true, true, true, true, true, true, true, true, true, true, true, true, false, true, true, false, false, true, true, false, true, true, false, false, false, false] (any_of HT_.out (by kernel_rfl)) ?_
               refine takeZ_ (i := 22) (some 53) #[true, true, true, true, true, true, true, true, true, true, true, true, true, true, true, true, true, true, true, true, true, true, true, true, true, false, false, true, true, false, true, true, false, false, false, false] (take_ofW HT_.out HW_.out (by kernel_rfl)) hHeld ?_
               refine takeZ_ (i := 25) (some 56) #[true, true, true, true, true, true, true, true, true, true, true, true, true, true, true, true, true, true, true, true, true, true, true, true, true, true, false, true, true, false, true, true, false, false, false, false] (take_ofW HT_.out HW_.out (by kernel_rfl)) hHeld ?_
               refine pureZ_ (i := 26) (some 57) #[true, true, true, true, true, true, true, true, true, true, true, true, true, true, true, true, true, true, true, true, true, true, true, true, true, true, true, true, true, false, true, true, false, false, false, false] (any_of HT_.out (by kernel_rfl)) ?_
               refine takeZ_ (i := 29) (some 60) #[true, true, true, true, true, true, true, true, true, true, true, true, true, true, true, true, true, true, true, true, true, true, true, true, true, true, true, true, true, true, true, true, false, false, false, false] (take_ofW HT_.out HW_.out (by kernel_rfl)) hHeld ?_
               refine takeZ_ (i := 32) (some 63) #[true, true, true, true, true, true, true, true, true, true, true, true, true, true, true, true, true, true, true, true, true, true, true, true, true, true, true, true, true, true, true, true, true, false, false, false] (take_ofW HT_.out HW_.out (by kernel_rfl)) hHeld ?_
               refine pureZ_ (i := 33) (some 64) #[true, true, true, true, true, true, true, true, true, true, true, true, true, true, true, true, true, true, true, true, true, true, true, true, true, true, true, true, true, true, true, true, true, true, false, false] (any_of HT_.out (by kernel_rfl)) ?_
               refine one_ (i := 34) (N := some 10) #[true, true, true, true, true, true, true, true, true, true, true, true, true, true, true, true, true, true, true, true, true, true, true, true, true, true, true, true, true, true, true, true, true, true, true, false] rfl rfl (one_of HT_.out (by kernel_rfl)) (by decide) (fun K hK => ?_)
               refine box_step ?hg (N := 10) ?hd (cs := #[.int .i64 0, .int .i64 0, .int .i64 0, .int .i64 0, .int .i64 0, .int .i64 0, .int .i64 0, .int .i64 0, .int .i64 0, .int .i64 0]) (t := 31) ?hr ?_; (case hd => rfl); (case hg => rfl); (case hr => first | (go_simp; done) | (go_simp; rfl))
               intro gb161 hg w68 hbox hb
               have HS0_ := (hb.cell (World.block_lt_of_cell? _ _ (hHeld.1))).trans (hHeld.1)
               have HS1_ := (hb.cell (World.block_lt_of_cell? _ _ (hHeld.2.1))).trans (hHeld.2.1)
               have HS2_ := (hb.cell (World.block_lt_of_cell? _ _ (hHeld.2.2.1))).trans (hHeld.2.2.1)
               have HS3_ := (hb.cell (World.block_lt_of_cell? _ _ (hHeld.2.2.2.1))).trans (hHeld.2.2.2.1)
               have HS4_ := (hb.cell (World.block_lt_of_cell? _ _ (hHeld.2.2.2.2.1))).trans (hHeld.2.2.2.2.1)
               have HS5_ := (hb.cell (World.block_lt_of_cell? _ _ (hHeld.2.2.2.2.2.1))).trans (hHeld.2.2.2.2.2.1)
               have HS6_ := (hb.cell (World.block_lt_of_cell? _ _ (hHeld.2.2.2.2.2.2.1))).trans (hHeld.2.2.2.2.2.2.1)
               have HS7_ := (hb.cell (World.block_lt_of_cell? _ _ (hHeld.2.2.2.2.2.2.2.1))).trans (hHeld.2.2.2.2.2.2.2.1)
               have HS8_ := (hb.cell (World.block_lt_of_cell? _ _ (hHeld.2.2.2.2.2.2.2.2.1))).trans (hHeld.2.2.2.2.2.2.2.2.1)
               have HS9_ := (hb.cell (World.block_lt_of_cell? _ _ (hHeld.2.2.2.2.2.2.2.2.2))).trans (hHeld.2.2.2.2.2.2.2.2.2)
               replace HO_4 := Aside0.mk (Kd.R_below (by (with_reducible repeat (first | apply Kd.R_alloc | apply Kd.R_drewN | apply Kd.R_drew)); exact HO_4.out) hb)
               have BK161 := Aside0.mk (hbox)
               have GW161 := gs_ hg
               have GE161 := gs_ hg
               replace HB := hbs_ hb
               have NB141_161 := Aside0.mk ((by rw [hg]; exact Nat.ne_of_lt (blk_lt (g := gb141) (o := .cells #[.int .i64 x142000_1, .int .i64 x142001_1, .int .i64 x142002_1, .int .i64 x142003_1, .int .i64 x142004_1, .int .i64 x142005_1, .int .i64 x142006_1, .int .i64 x142007_1, .int .i64 x142008_1, .int .i64 x142009_1] 31 (0, 0)) (bk_ BK141)) : gb141 ≠ gb161))
               have NB161_141 := Aside0.mk ((by rw [hg]; exact Nat.ne_of_gt (blk_lt (g := gb141) (o := .cells #[.int .i64 x142000_1, .int .i64 x142001_1, .int .i64 x142002_1, .int .i64 x142003_1, .int .i64 x142004_1, .int .i64 x142005_1, .int .i64 x142006_1, .int .i64 x142007_1, .int .i64 x142008_1, .int .i64 x142009_1] 31 (0, 0)) (bk_ BK141)) : gb161 ≠ gb141))
               replace BK141 := bkb_ BK141 hb
               clear hb hbox hg
               refine hK.out _ _ ⟨HS0_, HS1_, HS2_, HS3_, HS4_, HS5_, HS6_, HS7_, HS8_, HS9_⟩ (fun hHeld => ?_)
               clear hK K
               refine norm_ (a' := ?_) ?_ ?_
               rotate_left
               ·show Act.put _ (some 10) _ = _
                simp only [Act.put, List.setIfInBounds_toArray, List.set_cons_zero, List.set_cons_succ, i64_w, i32_w]
                rfl
               refine one_ (i := 35) (N := none) #[true, true, true, true, true, true, true, true, true, true, true, true, true, true, true, true, true, true, true, true, true, true, true, true, true, true, true, true, true, true, true, true, true, true, true, true] rfl rfl (one_of HT_.out (by kernel_rfl)) (by decide) (fun K hK => ?_)
               have hs69 : w68.cell? ⟨gb161, 0, none⟩ = some (.int .i64 0) := (blk_cell BK161.out 0).trans rfl
               have hfs69 := blk_frozen BK161.out 0
               have hns69_0 := NB141_161.out
               have hms69_0 := NB161_141.out
               have hs70 : w68.cell? ⟨gb161, 1, none⟩ = some (.int .i64 0) := (blk_cell BK161.out 1).trans rfl
               have hfs70 := blk_frozen BK161.out 1
               have hns70_0 := NB141_161.out
               have hms70_0 := NB161_141.out
               have hs71 : w68.cell? ⟨gb161, 2, none⟩ = some (.int .i64 0) := (blk_cell BK161.out 2).trans rfl
               have hfs71 := blk_frozen BK161.out 2
               have hns71_0 := NB141_161.out
               have hms71_0 := NB161_141.out
               have hs72 : w68.cell? ⟨gb161, 3, none⟩ = some (.int .i64 0) := (blk_cell BK161.out 3).trans rfl
               have hfs72 := blk_frozen BK161.out 3
               have hns72_0 := NB141_161.out
               have hms72_0 := NB161_141.out
               have hs73 : w68.cell? ⟨gb161, 4, none⟩ = some (.int .i64 0) := (blk_cell BK161.out 4).trans rfl
               have hfs73 := blk_frozen BK161.out 4
               have hns73_0 := NB141_161.out
               have hms73_0 := NB161_141.out
               have hs74 : w68.cell? ⟨gb161, 5, none⟩ = some (.int .i64 0) := (blk_cell BK161.out 5).trans rfl
               have hfs74 := blk_frozen BK161.out 5
               have hns74_0 := NB141_161.out
               have hms74_0 := NB161_141.out
               have hs75 : w68.cell? ⟨gb161, 6, none⟩ = some (.int .i64 0) := (blk_cell BK161.out 6).trans rfl
               have hfs75 := blk_frozen BK161.out 6
               have hns75_0 := NB141_161.out
               have hms75_0 := NB161_141.out
               have hs76 : w68.cell? ⟨gb161, 7, none⟩ = some (.int .i64 0) := (blk_cell BK161.out 7).trans rfl
               have hfs76 := blk_frozen BK161.out 7
               have hns76_0 := NB141_161.out
               have hms76_0 := NB161_141.out
               have hs77 : w68.cell? ⟨gb161, 8, none⟩ = some (.int .i64 0) := (blk_cell BK161.out 8).trans rfl
               have hfs77 := blk_frozen BK161.out 8
               have hns77_0 := NB141_161.out
               have hms77_0 := NB161_141.out
               have hs78 : w68.cell? ⟨gb161, 9, none⟩ = some (.int .i64 0) := (blk_cell BK161.out 9).trans rfl
               have hfs78 := blk_frozen BK161.out 9
               have hns78_0 := NB141_161.out
               have hms78_0 := NB161_141.out
               refine skip_ (w1 := ?_) (by rfl) rfl ?_ ?_
               rotate_left
               ·go_simp
                rfl
               refine hK.out _ _ ⟨(cf10_ (g := gb161) (hHeld.1) (Kd.own_blk (Kd.R_ne HO_4.out BK161.out (by decide)))), (cf10_ (g := gb161) (hHeld.2.1) (Kd.own_blk (Kd.R_ne HO_4.out BK161.out (by decide)))), (cf10_ (g := gb161) (hHeld.2.2.1) (Kd.own_blk (Kd.R_ne HO_4.out BK161.out (by decide)))), (cf10_ (g := gb161) (hHeld.2.2.2.1) (Kd.own_blk (Kd.R_ne HO_4.out BK161.out (by decide)))), (cf10_ (g := gb161) (hHeld.2.2.2.2.1) (Kd.own_blk (Kd.R_ne HO_4.out BK161.out (by decide)))), (cf10_ (g := gb161) (hHeld.2.2.2.2.2.1) (Kd.own_blk (Kd.R_ne HO_4.out BK161.out (by decide)))), (cf10_ (g := gb161) (hHeld.2.2.2.2.2.2.1) (Kd.own_blk (Kd.R_ne HO_4.out BK161.out (by decide)))), (cf10_ (g := gb161) (hHeld.2.2.2.2.2.2.2.1) (Kd.own_blk (Kd.R_ne HO_4.out BK161.out (by decide)))), (cf10_ (g := gb161) (hHeld.2.2.2.2.2.2.2.2.1) (Kd.own_blk (Kd.R_ne HO_4.out BK161.out (by decide)))), (cf10_ (g := gb161) (hHeld.2.2.2.2.2.2.2.2.2) (Kd.own_blk (Kd.R_ne HO_4.out BK161.out (by decide))))⟩ (fun hHeld => ?_)
               clear hK K
               refine done_ (done_of HT_.out (by kernel_rfl)) ?_
               have hnb79 := NB161_141.out
               have hnc79 := NB141_161.out
               have hcz80 := blk_cell BK161.out
               have hfz80 := blk_frozen BK161.out
               try go_wp2_with (first | ((with_reducible refine gate_callee (f := 26) rfl ?_); refine goesC_ (some 66) Try.func26 #[.agg #[.int .i64 (rd x4_1 0), .int .i64 (rd x4_1 1), .int .i64 (rd x4_1 2), .int .i64 (rd x4_1 3), .int .i64 (rd x4_1 4), .int .i64 (rd x4_1 5), .int .i64 (rd x4_1 6), .int .i64 (rd x4_1 7), .int .i64 (rd x4_1 8), .int .i64 (rd x4_1 9)]] ?_; (with_reducible refine (spec_CredOk.calls k1 (rd x4_1 0) (rd x4_1 1) (rd x4_1 2) (rd x4_1 3) (rd x4_1 4) (rd x4_1 5) (rd x4_1 6) (rd x4_1 7) (rd x4_1 8) (rd x4_1 9) false _ A23.out).mono ?_); rintro e w81 ⟨rfl, hb⟩; refine ⟨_, rfl, ?_⟩; replace HO_4 := Aside0.mk (Kd.R_below (by (with_reducible repeat (first | apply Kd.R_alloc | apply Kd.R_drewN | apply Kd.R_drew)); exact (Kd.R_mono (Kd.R_far (p := ⟨gb161, 9, none⟩) (Kd.R_far (p := ⟨gb161, 8, none⟩) (Kd.R_far (p := ⟨gb161, 7, none⟩) (Kd.R_far (p := ⟨gb161, 6, none⟩) (Kd.R_far (p := ⟨gb161, 5, none⟩) (Kd.R_far (p := ⟨gb161, 4, none⟩) (Kd.R_far (p := ⟨gb161, 3, none⟩) (Kd.R_far (p := ⟨gb161, 2, none⟩) (Kd.R_far (p := ⟨gb161, 1, none⟩) (Kd.R_far (p := ⟨gb161, 0, none⟩) (Kd.R_types HO_4.out BK161.out (by decide)) (fun _ hk => hk.2) (.int .i64 (rd x4_1 0))) (fun _ hk => hk.2) (.int .i64 (rd x4_1 1))) (fun _ hk => hk.2) (.int .i64 (rd x4_1 2))) (fun _ hk => hk.2) (.int .i64 (rd x4_1 3))) (fun _ hk => hk.2) (.int .i64 (rd x4_1 4))) (fun _ hk => hk.2) (.int .i64 (rd x4_1 5))) (fun _ hk => hk.2) (.int .i64 (rd x4_1 6))) (fun _ hk => hk.2) (.int .i64 (rd x4_1 7))) (fun _ hk => hk.2) (.int .i64 (rd x4_1 8))) (fun _ hk => hk.2) (.int .i64 (rd x4_1 9))) (fun _ h_ => h_.1))) hb); replace BK141 := Aside0.mk (blk_below (g := gb141) (o := .cells #[.int .i64 x142000_1, .int .i64 x142001_1, .int .i64 x142002_1, .int .i64 x142003_1, .int .i64 x142004_1, .int .i64 x142005_1, .int .i64 x142006_1, .int .i64 x142007_1, .int .i64 x142008_1, .int .i64 x142009_1] 31 (0, 0)) (bk_ BK141) hb); replace BK161 := Aside0.mk (blk_below (g := gb161) (o := .cells #[.int .i64 (rd x4_1 0), .int .i64 (rd x4_1 1), .int .i64 (rd x4_1 2), .int .i64 (rd x4_1 3), .int .i64 (rd x4_1 4), .int .i64 (rd x4_1 5), .int .i64 (rd x4_1 6), .int .i64 (rd x4_1 7), .int .i64 (rd x4_1 8), .int .i64 (rd x4_1 9)] 31 (0, 0)) (bk_ BK161) hb); replace HB := hbs_ hb; clear hb; have hcz82 := blk_cell BK141.out; have hfz82 := blk_frozen BK141.out))
               refine bodyPost_ret (results_ct rfl _ _ gb141 31 #[.int .i64 0, .int .i64 0, .int .i64 0, .int .i64 0, .int .i64 0, .int .i64 0, .int .i64 0, .int .i64 0, .int .i64 0, .int .i64 0] (0, 0) _ rfl (bk_ BK141) Try.underlying31 rfl (by kernel_rfl)) rfl ?_
               exact ⟨eq_, bl_⟩
             ·rw [if_neg c22] at H
              exact absurd H (by simp)
            ·rw [if_neg c21] at H
             exact absurd H (by simp)
           ·rw [if_neg c20] at H
            exact absurd H (by simp)
          ·rw [if_neg c19] at H
           exact absurd H (by simp)
         ·rw [if_neg c18] at H
          exact absurd H (by simp)
        ·rw [if_neg c17] at H
         exact absurd H (by simp)
       ·rw [if_neg c16] at H
        exact absurd H (by simp)
      ·rw [if_neg c15] at H
       exact absurd H (by simp)
     ·rw [if_neg c14] at H
      exact absurd H (by simp)
    ·rw [if_neg c13] at H
     exact absurd H (by simp)
end Go.Proofs.Yteppfdkfikeclaa.PL
