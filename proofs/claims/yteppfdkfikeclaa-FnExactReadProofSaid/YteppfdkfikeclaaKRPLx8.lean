import Derived.Test.YteppfdkfikeclaaKRPLx7
-- A text of this claim: written by the session's own program out of the translation (wip/tools). Lean checks it.
namespace Go.Proofs.Yteppfdkfikeclaa.PL
open Go.RowKit Go.Proofs.YteppfdkfikeclaaW.PrintWords Go.Proofs.YteppfdkfikeclaaW.PrintLast Go.Proofs.YteppfdkfikeclaaW.PrintMore
attribute [local go_sem] max2_int min2_int max_two min_two max_three min_three max_four min_four   -- for this text's walks alone
set_option linter.unusedVariables false
set_option linter.unusedSimpArgs false
def impl_ReadCred.j0 : Nat → List Int → Bool → Option (Int × Int × Int × Int × Int × Int × Int × Int × Int × Int × Bool)
 | 0, _, _ => none
 | k + 1, x4, x21 => if x21 = true then (some (0, 0, 0, 0, 0, 0, 0, 0, 0, 0, false)) else (if 0 < (x4.length : Int) then (if 1 < (x4.length : Int) then (if 2 < (x4.length : Int) then (if 3 < (x4.length : Int) then (if 4 < (x4.length : Int) then (if 5 < (x4.length : Int) then (if 6 < (x4.length : Int) then (if 7 < (x4.length : Int) then (if 8 < (x4.length : Int) then (if 9 < (x4.length : Int) then ((impl_CredOk.f k (rd x4 0) (rd x4 1) (rd x4 2) (rd x4 3) (rd x4 4) (rd x4 5) (rd x4 6) (rd x4 7) (rd x4 8) (rd x4 9)).bind fun t290 => (if t290 = true then (some (rd x4 0, rd x4 1, rd x4 2, rd x4 3, rd x4 4, rd x4 5, rd x4 6, rd x4 7, rd x4 8, rd x4 9, true)) else (some (0, 0, 0, 0, 0, 0, 0, 0, 0, 0, false)))) else (none)) else (none)) else (none)) else (none)) else (none)) else (none)) else (none)) else (none)) else (none)) else (none))
def impl_ReadCred.f (k : Nat) (a0 : ByteArray) : Option (Int × Int × Int × Int × Int × Int × Int × Int × Int × Int × Bool) := (impl_readVars.f k a0 0 10).bind fun bt274 => (if bt274.2.2 = true then (impl_ReadCred.j0 k bt274.1 (bt274.2.1 != (a0.size : Int))) else (impl_ReadCred.j0 k bt274.1 true))
def impl_ReadCred.T4 : Bool × List (List Nat × List Nat) := (true, [([], []), ([0], [0]), ([1], [1]), ([], []), ([3], [3]), ([4], [4]), ([], []), ([6], [6]), ([7], [7]), ([5, 8], [5, 8]), ([], []), ([10], [10]), ([11], [11]), ([], []), ([13], [13]), ([14], [14]), ([], []), ([16], [16]), ([17], [17]), ([15, 18], [15, 18]), ([], []), ([20], [20]), ([21], [21]), ([], []), ([23], [23]), ([24], [24]), ([22, 25], [22, 25]), ([], []), ([27], [27]), ([28], [28]), ([], []), ([30], [30]), ([31], [31]), ([2, 9, 12, 19, 26, 29, 32], [2, 9, 12, 19, 26, 29, 32]), ([], []), ([34, 33, 0, 1, 2, 3, 4, 5, 6, 7, 8, 9, 10, 11, 12, 13, 14, 15, 16, 17, 18, 19, 20, 21, 22, 23, 24, 25, 26, 27, 28, 29, 30, 31, 32, 33, 34], [33, 34])])
def impl_ReadCred.B4 : List Nat := [0, 1, 3, 0, 8, 24, 0, 64, 192, 504, 0, 1024, 3072, 0, 8192, 24576, 0, 65536, 196608, 516096, 0, 1048576, 3145728, 0, 8388608, 25165824, 66060288, 0, 134217728, 402653184, 0, 1073741824, 3221225472, 8589934591, 0, 34359738367]
theorem impl_ReadCred.tab4 : rtab .any (opsOf Try.f20 4) = impl_ReadCred.T4 := by kernel_rfl
theorem impl_ReadCred.bits4 : waitsOk impl_ReadCred.T4.2 impl_ReadCred.B4 = true := by kernel_rfl
set_option maxHeartbeats 8000000 in
set_option maxRecDepth 100000 in
theorem impl_ReadCred.calls (k : Nat) (a0 : ByteArray) (r1 : Int) (r2 : Int) (r3 : Int) (r4 : Int) (r5 : Int) (r6 : Int) (r7 : Int) (r8 : Int) (r9 : Int) (r10 : Int) (r11 : Bool) (w : World) (h : impl_ReadCred.f k a0 = some (r1, r2, r3, r4, r5, r6, r7, r8, r9, r10, r11)) :
  Calls Try.prog 20 #[.string a0] w fun e w' => e = .returned (.tuple #[.agg #[.int .i64 r1, .int .i64 r2, .int .i64 r3, .int .i64 r4, .int .i64 r5, .int .i64 r6, .int .i64 r7, .int .i64 r8, .int .i64 r9, .int .i64 r10], .bool r11]) ∧ Below w.heap.size w w' := by
 have hu31 := Try.underlying31
 have hu29 := Try.underlying29
 have HB := Aside0.mk (Below.refl w.heap.size w)
 have H : ((impl_readVars.f k a0 0 10).bind fun bt274 => (if bt274.2.2 = true then (impl_ReadCred.j0 k bt274.1 (bt274.2.1 != (a0.size : Int))) else (impl_ReadCred.j0 k bt274.1 true))) = some (r1, r2, r3, r4, r5, r6, r7, r8, r9, r10, r11) := h
 clear h
 obtain ⟨⟨t274, t275, t276⟩, A2, H⟩ := bindE_ H
 replace H : (if t276 = true then (impl_ReadCred.j0 k t274 (t275 != (a0.size : Int))) else (impl_ReadCred.j0 k t274 true)) = some (r1, r2, r3, r4, r5, r6, r7, r8, r9, r10, r11) := H
 have HC3 := Aside0.mk H
 clear H
 go_enter Try.func20, Try.ntmps20
 go_upto_region 2 with (first | ((with_reducible refine gate_dst (N := 2) rfl ?_); (try (refine gate_guard (by rfl) ?_; dsimp only)); refine box_event ?hg (N := 2) ?hd (cs := #[.int .i64 0, .int .i64 0, .int .i64 0, .int .i64 0, .int .i64 0, .int .i64 0, .int .i64 0, .int .i64 0, .int .i64 0, .int .i64 0]) (t := 31) ?hr ?_; (case hd => rfl); (case hg => rfl); (case hr => first | (go_simp; done) | (go_simp; rfl)); intro gb273 hg w4 hbox hb; have BK273 := Aside0.mk (hbox); have GW273 := gs_ hg; have GE273 := gs_ hg; replace HB := hbs_ hb; clear hb hbox hg) | ((with_reducible refine gate_callee (f := 21) rfl ?_); refine goesC_ (some 10) Try.func21 #[.string a0, .int .i64 0, .int .i64 10] ?_; (with_reducible refine (impl_readVars.calls k a0 0 10 t274 t275 t276 _ A2.out).mono ?_); rintro e w5 ⟨v277, rfl, ho0, hb⟩; refine ⟨_, rfl, ?_⟩; have HO278 := Aside0.mk (Kd.R_lower ho0 bls_); replace BK273 := bkb_ BK273 hb; replace HB := hbs_ hb; (try clear hb); (try clear hb2); (try clear hk); (try clear hi); (try clear ho0)))
 (try simp only [Act.put, List.setIfInBounds_toArray, List.set_cons_zero, List.set_cons_succ])
 go_cut [21] (fun v21 wc => ∃ (kq : Nat) (x21_2 : Bool), v21 = .bool x21_2 ∧ Aside0 (impl_ReadCred.j0 kq t274 x21_2 = some (r1, r2, r3, r4, r5, r6, r7, r8, r9, r10, r11)) ∧ Aside0 (kq ≤ k) ∧ Aside0 (Kd.R (Kd.int .i64) 3 wc w.heap.size (fun _ => True) v277 t274) ∧ Aside0 (wc.heap[gb273]? = some (.cells #[.int .i64 0, .int .i64 0, .int .i64 0, .int .i64 0, .int .i64 0, .int .i64 0, .int .i64 0, .int .i64 0, .int .i64 0, .int .i64 0] 31 (0, 0))) ∧ Aside0 (Below w.heap.size w wc))
 case first =>
  have H := HC3.out
  clear HC3
  by_cases c6 : t276 = true
  ·subst c6
   replace H := ite_t_ H
   have H' := Aside0.mk H
   clear H
   go_wp2
   go_meet
   case rel => exact ⟨_, ((t275 != (a0.size : Int))), (by first | rfl | (simp; done) | (simp [*]; done)), H', ⟨by first | omega | exact Nat.le_refl _⟩, ⟨by (with_reducible repeat (first | apply Kd.R_alloc | apply Kd.R_drewN | apply Kd.R_drew)); exact HO278.out⟩, ⟨bk_ BK273⟩, ⟨bl_⟩⟩
  ·replace c6 := Bool.eq_false_iff.mpr c6
   subst c6
   replace H := ite_f_ H
   have H' := Aside0.mk H
   clear H
   go_wp2
   go_meet
   case rel => exact ⟨_, (true), (by first | rfl | (simp; done) | (simp [*]; done)), H', ⟨by first | omega | exact Nat.le_refl _⟩, ⟨by (with_reducible repeat (first | apply Kd.R_alloc | apply Kd.R_drewN | apply Kd.R_drew)); exact HO278.out⟩, ⟨bk_ BK273⟩, ⟨bl_⟩⟩
 case rest =>
  clear HC3
  try clear c2
  try clear p2
  try clear c6
  obtain ⟨kq, x21_2, rfl, HA, HJ2, HO_4, BK273, HB⟩ := hcut
  cases kq with
  | zero => exact absurd HA.out (by simp [impl_ReadCred.j0])
  | succ kj2 =>
   have H := HA.out
   clear HA
   simp only [impl_ReadCred.j0] at H
   by_cases c7 : x21_2 = true
   ·subst c7
    replace H := ite_t_ H
    simp only [Option.some.injEq, Prod.mk.injEq] at H
    obtain ⟨rfl, rfl, rfl, rfl, rfl, rfl, rfl, rfl, rfl, rfl, rfl⟩ := H
    have hcz8 := blk_cell BK273.out
    have hfz8 := blk_frozen BK273.out
    go_wp2
    refine bodyPost_ret (results_ct rfl _ _ gb273 31 #[.int .i64 0, .int .i64 0, .int .i64 0, .int .i64 0, .int .i64 0, .int .i64 0, .int .i64 0, .int .i64 0, .int .i64 0, .int .i64 0] (0, 0) _ rfl (bk_ BK273) Try.underlying31 rfl (by kernel_rfl)) rfl ?_
    exact ⟨eq_, bl_⟩
   ·replace c7 := Bool.eq_false_iff.mpr c7
    subst c7
    replace H := ite_f_ H
    by_cases c9 : 0 < (t274.length : Int)
    ·rw [if_pos c9] at H
     have c9b0 : decide (0 < (t274.length : Int)) = true := decide_eq_true c9
     have c9b1 : decide (0 < t274.length) = true := decide_eq_true (by omega)
     clear c9
     by_cases c10 : 1 < (t274.length : Int)
     ·rw [if_pos c10] at H
      have c10b0 : decide (1 < (t274.length : Int)) = true := decide_eq_true c10
      have c10b1 : decide (1 < t274.length) = true := decide_eq_true (by omega)
      clear c10
      by_cases c11 : 2 < (t274.length : Int)
      ·rw [if_pos c11] at H
       have c11b0 : decide (2 < (t274.length : Int)) = true := decide_eq_true c11
       have c11b1 : decide (2 < t274.length) = true := decide_eq_true (by omega)
       clear c11
       by_cases c12 : 3 < (t274.length : Int)
       ·rw [if_pos c12] at H
        have c12b0 : decide (3 < (t274.length : Int)) = true := decide_eq_true c12
        have c12b1 : decide (3 < t274.length) = true := decide_eq_true (by omega)
        clear c12
        by_cases c13 : 4 < (t274.length : Int)
        ·rw [if_pos c13] at H
         have c13b0 : decide (4 < (t274.length : Int)) = true := decide_eq_true c13
         have c13b1 : decide (4 < t274.length) = true := decide_eq_true (by omega)
         clear c13
         by_cases c14 : 5 < (t274.length : Int)
         ·rw [if_pos c14] at H
          have c14b0 : decide (5 < (t274.length : Int)) = true := decide_eq_true c14
          have c14b1 : decide (5 < t274.length) = true := decide_eq_true (by omega)
          clear c14
          by_cases c15 : 6 < (t274.length : Int)
          ·rw [if_pos c15] at H
           have c15b0 : decide (6 < (t274.length : Int)) = true := decide_eq_true c15
           have c15b1 : decide (6 < t274.length) = true := decide_eq_true (by omega)
           clear c15
           by_cases c16 : 7 < (t274.length : Int)
           ·rw [if_pos c16] at H
            have c16b0 : decide (7 < (t274.length : Int)) = true := decide_eq_true c16
            have c16b1 : decide (7 < t274.length) = true := decide_eq_true (by omega)
            clear c16
            by_cases c17 : 8 < (t274.length : Int)
            ·rw [if_pos c17] at H
             have c17b0 : decide (8 < (t274.length : Int)) = true := decide_eq_true c17
             have c17b1 : decide (8 < t274.length) = true := decide_eq_true (by omega)
             clear c17
             by_cases c18 : 9 < (t274.length : Int)
             ·rw [if_pos c18] at H
              have c18b0 : decide (9 < (t274.length : Int)) = true := decide_eq_true c18
              have c18b1 : decide (9 < t274.length) = true := decide_eq_true (by omega)
              clear c18
              obtain ⟨t290, A19, H⟩ := bindE_ H
              by_cases c20 : t290 = true
              ·subst c20
               replace H := ite_t_ H
               simp only [Option.some.injEq, Prod.mk.injEq] at H
               obtain ⟨rfl, rfl, rfl, rfl, rfl, rfl, rfl, rfl, rfl, rfl, rfl⟩ := H
               try go_wp2
               replace HO_4 := Aside0.mk (Kd.R_drew HO_4.out)
               replace BK273 := Aside0.mk (blk_drew BK273.out)
               replace HB := Aside0.mk (below_drew1 HB.out)
               obtain ⟨Ao22, co22, eo22⟩ := Kd.R_slice HO_4.out
               (first | subst eo22 | (injection eo22 with f1_ f2_ f3_; have f4_ := f1_.symm; have f5_ := f3_.symm; clear f1_ f2_ f3_; subst f4_; subst f5_))
               have p279 : 0 ≤ (0 : Int) := (by omega)
               have q279 : 0 < (t274.length : Int) := of_decide_eq_true (by first | (with_reducible assumption) | assumption)
               obtain ⟨ad279, e279, hx279_0⟩ := Kd.at_int (Kd.R_reads' HO_4.out).2.2 0 p279 q279
               cases e279
               have qi279 : (0 < t274.length) = True := eq_true (by omega)
               (try rw [show ((0 : Int)).toNat = 0 from rfl] at hx279_0)
               (try rw [Addr.add_zero'] at hx279_0)
               replace p279 := eq_true p279
               replace q279 := eq_true q279
               have p280 : 0 ≤ (1 : Int) := (by omega)
               have q280 : 1 < (t274.length : Int) := of_decide_eq_true (by first | (with_reducible assumption) | assumption)
               obtain ⟨ad280, e280, hx280_0⟩ := Kd.at_int (Kd.R_reads' HO_4.out).2.2 1 p280 q280
               obtain rfl : ad279 = ad280 := (by injection e280)
               (try simp only [show (1 : Int).toNat = 1 from rfl, Nat.reduceMul, Nat.reduceEqDiff, Go.Addr.add, ↓reduceIte] at hx280_0)
               have qi280 : (1 < t274.length) = True := eq_true (by omega)
               (try rw [show ((1 : Int)).toNat = 1 from rfl] at hx280_0)
               replace p280 := eq_true p280
               replace q280 := eq_true q280
               have p281 : 0 ≤ (2 : Int) := (by omega)
               have q281 : 2 < (t274.length : Int) := of_decide_eq_true (by first | (with_reducible assumption) | assumption)
               obtain ⟨ad281, e281, hx281_0⟩ := Kd.at_int (Kd.R_reads' HO_4.out).2.2 2 p281 q281
               obtain rfl : ad279 = ad281 := (by injection e281)
               (try simp only [show (2 : Int).toNat = 2 from rfl, Nat.reduceMul, Nat.reduceEqDiff, Go.Addr.add, ↓reduceIte] at hx281_0)
               have qi281 : (2 < t274.length) = True := eq_true (by omega)
               (try rw [show ((2 : Int)).toNat = 2 from rfl] at hx281_0)
               replace p281 := eq_true p281
               replace q281 := eq_true q281
               have p282 : 0 ≤ (3 : Int) := (by omega)
               have q282 : 3 < (t274.length : Int) := of_decide_eq_true (by first | (with_reducible assumption) | assumption)
               obtain ⟨ad282, e282, hx282_0⟩ := Kd.at_int (Kd.R_reads' HO_4.out).2.2 3 p282 q282
               obtain rfl : ad279 = ad282 := (by injection e282)
               (try simp only [show (3 : Int).toNat = 3 from rfl, Nat.reduceMul, Nat.reduceEqDiff, Go.Addr.add, ↓reduceIte] at hx282_0)
               have qi282 : (3 < t274.length) = True := eq_true (by omega)
               (try rw [show ((3 : Int)).toNat = 3 from rfl] at hx282_0)
               replace p282 := eq_true p282
               replace q282 := eq_true q282
               have p283 : 0 ≤ (4 : Int) := (by omega)
               have q283 : 4 < (t274.length : Int) := of_decide_eq_true (by first | (with_reducible assumption) | assumption)
               obtain ⟨ad283, e283, hx283_0⟩ := Kd.at_int (Kd.R_reads' HO_4.out).2.2 4 p283 q283
               obtain rfl : ad279 = ad283 := (by injection e283)
               (try simp only [show (4 : Int).toNat = 4 from rfl, Nat.reduceMul, Nat.reduceEqDiff, Go.Addr.add, ↓reduceIte] at hx283_0)
               have qi283 : (4 < t274.length) = True := eq_true (by omega)
               (try rw [show ((4 : Int)).toNat = 4 from rfl] at hx283_0)
               replace p283 := eq_true p283
               replace q283 := eq_true q283
               have p284 : 0 ≤ (5 : Int) := (by omega)
               have q284 : 5 < (t274.length : Int) := of_decide_eq_true (by first | (with_reducible assumption) | assumption)
               obtain ⟨ad284, e284, hx284_0⟩ := Kd.at_int (Kd.R_reads' HO_4.out).2.2 5 p284 q284
               obtain rfl : ad279 = ad284 := (by injection e284)
               (try simp only [show (5 : Int).toNat = 5 from rfl, Nat.reduceMul, Nat.reduceEqDiff, Go.Addr.add, ↓reduceIte] at hx284_0)
               have qi284 : (5 < t274.length) = True := eq_true (by omega)
               (try rw [show ((5 : Int)).toNat = 5 from rfl] at hx284_0)
               replace p284 := eq_true p284
               replace q284 := eq_true q284
               have p285 : 0 ≤ (6 : Int) := (by omega)
               have q285 : 6 < (t274.length : Int) := of_decide_eq_true (by first | (with_reducible assumption) | assumption)
               obtain ⟨ad285, e285, hx285_0⟩ := Kd.at_int (Kd.R_reads' HO_4.out).2.2 6 p285 q285
               obtain rfl : ad279 = ad285 := (by injection e285)
               (try simp only [show (6 : Int).toNat = 6 from rfl, Nat.reduceMul, Nat.reduceEqDiff, Go.Addr.add, ↓reduceIte] at hx285_0)
               have qi285 : (6 < t274.length) = True := eq_true (by omega)
               (try rw [show ((6 : Int)).toNat = 6 from rfl] at hx285_0)
               replace p285 := eq_true p285
               replace q285 := eq_true q285
               have p286 : 0 ≤ (7 : Int) := (by omega)
               have q286 : 7 < (t274.length : Int) := of_decide_eq_true (by first | (with_reducible assumption) | assumption)
               obtain ⟨ad286, e286, hx286_0⟩ := Kd.at_int (Kd.R_reads' HO_4.out).2.2 7 p286 q286
               obtain rfl : ad279 = ad286 := (by injection e286)
               (try simp only [show (7 : Int).toNat = 7 from rfl, Nat.reduceMul, Nat.reduceEqDiff, Go.Addr.add, ↓reduceIte] at hx286_0)
               have qi286 : (7 < t274.length) = True := eq_true (by omega)
               (try rw [show ((7 : Int)).toNat = 7 from rfl] at hx286_0)
               replace p286 := eq_true p286
               replace q286 := eq_true q286
               have p287 : 0 ≤ (8 : Int) := (by omega)
               have q287 : 8 < (t274.length : Int) := of_decide_eq_true (by first | (with_reducible assumption) | assumption)
               obtain ⟨ad287, e287, hx287_0⟩ := Kd.at_int (Kd.R_reads' HO_4.out).2.2 8 p287 q287
               obtain rfl : ad279 = ad287 := (by injection e287)
               (try simp only [show (8 : Int).toNat = 8 from rfl, Nat.reduceMul, Nat.reduceEqDiff, Go.Addr.add, ↓reduceIte] at hx287_0)
               have qi287 : (8 < t274.length) = True := eq_true (by omega)
               (try rw [show ((8 : Int)).toNat = 8 from rfl] at hx287_0)
               replace p287 := eq_true p287
               replace q287 := eq_true q287
               have p288 : 0 ≤ (9 : Int) := (by omega)
               have q288 : 9 < (t274.length : Int) := of_decide_eq_true (by first | (with_reducible assumption) | assumption)
               obtain ⟨ad288, e288, hx288_0⟩ := Kd.at_int (Kd.R_reads' HO_4.out).2.2 9 p288 q288
               obtain rfl : ad279 = ad288 := (by injection e288)
               (try simp only [show (9 : Int).toNat = 9 from rfl, Nat.reduceMul, Nat.reduceEqDiff, Go.Addr.add, ↓reduceIte] at hx288_0)
               have qi288 : (9 < t274.length) = True := eq_true (by omega)
               (try rw [show ((9 : Int)).toNat = 9 from rfl] at hx288_0)
               replace p288 := eq_true p288
               replace q288 := eq_true q288
               refine start_ (n := 36) (S := fun w' => w'.cell? ad279 = some (.int .i64 (rd t274 0)) ∧ w'.cell? ⟨ad279.block, ad279.off + 1, none⟩ = some (.int .i64 (rd t274 1)) ∧ w'.cell? ⟨ad279.block, ad279.off + 2, none⟩ = some (.int .i64 (rd t274 2)) ∧ w'.cell? ⟨ad279.block, ad279.off + 3, none⟩ = some (.int .i64 (rd t274 3)) ∧ w'.cell? ⟨ad279.block, ad279.off + 4, none⟩ = some (.int .i64 (rd t274 4)) ∧ w'.cell? ⟨ad279.block, ad279.off + 5, none⟩ = some (.int .i64 (rd t274 5)) ∧ w'.cell? ⟨ad279.block, ad279.off + 6, none⟩ = some (.int .i64 (rd t274 6)) ∧ w'.cell? ⟨ad279.block, ad279.off + 7, none⟩ = some (.int .i64 (rd t274 7)) ∧ w'.cell? ⟨ad279.block, ad279.off + 8, none⟩ = some (.int .i64 (rd t274 8)) ∧ w'.cell? ⟨ad279.block, ad279.off + 9, none⟩ = some (.int .i64 (rd t274 9))) (ds := []) #[false, false, false, false, false, false, false, false, false, false, false, false, false, false, false, false, false, false, false, false, false, false, false, false, false, false, false, false, false, false, false, false, false, false, false, false] (by kernel_rfl) rfl rfl ⟨hx279_0, hx280_0, hx281_0, hx282_0, hx283_0, hx284_0, hx285_0, hx286_0, hx287_0, hx288_0⟩ (fun hHeld => ?_); refine with_tabW impl_ReadCred.tab4 impl_ReadCred.bits4 (fun HT_ HW_ => ?_)
               generalize wc.drew = w21 at HO_4 BK273 HB hx279_0 hx280_0 hx281_0 hx282_0 hx283_0 hx284_0 hx285_0 hx286_0 hx287_0 hx288_0 hHeld ⊢
               refine pureZ_ (i := 0) (some 23) #[true, false, false, false, false, false, false, false, false, false, false, false, false, false, false, false, false, false, false, false, false, false, false, false, false, false, false, false, false, false, false, false, false, false, false, false] (any_of HT_.out (by kernel_rfl)) ?_
               refine pureZ_ (i := 1) (some 24) #[true, true, false, false, false, false, false, false, false, false, false, false, false, false, false, false, false, false, false, false, false, false, false, false, false, false, false, false, false, false, false, false, false, false, false, false] (any_of HT_.out (by kernel_rfl)) ?_
               refine pureZ_ (i := 3) (some 26) #[true, true, false, true, false, false, false, false, false, false, false, false, false, false, false, false, false, false, false, false, false, false, false, false, false, false, false, false, false, false, false, false, false, false, false, false] (any_of HT_.out (by kernel_rfl)) ?_
               refine pureZ_ (i := 4) (some 27) #[true, true, false, true, true, false, false, false, false, false, false, false, false, false, false, false, false, false, false, false, false, false, false, false, false, false, false, false, false, false, false, false, false, false, false, false] (any_of HT_.out (by kernel_rfl)) ?_
               refine pureZ_ (i := 6) (some 29) #[true, true, false, true, true, false, true, false, false, false, false, false, false, false, false, false, false, false, false, false, false, false, false, false, false, false, false, false, false, false, false, false, false, false, false, false] (any_of HT_.out (by kernel_rfl)) ?_
               refine pureZ_ (i := 7) (some 30) #[true, true, false, true, true, false, true, true, false, false, false, false, false, false, false, false, false, false, false, false, false, false, false, false, false, false, false, false, false, false, false, false, false, false, false, false] (any_of HT_.out (by kernel_rfl)) ?_
               refine pureZ_ (i := 10) (some 33) #[true, true, false, true, true, false, true, true, false, false, true, false, false, false, false, false, false, false, false, false, false, false, false, false, false, false, false, false, false, false, false, false, false, false, false, false] (any_of HT_.out (by kernel_rfl)) ?_
               refine pureZ_ (i := 11) (some 34) #[true, true, false, true, true, false, true, true, false, false, true, true, false, false, false, false, false, false, false, false, false, false, false, false, false, false, false, false, false, false, false, false, false, false, false, false] (any_of HT_.out (by kernel_rfl)) ?_
               refine pureZ_ (i := 13) (some 36) #[true, true, false, true, true, false, true, true, false, false, true, true, false, true, false, false, false, false, false, false, false, false, false, false, false, false, false, false, false, false, false, false, false, false, false, false] (any_of HT_.out (by kernel_rfl)) ?_
               refine pureZ_ (i := 14) (some 37) #[true, true, false, true, true, false, true, true, false, false, true, true, false, true, true, false, false, false, false, false, false, false, false, false, false, false, false, false, false, false, false, false, false, false, false, false] (any_of HT_.out (by kernel_rfl)) ?_
               refine pureZ_ (i := 16) (some 39) #[true, true, false, true, true, false, true, true, false, false, true, true, false, true, true, false, true, false, false, false, false, false, false, false, false, false, false, false, false, false, false, false, false, false, false, false] (any_of HT_.out (by kernel_rfl)) ?_
               refine pureZ_ (i := 17) (some 40) #[true, true, false, true, true, false, true, true, false, false, true, true, false, true, true, false, true, true, false, false, false, false, false, false, false, false, false, false, false, false, false, false, false, false, false, false] (any_of HT_.out (by kernel_rfl)) ?_
               refine pureZ_ (i := 20) (some 43) #[true, true, false, true, true, false, true, true, false, false, true, true, false, true, true, false, true, true, false, false, true, false, false, false, false, false, false, false, false, false, false, false, false, false, false, false] (any_of HT_.out (by kernel_rfl)) ?_
               refine pureZ_ (i := 21) (some 44) #[true, true, false, true, true, false, true, true, false, false, true, true, false, true, true, false, true, true, false, false, true, true, false, false, false, false, false, false, false, false, false, false, false, false, false, false] (any_of HT_.out (by kernel_rfl)) ?_
               refine pureZ_ (i := 23) (some 46) #[true, true, false, true, true, false, true, true, false, false, true, true, false, true, true, false, true, true, false, false, true, true, false, true, false, false, false, false, false, false, false, false, false, false, false, false] (any_of HT_.out (by kernel_rfl)) ?_
               refine pureZ_ (i := 24) (some 47) #[true, true, false, true, true, false, true, true, false, false, true, true, false, true, true, false, true, true, false, false, true, true, false, true, true, false, false, false, false, false, false, false, false, false, false, false] (any_of HT_.out (by kernel_rfl)) ?_
               refine pureZ_ (i := 27) (some 50) #[true, true, false, true, true, false, true, true, false, false, true, true, false, true, true, false, true, true, false, false, true, true, false, true, true, false, false, true, false, false, false, false, false, false, false, false] (any_of HT_.out (by kernel_rfl)) ?_
               refine pureZ_ (i := 28) (some 51) #[true, true, false, true, true, false, true, true, false, false, true, true, false, true, true, false, true, true, false, false, true, true, false, true, true, false, false, true, true, false, false, false, false, false, false, false] (any_of HT_.out (by kernel_rfl)) ?_
               refine pureZ_ (i := 30) (some 53) #[true, true, false, true, true, false, true, true, false, false, true, true, false, true, true, false, true, true, false, false, true, true, false, true, true, false, false, true, true, false, true, false, false, false, false, false] (any_of HT_.out (by kernel_rfl)) ?_
               refine pureZ_ (i := 31) (some 54) #[true, true, false, true, true, false, true, true, false, false, true, true, false, true, true, false, true, true, false, false, true, true, false, true, true, false, false, true, true, false, true, true, false, false, false, false] (any_of HT_.out (by kernel_rfl)) ?_
               refine takeZ_ (i := 2) (some 25) #[true, true, true, true, true, false, true, true, false, false, true, true, false, true, true, false, true, true, false, false, true, true, false, true, true, false, false, true, true, false, true, true, false, false, false, false] (take_ofW HT_.out HW_.out (by kernel_rfl)) hHeld ?_
               refine takeZ_ (i := 5) (some 28) #[true, true, true, true, true, true, true, true, false, false, true, true, false, true, true, false, true, true, false, false, true, true, false, true, true, false, false, true, true, false, true, true, false, false, false, false] (take_ofW HT_.out HW_.out (by kernel_rfl)) hHeld ?_
               refine takeZ_ (i := 8) (some 31) #[true, true, true, true, true, true, true, true, true, false, true, true, false, true, true, false, true, true, false, false, true, true, false, true, true, false, false, true, true, false, true, true, false, false, false, false] (take_ofW HT_.out HW_.out (by kernel_rfl)) hHeld ?_
               refine pureZ_ (i := 9) (some 32) #[true, true, true, true, true, true, true, true, true, true, true, true, false, true, true, false, true, true, false, false, true, true, false, true, true, false, false, true, true, false, true, true, false, false, false, false] (any_of HT_.out (by kernel_rfl)) ?_
               refine takeZ_ (i := 12) (some 35) #[true, true, true, true, true, true, true, true, true, true, true, true, true, true, true, false, true, true, false, false, true, true, false, true, true, false, false, true, true, false, true, true, false, false, false, false] (take_ofW HT_.out HW_.out (by kernel_rfl)) hHeld ?_
               refine takeZ_ (i := 15) (some 38) #[true, true, true, true, true, true, true, true, true, true, true, true, true, true, true, true, true, true, false, false, true, true, false, true, true, false, false, true, true, false, true, true, false, false, false, false] (take_ofW HT_.out HW_.out (by kernel_rfl)) hHeld ?_
               refine takeZ_ (i := 18) (some 41) #[true, true, true, true, true, true, true, true, true, true, true, true, true, true, true, true, true, true, true, false, true, true, false, true, true, false, false, true, true, false, true, true, false, false, false, false] (take_ofW HT_.out HW_.out (by kernel_rfl)) hHeld ?_
               refine pureZ_ (i := 19) (some 42) #[true, true, true, true, true, true, true, true, true, true, true, true, true, true, true, true, true, true, true, true, true, true, false, true, true, false, false, true, true, false, true, true, false, false, false, false] (any_of HT_.out (by kernel_rfl)) ?_
               refine takeZ_ (i := 22) (some 45) #[true, true, true, true, true, true, true, true, true, true, true, true, true, true, true, true, true, true, true, true, true, true, true, true, true, false, false, true, true, false, true, true, false, false, false, false] (take_ofW HT_.out HW_.out (by kernel_rfl)) hHeld ?_
               refine takeZ_ (i := 25) (some 48) #[true, true, true, true, true, true, true, true, true, true, true, true, true, true, true, true, true, true, true, true, true, true, true, true, true, true, false, true, true, false, true, true, false, false, false, false] (take_ofW HT_.out HW_.out (by kernel_rfl)) hHeld ?_
               refine pureZ_ (i := 26) (some 49) #[true, true, true, true, true, true, true, true, true, true, true, true, true, true, true, true, true, true, true, true, true, true, true, true, true, true, true, true, true, false, true, true, false, false, false, false] (any_of HT_.out (by kernel_rfl)) ?_
               refine takeZ_ (i := 29) (some 52) #[true, true, true, true, true, true, true, true, true, true, true, true, true, true, true, true, true, true, true, true, true, true, true, true, true, true, true, true, true, true, true, true, false, false, false, false] (take_ofW HT_.out HW_.out (by kernel_rfl)) hHeld ?_
               refine takeZ_ (i := 32) (some 55) #[true, true, true, true, true, true, true, true, true, true, true, true, true, true, true, true, true, true, true, true, true, true, true, true, true, true, true, true, true, true, true, true, true, false, false, false] (take_ofW HT_.out HW_.out (by kernel_rfl)) hHeld ?_
               refine pureZ_ (i := 33) (some 56) #[true, true, true, true, true, true, true, true, true, true, true, true, true, true, true, true, true, true, true, true, true, true, true, true, true, true, true, true, true, true, true, true, true, true, false, false] (any_of HT_.out (by kernel_rfl)) ?_
               refine one_ (i := 34) (N := some 7) #[true, true, true, true, true, true, true, true, true, true, true, true, true, true, true, true, true, true, true, true, true, true, true, true, true, true, true, true, true, true, true, true, true, true, true, false] rfl rfl (one_of HT_.out (by kernel_rfl)) (by decide) (fun K hK => ?_)
               refine box_step ?hg (N := 7) ?hd (cs := #[.int .i64 0, .int .i64 0, .int .i64 0, .int .i64 0, .int .i64 0, .int .i64 0, .int .i64 0, .int .i64 0, .int .i64 0, .int .i64 0]) (t := 31) ?hr ?_; (case hd => rfl); (case hg => rfl); (case hr => first | (go_simp; done) | (go_simp; rfl))
               intro gb289 hg w23 hbox hb
               have HS0_ := (hb.cell (World.block_lt_of_cell? _ _ (hHeld.1))).trans (hHeld.1)
               have HS1_ := (hb.cell (World.block_lt_of_cell? _ _ (hHeld.2.1))).trans (hHeld.2.1)
               have HS2_ := (hb.cell (World.block_lt_of_cell? _ _ (hHeld.2.2.1))).trans (hHeld.2.2.1)
               have HS3_ := (hb.cell (World.block_lt_of_cell? _ _ (hHeld.2.2.2.1))).trans (hHeld.2.2.2.1)
               have HS4_ := (hb.cell (World.block_lt_of_cell? _ _ (hHeld.2.2.2.2.1))).trans (hHeld.2.2.2.2.1)
               have HS5_ := (hb.cell (World.block_lt_of_cell? _ _ (hHeld.2.2.2.2.2.1))).trans (hHeld.2.2.2.2.2.1)
               have HS6_ := (hb.cell (World.block_lt_of_cell? _ _ (hHeld.2.2.2.2.2.2.1))).trans (hHeld.2.2.2.2.2.2.1)
               have HS7_ := (hb.cell (World.block_lt_of_cell? _ _ (hHeld.2.2.2.2.2.2.2.1))).trans (hHeld.2.2.2.2.2.2.2.1)
               have HS8_ := (hb.cell (World.block_lt_of_cell? _ _ (hHeld.2.2.2.2.2.2.2.2.1))).trans (hHeld.2.2.2.2.2.2.2.2.1)
               have HS9_ := (hb.cell (World.block_lt_of_cell? _ _ (hHeld.2.2.2.2.2.2.2.2.2))).trans (hHeld.2.2.2.2.2.2.2.2.2)
               replace HO_4 := Aside0.mk (Kd.R_below (by (with_reducible repeat (first | apply Kd.R_alloc | apply Kd.R_drewN | apply Kd.R_drew)); exact HO_4.out) hb)
               have BK289 := Aside0.mk (hbox)
               have GW289 := gs_ hg
               have GE289 := gs_ hg
               replace HB := hbs_ hb
               have NB273_289 := Aside0.mk ((by rw [hg]; exact Nat.ne_of_lt (blk_lt (g := gb273) (o := .cells #[.int .i64 0, .int .i64 0, .int .i64 0, .int .i64 0, .int .i64 0, .int .i64 0, .int .i64 0, .int .i64 0, .int .i64 0, .int .i64 0] 31 (0, 0)) (bk_ BK273)) : gb273 ≠ gb289))
               have NB289_273 := Aside0.mk ((by rw [hg]; exact Nat.ne_of_gt (blk_lt (g := gb273) (o := .cells #[.int .i64 0, .int .i64 0, .int .i64 0, .int .i64 0, .int .i64 0, .int .i64 0, .int .i64 0, .int .i64 0, .int .i64 0, .int .i64 0] 31 (0, 0)) (bk_ BK273)) : gb289 ≠ gb273))
               replace BK273 := bkb_ BK273 hb
               clear hb hbox hg
               refine hK.out _ _ ⟨HS0_, HS1_, HS2_, HS3_, HS4_, HS5_, HS6_, HS7_, HS8_, HS9_⟩ (fun hHeld => ?_)
               clear hK K
               refine norm_ (a' := ?_) ?_ ?_
               rotate_left
               ·show Act.put _ (some 7) _ = _
                simp only [Act.put, List.setIfInBounds_toArray, List.set_cons_zero, List.set_cons_succ, i64_w, i32_w]
                rfl
               refine one_ (i := 35) (N := none) #[true, true, true, true, true, true, true, true, true, true, true, true, true, true, true, true, true, true, true, true, true, true, true, true, true, true, true, true, true, true, true, true, true, true, true, true] rfl rfl (one_of HT_.out (by kernel_rfl)) (by decide) (fun K hK => ?_)
               have hs24 : w23.cell? ⟨gb289, 0, none⟩ = some (.int .i64 0) := (blk_cell BK289.out 0).trans rfl
               have hfs24 := blk_frozen BK289.out 0
               have hns24_0 := NB273_289.out
               have hms24_0 := NB289_273.out
               have hs25 : w23.cell? ⟨gb289, 1, none⟩ = some (.int .i64 0) := (blk_cell BK289.out 1).trans rfl
               have hfs25 := blk_frozen BK289.out 1
               have hns25_0 := NB273_289.out
               have hms25_0 := NB289_273.out
               have hs26 : w23.cell? ⟨gb289, 2, none⟩ = some (.int .i64 0) := (blk_cell BK289.out 2).trans rfl
               have hfs26 := blk_frozen BK289.out 2
               have hns26_0 := NB273_289.out
               have hms26_0 := NB289_273.out
               have hs27 : w23.cell? ⟨gb289, 3, none⟩ = some (.int .i64 0) := (blk_cell BK289.out 3).trans rfl
               have hfs27 := blk_frozen BK289.out 3
               have hns27_0 := NB273_289.out
               have hms27_0 := NB289_273.out
               have hs28 : w23.cell? ⟨gb289, 4, none⟩ = some (.int .i64 0) := (blk_cell BK289.out 4).trans rfl
               have hfs28 := blk_frozen BK289.out 4
               have hns28_0 := NB273_289.out
               have hms28_0 := NB289_273.out
               have hs29 : w23.cell? ⟨gb289, 5, none⟩ = some (.int .i64 0) := (blk_cell BK289.out 5).trans rfl
               have hfs29 := blk_frozen BK289.out 5
               have hns29_0 := NB273_289.out
               have hms29_0 := NB289_273.out
               have hs30 : w23.cell? ⟨gb289, 6, none⟩ = some (.int .i64 0) := (blk_cell BK289.out 6).trans rfl
               have hfs30 := blk_frozen BK289.out 6
               have hns30_0 := NB273_289.out
               have hms30_0 := NB289_273.out
               have hs31 : w23.cell? ⟨gb289, 7, none⟩ = some (.int .i64 0) := (blk_cell BK289.out 7).trans rfl
               have hfs31 := blk_frozen BK289.out 7
               have hns31_0 := NB273_289.out
               have hms31_0 := NB289_273.out
               have hs32 : w23.cell? ⟨gb289, 8, none⟩ = some (.int .i64 0) := (blk_cell BK289.out 8).trans rfl
               have hfs32 := blk_frozen BK289.out 8
               have hns32_0 := NB273_289.out
               have hms32_0 := NB289_273.out
               have hs33 : w23.cell? ⟨gb289, 9, none⟩ = some (.int .i64 0) := (blk_cell BK289.out 9).trans rfl
               have hfs33 := blk_frozen BK289.out 9
               have hns33_0 := NB273_289.out
               have hms33_0 := NB289_273.out
               refine skip_ (w1 := ?_) (by rfl) rfl ?_ ?_
               rotate_left
               ·go_simp
                rfl
               refine hK.out _ _ ⟨(cf10_ (g := gb289) (hHeld.1) (Kd.own_blk (Kd.R_ne HO_4.out BK289.out (by decide)))), (cf10_ (g := gb289) (hHeld.2.1) (Kd.own_blk (Kd.R_ne HO_4.out BK289.out (by decide)))), (cf10_ (g := gb289) (hHeld.2.2.1) (Kd.own_blk (Kd.R_ne HO_4.out BK289.out (by decide)))), (cf10_ (g := gb289) (hHeld.2.2.2.1) (Kd.own_blk (Kd.R_ne HO_4.out BK289.out (by decide)))), (cf10_ (g := gb289) (hHeld.2.2.2.2.1) (Kd.own_blk (Kd.R_ne HO_4.out BK289.out (by decide)))), (cf10_ (g := gb289) (hHeld.2.2.2.2.2.1) (Kd.own_blk (Kd.R_ne HO_4.out BK289.out (by decide)))), (cf10_ (g := gb289) (hHeld.2.2.2.2.2.2.1) (Kd.own_blk (Kd.R_ne HO_4.out BK289.out (by decide)))), (cf10_ (g := gb289) (hHeld.2.2.2.2.2.2.2.1) (Kd.own_blk (Kd.R_ne HO_4.out BK289.out (by decide)))), (cf10_ (g := gb289) (hHeld.2.2.2.2.2.2.2.2.1) (Kd.own_blk (Kd.R_ne HO_4.out BK289.out (by decide)))), (cf10_ (g := gb289) (hHeld.2.2.2.2.2.2.2.2.2) (Kd.own_blk (Kd.R_ne HO_4.out BK289.out (by decide))))⟩ (fun hHeld => ?_)
               clear hK K
               refine done_ (done_of HT_.out (by kernel_rfl)) ?_
               have hnb34 := NB289_273.out
               have hnc34 := NB273_289.out
               have hcz35 := blk_cell BK289.out
               have hfz35 := blk_frozen BK289.out
               try go_wp2_with (first | ((with_reducible refine gate_callee (f := 31) rfl ?_); refine goesC_ (some 58) Try.func31 #[.agg #[.int .i64 (rd t274 0), .int .i64 (rd t274 1), .int .i64 (rd t274 2), .int .i64 (rd t274 3), .int .i64 (rd t274 4), .int .i64 (rd t274 5), .int .i64 (rd t274 6), .int .i64 (rd t274 7), .int .i64 (rd t274 8), .int .i64 (rd t274 9)]] ?_; (with_reducible refine (impl_CredOk.calls kj2 (rd t274 0) (rd t274 1) (rd t274 2) (rd t274 3) (rd t274 4) (rd t274 5) (rd t274 6) (rd t274 7) (rd t274 8) (rd t274 9) true _ A19.out).mono ?_); rintro e w36 ⟨rfl, hb⟩; refine ⟨_, rfl, ?_⟩; replace HO_4 := Aside0.mk (Kd.R_below (by (with_reducible repeat (first | apply Kd.R_alloc | apply Kd.R_drewN | apply Kd.R_drew)); exact (Kd.R_mono (Kd.R_far (p := ⟨gb289, 9, none⟩) (Kd.R_far (p := ⟨gb289, 8, none⟩) (Kd.R_far (p := ⟨gb289, 7, none⟩) (Kd.R_far (p := ⟨gb289, 6, none⟩) (Kd.R_far (p := ⟨gb289, 5, none⟩) (Kd.R_far (p := ⟨gb289, 4, none⟩) (Kd.R_far (p := ⟨gb289, 3, none⟩) (Kd.R_far (p := ⟨gb289, 2, none⟩) (Kd.R_far (p := ⟨gb289, 1, none⟩) (Kd.R_far (p := ⟨gb289, 0, none⟩) (Kd.R_types HO_4.out BK289.out (by decide)) (fun _ hk => hk.2) (.int .i64 (rd t274 0))) (fun _ hk => hk.2) (.int .i64 (rd t274 1))) (fun _ hk => hk.2) (.int .i64 (rd t274 2))) (fun _ hk => hk.2) (.int .i64 (rd t274 3))) (fun _ hk => hk.2) (.int .i64 (rd t274 4))) (fun _ hk => hk.2) (.int .i64 (rd t274 5))) (fun _ hk => hk.2) (.int .i64 (rd t274 6))) (fun _ hk => hk.2) (.int .i64 (rd t274 7))) (fun _ hk => hk.2) (.int .i64 (rd t274 8))) (fun _ hk => hk.2) (.int .i64 (rd t274 9))) (fun _ h_ => h_.1))) hb); replace BK273 := Aside0.mk (blk_below (g := gb273) (o := .cells #[.int .i64 0, .int .i64 0, .int .i64 0, .int .i64 0, .int .i64 0, .int .i64 0, .int .i64 0, .int .i64 0, .int .i64 0, .int .i64 0] 31 (0, 0)) (bk_ BK273) hb); replace BK289 := Aside0.mk (blk_below (g := gb289) (o := .cells #[.int .i64 (rd t274 0), .int .i64 (rd t274 1), .int .i64 (rd t274 2), .int .i64 (rd t274 3), .int .i64 (rd t274 4), .int .i64 (rd t274 5), .int .i64 (rd t274 6), .int .i64 (rd t274 7), .int .i64 (rd t274 8), .int .i64 (rd t274 9)] 31 (0, 0)) (bk_ BK289) hb); replace HB := hbs_ hb; clear hb; have hcz37 := blk_cell BK289.out; have hfz37 := blk_frozen BK289.out; have hcz38 := blk_cell BK273.out; have hfz38 := blk_frozen BK273.out))
               refine bodyPost_ret (results_ct rfl _ _ gb273 31 #[.int .i64 (rd t274 0), .int .i64 (rd t274 1), .int .i64 (rd t274 2), .int .i64 (rd t274 3), .int .i64 (rd t274 4), .int .i64 (rd t274 5), .int .i64 (rd t274 6), .int .i64 (rd t274 7), .int .i64 (rd t274 8), .int .i64 (rd t274 9)] (0, 0) _ rfl (bk_ BK273) Try.underlying31 rfl (by kernel_rfl)) rfl ?_
               exact ⟨eq_, bl_⟩
              ·replace c20 := Bool.eq_false_iff.mpr c20
               subst c20
               replace H := ite_f_ H
               simp only [Option.some.injEq, Prod.mk.injEq] at H
               obtain ⟨rfl, rfl, rfl, rfl, rfl, rfl, rfl, rfl, rfl, rfl, rfl⟩ := H
               try go_wp2
               replace HO_4 := Aside0.mk (Kd.R_drew HO_4.out)
               replace BK273 := Aside0.mk (blk_drew BK273.out)
               replace HB := Aside0.mk (below_drew1 HB.out)
               obtain ⟨Ao40, co40, eo40⟩ := Kd.R_slice HO_4.out
               (first | subst eo40 | (injection eo40 with f1_ f2_ f3_; have f4_ := f1_.symm; have f5_ := f3_.symm; clear f1_ f2_ f3_; subst f4_; subst f5_))
               have p279 : 0 ≤ (0 : Int) := (by omega)
               have q279 : 0 < (t274.length : Int) := of_decide_eq_true (by first | (with_reducible assumption) | assumption)
               obtain ⟨ad279, e279, hx279_0⟩ := Kd.at_int (Kd.R_reads' HO_4.out).2.2 0 p279 q279
               cases e279
               have qi279 : (0 < t274.length) = True := eq_true (by omega)
               (try rw [show ((0 : Int)).toNat = 0 from rfl] at hx279_0)
               (try rw [Addr.add_zero'] at hx279_0)
               replace p279 := eq_true p279
               replace q279 := eq_true q279
               have p280 : 0 ≤ (1 : Int) := (by omega)
               have q280 : 1 < (t274.length : Int) := of_decide_eq_true (by first | (with_reducible assumption) | assumption)
               obtain ⟨ad280, e280, hx280_0⟩ := Kd.at_int (Kd.R_reads' HO_4.out).2.2 1 p280 q280
               obtain rfl : ad279 = ad280 := (by injection e280)
               (try simp only [show (1 : Int).toNat = 1 from rfl, Nat.reduceMul, Nat.reduceEqDiff, Go.Addr.add, ↓reduceIte] at hx280_0)
               have qi280 : (1 < t274.length) = True := eq_true (by omega)
               (try rw [show ((1 : Int)).toNat = 1 from rfl] at hx280_0)
               replace p280 := eq_true p280
               replace q280 := eq_true q280
               have p281 : 0 ≤ (2 : Int) := (by omega)
               have q281 : 2 < (t274.length : Int) := of_decide_eq_true (by first | (with_reducible assumption) | assumption)
               obtain ⟨ad281, e281, hx281_0⟩ := Kd.at_int (Kd.R_reads' HO_4.out).2.2 2 p281 q281
               obtain rfl : ad279 = ad281 := (by injection e281)
               (try simp only [show (2 : Int).toNat = 2 from rfl, Nat.reduceMul, Nat.reduceEqDiff, Go.Addr.add, ↓reduceIte] at hx281_0)
               have qi281 : (2 < t274.length) = True := eq_true (by omega)
               (try rw [show ((2 : Int)).toNat = 2 from rfl] at hx281_0)
               replace p281 := eq_true p281
               replace q281 := eq_true q281
               have p282 : 0 ≤ (3 : Int) := (by omega)
               have q282 : 3 < (t274.length : Int) := of_decide_eq_true (by first | (with_reducible assumption) | assumption)
               obtain ⟨ad282, e282, hx282_0⟩ := Kd.at_int (Kd.R_reads' HO_4.out).2.2 3 p282 q282
               obtain rfl : ad279 = ad282 := (by injection e282)
               (try simp only [show (3 : Int).toNat = 3 from rfl, Nat.reduceMul, Nat.reduceEqDiff, Go.Addr.add, ↓reduceIte] at hx282_0)
               have qi282 : (3 < t274.length) = True := eq_true (by omega)
               (try rw [show ((3 : Int)).toNat = 3 from rfl] at hx282_0)
               replace p282 := eq_true p282
               replace q282 := eq_true q282
               have p283 : 0 ≤ (4 : Int) := (by omega)
               have q283 : 4 < (t274.length : Int) := of_decide_eq_true (by first | (with_reducible assumption) | assumption)
               obtain ⟨ad283, e283, hx283_0⟩ := Kd.at_int (Kd.R_reads' HO_4.out).2.2 4 p283 q283
               obtain rfl : ad279 = ad283 := (by injection e283)
               (try simp only [show (4 : Int).toNat = 4 from rfl, Nat.reduceMul, Nat.reduceEqDiff, Go.Addr.add, ↓reduceIte] at hx283_0)
               have qi283 : (4 < t274.length) = True := eq_true (by omega)
               (try rw [show ((4 : Int)).toNat = 4 from rfl] at hx283_0)
               replace p283 := eq_true p283
               replace q283 := eq_true q283
               have p284 : 0 ≤ (5 : Int) := (by omega)
               have q284 : 5 < (t274.length : Int) := of_decide_eq_true (by first | (with_reducible assumption) | assumption)
               obtain ⟨ad284, e284, hx284_0⟩ := Kd.at_int (Kd.R_reads' HO_4.out).2.2 5 p284 q284
               obtain rfl : ad279 = ad284 := (by injection e284)
               (try simp only [show (5 : Int).toNat = 5 from rfl, Nat.reduceMul, Nat.reduceEqDiff, Go.Addr.add, ↓reduceIte] at hx284_0)
               have qi284 : (5 < t274.length) = True := eq_true (by omega)
               (try rw [show ((5 : Int)).toNat = 5 from rfl] at hx284_0)
               replace p284 := eq_true p284
               replace q284 := eq_true q284
               have p285 : 0 ≤ (6 : Int) := (by omega)
               have q285 : 6 < (t274.length : Int) := of_decide_eq_true (by first | (with_reducible assumption) | assumption)
               obtain ⟨ad285, e285, hx285_0⟩ := Kd.at_int (Kd.R_reads' HO_4.out).2.2 6 p285 q285
               obtain rfl : ad279 = ad285 := (by injection e285)
               (try simp only [show (6 : Int).toNat = 6 from rfl, Nat.reduceMul, Nat.reduceEqDiff, Go.Addr.add, ↓reduceIte] at hx285_0)
               have qi285 : (6 < t274.length) = True := eq_true (by omega)
               (try rw [show ((6 : Int)).toNat = 6 from rfl] at hx285_0)
               replace p285 := eq_true p285
               replace q285 := eq_true q285
               have p286 : 0 ≤ (7 : Int) := (by omega)
               have q286 : 7 < (t274.length : Int) := of_decide_eq_true (by first | (with_reducible assumption) | assumption)
               obtain ⟨ad286, e286, hx286_0⟩ := Kd.at_int (Kd.R_reads' HO_4.out).2.2 7 p286 q286
               obtain rfl : ad279 = ad286 := (by injection e286)
               (try simp only [show (7 : Int).toNat = 7 from rfl, Nat.reduceMul, Nat.reduceEqDiff, Go.Addr.add, ↓reduceIte] at hx286_0)
               have qi286 : (7 < t274.length) = True := eq_true (by omega)
               (try rw [show ((7 : Int)).toNat = 7 from rfl] at hx286_0)
               replace p286 := eq_true p286
               replace q286 := eq_true q286
               have p287 : 0 ≤ (8 : Int) := (by omega)
               have q287 : 8 < (t274.length : Int) := of_decide_eq_true (by first | (with_reducible assumption) | assumption)
               obtain ⟨ad287, e287, hx287_0⟩ := Kd.at_int (Kd.R_reads' HO_4.out).2.2 8 p287 q287
               obtain rfl : ad279 = ad287 := (by injection e287)
               (try simp only [show (8 : Int).toNat = 8 from rfl, Nat.reduceMul, Nat.reduceEqDiff, Go.Addr.add, ↓reduceIte] at hx287_0)
               have qi287 : (8 < t274.length) = True := eq_true (by omega)
               (try rw [show ((8 : Int)).toNat = 8 from rfl] at hx287_0)
               replace p287 := eq_true p287
               replace q287 := eq_true q287
               have p288 : 0 ≤ (9 : Int) := (by omega)
               have q288 : 9 < (t274.length : Int) := of_decide_eq_true (by first | (with_reducible assumption) | assumption)
               obtain ⟨ad288, e288, hx288_0⟩ := Kd.at_int (Kd.R_reads' HO_4.out).2.2 9 p288 q288
               obtain rfl : ad279 = ad288 := (by injection e288)
               (try simp only [show (9 : Int).toNat = 9 from rfl, Nat.reduceMul, Nat.reduceEqDiff, Go.Addr.add, ↓reduceIte] at hx288_0)
               have qi288 : (9 < t274.length) = True := eq_true (by omega)
               (try rw [show ((9 : Int)).toNat = 9 from rfl] at hx288_0)
               replace p288 := eq_true p288
               replace q288 := eq_true q288
               refine start_ (n := 36) (S := fun w' => w'.cell? ad279 = some (.int .i64 (rd t274 0)) ∧ w'.cell? ⟨ad279.block, ad279.off + 1, none⟩ = some (.int .i64 (rd t274 1)) ∧ w'.cell? ⟨ad279.block, ad279.off + 2, none⟩ = some (.int .i64 (rd t274 2)) ∧ w'.cell? ⟨ad279.block, ad279.off + 3, none⟩ = some (.int .i64 (rd t274 3)) ∧ w'.cell? ⟨ad279.block, ad279.off + 4, none⟩ = some (.int .i64 (rd t274 4)) ∧ w'.cell? ⟨ad279.block, ad279.off + 5, none⟩ = some (.int .i64 (rd t274 5)) ∧ w'.cell? ⟨ad279.block, ad279.off + 6, none⟩ = some (.int .i64 (rd t274 6)) ∧ w'.cell? ⟨ad279.block, ad279.off + 7, none⟩ = some (.int .i64 (rd t274 7)) ∧ w'.cell? ⟨ad279.block, ad279.off + 8, none⟩ = some (.int .i64 (rd t274 8)) ∧ w'.cell? ⟨ad279.block, ad279.off + 9, none⟩ = some (.int .i64 (rd t274 9))) (ds := []) #[false, false, false, false, false, false, false, false, false, false, false, false, false, false, false, false, false, false, false, false, false, false, false, false, false, false, false, false, false, false, false, false, false, false, false, false] (by kernel_rfl) rfl rfl ⟨hx279_0, hx280_0, hx281_0, hx282_0, hx283_0, hx284_0, hx285_0, hx286_0, hx287_0, hx288_0⟩ (fun hHeld => ?_); refine with_tabW impl_ReadCred.tab4 impl_ReadCred.bits4 (fun HT_ HW_ => ?_)
               generalize wc.drew = w39 at HO_4 BK273 HB hx279_0 hx280_0 hx281_0 hx282_0 hx283_0 hx284_0 hx285_0 hx286_0 hx287_0 hx288_0 hHeld ⊢
               refine pureZ_ (i := 0) (some 23) #[true, false, false, false, false, false, false, false, false, false, false, false, false, false, false, false, false, false, false, false, false, false, false, false, false, false, false, false, false, false, false, false, false, false, false, false] (any_of HT_.out (by kernel_rfl)) ?_
               refine pureZ_ (i := 1) (some 24) #[true, true, false, false, false, false, false, false, false, false, false, false, false, false, false, false, false, false, false, false, false, false, false, false, false, false, false, false, false, false, false, false, false, false, false, false] (any_of HT_.out (by kernel_rfl)) ?_
               refine pureZ_ (i := 3) (some 26) #[true, true, false, true, false, false, false, false, false, false, false, false, false, false, false, false, false, false, false, false, false, false, false, false, false, false, false, false, false, false, false, false, false, false, false, false] (any_of HT_.out (by kernel_rfl)) ?_
               refine pureZ_ (i := 4) (some 27) #[true, true, false, true, true, false, false, false, false, false, false, false, false, false, false, false, false, false, false, false, false, false, false, false, false, false, false, false, false, false, false, false, false, false, false, false] (any_of HT_.out (by kernel_rfl)) ?_
               refine pureZ_ (i := 6) (some 29) #[true, true, false, true, true, false, true, false, false, false, false, false, false, false, false, false, false, false, false, false, false, false, false, false, false, false, false, false, false, false, false, false, false, false, false, false] (any_of HT_.out (by kernel_rfl)) ?_
               refine pureZ_ (i := 7) (some 30) #[true, true, false, true, true, false, true, true, false, false, false, false, false, false, false, false, false, false, false, false, false, false, false, false, false, false, false, false, false, false, false, false, false, false, false, false] (any_of HT_.out (by kernel_rfl)) ?_
               refine pureZ_ (i := 10) (some 33) #[true, true, false, true, true, false, true, true, false, false, true, false, false, false, false, false, false, false, false, false, false, false, false, false, false, false, false, false, false, false, false, false, false, false, false, false] (any_of HT_.out (by kernel_rfl)) ?_
               refine pureZ_ (i := 11) (some 34) #[true, true, false, true, true, false, true, true, false, false, true, true, false, false, false, false, false, false, false, false, false, false, false, false, false, false, false, false, false, false, false, false, false, false, false, false] (any_of HT_.out (by kernel_rfl)) ?_
               refine pureZ_ (i := 13) (some 36) #[true, true, false, true, true, false, true, true, false, false, true, true, false, true, false, false, false, false, false, false, false, false, false, false, false, false, false, false, false, false, false, false, false, false, false, false] (any_of HT_.out (by kernel_rfl)) ?_
               refine pureZ_ (i := 14) (some 37) #[true, true, false, true, true, false, true, true, false, false, true, true, false, true, true, false, false, false, false, false, false, false, false, false, false, false, false, false, false, false, false, false, false, false, false, false] (any_of HT_.out (by kernel_rfl)) ?_
               refine pureZ_ (i := 16) (some 39) #[true, true, false, true, true, false, true, true, false, false, true, true, false, true, true, false, true, false, false, false, false, false, false, false, false, false, false, false, false, false, false, false, false, false, false, false] (any_of HT_.out (by kernel_rfl)) ?_
               refine pureZ_ (i := 17) (some 40) #[true, true, false, true, true, false, true, true, false, false, true, true, false, true, true, false, true, true, false, false, false, false, false, false, false, false, false, false, false, false, false, false, false, false, false, false] (any_of HT_.out (by kernel_rfl)) ?_
               refine pureZ_ (i := 20) (some 43) #[true, true, false, true, true, false, true, true, false, false, true, true, false, true, true, false, true, true, false, false, true, false, false, false, false, false, false, false, false, false, false, false, false, false, false, false] (any_of HT_.out (by kernel_rfl)) ?_
               refine pureZ_ (i := 21) (some 44) #[true, true, false, true, true, false, true, true, false, false, true, true, false, true, true, false, true, true, false, false, true, true, false, false, false, false, false, false, false, false, false, false, false, false, false, false] (any_of HT_.out (by kernel_rfl)) ?_
               refine pureZ_ (i := 23) (some 46) #[true, true, false, true, true, false, true, true, false, false, true, true, false, true, true, false, true, true, false, false, true, true, false, true, false, false, false, false, false, false, false, false, false, false, false, false] (any_of HT_.out (by kernel_rfl)) ?_
               refine pureZ_ (i := 24) (some 47) #[true, true, false, true, true, false, true, true, false, false, true, true, false, true, true, false, true, true, false, false, true, true, false, true, true, false, false, false, false, false, false, false, false, false, false, false] (any_of HT_.out (by kernel_rfl)) ?_
               refine pureZ_ (i := 27) (some 50) #[true, true, false, true, true, false, true, true, false, false, true, true, false, true, true, false, true, true, false, false, true, true, false, true, true, false, false, true, false, false, false, false, false, false, false, false] (any_of HT_.out (by kernel_rfl)) ?_
               refine pureZ_ (i := 28) (some 51) #[true, true, false, true, true, false, true, true, false, false, true, true, false, true, true, false, true, true, false, false, true, true, false, true, true, false, false, true, true, false, false, false, false, false, false, false] (any_of HT_.out (by kernel_rfl)) ?_
               refine pureZ_ (i := 30) (some 53) #[true, true, false, true, true, false, true, true, false, false, true, true, false, true, true, false, true, true, false, false, true, true, false, true, true, false, false, true, true, false, true, false, false, false, false, false] (any_of HT_.out (by kernel_rfl)) ?_
               refine pureZ_ (i := 31) (some 54) #[true, true, false, true, true, false, true, true, false, false, true, true, false, true, true, false, true, true, false, false, true, true, false, true, true, false, false, true, true, false, true, true, false, false, false, false] (any_of HT_.out (by kernel_rfl)) ?_
               refine takeZ_ (i := 2) (some 25) #[true, true, true, true, true, false, true, true, false, false, true, true, false, true, true, false, true, true, false, false, true, true, false, true, true, false, false, true, true, false, true, true, false, false, false, false] (take_ofW HT_.out HW_.out (by kernel_rfl)) hHeld ?_
               refine takeZ_ (i := 5) (some 28) #[true, true, true, true, true, true, true, true, false, false, true, true, false, true, true, false, true, true, false, false, true, true, false, true, true, false, false, true, true, false, true, true, false, false, false, false] (take_ofW HT_.out HW_.out (by kernel_rfl)) hHeld ?_
               refine takeZ_ (i := 8) (some 31) #[true, true, true, true, true, true, true, true, true, false, true, true, false, true, true, false, true, true, false, false, true, true, false, true, true, false, false, true, true, false, true, true, false, false, false, false] (take_ofW HT_.out HW_.out (by kernel_rfl)) hHeld ?_
               refine pureZ_ (i := 9) (some 32) #[true, true, true, true, true, true, true, true, true, true, true, true, false, true, true, false, true, true, false, false, true, true, false, true, true, false, false, true, true, false, true, true, false, false, false, false] (any_of HT_.out (by kernel_rfl)) ?_
               refine takeZ_ (i := 12) (some 35) #[true, true, true, true, true, true, true, true, true, true, true, true, true, true, true, false, true, true, false, false, true, true, false, true, true, false, false, true, true, false, true, true, false, false, false, false] (take_ofW HT_.out HW_.out (by kernel_rfl)) hHeld ?_
               refine takeZ_ (i := 15) (some 38) #[true, true, true, true, true, true, true, true, true, true, true, true, true, true, true, true, true, true, false, false, true, true, false, true, true, false, false, true, true, false, true, true, false, false, false, false] (take_ofW HT_.out HW_.out (by kernel_rfl)) hHeld ?_
               refine takeZ_ (i := 18) (some 41) #[true, true, true, true, true, true, true, true, true, true, true, true, true, true, true, true, true, true, true, false, true, true, false, true, true, false, false, true, true, false, true, true, false, false, false, false] (take_ofW HT_.out HW_.out (by kernel_rfl)) hHeld ?_
               refine pureZ_ (i := 19) (some 42) #[true, true, true, true, true, true, true, true, true, true, true, true, true, true, true, true, true, true, true, true, true, true, false, true, true, false, false, true, true, false, true, true, false, false, false, false] (any_of HT_.out (by kernel_rfl)) ?_
               refine takeZ_ (i := 22) (some 45) #[true, true, true, true, true, true, true, true, true, true, true, true, true, true, true, true, true, true, true, true, true, true, true, true, true, false, false, true, true, false, true, true, false, false, false, false] (take_ofW HT_.out HW_.out (by kernel_rfl)) hHeld ?_
               refine takeZ_ (i := 25) (some 48) #[true, true, true, true, true, true, true, true, true, true, true, true, true, true, true, true, true, true, true, true, true, true, true, true, true, true, false, true, true, false, true, true, false, false, false, false] (take_ofW HT_.out HW_.out (by kernel_rfl)) hHeld ?_
               refine pureZ_ (i := 26) (some 49) #[true, true, true, true, true, true, true, true, true, true, true, true, true, true, true, true, true, true, true, true, true, true, true, true, true, true, true, true, true, false, true, true, false, false, false, false] (any_of HT_.out (by kernel_rfl)) ?_
               refine takeZ_ (i := 29) (some 52) #[true, true, true, true, true, true, true, true, true, true, true, true, true, true, true, true, true, true, true, true, true, true, true, true, true, true, true, true, true, true, true, true, false, false, false, false] (take_ofW HT_.out HW_.out (by kernel_rfl)) hHeld ?_
               refine takeZ_ (i := 32) (some 55) #[true, true, true, true, true, true, true, true, true, true, true, true, true, true, true, true, true, true, true, true, true, true, true, true, true, true, true, true, true, true, true, true, true, false, false, false] (take_ofW HT_.out HW_.out (by kernel_rfl)) hHeld ?_
               refine pureZ_ (i := 33) (some 56) #[true, true, true, true, true, true, true, true, true, true, true, true, true, true, true, true, true, true, true, true, true, true, true, true, true, true, true, true, true, true, true, true, true, true, false, false] (any_of HT_.out (by kernel_rfl)) ?_
               refine one_ (i := 34) (N := some 7) #[true, true, true, true, true, true, true, true, true, true, true, true, true, true, true, true, true, true, true, true, true, true, true, true, true, true, true, true, true, true, true, true, true, true, true, false] rfl rfl (one_of HT_.out (by kernel_rfl)) (by decide) (fun K hK => ?_)
               refine box_step ?hg (N := 7) ?hd (cs := #[.int .i64 0, .int .i64 0, .int .i64 0, .int .i64 0, .int .i64 0, .int .i64 0, .int .i64 0, .int .i64 0, .int .i64 0, .int .i64 0]) (t := 31) ?hr ?_; (case hd => rfl); (case hg => rfl); (case hr => first | (go_simp; done) | (go_simp; rfl))
               intro gb289 hg w41 hbox hb
               have HS0_ := (hb.cell (World.block_lt_of_cell? _ _ (hHeld.1))).trans (hHeld.1)
               have HS1_ := (hb.cell (World.block_lt_of_cell? _ _ (hHeld.2.1))).trans (hHeld.2.1)
               have HS2_ := (hb.cell (World.block_lt_of_cell? _ _ (hHeld.2.2.1))).trans (hHeld.2.2.1)
               have HS3_ := (hb.cell (World.block_lt_of_cell? _ _ (hHeld.2.2.2.1))).trans (hHeld.2.2.2.1)
               have HS4_ := (hb.cell (World.block_lt_of_cell? _ _ (hHeld.2.2.2.2.1))).trans (hHeld.2.2.2.2.1)
               have HS5_ := (hb.cell (World.block_lt_of_cell? _ _ (hHeld.2.2.2.2.2.1))).trans (hHeld.2.2.2.2.2.1)
               have HS6_ := (hb.cell (World.block_lt_of_cell? _ _ (hHeld.2.2.2.2.2.2.1))).trans (hHeld.2.2.2.2.2.2.1)
               have HS7_ := (hb.cell (World.block_lt_of_cell? _ _ (hHeld.2.2.2.2.2.2.2.1))).trans (hHeld.2.2.2.2.2.2.2.1)
               have HS8_ := (hb.cell (World.block_lt_of_cell? _ _ (hHeld.2.2.2.2.2.2.2.2.1))).trans (hHeld.2.2.2.2.2.2.2.2.1)
               have HS9_ := (hb.cell (World.block_lt_of_cell? _ _ (hHeld.2.2.2.2.2.2.2.2.2))).trans (hHeld.2.2.2.2.2.2.2.2.2)
               replace HO_4 := Aside0.mk (Kd.R_below (by (with_reducible repeat (first | apply Kd.R_alloc | apply Kd.R_drewN | apply Kd.R_drew)); exact HO_4.out) hb)
               have BK289 := Aside0.mk (hbox)
               have GW289 := gs_ hg
               have GE289 := gs_ hg
               replace HB := hbs_ hb
               have NB273_289 := Aside0.mk ((by rw [hg]; exact Nat.ne_of_lt (blk_lt (g := gb273) (o := .cells #[.int .i64 0, .int .i64 0, .int .i64 0, .int .i64 0, .int .i64 0, .int .i64 0, .int .i64 0, .int .i64 0, .int .i64 0, .int .i64 0] 31 (0, 0)) (bk_ BK273)) : gb273 ≠ gb289))
               have NB289_273 := Aside0.mk ((by rw [hg]; exact Nat.ne_of_gt (blk_lt (g := gb273) (o := .cells #[.int .i64 0, .int .i64 0, .int .i64 0, .int .i64 0, .int .i64 0, .int .i64 0, .int .i64 0, .int .i64 0, .int .i64 0, .int .i64 0] 31 (0, 0)) (bk_ BK273)) : gb289 ≠ gb273))
               replace BK273 := bkb_ BK273 hb
               clear hb hbox hg
               refine hK.out _ _ ⟨HS0_, HS1_, HS2_, HS3_, HS4_, HS5_, HS6_, HS7_, HS8_, HS9_⟩ (fun hHeld => ?_)
               clear hK K
               refine norm_ (a' := ?_) ?_ ?_
               rotate_left
               ·show Act.put _ (some 7) _ = _
                simp only [Act.put, List.setIfInBounds_toArray, List.set_cons_zero, List.set_cons_succ, i64_w, i32_w]
                rfl
               refine one_ (i := 35) (N := none) #[true, true, true, true, true, true, true, true, true, true, true, true, true, true, true, true, true, true, true, true, true, true, true, true, true, true, true, true, true, true, true, true, true, true, true, true] rfl rfl (one_of HT_.out (by kernel_rfl)) (by decide) (fun K hK => ?_)
               have hs42 : w41.cell? ⟨gb289, 0, none⟩ = some (.int .i64 0) := (blk_cell BK289.out 0).trans rfl
               have hfs42 := blk_frozen BK289.out 0
               have hns42_0 := NB273_289.out
               have hms42_0 := NB289_273.out
               have hs43 : w41.cell? ⟨gb289, 1, none⟩ = some (.int .i64 0) := (blk_cell BK289.out 1).trans rfl
               have hfs43 := blk_frozen BK289.out 1
               have hns43_0 := NB273_289.out
               have hms43_0 := NB289_273.out
               have hs44 : w41.cell? ⟨gb289, 2, none⟩ = some (.int .i64 0) := (blk_cell BK289.out 2).trans rfl
               have hfs44 := blk_frozen BK289.out 2
               have hns44_0 := NB273_289.out
               have hms44_0 := NB289_273.out
               have hs45 : w41.cell? ⟨gb289, 3, none⟩ = some (.int .i64 0) := (blk_cell BK289.out 3).trans rfl
               have hfs45 := blk_frozen BK289.out 3
               have hns45_0 := NB273_289.out
               have hms45_0 := NB289_273.out
               have hs46 : w41.cell? ⟨gb289, 4, none⟩ = some (.int .i64 0) := (blk_cell BK289.out 4).trans rfl
               have hfs46 := blk_frozen BK289.out 4
               have hns46_0 := NB273_289.out
               have hms46_0 := NB289_273.out
               have hs47 : w41.cell? ⟨gb289, 5, none⟩ = some (.int .i64 0) := (blk_cell BK289.out 5).trans rfl
               have hfs47 := blk_frozen BK289.out 5
               have hns47_0 := NB273_289.out
               have hms47_0 := NB289_273.out
               have hs48 : w41.cell? ⟨gb289, 6, none⟩ = some (.int .i64 0) := (blk_cell BK289.out 6).trans rfl
               have hfs48 := blk_frozen BK289.out 6
               have hns48_0 := NB273_289.out
               have hms48_0 := NB289_273.out
               have hs49 : w41.cell? ⟨gb289, 7, none⟩ = some (.int .i64 0) := (blk_cell BK289.out 7).trans rfl
               have hfs49 := blk_frozen BK289.out 7
               have hns49_0 := NB273_289.out
               have hms49_0 := NB289_273.out
               have hs50 : w41.cell? ⟨gb289, 8, none⟩ = some (.int .i64 0) := (blk_cell BK289.out 8).trans rfl
               have hfs50 := blk_frozen BK289.out 8
               have hns50_0 := NB273_289.out
               have hms50_0 := NB289_273.out
               have hs51 : w41.cell? ⟨gb289, 9, none⟩ = some (.int .i64 0) := (blk_cell BK289.out 9).trans rfl
               have hfs51 := blk_frozen BK289.out 9
               have hns51_0 := NB273_289.out
               have hms51_0 := NB289_273.out
               refine skip_ (w1 := ?_) (by rfl) rfl ?_ ?_
               rotate_left
               ·go_simp
                rfl
               refine hK.out _ _ ⟨(cf10_ (g := gb289) (hHeld.1) (Kd.own_blk (Kd.R_ne HO_4.out BK289.out (by decide)))), (cf10_ (g := gb289) (hHeld.2.1) (Kd.own_blk (Kd.R_ne HO_4.out BK289.out (by decide)))), (cf10_ (g := gb289) (hHeld.2.2.1) (Kd.own_blk (Kd.R_ne HO_4.out BK289.out (by decide)))), (cf10_ (g := gb289) (hHeld.2.2.2.1) (Kd.own_blk (Kd.R_ne HO_4.out BK289.out (by decide)))), (cf10_ (g := gb289) (hHeld.2.2.2.2.1) (Kd.own_blk (Kd.R_ne HO_4.out BK289.out (by decide)))), (cf10_ (g := gb289) (hHeld.2.2.2.2.2.1) (Kd.own_blk (Kd.R_ne HO_4.out BK289.out (by decide)))), (cf10_ (g := gb289) (hHeld.2.2.2.2.2.2.1) (Kd.own_blk (Kd.R_ne HO_4.out BK289.out (by decide)))), (cf10_ (g := gb289) (hHeld.2.2.2.2.2.2.2.1) (Kd.own_blk (Kd.R_ne HO_4.out BK289.out (by decide)))), (cf10_ (g := gb289) (hHeld.2.2.2.2.2.2.2.2.1) (Kd.own_blk (Kd.R_ne HO_4.out BK289.out (by decide)))), (cf10_ (g := gb289) (hHeld.2.2.2.2.2.2.2.2.2) (Kd.own_blk (Kd.R_ne HO_4.out BK289.out (by decide))))⟩ (fun hHeld => ?_)
               clear hK K
               refine done_ (done_of HT_.out (by kernel_rfl)) ?_
               have hnb52 := NB289_273.out
               have hnc52 := NB273_289.out
               have hcz53 := blk_cell BK289.out
               have hfz53 := blk_frozen BK289.out
               try go_wp2_with (first | ((with_reducible refine gate_callee (f := 31) rfl ?_); refine goesC_ (some 58) Try.func31 #[.agg #[.int .i64 (rd t274 0), .int .i64 (rd t274 1), .int .i64 (rd t274 2), .int .i64 (rd t274 3), .int .i64 (rd t274 4), .int .i64 (rd t274 5), .int .i64 (rd t274 6), .int .i64 (rd t274 7), .int .i64 (rd t274 8), .int .i64 (rd t274 9)]] ?_; (with_reducible refine (impl_CredOk.calls kj2 (rd t274 0) (rd t274 1) (rd t274 2) (rd t274 3) (rd t274 4) (rd t274 5) (rd t274 6) (rd t274 7) (rd t274 8) (rd t274 9) false _ A19.out).mono ?_); rintro e w54 ⟨rfl, hb⟩; refine ⟨_, rfl, ?_⟩; replace HO_4 := Aside0.mk (Kd.R_below (by (with_reducible repeat (first | apply Kd.R_alloc | apply Kd.R_drewN | apply Kd.R_drew)); exact (Kd.R_mono (Kd.R_far (p := ⟨gb289, 9, none⟩) (Kd.R_far (p := ⟨gb289, 8, none⟩) (Kd.R_far (p := ⟨gb289, 7, none⟩) (Kd.R_far (p := ⟨gb289, 6, none⟩) (Kd.R_far (p := ⟨gb289, 5, none⟩) (Kd.R_far (p := ⟨gb289, 4, none⟩) (Kd.R_far (p := ⟨gb289, 3, none⟩) (Kd.R_far (p := ⟨gb289, 2, none⟩) (Kd.R_far (p := ⟨gb289, 1, none⟩) (Kd.R_far (p := ⟨gb289, 0, none⟩) (Kd.R_types HO_4.out BK289.out (by decide)) (fun _ hk => hk.2) (.int .i64 (rd t274 0))) (fun _ hk => hk.2) (.int .i64 (rd t274 1))) (fun _ hk => hk.2) (.int .i64 (rd t274 2))) (fun _ hk => hk.2) (.int .i64 (rd t274 3))) (fun _ hk => hk.2) (.int .i64 (rd t274 4))) (fun _ hk => hk.2) (.int .i64 (rd t274 5))) (fun _ hk => hk.2) (.int .i64 (rd t274 6))) (fun _ hk => hk.2) (.int .i64 (rd t274 7))) (fun _ hk => hk.2) (.int .i64 (rd t274 8))) (fun _ hk => hk.2) (.int .i64 (rd t274 9))) (fun _ h_ => h_.1))) hb); replace BK273 := Aside0.mk (blk_below (g := gb273) (o := .cells #[.int .i64 0, .int .i64 0, .int .i64 0, .int .i64 0, .int .i64 0, .int .i64 0, .int .i64 0, .int .i64 0, .int .i64 0, .int .i64 0] 31 (0, 0)) (bk_ BK273) hb); replace BK289 := Aside0.mk (blk_below (g := gb289) (o := .cells #[.int .i64 (rd t274 0), .int .i64 (rd t274 1), .int .i64 (rd t274 2), .int .i64 (rd t274 3), .int .i64 (rd t274 4), .int .i64 (rd t274 5), .int .i64 (rd t274 6), .int .i64 (rd t274 7), .int .i64 (rd t274 8), .int .i64 (rd t274 9)] 31 (0, 0)) (bk_ BK289) hb); replace HB := hbs_ hb; clear hb; have hcz55 := blk_cell BK273.out; have hfz55 := blk_frozen BK273.out))
               refine bodyPost_ret (results_ct rfl _ _ gb273 31 #[.int .i64 0, .int .i64 0, .int .i64 0, .int .i64 0, .int .i64 0, .int .i64 0, .int .i64 0, .int .i64 0, .int .i64 0, .int .i64 0] (0, 0) _ rfl (bk_ BK273) Try.underlying31 rfl (by kernel_rfl)) rfl ?_
               exact ⟨eq_, bl_⟩
             ·rw [if_neg c18] at H
              exact absurd H (by simp)
            ·rw [if_neg c17] at H
             exact absurd H (by simp)
           ·rw [if_neg c16] at H
            exact absurd H (by simp)
          ·rw [if_neg c15] at H
           exact absurd H (by simp)
         ·rw [if_neg c14] at H
          exact absurd H (by simp)
        ·rw [if_neg c13] at H
         exact absurd H (by simp)
       ·rw [if_neg c12] at H
        exact absurd H (by simp)
      ·rw [if_neg c11] at H
       exact absurd H (by simp)
     ·rw [if_neg c10] at H
      exact absurd H (by simp)
    ·rw [if_neg c9] at H
     exact absurd H (by simp)
end Go.Proofs.Yteppfdkfikeclaa.PL
