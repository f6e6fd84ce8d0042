import Derived.Test.YteppfdkfikeclaaKRPLx8
import Derived.Test.YteppfdkfikeclaaKRPLx9
-- A text of this claim: written by the session's own program out of the translation (wip/tools). Lean checks it.
namespace Go.Proofs.Yteppfdkfikeclaa.PL
open Go.RowKit Go.Proofs.YteppfdkfikeclaaW.PrintWords Go.Proofs.YteppfdkfikeclaaW.PrintLast Go.Proofs.YteppfdkfikeclaaW.PrintMore
attribute [local go_sem] max2_int min2_int max_two min_two max_three min_three max_four min_four   -- for this text's walks alone
set_option linter.unusedVariables false
set_option linter.unusedSimpArgs false
def impl_readStep.j0 : Nat → ByteArray → Int → List Int → Bool → Int → Int → Int → Int → Int → Int → Int → Int → Int → Int → Option (Int × Int × Int × Int × Int × Int × Int × Int × Int × Int × Int × Int × Int × List Int × Int × Bool)
 | 0, _, _, _, _, _, _, _, _, _, _, _, _, _, _ => none
 | k + 1, x0, x1, x11, x52, x333000, x333001, x333002, x333003, x333004, x333005, x333006, x333007, x333008, x333009 => if x52 = true then (some (0, 0, 0, 0, 0, 0, 0, 0, 0, 0, 0, 0, 0, ([] : List Int), 0, false)) else (if 1 < (x11.length : Int) then ((impl_readVars.f k x0 x1 (rd x11 1)).bind fun bt340 => (if 0 < (x11.length : Int) then ((impl_StepText.f k x333000 x333001 x333002 x333003 x333004 x333005 x333006 x333007 x333008 x333009 x333001 x333002 (rd x11 0) bt340.1).bind fun bt347 => (if bt347.2 = true then (if bt340.2.2 = true then (some (x333000, x333001, x333002, x333003, x333004, x333005, x333006, x333007, x333008, x333009, x333001, x333002, rd x11 0, bt340.1, bt340.2.1, true)) else (some (0, 0, 0, 0, 0, 0, 0, 0, 0, 0, 0, 0, 0, ([] : List Int), 0, false))) else (some (0, 0, 0, 0, 0, 0, 0, 0, 0, 0, 0, 0, 0, ([] : List Int), 0, false)))) else (none))) else (none))
def impl_readStep.f (k : Nat) (a0 : ByteArray) (a1 : Int) : Option (Int × Int × Int × Int × Int × Int × Int × Int × Int × Int × Int × Int × Int × List Int × Int × Bool) := (impl_ReadShort.f k a0 a1).bind fun bt318 => ((impl_ReadCred.f k bt318.1).bind fun bt321 => ((impl_readVars.f k a0 bt318.2.1 2).bind fun bt333 => (if bt318.2.2 = true then (if bt321.2.2.2.2.2.2.2.2.2.2 = true then (if bt333.2.2 = true then (if 1 < (bt333.1.length : Int) then (impl_readStep.j0 k a0 bt333.2.1 bt333.1 (decide ((rd bt333.1 1) > 2)) bt321.1 bt321.2.1 bt321.2.2.1 bt321.2.2.2.1 bt321.2.2.2.2.1 bt321.2.2.2.2.2.1 bt321.2.2.2.2.2.2.1 bt321.2.2.2.2.2.2.2.1 bt321.2.2.2.2.2.2.2.2.1 bt321.2.2.2.2.2.2.2.2.2.1) else (none)) else (impl_readStep.j0 k a0 bt333.2.1 bt333.1 true bt321.1 bt321.2.1 bt321.2.2.1 bt321.2.2.2.1 bt321.2.2.2.2.1 bt321.2.2.2.2.2.1 bt321.2.2.2.2.2.2.1 bt321.2.2.2.2.2.2.2.1 bt321.2.2.2.2.2.2.2.2.1 bt321.2.2.2.2.2.2.2.2.2.1)) else (impl_readStep.j0 k a0 bt333.2.1 bt333.1 true bt321.1 bt321.2.1 bt321.2.2.1 bt321.2.2.2.1 bt321.2.2.2.2.1 bt321.2.2.2.2.2.1 bt321.2.2.2.2.2.2.1 bt321.2.2.2.2.2.2.2.1 bt321.2.2.2.2.2.2.2.2.1 bt321.2.2.2.2.2.2.2.2.2.1)) else (impl_readStep.j0 k a0 bt333.2.1 bt333.1 true bt321.1 bt321.2.1 bt321.2.2.1 bt321.2.2.2.1 bt321.2.2.2.2.1 bt321.2.2.2.2.2.1 bt321.2.2.2.2.2.2.1 bt321.2.2.2.2.2.2.2.1 bt321.2.2.2.2.2.2.2.2.1 bt321.2.2.2.2.2.2.2.2.2.1))))
def impl_readStep.T7 : Bool × List (List Nat × List Nat) := (true, [([], []), ([], []), ([1], [1]), ([], []), ([3], [3]), ([4], [4]), ([2, 5], [2, 5]), ([], []), ([0, 6, 7], [0, 6, 7]), ([], []), ([9, 8, 0, 1, 2, 3, 4, 5, 6, 7, 8, 9], [8, 9])])
def impl_readStep.B7 : List Nat := [0, 0, 2, 0, 8, 24, 62, 0, 255, 0, 1023]
theorem impl_readStep.tab7 : rtab .any (opsOf Try.f11 7) = impl_readStep.T7 := by kernel_rfl
theorem impl_readStep.bits7 : waitsOk impl_readStep.T7.2 impl_readStep.B7 = true := by kernel_rfl
set_option maxHeartbeats 8000000 in
set_option maxRecDepth 100000 in
theorem impl_readStep.calls (k : Nat) (a0 : ByteArray) (a1 : Int) (r1 : Int) (r2 : Int) (r3 : Int) (r4 : Int) (r5 : Int) (r6 : Int) (r7 : Int) (r8 : Int) (r9 : Int) (r10 : Int) (r11 : Int) (r12 : Int) (r13 : Int) (r14 : List Int) (r15 : Int) (r16 : Bool) (w : World) (h : impl_readStep.f k a0 a1 = some (r1, r2, r3, r4, r5, r6, r7, r8, r9, r10, r11, r12, r13, r14, r15, r16)) :
  Calls Try.prog 11 #[.string a0, .int .i64 a1] w fun e w' => ∃ v13_ : Value, e = .returned (.tuple #[.agg #[.int .i64 r1, .int .i64 r2, .int .i64 r3, .int .i64 r4, .int .i64 r5, .int .i64 r6, .int .i64 r7, .int .i64 r8, .int .i64 r9, .int .i64 r10, .int .i64 r11, .int .i64 r12, .int .i64 r13, v13_], .int .i64 r15, .bool r16]) ∧ Kd.R (Kd.int .i64) 3 w' w.heap.size (fun _ => True) v13_ r14 ∧ Below w.heap.size w w' := by
 have hu36 := Try.underlying36
 have hu31 := Try.underlying31
 have hu29 := Try.underlying29
 have hu33 := Try.underlying33
 have HB := Aside0.mk (Below.refl w.heap.size w)
 have H : ((impl_ReadShort.f k a0 a1).bind fun bt318 => ((impl_ReadCred.f k bt318.1).bind fun bt321 => ((impl_readVars.f k a0 bt318.2.1 2).bind fun bt333 => (if bt318.2.2 = true then (if bt321.2.2.2.2.2.2.2.2.2.2 = true then (if bt333.2.2 = true then (if 1 < (bt333.1.length : Int) then (impl_readStep.j0 k a0 bt333.2.1 bt333.1 (decide ((rd bt333.1 1) > 2)) bt321.1 bt321.2.1 bt321.2.2.1 bt321.2.2.2.1 bt321.2.2.2.2.1 bt321.2.2.2.2.2.1 bt321.2.2.2.2.2.2.1 bt321.2.2.2.2.2.2.2.1 bt321.2.2.2.2.2.2.2.2.1 bt321.2.2.2.2.2.2.2.2.2.1) else (none)) else (impl_readStep.j0 k a0 bt333.2.1 bt333.1 true bt321.1 bt321.2.1 bt321.2.2.1 bt321.2.2.2.1 bt321.2.2.2.2.1 bt321.2.2.2.2.2.1 bt321.2.2.2.2.2.2.1 bt321.2.2.2.2.2.2.2.1 bt321.2.2.2.2.2.2.2.2.1 bt321.2.2.2.2.2.2.2.2.2.1)) else (impl_readStep.j0 k a0 bt333.2.1 bt333.1 true bt321.1 bt321.2.1 bt321.2.2.1 bt321.2.2.2.1 bt321.2.2.2.2.1 bt321.2.2.2.2.2.1 bt321.2.2.2.2.2.2.1 bt321.2.2.2.2.2.2.2.1 bt321.2.2.2.2.2.2.2.2.1 bt321.2.2.2.2.2.2.2.2.2.1)) else (impl_readStep.j0 k a0 bt333.2.1 bt333.1 true bt321.1 bt321.2.1 bt321.2.2.1 bt321.2.2.2.1 bt321.2.2.2.2.1 bt321.2.2.2.2.2.1 bt321.2.2.2.2.2.2.1 bt321.2.2.2.2.2.2.2.1 bt321.2.2.2.2.2.2.2.2.1 bt321.2.2.2.2.2.2.2.2.2.1))))) = some (r1, r2, r3, r4, r5, r6, r7, r8, r9, r10, r11, r12, r13, r14, r15, r16) := h
 clear h
 obtain ⟨⟨t318, t319, t320⟩, A3, H⟩ := bindE_ H
 replace H : ((impl_ReadCred.f k t318).bind fun bt321 => ((impl_readVars.f k a0 t319 2).bind fun bt333 => (if t320 = true then (if bt321.2.2.2.2.2.2.2.2.2.2 = true then (if bt333.2.2 = true then (if 1 < (bt333.1.length : Int) then (impl_readStep.j0 k a0 bt333.2.1 bt333.1 (decide ((rd bt333.1 1) > 2)) bt321.1 bt321.2.1 bt321.2.2.1 bt321.2.2.2.1 bt321.2.2.2.2.1 bt321.2.2.2.2.2.1 bt321.2.2.2.2.2.2.1 bt321.2.2.2.2.2.2.2.1 bt321.2.2.2.2.2.2.2.2.1 bt321.2.2.2.2.2.2.2.2.2.1) else (none)) else (impl_readStep.j0 k a0 bt333.2.1 bt333.1 true bt321.1 bt321.2.1 bt321.2.2.1 bt321.2.2.2.1 bt321.2.2.2.2.1 bt321.2.2.2.2.2.1 bt321.2.2.2.2.2.2.1 bt321.2.2.2.2.2.2.2.1 bt321.2.2.2.2.2.2.2.2.1 bt321.2.2.2.2.2.2.2.2.2.1)) else (impl_readStep.j0 k a0 bt333.2.1 bt333.1 true bt321.1 bt321.2.1 bt321.2.2.1 bt321.2.2.2.1 bt321.2.2.2.2.1 bt321.2.2.2.2.2.1 bt321.2.2.2.2.2.2.1 bt321.2.2.2.2.2.2.2.1 bt321.2.2.2.2.2.2.2.2.1 bt321.2.2.2.2.2.2.2.2.2.1)) else (impl_readStep.j0 k a0 bt333.2.1 bt333.1 true bt321.1 bt321.2.1 bt321.2.2.1 bt321.2.2.2.1 bt321.2.2.2.2.1 bt321.2.2.2.2.2.1 bt321.2.2.2.2.2.2.1 bt321.2.2.2.2.2.2.2.1 bt321.2.2.2.2.2.2.2.2.1 bt321.2.2.2.2.2.2.2.2.2.1)))) = some (r1, r2, r3, r4, r5, r6, r7, r8, r9, r10, r11, r12, r13, r14, r15, r16) := H
 obtain ⟨⟨t321, t322, t323, t324, t325, t326, t327, t328, t329, t330, t331⟩, A4, H⟩ := bindE_ H
 replace H : ((impl_readVars.f k a0 t319 2).bind fun bt333 => (if t320 = true then (if t331 = true then (if bt333.2.2 = true then (if 1 < (bt333.1.length : Int) then (impl_readStep.j0 k a0 bt333.2.1 bt333.1 (decide ((rd bt333.1 1) > 2)) t321 t322 t323 t324 t325 t326 t327 t328 t329 t330) else (none)) else (impl_readStep.j0 k a0 bt333.2.1 bt333.1 true t321 t322 t323 t324 t325 t326 t327 t328 t329 t330)) else (impl_readStep.j0 k a0 bt333.2.1 bt333.1 true t321 t322 t323 t324 t325 t326 t327 t328 t329 t330)) else (impl_readStep.j0 k a0 bt333.2.1 bt333.1 true t321 t322 t323 t324 t325 t326 t327 t328 t329 t330))) = some (r1, r2, r3, r4, r5, r6, r7, r8, r9, r10, r11, r12, r13, r14, r15, r16) := H
 obtain ⟨⟨t333, t334, t335⟩, A5, H⟩ := bindE_ H
 replace H : (if t320 = true then (if t331 = true then (if t335 = true then (if 1 < (t333.length : Int) then (impl_readStep.j0 k a0 t334 t333 (decide ((rd t333 1) > 2)) t321 t322 t323 t324 t325 t326 t327 t328 t329 t330) else (none)) else (impl_readStep.j0 k a0 t334 t333 true t321 t322 t323 t324 t325 t326 t327 t328 t329 t330)) else (impl_readStep.j0 k a0 t334 t333 true t321 t322 t323 t324 t325 t326 t327 t328 t329 t330)) else (impl_readStep.j0 k a0 t334 t333 true t321 t322 t323 t324 t325 t326 t327 t328 t329 t330)) = some (r1, r2, r3, r4, r5, r6, r7, r8, r9, r10, r11, r12, r13, r14, r15, r16) := H
 have HC6 := Aside0.mk H
 clear H
 go_enter Try.func11, Try.ntmps11
 go_upto_region 4 with (first | ((with_reducible refine gate_dst (N := 4) rfl ?_); refine box_event ?hg (N := 4) ?hd (cs := #[.int .i64 0, .int .i64 0, .int .i64 0, .int .i64 0, .int .i64 0, .int .i64 0, .int .i64 0, .int .i64 0, .int .i64 0, .int .i64 0, .int .i64 0, .int .i64 0, .int .i64 0, .slice none 0 0]) (t := 36) ?hr ?_; (case hd => rfl); (case hg => rfl); (case hr => first | (go_simp; done) | (go_simp; rfl)); intro gb317 hg w7 hbox hb; have BK317 := Aside0.mk (hbox); have GW317 := gs_ hg; have GE317 := gs_ hg; replace HB := hbs_ hb; clear hb hbox hg) | ((with_reducible refine gate_callee (f := 19) rfl ?_); refine goesC_ (some 21) Try.func19 #[.string a0, .int .i64 a1] ?_; (with_reducible refine (impl_ReadShort.calls k a0 a1 t318 t319 t320 _ A3.out).mono ?_); rintro e w' ⟨rfl, ⟨nd, rfl⟩⟩; refine ⟨_, rfl, ?_⟩; (try (rw [drewN_self w7]; generalize hq_ : World.drewN w7 _ = w7; have n0_ : Aside0 (w7.heap[gb317]? = some (.cells #[.int .i64 0, .int .i64 0, .int .i64 0, .int .i64 0, .int .i64 0, .int .i64 0, .int .i64 0, .int .i64 0, .int .i64 0, .int .i64 0, .int .i64 0, .int .i64 0, .int .i64 0, .slice none 0 0] 36 (0, 0))) := ⟨by rw [← hq_]; exact (bk_ BK317)⟩; have n1_ : Aside0 (Below w.heap.size w w7) := ⟨by rw [← hq_]; exact bl_⟩; clear BK317 HB hq_; have BK317 := n0_; have HB := n1_; clear n0_ n1_))) | ((with_reducible refine gate_callee (f := 20) rfl ?_); refine goesC_ (some 27) Try.func20 #[.string t318] ?_; (with_reducible refine (impl_ReadCred.calls k t318 t321 t322 t323 t324 t325 t326 t327 t328 t329 t330 t331 _ A4.out).mono ?_); rintro e w8 ⟨rfl, hb⟩; refine ⟨_, rfl, ?_⟩; replace BK317 := bkb_ BK317 hb; replace HB := hbs_ hb; clear hb) | ((with_reducible refine gate_dst (N := 9) rfl ?_); refine box_event ?hg (N := 9) ?hd (cs := #[.int .i64 0, .int .i64 0, .int .i64 0, .int .i64 0, .int .i64 0, .int .i64 0, .int .i64 0, .int .i64 0, .int .i64 0, .int .i64 0]) (t := 31) ?hr ?_; (case hd => rfl); (case hg => rfl); (case hr => first | (go_simp; done) | (go_simp; rfl)); intro gb332 hg w9 hbox hb; have BK332 := Aside0.mk (hbox); have GW332 := gs_ hg; have GE332 := gs_ hg; replace HB := hbs_ hb; have NB317_332 := Aside0.mk ((by rw [hg]; exact Nat.ne_of_lt (blk_lt (g := gb317) (o := .cells #[.int .i64 0, .int .i64 0, .int .i64 0, .int .i64 0, .int .i64 0, .int .i64 0, .int .i64 0, .int .i64 0, .int .i64 0, .int .i64 0, .int .i64 0, .int .i64 0, .int .i64 0, .slice none 0 0] 36 (0, 0)) (bk_ BK317)) : gb317 ≠ gb332)); have NB332_317 := Aside0.mk ((by rw [hg]; exact Nat.ne_of_gt (blk_lt (g := gb317) (o := .cells #[.int .i64 0, .int .i64 0, .int .i64 0, .int .i64 0, .int .i64 0, .int .i64 0, .int .i64 0, .int .i64 0, .int .i64 0, .int .i64 0, .int .i64 0, .int .i64 0, .int .i64 0, .slice none 0 0] 36 (0, 0)) (bk_ BK317)) : gb332 ≠ gb317)); replace BK317 := bkb_ BK317 hb; clear hb hbox hg; have hnb10 := NB332_317.out; have hnc10 := NB317_332.out; have hcz11 := blk_cell BK332.out; have hfz11 := blk_frozen BK332.out) | ((with_reducible refine gate_callee (f := 21) rfl ?_); refine goesC_ (some 33) Try.func21 #[.string a0, .int .i64 t319, .int .i64 2] ?_; (with_reducible refine (impl_readVars.calls k a0 t319 2 t333 t334 t335 _ A5.out).mono ?_); rintro e w12 ⟨v336, rfl, ho0, hb⟩; refine ⟨_, rfl, ?_⟩; have HO337 := Aside0.mk (Kd.R_lower ho0 bls_); replace BK317 := Aside0.mk (blk_below (g := gb317) (o := .cells #[.int .i64 0, .int .i64 0, .int .i64 0, .int .i64 0, .int .i64 0, .int .i64 0, .int .i64 0, .int .i64 0, .int .i64 0, .int .i64 0, .int .i64 0, .int .i64 0, .int .i64 0, .slice none 0 0] 36 (0, 0)) (bk_ BK317) hb); replace BK332 := Aside0.mk (blk_below (g := gb332) (o := .cells #[.int .i64 t321, .int .i64 t322, .int .i64 t323, .int .i64 t324, .int .i64 t325, .int .i64 t326, .int .i64 t327, .int .i64 t328, .int .i64 t329, .int .i64 t330] 31 (0, 0)) (bk_ BK332) hb); replace HB := hbs_ hb; (try clear hb); (try clear hb2); (try clear hk); (try clear hi); (try clear ho0)))
 (try simp only [Act.put, List.setIfInBounds_toArray, List.set_cons_zero, List.set_cons_succ])
 go_cut [52] (fun v52 wc => ∃ (kq : Nat) (x52_5 : Bool), v52 = .bool x52_5 ∧ Aside0 (impl_readStep.j0 kq a0 t334 t333 x52_5 t321 t322 t323 t324 t325 t326 t327 t328 t329 t330 = some (r1, r2, r3, r4, r5, r6, r7, r8, r9, r10, r11, r12, r13, r14, r15, r16)) ∧ Aside0 (kq ≤ k) ∧ Aside0 (Kd.R (Kd.int .i64) 3 wc w.heap.size (fun _ => True) v336 t333) ∧ Aside0 (wc.heap[gb317]? = some (.cells #[.int .i64 0, .int .i64 0, .int .i64 0, .int .i64 0, .int .i64 0, .int .i64 0, .int .i64 0, .int .i64 0, .int .i64 0, .int .i64 0, .int .i64 0, .int .i64 0, .int .i64 0, (.slice none 0 0)] 36 (0, 0))) ∧ Aside0 (wc.heap[gb332]? = some (.cells #[.int .i64 t321, .int .i64 t322, .int .i64 t323, .int .i64 t324, .int .i64 t325, .int .i64 t326, .int .i64 t327, .int .i64 t328, .int .i64 t329, .int .i64 t330] 31 (0, 0))) ∧ Aside0 (Below w.heap.size w wc))
 case first =>
  have H := HC6.out
  clear HC6
  by_cases c13 : t320 = true
  ·subst c13
   replace H := ite_t_ H
   by_cases c14 : t331 = true
   ·subst c14
    replace H := ite_t_ H
    by_cases c15 : t335 = true
    ·subst c15
     replace H := ite_t_ H
     by_cases c16 : 1 < (t333.length : Int)
     ·rw [if_pos c16] at H
      have c16b0 : decide (1 < (t333.length : Int)) = true := decide_eq_true c16
      have c16b1 : decide (1 < t333.length) = true := decide_eq_true (by omega)
      clear c16
      (first | rw [c16b0] | (simp only [i64_w, i32_w]; rw [c16b0]) | (have cz_ := c16b0; simp only [Int.ofNat_lt, Int.ofNat_le, gt_iff_lt, ge_iff_le] at cz_; rw [cz_]; clear cz_) | skip)
      have H' := Aside0.mk H
      clear H
      obtain ⟨Ao17, co17, eo17⟩ := Kd.R_slice HO337.out
      subst eo17
      have p338 : 0 ≤ (1 : Int) := (by omega)
      have q338 : 1 < (t333.length : Int) := of_decide_eq_true (by first | (with_reducible assumption) | assumption)
      obtain ⟨ad338, e338, hx338_0⟩ := Kd.at_int (Kd.R_reads' HO337.out).2.2 1 p338 q338
      cases e338
      (try simp only [show (1 : Int).toNat = 1 from rfl, Nat.reduceMul, Nat.reduceEqDiff, Go.Addr.add, ↓reduceIte] at hx338_0)
      have qi338 : (1 < t333.length) = True := eq_true (by omega)
      (try rw [show ((1 : Int)).toNat = 1 from rfl] at hx338_0)
      replace p338 := eq_true p338
      replace q338 := eq_true q338
      go_wp2
      go_meet
      case rel => exact ⟨_, (decide ((rd t333 1) > 2)), (by first | rfl | (simp; done) | (simp [*]; done)), H', ⟨by first | omega | exact Nat.le_refl _⟩, ⟨by (with_reducible repeat (first | apply Kd.R_alloc | apply Kd.R_drewN | apply Kd.R_drew)); exact HO337.out⟩, ⟨bk_ BK317⟩, ⟨bk_ BK332⟩, ⟨bl_⟩⟩
     ·rw [if_neg c16] at H
      exact absurd H (by simp)
    ·replace c15 := Bool.eq_false_iff.mpr c15
     subst c15
     replace H := ite_f_ H
     have H' := Aside0.mk H
     clear H
     go_wp2
     go_meet
     case rel => exact ⟨_, (true), (by first | rfl | (simp; done) | (simp [*]; done)), H', ⟨by first | omega | exact Nat.le_refl _⟩, ⟨by (with_reducible repeat (first | apply Kd.R_alloc | apply Kd.R_drewN | apply Kd.R_drew)); exact HO337.out⟩, ⟨bk_ BK317⟩, ⟨bk_ BK332⟩, ⟨bl_⟩⟩
   ·replace c14 := Bool.eq_false_iff.mpr c14
    subst c14
    replace H := ite_f_ H
    have H' := Aside0.mk H
    clear H
    go_wp2
    go_meet
    case rel => exact ⟨_, (true), (by first | rfl | (simp; done) | (simp [*]; done)), H', ⟨by first | omega | exact Nat.le_refl _⟩, ⟨by (with_reducible repeat (first | apply Kd.R_alloc | apply Kd.R_drewN | apply Kd.R_drew)); exact HO337.out⟩, ⟨bk_ BK317⟩, ⟨bk_ BK332⟩, ⟨bl_⟩⟩
  ·replace c13 := Bool.eq_false_iff.mpr c13
   subst c13
   replace H := ite_f_ H
   have H' := Aside0.mk H
   clear H
   go_wp2
   go_meet
   case rel => exact ⟨_, (true), (by first | rfl | (simp; done) | (simp [*]; done)), H', ⟨by first | omega | exact Nat.le_refl _⟩, ⟨by (with_reducible repeat (first | apply Kd.R_alloc | apply Kd.R_drewN | apply Kd.R_drew)); exact HO337.out⟩, ⟨bk_ BK317⟩, ⟨bk_ BK332⟩, ⟨bl_⟩⟩
 case rest =>
  clear HC6
  try clear c1
  try clear c2
  try clear p2
  try clear p3
  try clear q3
  try clear hx3
  try clear qi3
  try clear c10
  try clear c11
  try clear c13
  try clear c14
  try clear c15
  try clear c16
  try clear c16b0
  try clear c16b1
  try clear hcz11
  try clear hfz11
  try clear hx338_0
  try clear p338
  try clear q338
  obtain ⟨kq, x52_5, rfl, HA, HJ5, HO_11, BK317, BK332, HB⟩ := hcut
  cases kq with
  | zero => exact absurd HA.out (by simp [impl_readStep.j0])
  | succ kj5 =>
   have H := HA.out
   clear HA
   simp only [impl_readStep.j0] at H
   by_cases c18 : x52_5 = true
   ·subst c18
    replace H := ite_t_ H
    simp only [Option.some.injEq, Prod.mk.injEq] at H
    obtain ⟨rfl, rfl, rfl, rfl, rfl, rfl, rfl, rfl, rfl, rfl, rfl, rfl, rfl, rfl, rfl, rfl⟩ := H
    have hnb19 := NB317_332.out
    have hnc19 := NB332_317.out
    have hcz20 := blk_cell BK317.out
    have hfz20 := blk_frozen BK317.out
    go_wp2
    refine bodyPost_ret (results_ctt rfl _ _ gb317 36 #[.int .i64 0, .int .i64 0, .int .i64 0, .int .i64 0, .int .i64 0, .int .i64 0, .int .i64 0, .int .i64 0, .int .i64 0, .int .i64 0, .int .i64 0, .int .i64 0, .int .i64 0, .slice none 0 0] (0, 0) _ rfl (bk_ BK317) Try.underlying36 rfl (by kernel_rfl)) rfl ?_
    exact ⟨_, eq_, by first | exact Kd.R_nil _ _ _ _ _ | exact Kd.N_nil _ _ _ _ _ | exact Kd.V_nil _ _ _ _ _ | exact Kd.Q_nil _ _ _ _ _ | exact Kd.S_nil _ _ _ _ _, bl_⟩
   ·replace c18 := Bool.eq_false_iff.mpr c18
    subst c18
    replace H := ite_f_ H
    by_cases c21 : 1 < (t333.length : Int)
    ·rw [if_pos c21] at H
     have c21b0 : decide (1 < (t333.length : Int)) = true := decide_eq_true c21
     have c21b1 : decide (1 < t333.length) = true := decide_eq_true (by omega)
     clear c21
     obtain ⟨⟨t340, t341, t342⟩, A22, H⟩ := bindE_ H
     replace H : (if 0 < (t333.length : Int) then ((impl_StepText.f kj5 t321 t322 t323 t324 t325 t326 t327 t328 t329 t330 t322 t323 (rd t333 0) t340).bind fun bt347 => (if bt347.2 = true then (if t342 = true then (some (t321, t322, t323, t324, t325, t326, t327, t328, t329, t330, t322, t323, rd t333 0, t340, t341, true)) else (some (0, 0, 0, 0, 0, 0, 0, 0, 0, 0, 0, 0, 0, ([] : List Int), 0, false))) else (some (0, 0, 0, 0, 0, 0, 0, 0, 0, 0, 0, 0, 0, ([] : List Int), 0, false)))) else (none)) = some (r1, r2, r3, r4, r5, r6, r7, r8, r9, r10, r11, r12, r13, r14, r15, r16) := H
     by_cases c23 : 0 < (t333.length : Int)
     ·rw [if_pos c23] at H
      have c23b0 : decide (0 < (t333.length : Int)) = true := decide_eq_true c23
      have c23b1 : decide (0 < t333.length) = true := decide_eq_true (by omega)
      clear c23
      obtain ⟨⟨t347, t348⟩, A24, H⟩ := bindE_ H
      replace H : (if t348 = true then (if t342 = true then (some (t321, t322, t323, t324, t325, t326, t327, t328, t329, t330, t322, t323, rd t333 0, t340, t341, true)) else (some (0, 0, 0, 0, 0, 0, 0, 0, 0, 0, 0, 0, 0, ([] : List Int), 0, false))) else (some (0, 0, 0, 0, 0, 0, 0, 0, 0, 0, 0, 0, 0, ([] : List Int), 0, false))) = some (r1, r2, r3, r4, r5, r6, r7, r8, r9, r10, r11, r12, r13, r14, r15, r16) := H
      by_cases c25 : t348 = true
      ·subst c25
       replace H := ite_t_ H
       by_cases c26 : t342 = true
       ·subst c26
        replace H := ite_t_ H
        simp only [Option.some.injEq, Prod.mk.injEq] at H
        obtain ⟨rfl, rfl, rfl, rfl, rfl, rfl, rfl, rfl, rfl, rfl, rfl, rfl, rfl, rfl, rfl, rfl⟩ := H
        obtain ⟨Ao27, co27, eo27⟩ := Kd.R_slice HO_11.out
        subst eo27
        have p339 : 0 ≤ (1 : Int) := (by omega)
        have q339 : 1 < (t333.length : Int) := of_decide_eq_true (by first | (with_reducible assumption) | assumption)
        obtain ⟨ad339, e339, hx339_0⟩ := Kd.at_int (Kd.R_reads' HO_11.out).2.2 1 p339 q339
        cases e339
        (try simp only [show (1 : Int).toNat = 1 from rfl, Nat.reduceMul, Nat.reduceEqDiff, Go.Addr.add, ↓reduceIte] at hx339_0)
        have qi339 : (1 < t333.length) = True := eq_true (by omega)
        (try rw [show ((1 : Int)).toNat = 1 from rfl] at hx339_0)
        replace p339 := eq_true p339
        replace q339 := eq_true q339
        try go_wp2_with (first | ((with_reducible refine gate_callee (f := 21) rfl ?_); refine goesC_ (some 60) Try.func21 #[.string a0, .int .i64 t334, .int .i64 (rd t333 1)] ?_; (with_reducible refine (impl_readVars.calls kj5 a0 t334 (rd t333 1) t340 t341 true _ A22.out).mono ?_); rintro e w28 ⟨v343, rfl, ho0, hb⟩; refine ⟨_, rfl, ?_⟩; have HO344 := Aside0.mk (Kd.R_lower (Kd.R_new' ho0 (Kd.R_lt (by (with_reducible repeat (first | apply Kd.R_alloc | apply Kd.R_drewN | apply Kd.R_drew)); exact HO_11.out))) bls_); replace HO_11 := Aside0.mk (Kd.R_elder' (by (with_reducible repeat (first | apply Kd.R_alloc | apply Kd.R_drewN | apply Kd.R_drew)); exact HO_11.out) (Kd.R_base ho0) hb); replace BK317 := bkb_ BK317 hb; replace BK332 := bkb_ BK332 hb; replace HB := hbs_ hb; (try clear hb); (try clear hb2); (try clear hk); (try clear hi); (try clear ho0)))
        replace HO_11 := Aside0.mk (Kd.R_drew HO_11.out)
        replace HO344 := Aside0.mk (Kd.R_drew HO344.out)
        replace BK317 := Aside0.mk (blk_drew BK317.out)
        replace BK332 := Aside0.mk (blk_drew BK332.out)
        replace HB := Aside0.mk (below_drew1 HB.out)
        have p345 : 0 ≤ (0 : Int) := (by omega)
        have q345 : 0 < (t333.length : Int) := of_decide_eq_true (by first | (with_reducible assumption) | assumption)
        obtain ⟨ad345, e345, hx345_0⟩ := Kd.at_int (Kd.R_reads' HO_11.out).2.2 0 p345 q345
        obtain rfl : ad339 = ad345 := (by injection e345)
        have qi345 : (0 < t333.length) = True := eq_true (by omega)
        (try rw [show ((0 : Int)).toNat = 0 from rfl] at hx345_0)
        (try rw [Addr.add_zero'] at hx345_0)
        replace p345 := eq_true p345
        replace q345 := eq_true q345
        obtain ⟨Ao30, co30, eo30⟩ := Kd.R_slice HO344.out
        (first | subst eo30 | (injection eo30 with f1_ f2_ f3_; have f4_ := f1_.symm; have f5_ := f3_.symm; clear f1_ f2_ f3_; subst f4_; subst f5_))
        refine start_ (n := 11) (S := fun w' => w'.cell? ⟨gb332, 0, none⟩ = some (.int .i64 t321) ∧ w'.cell? ⟨gb332, 1, none⟩ = some (.int .i64 t322) ∧ w'.cell? ⟨gb332, 2, none⟩ = some (.int .i64 t323) ∧ w'.cell? ⟨gb332, 3, none⟩ = some (.int .i64 t324) ∧ w'.cell? ⟨gb332, 4, none⟩ = some (.int .i64 t325) ∧ w'.cell? ⟨gb332, 5, none⟩ = some (.int .i64 t326) ∧ w'.cell? ⟨gb332, 6, none⟩ = some (.int .i64 t327) ∧ w'.cell? ⟨gb332, 7, none⟩ = some (.int .i64 t328) ∧ w'.cell? ⟨gb332, 8, none⟩ = some (.int .i64 t329) ∧ w'.cell? ⟨gb332, 9, none⟩ = some (.int .i64 t330) ∧ w'.cell? ad339 = some (.int .i64 (rd t333 0))) (ds := []) #[false, false, false, false, false, false, false, false, false, false, false] (by kernel_rfl) rfl rfl ⟨(blk_cell BK332.out 0).trans rfl, (blk_cell BK332.out 1).trans rfl, (blk_cell BK332.out 2).trans rfl, (blk_cell BK332.out 3).trans rfl, (blk_cell BK332.out 4).trans rfl, (blk_cell BK332.out 5).trans rfl, (blk_cell BK332.out 6).trans rfl, (blk_cell BK332.out 7).trans rfl, (blk_cell BK332.out 8).trans rfl, (blk_cell BK332.out 9).trans rfl, hx345_0⟩ (fun hHeld => ?_); refine with_tabW impl_readStep.tab7 impl_readStep.bits7 (fun HT_ HW_ => ?_)
        generalize w28.drew = w29 at HO_11 HO344 BK317 BK332 HB hx345_0 hHeld ⊢
        refine pureZ_ (i := 1) (some 65) #[false, true, false, false, false, false, false, false, false, false, false] (any_of HT_.out (by kernel_rfl)) ?_
        refine pureZ_ (i := 3) (some 67) #[false, true, false, true, false, false, false, false, false, false, false] (any_of HT_.out (by kernel_rfl)) ?_
        refine pureZ_ (i := 4) (some 68) #[false, true, false, true, true, false, false, false, false, false, false] (any_of HT_.out (by kernel_rfl)) ?_
        refine pureZ_ (i := 7) (some 71) #[false, true, false, true, true, false, false, true, false, false, false] (any_of HT_.out (by kernel_rfl)) ?_
        refine takeZ_ (i := 0) (some 64) #[true, true, false, true, true, false, false, true, false, false, false] (take_ofW HT_.out HW_.out (by kernel_rfl)) hHeld ?_
        refine takeZ_ (i := 2) (some 66) #[true, true, true, true, true, false, false, true, false, false, false] (take_ofW HT_.out HW_.out (by kernel_rfl)) hHeld ?_
        refine takeZ_ (i := 5) (some 69) #[true, true, true, true, true, true, false, true, false, false, false] (take_ofW HT_.out HW_.out (by kernel_rfl)) hHeld ?_
        refine pureZ_ (i := 6) (some 70) #[true, true, true, true, true, true, true, true, false, false, false] (any_of HT_.out (by kernel_rfl)) ?_
        refine pureZ_ (i := 8) (some 72) #[true, true, true, true, true, true, true, true, true, false, false] (any_of HT_.out (by kernel_rfl)) ?_
        refine one_ (i := 9) (N := some 15) #[true, true, true, true, true, true, true, true, true, true, false] rfl rfl (one_of HT_.out (by kernel_rfl)) (by decide) (fun K hK => ?_)
        refine box_step ?hg (N := 15) ?hd (cs := #[.int .i64 0, .int .i64 0, .int .i64 0, .int .i64 0, .int .i64 0, .int .i64 0, .int .i64 0, .int .i64 0, .int .i64 0, .int .i64 0, .int .i64 0, .int .i64 0, .int .i64 0, .slice none 0 0]) (t := 36) ?hr ?_; (case hd => rfl); (case hg => rfl); (case hr => first | (go_simp; done) | (go_simp; rfl))
        intro gb346 hg w31 hbox hb
        have HS10_ := (hb.cell (World.block_lt_of_cell? _ _ (hHeld.2.2.2.2.2.2.2.2.2.2))).trans (hHeld.2.2.2.2.2.2.2.2.2.2)
        replace HO_11 := Aside0.mk (Kd.R_below (by (with_reducible repeat (first | apply Kd.R_alloc | apply Kd.R_drewN | apply Kd.R_drew)); exact HO_11.out) hb)
        replace HO344 := Aside0.mk (Kd.R_below (by (with_reducible repeat (first | apply Kd.R_alloc | apply Kd.R_drewN | apply Kd.R_drew)); exact HO344.out) hb)
        have BK346 := Aside0.mk (hbox)
        have GW346 := gs_ hg
        have GE346 := gs_ hg
        replace HB := hbs_ hb
        have NB317_346 := Aside0.mk ((by rw [hg]; exact Nat.ne_of_lt (blk_lt (g := gb317) (o := .cells #[.int .i64 0, .int .i64 0, .int .i64 0, .int .i64 0, .int .i64 0, .int .i64 0, .int .i64 0, .int .i64 0, .int .i64 0, .int .i64 0, .int .i64 0, .int .i64 0, .int .i64 0, .slice none 0 0] 36 (0, 0)) (bk_ BK317)) : gb317 ≠ gb346))
        have NB346_317 := Aside0.mk ((by rw [hg]; exact Nat.ne_of_gt (blk_lt (g := gb317) (o := .cells #[.int .i64 0, .int .i64 0, .int .i64 0, .int .i64 0, .int .i64 0, .int .i64 0, .int .i64 0, .int .i64 0, .int .i64 0, .int .i64 0, .int .i64 0, .int .i64 0, .int .i64 0, .slice none 0 0] 36 (0, 0)) (bk_ BK317)) : gb346 ≠ gb317))
        replace BK317 := bkb_ BK317 hb
        have NB332_346 := Aside0.mk ((by rw [hg]; exact Nat.ne_of_lt (blk_lt (g := gb332) (o := .cells #[.int .i64 t321, .int .i64 t322, .int .i64 t323, .int .i64 t324, .int .i64 t325, .int .i64 t326, .int .i64 t327, .int .i64 t328, .int .i64 t329, .int .i64 t330] 31 (0, 0)) (bk_ BK332)) : gb332 ≠ gb346))
        have NB346_332 := Aside0.mk ((by rw [hg]; exact Nat.ne_of_gt (blk_lt (g := gb332) (o := .cells #[.int .i64 t321, .int .i64 t322, .int .i64 t323, .int .i64 t324, .int .i64 t325, .int .i64 t326, .int .i64 t327, .int .i64 t328, .int .i64 t329, .int .i64 t330] 31 (0, 0)) (bk_ BK332)) : gb346 ≠ gb332))
        replace BK332 := bkb_ BK332 hb
        clear hb hbox hg
        refine hK.out _ _ ⟨(blk_cell BK332.out 0).trans rfl, (blk_cell BK332.out 1).trans rfl, (blk_cell BK332.out 2).trans rfl, (blk_cell BK332.out 3).trans rfl, (blk_cell BK332.out 4).trans rfl, (blk_cell BK332.out 5).trans rfl, (blk_cell BK332.out 6).trans rfl, (blk_cell BK332.out 7).trans rfl, (blk_cell BK332.out 8).trans rfl, (blk_cell BK332.out 9).trans rfl, HS10_⟩ (fun hHeld => ?_)
        clear hK K
        refine norm_ (a' := ?_) ?_ ?_
        rotate_left
        ·show Act.put _ (some 15) _ = _
         simp only [Act.put, List.setIfInBounds_toArray, List.set_cons_zero, List.set_cons_succ, i64_w, i32_w]
         rfl
        refine one_ (i := 10) (N := none) #[true, true, true, true, true, true, true, true, true, true, true] rfl rfl (one_of HT_.out (by kernel_rfl)) (by decide) (fun K hK => ?_)
        have hs32 : w31.cell? ⟨gb346, 0, none⟩ = some (.int .i64 0) := (blk_cell BK346.out 0).trans rfl
        have hfs32 := blk_frozen BK346.out 0
        have hns32_0 := NB317_346.out
        have hns32_1 := NB332_346.out
        have hms32_0 := NB346_317.out
        have hms32_1 := NB346_332.out
        have hs33 : w31.cell? ⟨gb346, 1, none⟩ = some (.int .i64 0) := (blk_cell BK346.out 1).trans rfl
        have hfs33 := blk_frozen BK346.out 1
        have hns33_0 := NB317_346.out
        have hns33_1 := NB332_346.out
        have hms33_0 := NB346_317.out
        have hms33_1 := NB346_332.out
        have hs34 : w31.cell? ⟨gb346, 2, none⟩ = some (.int .i64 0) := (blk_cell BK346.out 2).trans rfl
        have hfs34 := blk_frozen BK346.out 2
        have hns34_0 := NB317_346.out
        have hns34_1 := NB332_346.out
        have hms34_0 := NB346_317.out
        have hms34_1 := NB346_332.out
        have hs35 : w31.cell? ⟨gb346, 3, none⟩ = some (.int .i64 0) := (blk_cell BK346.out 3).trans rfl
        have hfs35 := blk_frozen BK346.out 3
        have hns35_0 := NB317_346.out
        have hns35_1 := NB332_346.out
        have hms35_0 := NB346_317.out
        have hms35_1 := NB346_332.out
        have hs36 : w31.cell? ⟨gb346, 4, none⟩ = some (.int .i64 0) := (blk_cell BK346.out 4).trans rfl
        have hfs36 := blk_frozen BK346.out 4
        have hns36_0 := NB317_346.out
        have hns36_1 := NB332_346.out
        have hms36_0 := NB346_317.out
        have hms36_1 := NB346_332.out
        have hs37 : w31.cell? ⟨gb346, 5, none⟩ = some (.int .i64 0) := (blk_cell BK346.out 5).trans rfl
        have hfs37 := blk_frozen BK346.out 5
        have hns37_0 := NB317_346.out
        have hns37_1 := NB332_346.out
        have hms37_0 := NB346_317.out
        have hms37_1 := NB346_332.out
        have hs38 : w31.cell? ⟨gb346, 6, none⟩ = some (.int .i64 0) := (blk_cell BK346.out 6).trans rfl
        have hfs38 := blk_frozen BK346.out 6
        have hns38_0 := NB317_346.out
        have hns38_1 := NB332_346.out
        have hms38_0 := NB346_317.out
        have hms38_1 := NB346_332.out
        have hs39 : w31.cell? ⟨gb346, 7, none⟩ = some (.int .i64 0) := (blk_cell BK346.out 7).trans rfl
        have hfs39 := blk_frozen BK346.out 7
        have hns39_0 := NB317_346.out
        have hns39_1 := NB332_346.out
        have hms39_0 := NB346_317.out
        have hms39_1 := NB346_332.out
        have hs40 : w31.cell? ⟨gb346, 8, none⟩ = some (.int .i64 0) := (blk_cell BK346.out 8).trans rfl
        have hfs40 := blk_frozen BK346.out 8
        have hns40_0 := NB317_346.out
        have hns40_1 := NB332_346.out
        have hms40_0 := NB346_317.out
        have hms40_1 := NB346_332.out
        have hs41 : w31.cell? ⟨gb346, 9, none⟩ = some (.int .i64 0) := (blk_cell BK346.out 9).trans rfl
        have hfs41 := blk_frozen BK346.out 9
        have hns41_0 := NB317_346.out
        have hns41_1 := NB332_346.out
        have hms41_0 := NB346_317.out
        have hms41_1 := NB346_332.out
        have hs42 : w31.cell? ⟨gb346, 10, none⟩ = some (.int .i64 0) := (blk_cell BK346.out 10).trans rfl
        have hfs42 := blk_frozen BK346.out 10
        have hns42_0 := NB317_346.out
        have hns42_1 := NB332_346.out
        have hms42_0 := NB346_317.out
        have hms42_1 := NB346_332.out
        have hs43 : w31.cell? ⟨gb346, 11, none⟩ = some (.int .i64 0) := (blk_cell BK346.out 11).trans rfl
        have hfs43 := blk_frozen BK346.out 11
        have hns43_0 := NB317_346.out
        have hns43_1 := NB332_346.out
        have hms43_0 := NB346_317.out
        have hms43_1 := NB346_332.out
        have hs44 : w31.cell? ⟨gb346, 12, none⟩ = some (.int .i64 0) := (blk_cell BK346.out 12).trans rfl
        have hfs44 := blk_frozen BK346.out 12
        have hns44_0 := NB317_346.out
        have hns44_1 := NB332_346.out
        have hms44_0 := NB346_317.out
        have hms44_1 := NB346_332.out
        have hs45 : w31.cell? ⟨gb346, 13, none⟩ = some (.slice none 0 0) := (blk_cell BK346.out 13).trans rfl
        have hfs45 := blk_frozen BK346.out 13
        have hns45_0 := NB317_346.out
        have hns45_1 := NB332_346.out
        have hms45_0 := NB346_317.out
        have hms45_1 := NB346_332.out
        refine skip_ (w1 := ?_) (by rfl) rfl ?_ ?_
        rotate_left
        ·go_simp
         rfl
        refine hK.out _ _ ⟨(cf14_ (g := gb346) (hHeld.1) NB332_346.out), (cf14_ (g := gb346) (hHeld.2.1) NB332_346.out), (cf14_ (g := gb346) (hHeld.2.2.1) NB332_346.out), (cf14_ (g := gb346) (hHeld.2.2.2.1) NB332_346.out), (cf14_ (g := gb346) (hHeld.2.2.2.2.1) NB332_346.out), (cf14_ (g := gb346) (hHeld.2.2.2.2.2.1) NB332_346.out), (cf14_ (g := gb346) (hHeld.2.2.2.2.2.2.1) NB332_346.out), (cf14_ (g := gb346) (hHeld.2.2.2.2.2.2.2.1) NB332_346.out), (cf14_ (g := gb346) (hHeld.2.2.2.2.2.2.2.2.1) NB332_346.out), (cf14_ (g := gb346) (hHeld.2.2.2.2.2.2.2.2.2.1) NB332_346.out), (cf14_ (g := gb346) (hHeld.2.2.2.2.2.2.2.2.2.2) (Kd.own_blk (Kd.R_ne HO_11.out BK346.out (by decide))))⟩ (fun hHeld => ?_)
        clear hK K
        refine done_ (done_of HT_.out (by kernel_rfl)) ?_
        have hnb46 := NB346_317.out
        have hnc46 := NB317_346.out
        have hnb47 := NB346_332.out
        have hnc47 := NB332_346.out
        have hcz48 := blk_cell BK346.out
        have hfz48 := blk_frozen BK346.out
        try go_wp2_with (first | ((with_reducible refine gate_callee (f := 22) rfl ?_); refine goesC_ (some 75) Try.func22 #[.agg #[.int .i64 t321, .int .i64 t322, .int .i64 t323, .int .i64 t324, .int .i64 t325, .int .i64 t326, .int .i64 t327, .int .i64 t328, .int .i64 t329, .int .i64 t330, .int .i64 t322, .int .i64 t323, .int .i64 (rd t333 0), .slice Ao30 t340.length co30]] ?_; (with_reducible refine (impl_StepText.calls kj5 t321 t322 t323 t324 t325 t326 t327 t328 t329 t330 t322 t323 (rd t333 0) _ _ t340 t347 true _ ?side1 ?side2 A24.out).mono ?_); (case side1 => refine (Kd.R_reads' (e := 3) (base := w.heap.size) (ok := fun k_ => (True ∧ some k_ ≠ (.slice (some ad339) t333.length co27 : Value).ownBlock)) (n := t340.length) (c := co30) ?_).2.2; exact (by (with_reducible repeat (first | apply Kd.R_alloc | apply Kd.R_drewN | apply Kd.R_drew)); exact (Kd.R_mono (Kd.R_far (p := ⟨gb346, 13, none⟩) (Kd.R_far (p := ⟨gb346, 12, none⟩) (Kd.R_far (p := ⟨gb346, 11, none⟩) (Kd.R_far (p := ⟨gb346, 10, none⟩) (Kd.R_far (p := ⟨gb346, 9, none⟩) (Kd.R_far (p := ⟨gb346, 8, none⟩) (Kd.R_far (p := ⟨gb346, 7, none⟩) (Kd.R_far (p := ⟨gb346, 6, none⟩) (Kd.R_far (p := ⟨gb346, 5, none⟩) (Kd.R_far (p := ⟨gb346, 4, none⟩) (Kd.R_far (p := ⟨gb346, 3, none⟩) (Kd.R_far (p := ⟨gb346, 2, none⟩) (Kd.R_far (p := ⟨gb346, 1, none⟩) (Kd.R_far (p := ⟨gb346, 0, none⟩) (Kd.R_types HO344.out BK346.out (by decide)) (fun _ hk => hk.2) (.int .i64 t321)) (fun _ hk => hk.2) (.int .i64 t322)) (fun _ hk => hk.2) (.int .i64 t323)) (fun _ hk => hk.2) (.int .i64 t324)) (fun _ hk => hk.2) (.int .i64 t325)) (fun _ hk => hk.2) (.int .i64 t326)) (fun _ hk => hk.2) (.int .i64 t327)) (fun _ hk => hk.2) (.int .i64 t328)) (fun _ hk => hk.2) (.int .i64 t329)) (fun _ hk => hk.2) (.int .i64 t330)) (fun _ hk => hk.2) (.int .i64 t322)) (fun _ hk => hk.2) (.int .i64 t323)) (fun _ hk => hk.2) (.int .i64 (rd t333 0))) (fun _ hk => hk.2) (.slice Ao30 t340.length co30)) (fun _ h_ => h_.1)))); (case side2 => exact (Kd.R_reads' HO344.out).2.1); rintro e w49 ⟨rfl, hb⟩; refine ⟨_, rfl, ?_⟩; replace HO_11 := Aside0.mk (Kd.R_below (by (with_reducible repeat (first | apply Kd.R_alloc | apply Kd.R_drewN | apply Kd.R_drew)); exact (Kd.R_mono (Kd.R_far (p := ⟨gb346, 13, none⟩) (Kd.R_far (p := ⟨gb346, 12, none⟩) (Kd.R_far (p := ⟨gb346, 11, none⟩) (Kd.R_far (p := ⟨gb346, 10, none⟩) (Kd.R_far (p := ⟨gb346, 9, none⟩) (Kd.R_far (p := ⟨gb346, 8, none⟩) (Kd.R_far (p := ⟨gb346, 7, none⟩) (Kd.R_far (p := ⟨gb346, 6, none⟩) (Kd.R_far (p := ⟨gb346, 5, none⟩) (Kd.R_far (p := ⟨gb346, 4, none⟩) (Kd.R_far (p := ⟨gb346, 3, none⟩) (Kd.R_far (p := ⟨gb346, 2, none⟩) (Kd.R_far (p := ⟨gb346, 1, none⟩) (Kd.R_far (p := ⟨gb346, 0, none⟩) (Kd.R_types HO_11.out BK346.out (by decide)) (fun _ hk => hk.2) (.int .i64 t321)) (fun _ hk => hk.2) (.int .i64 t322)) (fun _ hk => hk.2) (.int .i64 t323)) (fun _ hk => hk.2) (.int .i64 t324)) (fun _ hk => hk.2) (.int .i64 t325)) (fun _ hk => hk.2) (.int .i64 t326)) (fun _ hk => hk.2) (.int .i64 t327)) (fun _ hk => hk.2) (.int .i64 t328)) (fun _ hk => hk.2) (.int .i64 t329)) (fun _ hk => hk.2) (.int .i64 t330)) (fun _ hk => hk.2) (.int .i64 t322)) (fun _ hk => hk.2) (.int .i64 t323)) (fun _ hk => hk.2) (.int .i64 (rd t333 0))) (fun _ hk => hk.2) (.slice Ao30 t340.length co30)) (fun _ h_ => h_.1))) hb); replace HO344 := Aside0.mk (Kd.R_below (by (with_reducible repeat (first | apply Kd.R_alloc | apply Kd.R_drewN | apply Kd.R_drew)); exact (Kd.R_mono (Kd.R_far (p := ⟨gb346, 13, none⟩) (Kd.R_far (p := ⟨gb346, 12, none⟩) (Kd.R_far (p := ⟨gb346, 11, none⟩) (Kd.R_far (p := ⟨gb346, 10, none⟩) (Kd.R_far (p := ⟨gb346, 9, none⟩) (Kd.R_far (p := ⟨gb346, 8, none⟩) (Kd.R_far (p := ⟨gb346, 7, none⟩) (Kd.R_far (p := ⟨gb346, 6, none⟩) (Kd.R_far (p := ⟨gb346, 5, none⟩) (Kd.R_far (p := ⟨gb346, 4, none⟩) (Kd.R_far (p := ⟨gb346, 3, none⟩) (Kd.R_far (p := ⟨gb346, 2, none⟩) (Kd.R_far (p := ⟨gb346, 1, none⟩) (Kd.R_far (p := ⟨gb346, 0, none⟩) (Kd.R_types HO344.out BK346.out (by decide)) (fun _ hk => hk.2) (.int .i64 t321)) (fun _ hk => hk.2) (.int .i64 t322)) (fun _ hk => hk.2) (.int .i64 t323)) (fun _ hk => hk.2) (.int .i64 t324)) (fun _ hk => hk.2) (.int .i64 t325)) (fun _ hk => hk.2) (.int .i64 t326)) (fun _ hk => hk.2) (.int .i64 t327)) (fun _ hk => hk.2) (.int .i64 t328)) (fun _ hk => hk.2) (.int .i64 t329)) (fun _ hk => hk.2) (.int .i64 t330)) (fun _ hk => hk.2) (.int .i64 t322)) (fun _ hk => hk.2) (.int .i64 t323)) (fun _ hk => hk.2) (.int .i64 (rd t333 0))) (fun _ hk => hk.2) (.slice Ao30 t340.length co30)) (fun _ h_ => h_.1))) hb); replace BK317 := Aside0.mk (blk_below (g := gb317) (o := .cells #[.int .i64 0, .int .i64 0, .int .i64 0, .int .i64 0, .int .i64 0, .int .i64 0, .int .i64 0, .int .i64 0, .int .i64 0, .int .i64 0, .int .i64 0, .int .i64 0, .int .i64 0, .slice none 0 0] 36 (0, 0)) (bk_ BK317) hb); replace BK332 := Aside0.mk (blk_below (g := gb332) (o := .cells #[.int .i64 t321, .int .i64 t322, .int .i64 t323, .int .i64 t324, .int .i64 t325, .int .i64 t326, .int .i64 t327, .int .i64 t328, .int .i64 t329, .int .i64 t330] 31 (0, 0)) (bk_ BK332) hb); replace BK346 := Aside0.mk (blk_below (g := gb346) (o := .cells #[.int .i64 t321, .int .i64 t322, .int .i64 t323, .int .i64 t324, .int .i64 t325, .int .i64 t326, .int .i64 t327, .int .i64 t328, .int .i64 t329, .int .i64 t330, .int .i64 t322, .int .i64 t323, .int .i64 (rd t333 0), .slice Ao30 t340.length co30] 36 (0, 0)) (bk_ BK346) hb); replace HB := hbs_ hb; clear hb; have hcz50 := blk_cell BK346.out; have hfz50 := blk_frozen BK346.out; have hnb51 := NB317_332.out; have hnc51 := NB332_317.out; have hcz52 := blk_cell BK317.out; have hfz52 := blk_frozen BK317.out))
        refine bodyPost_ret (results_ctt rfl _ _ gb317 36 #[.int .i64 t321, .int .i64 t322, .int .i64 t323, .int .i64 t324, .int .i64 t325, .int .i64 t326, .int .i64 t327, .int .i64 t328, .int .i64 t329, .int .i64 t330, .int .i64 t322, .int .i64 t323, .int .i64 (rd t333 0), .slice Ao30 t340.length co30] (0, 0) _ rfl (bk_ BK317) Try.underlying36 rfl (by kernel_rfl)) rfl ?_
        exact ⟨_, eq_, by (with_reducible repeat (first | apply Kd.R_alloc | apply Kd.R_drewN | apply Kd.R_drew)); exact Kd.R_mono (Kd.R_far (p := ⟨gb317, 13, none⟩) (Kd.R_far (p := ⟨gb317, 12, none⟩) (Kd.R_far (p := ⟨gb317, 11, none⟩) (Kd.R_far (p := ⟨gb317, 10, none⟩) (Kd.R_far (p := ⟨gb317, 9, none⟩) (Kd.R_far (p := ⟨gb317, 8, none⟩) (Kd.R_far (p := ⟨gb317, 7, none⟩) (Kd.R_far (p := ⟨gb317, 6, none⟩) (Kd.R_far (p := ⟨gb317, 5, none⟩) (Kd.R_far (p := ⟨gb317, 4, none⟩) (Kd.R_far (p := ⟨gb317, 3, none⟩) (Kd.R_far (p := ⟨gb317, 2, none⟩) (Kd.R_far (p := ⟨gb317, 1, none⟩) (Kd.R_far (p := ⟨gb317, 0, none⟩) (Kd.R_types HO344.out BK317.out (by decide)) (fun _ hk => hk.2) (.int .i64 t321)) (fun _ hk => hk.2) (.int .i64 t322)) (fun _ hk => hk.2) (.int .i64 t323)) (fun _ hk => hk.2) (.int .i64 t324)) (fun _ hk => hk.2) (.int .i64 t325)) (fun _ hk => hk.2) (.int .i64 t326)) (fun _ hk => hk.2) (.int .i64 t327)) (fun _ hk => hk.2) (.int .i64 t328)) (fun _ hk => hk.2) (.int .i64 t329)) (fun _ hk => hk.2) (.int .i64 t330)) (fun _ hk => hk.2) (.int .i64 t322)) (fun _ hk => hk.2) (.int .i64 t323)) (fun _ hk => hk.2) (.int .i64 (rd t333 0))) (fun _ hk => hk.2) (.slice Ao30 t340.length co30)) (fun _ hk => trivial), bl_⟩
       ·replace c26 := Bool.eq_false_iff.mpr c26
        subst c26
        replace H := ite_f_ H
        simp only [Option.some.injEq, Prod.mk.injEq] at H
        obtain ⟨rfl, rfl, rfl, rfl, rfl, rfl, rfl, rfl, rfl, rfl, rfl, rfl, rfl, rfl, rfl, rfl⟩ := H
        obtain ⟨Ao53, co53, eo53⟩ := Kd.R_slice HO_11.out
        subst eo53
        have p339 : 0 ≤ (1 : Int) := (by omega)
        have q339 : 1 < (t333.length : Int) := of_decide_eq_true (by first | (with_reducible assumption) | assumption)
        obtain ⟨ad339, e339, hx339_0⟩ := Kd.at_int (Kd.R_reads' HO_11.out).2.2 1 p339 q339
        cases e339
        (try simp only [show (1 : Int).toNat = 1 from rfl, Nat.reduceMul, Nat.reduceEqDiff, Go.Addr.add, ↓reduceIte] at hx339_0)
        have qi339 : (1 < t333.length) = True := eq_true (by omega)
        (try rw [show ((1 : Int)).toNat = 1 from rfl] at hx339_0)
        replace p339 := eq_true p339
        replace q339 := eq_true q339
        try go_wp2_with (first | ((with_reducible refine gate_callee (f := 21) rfl ?_); refine goesC_ (some 60) Try.func21 #[.string a0, .int .i64 t334, .int .i64 (rd t333 1)] ?_; (with_reducible refine (impl_readVars.calls kj5 a0 t334 (rd t333 1) t340 t341 false _ A22.out).mono ?_); rintro e w54 ⟨v343, rfl, ho0, hb⟩; refine ⟨_, rfl, ?_⟩; have HO344 := Aside0.mk (Kd.R_lower (Kd.R_new' ho0 (Kd.R_lt (by (with_reducible repeat (first | apply Kd.R_alloc | apply Kd.R_drewN | apply Kd.R_drew)); exact HO_11.out))) bls_); replace HO_11 := Aside0.mk (Kd.R_elder' (by (with_reducible repeat (first | apply Kd.R_alloc | apply Kd.R_drewN | apply Kd.R_drew)); exact HO_11.out) (Kd.R_base ho0) hb); replace BK317 := bkb_ BK317 hb; replace BK332 := bkb_ BK332 hb; replace HB := hbs_ hb; (try clear hb); (try clear hb2); (try clear hk); (try clear hi); (try clear ho0)))
        replace HO_11 := Aside0.mk (Kd.R_drew HO_11.out)
        replace HO344 := Aside0.mk (Kd.R_drew HO344.out)
        replace BK317 := Aside0.mk (blk_drew BK317.out)
        replace BK332 := Aside0.mk (blk_drew BK332.out)
        replace HB := Aside0.mk (below_drew1 HB.out)
        have p345 : 0 ≤ (0 : Int) := (by omega)
        have q345 : 0 < (t333.length : Int) := of_decide_eq_true (by first | (with_reducible assumption) | assumption)
        obtain ⟨ad345, e345, hx345_0⟩ := Kd.at_int (Kd.R_reads' HO_11.out).2.2 0 p345 q345
        obtain rfl : ad339 = ad345 := (by injection e345)
        have qi345 : (0 < t333.length) = True := eq_true (by omega)
        (try rw [show ((0 : Int)).toNat = 0 from rfl] at hx345_0)
        (try rw [Addr.add_zero'] at hx345_0)
        replace p345 := eq_true p345
        replace q345 := eq_true q345
        obtain ⟨Ao56, co56, eo56⟩ := Kd.R_slice HO344.out
        (first | subst eo56 | (injection eo56 with f1_ f2_ f3_; have f4_ := f1_.symm; have f5_ := f3_.symm; clear f1_ f2_ f3_; subst f4_; subst f5_))
        refine start_ (n := 11) (S := fun w' => w'.cell? ⟨gb332, 0, none⟩ = some (.int .i64 t321) ∧ w'.cell? ⟨gb332, 1, none⟩ = some (.int .i64 t322) ∧ w'.cell? ⟨gb332, 2, none⟩ = some (.int .i64 t323) ∧ w'.cell? ⟨gb332, 3, none⟩ = some (.int .i64 t324) ∧ w'.cell? ⟨gb332, 4, none⟩ = some (.int .i64 t325) ∧ w'.cell? ⟨gb332, 5, none⟩ = some (.int .i64 t326) ∧ w'.cell? ⟨gb332, 6, none⟩ = some (.int .i64 t327) ∧ w'.cell? ⟨gb332, 7, none⟩ = some (.int .i64 t328) ∧ w'.cell? ⟨gb332, 8, none⟩ = some (.int .i64 t329) ∧ w'.cell? ⟨gb332, 9, none⟩ = some (.int .i64 t330) ∧ w'.cell? ad339 = some (.int .i64 (rd t333 0))) (ds := []) #[false, false, false, false, false, false, false, false, false, false, false] (by kernel_rfl) rfl rfl ⟨(blk_cell BK332.out 0).trans rfl, (blk_cell BK332.out 1).trans rfl, (blk_cell BK332.out 2).trans rfl, (blk_cell BK332.out 3).trans rfl, (blk_cell BK332.out 4).trans rfl, (blk_cell BK332.out 5).trans rfl, (blk_cell BK332.out 6).trans rfl, (blk_cell BK332.out 7).trans rfl, (blk_cell BK332.out 8).trans rfl, (blk_cell BK332.out 9).trans rfl, hx345_0⟩ (fun hHeld => ?_); refine with_tabW impl_readStep.tab7 impl_readStep.bits7 (fun HT_ HW_ => ?_)
        generalize w54.drew = w55 at HO_11 HO344 BK317 BK332 HB hx345_0 hHeld ⊢
        refine pureZ_ (i := 1) (some 65) #[false, true, false, false, false, false, false, false, false, false, false] (any_of HT_.out (by kernel_rfl)) ?_
        refine pureZ_ (i := 3) (some 67) #[false, true, false, true, false, false, false, false, false, false, false] (any_of HT_.out (by kernel_rfl)) ?_
        refine pureZ_ (i := 4) (some 68) #[false, true, false, true, true, false, false, false, false, false, false] (any_of HT_.out (by kernel_rfl)) ?_
        refine pureZ_ (i := 7) (some 71) #[false, true, false, true, true, false, false, true, false, false, false] (any_of HT_.out (by kernel_rfl)) ?_
        refine takeZ_ (i := 0) (some 64) #[true, true, false, true, true, false, false, true, false, false, false] (take_ofW HT_.out HW_.out (by kernel_rfl)) hHeld ?_
        refine takeZ_ (i := 2) (some 66) #[true, true, true, true, true, false, false, true, false, false, false] (take_ofW HT_.out HW_.out (by kernel_rfl)) hHeld ?_
        refine takeZ_ (i := 5) (some 69) #[true, true, true, true, true, true, false, true, false, false, false] (take_ofW HT_.out HW_.out (by kernel_rfl)) hHeld ?_
        refine pureZ_ (i := 6) (some 70) #[true, true, true, true, true, true, true, true, false, false, false] (any_of HT_.out (by kernel_rfl)) ?_
        refine pureZ_ (i := 8) (some 72) #[true, true, true, true, true, true, true, true, true, false, false] (any_of HT_.out (by kernel_rfl)) ?_
        refine one_ (i := 9) (N := some 15) #[true, true, true, true, true, true, true, true, true, true, false] rfl rfl (one_of HT_.out (by kernel_rfl)) (by decide) (fun K hK => ?_)
        refine box_step ?hg (N := 15) ?hd (cs := #[.int .i64 0, .int .i64 0, .int .i64 0, .int .i64 0, .int .i64 0, .int .i64 0, .int .i64 0, .int .i64 0, .int .i64 0, .int .i64 0, .int .i64 0, .int .i64 0, .int .i64 0, .slice none 0 0]) (t := 36) ?hr ?_; (case hd => rfl); (case hg => rfl); (case hr => first | (go_simp; done) | (go_simp; rfl))
        intro gb346 hg w57 hbox hb
        have HS10_ := (hb.cell (World.block_lt_of_cell? _ _ (hHeld.2.2.2.2.2.2.2.2.2.2))).trans (hHeld.2.2.2.2.2.2.2.2.2.2)
        replace HO_11 := Aside0.mk (Kd.R_below (by (with_reducible repeat (first | apply Kd.R_alloc | apply Kd.R_drewN | apply Kd.R_drew)); exact HO_11.out) hb)
        replace HO344 := Aside0.mk (Kd.R_below (by (with_reducible repeat (first | apply Kd.R_alloc | apply Kd.R_drewN | apply Kd.R_drew)); exact HO344.out) hb)
        have BK346 := Aside0.mk (hbox)
        have GW346 := gs_ hg
        have GE346 := gs_ hg
        replace HB := hbs_ hb
        have NB317_346 := Aside0.mk ((by rw [hg]; exact Nat.ne_of_lt (blk_lt (g := gb317) (o := .cells #[.int .i64 0, .int .i64 0, .int .i64 0, .int .i64 0, .int .i64 0, .int .i64 0, .int .i64 0, .int .i64 0, .int .i64 0, .int .i64 0, .int .i64 0, .int .i64 0, .int .i64 0, .slice none 0 0] 36 (0, 0)) (bk_ BK317)) : gb317 ≠ gb346))
        have NB346_317 := Aside0.mk ((by rw [hg]; exact Nat.ne_of_gt (blk_lt (g := gb317) (o := .cells #[.int .i64 0, .int .i64 0, .int .i64 0, .int .i64 0, .int .i64 0, .int .i64 0, .int .i64 0, .int .i64 0, .int .i64 0, .int .i64 0, .int .i64 0, .int .i64 0, .int .i64 0, .slice none 0 0] 36 (0, 0)) (bk_ BK317)) : gb346 ≠ gb317))
        replace BK317 := bkb_ BK317 hb
        have NB332_346 := Aside0.mk ((by rw [hg]; exact Nat.ne_of_lt (blk_lt (g := gb332) (o := .cells #[.int .i64 t321, .int .i64 t322, .int .i64 t323, .int .i64 t324, .int .i64 t325, .int .i64 t326, .int .i64 t327, .int .i64 t328, .int .i64 t329, .int .i64 t330] 31 (0, 0)) (bk_ BK332)) : gb332 ≠ gb346))
        have NB346_332 := Aside0.mk ((by rw [hg]; exact Nat.ne_of_gt (blk_lt (g := gb332) (o := .cells #[.int .i64 t321, .int .i64 t322, .int .i64 t323, .int .i64 t324, .int .i64 t325, .int .i64 t326, .int .i64 t327, .int .i64 t328, .int .i64 t329, .int .i64 t330] 31 (0, 0)) (bk_ BK332)) : gb346 ≠ gb332))
        replace BK332 := bkb_ BK332 hb
        clear hb hbox hg
        refine hK.out _ _ ⟨(blk_cell BK332.out 0).trans rfl, (blk_cell BK332.out 1).trans rfl, (blk_cell BK332.out 2).trans rfl, (blk_cell BK332.out 3).trans rfl, (blk_cell BK332.out 4).trans rfl, (blk_cell BK332.out 5).trans rfl, (blk_cell BK332.out 6).trans rfl, (blk_cell BK332.out 7).trans rfl, (blk_cell BK332.out 8).trans rfl, (blk_cell BK332.out 9).trans rfl, HS10_⟩ (fun hHeld => ?_)
        clear hK K
        refine norm_ (a' := ?_) ?_ ?_
        rotate_left
        ·show Act.put _ (some 15) _ = _
         simp only [Act.put, List.setIfInBounds_toArray, List.set_cons_zero, List.set_cons_succ, i64_w, i32_w]
         rfl
        refine one_ (i := 10) (N := none) #[true, true, true, true, true, true, true, true, true, true, true] rfl rfl (one_of HT_.out (by kernel_rfl)) (by decide) (fun K hK => ?_)
        have hs58 : w57.cell? ⟨gb346, 0, none⟩ = some (.int .i64 0) := (blk_cell BK346.out 0).trans rfl
        have hfs58 := blk_frozen BK346.out 0
        have hns58_0 := NB317_346.out
        have hns58_1 := NB332_346.out
        have hms58_0 := NB346_317.out
        have hms58_1 := NB346_332.out
        have hs59 : w57.cell? ⟨gb346, 1, none⟩ = some (.int .i64 0) := (blk_cell BK346.out 1).trans rfl
        have hfs59 := blk_frozen BK346.out 1
        have hns59_0 := NB317_346.out
        have hns59_1 := NB332_346.out
        have hms59_0 := NB346_317.out
        have hms59_1 := NB346_332.out
        have hs60 : w57.cell? ⟨gb346, 2, none⟩ = some (.int .i64 0) := (blk_cell BK346.out 2).trans rfl
        have hfs60 := blk_frozen BK346.out 2
        have hns60_0 := NB317_346.out
        have hns60_1 := NB332_346.out
        have hms60_0 := NB346_317.out
        have hms60_1 := NB346_332.out
        have hs61 : w57.cell? ⟨gb346, 3, none⟩ = some (.int .i64 0) := (blk_cell BK346.out 3).trans rfl
        have hfs61 := blk_frozen BK346.out 3
        have hns61_0 := NB317_346.out
        have hns61_1 := NB332_346.out
        have hms61_0 := NB346_317.out
        have hms61_1 := NB346_332.out
        have hs62 : w57.cell? ⟨gb346, 4, none⟩ = some (.int .i64 0) := (blk_cell BK346.out 4).trans rfl
        have hfs62 := blk_frozen BK346.out 4
        have hns62_0 := NB317_346.out
        have hns62_1 := NB332_346.out
        have hms62_0 := NB346_317.out
        have hms62_1 := NB346_332.out
        have hs63 : w57.cell? ⟨gb346, 5, none⟩ = some (.int .i64 0) := (blk_cell BK346.out 5).trans rfl
        have hfs63 := blk_frozen BK346.out 5
        have hns63_0 := NB317_346.out
        have hns63_1 := NB332_346.out
        have hms63_0 := NB346_317.out
        have hms63_1 := NB346_332.out
        have hs64 : w57.cell? ⟨gb346, 6, none⟩ = some (.int .i64 0) := (blk_cell BK346.out 6).trans rfl
        have hfs64 := blk_frozen BK346.out 6
        have hns64_0 := NB317_346.out
        have hns64_1 := NB332_346.out
        have hms64_0 := NB346_317.out
        have hms64_1 := NB346_332.out
        have hs65 : w57.cell? ⟨gb346, 7, none⟩ = some (.int .i64 0) := (blk_cell BK346.out 7).trans rfl
        have hfs65 := blk_frozen BK346.out 7
        have hns65_0 := NB317_346.out
        have hns65_1 := NB332_346.out
        have hms65_0 := NB346_317.out
        have hms65_1 := NB346_332.out
        have hs66 : w57.cell? ⟨gb346, 8, none⟩ = some (.int .i64 0) := (blk_cell BK346.out 8).trans rfl
        have hfs66 := blk_frozen BK346.out 8
        have hns66_0 := NB317_346.out
        have hns66_1 := NB332_346.out
        have hms66_0 := NB346_317.out
        have hms66_1 := NB346_332.out
        have hs67 : w57.cell? ⟨gb346, 9, none⟩ = some (.int .i64 0) := (blk_cell BK346.out 9).trans rfl
        have hfs67 := blk_frozen BK346.out 9
        have hns67_0 := NB317_346.out
        have hns67_1 := NB332_346.out
        have hms67_0 := NB346_317.out
        have hms67_1 := NB346_332.out
        have hs68 : w57.cell? ⟨gb346, 10, none⟩ = some (.int .i64 0) := (blk_cell BK346.out 10).trans rfl
        have hfs68 := blk_frozen BK346.out 10
        have hns68_0 := NB317_346.out
        have hns68_1 := NB332_346.out
        have hms68_0 := NB346_317.out
        have hms68_1 := NB346_332.out
        have hs69 : w57.cell? ⟨gb346, 11, none⟩ = some (.int .i64 0) := (blk_cell BK346.out 11).trans rfl
        have hfs69 := blk_frozen BK346.out 11
        have hns69_0 := NB317_346.out
        have hns69_1 := NB332_346.out
        have hms69_0 := NB346_317.out
        have hms69_1 := NB346_332.out
        have hs70 : w57.cell? ⟨gb346, 12, none⟩ = some (.int .i64 0) := (blk_cell BK346.out 12).trans rfl
        have hfs70 := blk_frozen BK346.out 12
        have hns70_0 := NB317_346.out
        have hns70_1 := NB332_346.out
        have hms70_0 := NB346_317.out
        have hms70_1 := NB346_332.out
        have hs71 : w57.cell? ⟨gb346, 13, none⟩ = some (.slice none 0 0) := (blk_cell BK346.out 13).trans rfl
        have hfs71 := blk_frozen BK346.out 13
        have hns71_0 := NB317_346.out
        have hns71_1 := NB332_346.out
        have hms71_0 := NB346_317.out
        have hms71_1 := NB346_332.out
        refine skip_ (w1 := ?_) (by rfl) rfl ?_ ?_
        rotate_left
        ·go_simp
         rfl
        refine hK.out _ _ ⟨(cf14_ (g := gb346) (hHeld.1) NB332_346.out), (cf14_ (g := gb346) (hHeld.2.1) NB332_346.out), (cf14_ (g := gb346) (hHeld.2.2.1) NB332_346.out), (cf14_ (g := gb346) (hHeld.2.2.2.1) NB332_346.out), (cf14_ (g := gb346) (hHeld.2.2.2.2.1) NB332_346.out), (cf14_ (g := gb346) (hHeld.2.2.2.2.2.1) NB332_346.out), (cf14_ (g := gb346) (hHeld.2.2.2.2.2.2.1) NB332_346.out), (cf14_ (g := gb346) (hHeld.2.2.2.2.2.2.2.1) NB332_346.out), (cf14_ (g := gb346) (hHeld.2.2.2.2.2.2.2.2.1) NB332_346.out), (cf14_ (g := gb346) (hHeld.2.2.2.2.2.2.2.2.2.1) NB332_346.out), (cf14_ (g := gb346) (hHeld.2.2.2.2.2.2.2.2.2.2) (Kd.own_blk (Kd.R_ne HO_11.out BK346.out (by decide))))⟩ (fun hHeld => ?_)
        clear hK K
        refine done_ (done_of HT_.out (by kernel_rfl)) ?_
        have hnb72 := NB346_317.out
        have hnc72 := NB317_346.out
        have hnb73 := NB346_332.out
        have hnc73 := NB332_346.out
        have hcz74 := blk_cell BK346.out
        have hfz74 := blk_frozen BK346.out
        try go_wp2_with (first | ((with_reducible refine gate_callee (f := 22) rfl ?_); refine goesC_ (some 75) Try.func22 #[.agg #[.int .i64 t321, .int .i64 t322, .int .i64 t323, .int .i64 t324, .int .i64 t325, .int .i64 t326, .int .i64 t327, .int .i64 t328, .int .i64 t329, .int .i64 t330, .int .i64 t322, .int .i64 t323, .int .i64 (rd t333 0), .slice Ao56 t340.length co56]] ?_; (with_reducible refine (impl_StepText.calls kj5 t321 t322 t323 t324 t325 t326 t327 t328 t329 t330 t322 t323 (rd t333 0) _ _ t340 t347 true _ ?side1 ?side2 A24.out).mono ?_); (case side1 => refine (Kd.R_reads' (e := 3) (base := w.heap.size) (ok := fun k_ => (True ∧ some k_ ≠ (.slice (some ad339) t333.length co53 : Value).ownBlock)) (n := t340.length) (c := co56) ?_).2.2; exact (by (with_reducible repeat (first | apply Kd.R_alloc | apply Kd.R_drewN | apply Kd.R_drew)); exact (Kd.R_mono (Kd.R_far (p := ⟨gb346, 13, none⟩) (Kd.R_far (p := ⟨gb346, 12, none⟩) (Kd.R_far (p := ⟨gb346, 11, none⟩) (Kd.R_far (p := ⟨gb346, 10, none⟩) (Kd.R_far (p := ⟨gb346, 9, none⟩) (Kd.R_far (p := ⟨gb346, 8, none⟩) (Kd.R_far (p := ⟨gb346, 7, none⟩) (Kd.R_far (p := ⟨gb346, 6, none⟩) (Kd.R_far (p := ⟨gb346, 5, none⟩) (Kd.R_far (p := ⟨gb346, 4, none⟩) (Kd.R_far (p := ⟨gb346, 3, none⟩) (Kd.R_far (p := ⟨gb346, 2, none⟩) (Kd.R_far (p := ⟨gb346, 1, none⟩) (Kd.R_far (p := ⟨gb346, 0, none⟩) (Kd.R_types HO344.out BK346.out (by decide)) (fun _ hk => hk.2) (.int .i64 t321)) (fun _ hk => hk.2) (.int .i64 t322)) (fun _ hk => hk.2) (.int .i64 t323)) (fun _ hk => hk.2) (.int .i64 t324)) (fun _ hk => hk.2) (.int .i64 t325)) (fun _ hk => hk.2) (.int .i64 t326)) (fun _ hk => hk.2) (.int .i64 t327)) (fun _ hk => hk.2) (.int .i64 t328)) (fun _ hk => hk.2) (.int .i64 t329)) (fun _ hk => hk.2) (.int .i64 t330)) (fun _ hk => hk.2) (.int .i64 t322)) (fun _ hk => hk.2) (.int .i64 t323)) (fun _ hk => hk.2) (.int .i64 (rd t333 0))) (fun _ hk => hk.2) (.slice Ao56 t340.length co56)) (fun _ h_ => h_.1)))); (case side2 => exact (Kd.R_reads' HO344.out).2.1); rintro e w75 ⟨rfl, hb⟩; refine ⟨_, rfl, ?_⟩; replace HO_11 := Aside0.mk (Kd.R_below (by (with_reducible repeat (first | apply Kd.R_alloc | apply Kd.R_drewN | apply Kd.R_drew)); exact (Kd.R_mono (Kd.R_far (p := ⟨gb346, 13, none⟩) (Kd.R_far (p := ⟨gb346, 12, none⟩) (Kd.R_far (p := ⟨gb346, 11, none⟩) (Kd.R_far (p := ⟨gb346, 10, none⟩) (Kd.R_far (p := ⟨gb346, 9, none⟩) (Kd.R_far (p := ⟨gb346, 8, none⟩) (Kd.R_far (p := ⟨gb346, 7, none⟩) (Kd.R_far (p := ⟨gb346, 6, none⟩) (Kd.R_far (p := ⟨gb346, 5, none⟩) (Kd.R_far (p := ⟨gb346, 4, none⟩) (Kd.R_far (p := ⟨gb346, 3, none⟩) (Kd.R_far (p := ⟨gb346, 2, none⟩) (Kd.R_far (p := ⟨gb346, 1, none⟩) (Kd.R_far (p := ⟨gb346, 0, none⟩) (Kd.R_types HO_11.out BK346.out (by decide)) (fun _ hk => hk.2) (.int .i64 t321)) (fun _ hk => hk.2) (.int .i64 t322)) (fun _ hk => hk.2) (.int .i64 t323)) (fun _ hk => hk.2) (.int .i64 t324)) (fun _ hk => hk.2) (.int .i64 t325)) (fun _ hk => hk.2) (.int .i64 t326)) (fun _ hk => hk.2) (.int .i64 t327)) (fun _ hk => hk.2) (.int .i64 t328)) (fun _ hk => hk.2) (.int .i64 t329)) (fun _ hk => hk.2) (.int .i64 t330)) (fun _ hk => hk.2) (.int .i64 t322)) (fun _ hk => hk.2) (.int .i64 t323)) (fun _ hk => hk.2) (.int .i64 (rd t333 0))) (fun _ hk => hk.2) (.slice Ao56 t340.length co56)) (fun _ h_ => h_.1))) hb); replace HO344 := Aside0.mk (Kd.R_below (by (with_reducible repeat (first | apply Kd.R_alloc | apply Kd.R_drewN | apply Kd.R_drew)); exact (Kd.R_mono (Kd.R_far (p := ⟨gb346, 13, none⟩) (Kd.R_far (p := ⟨gb346, 12, none⟩) (Kd.R_far (p := ⟨gb346, 11, none⟩) (Kd.R_far (p := ⟨gb346, 10, none⟩) (Kd.R_far (p := ⟨gb346, 9, none⟩) (Kd.R_far (p := ⟨gb346, 8, none⟩) (Kd.R_far (p := ⟨gb346, 7, none⟩) (Kd.R_far (p := ⟨gb346, 6, none⟩) (Kd.R_far (p := ⟨gb346, 5, none⟩) (Kd.R_far (p := ⟨gb346, 4, none⟩) (Kd.R_far (p := ⟨gb346, 3, none⟩) (Kd.R_far (p := ⟨gb346, 2, none⟩) (Kd.R_far (p := ⟨gb346, 1, none⟩) (Kd.R_far (p := ⟨gb346, 0, none⟩) (Kd.R_types HO344.out BK346.out (by decide)) (fun _ hk => hk.2) (.int .i64 t321)) (fun _ hk => hk.2) (.int .i64 t322)) (fun _ hk => hk.2) (.int .i64 t323)) (fun _ hk => hk.2) (.int .i64 t324)) (fun _ hk => hk.2) (.int .i64 t325)) (fun _ hk => hk.2) (.int .i64 t326)) (fun _ hk => hk.2) (.int .i64 t327)) (fun _ hk => hk.2) (.int .i64 t328)) (fun _ hk => hk.2) (.int .i64 t329)) (fun _ hk => hk.2) (.int .i64 t330)) (fun _ hk => hk.2) (.int .i64 t322)) (fun _ hk => hk.2) (.int .i64 t323)) (fun _ hk => hk.2) (.int .i64 (rd t333 0))) (fun _ hk => hk.2) (.slice Ao56 t340.length co56)) (fun _ h_ => h_.1))) hb); replace BK317 := Aside0.mk (blk_below (g := gb317) (o := .cells #[.int .i64 0, .int .i64 0, .int .i64 0, .int .i64 0, .int .i64 0, .int .i64 0, .int .i64 0, .int .i64 0, .int .i64 0, .int .i64 0, .int .i64 0, .int .i64 0, .int .i64 0, .slice none 0 0] 36 (0, 0)) (bk_ BK317) hb); replace BK332 := Aside0.mk (blk_below (g := gb332) (o := .cells #[.int .i64 t321, .int .i64 t322, .int .i64 t323, .int .i64 t324, .int .i64 t325, .int .i64 t326, .int .i64 t327, .int .i64 t328, .int .i64 t329, .int .i64 t330] 31 (0, 0)) (bk_ BK332) hb); replace BK346 := Aside0.mk (blk_below (g := gb346) (o := .cells #[.int .i64 t321, .int .i64 t322, .int .i64 t323, .int .i64 t324, .int .i64 t325, .int .i64 t326, .int .i64 t327, .int .i64 t328, .int .i64 t329, .int .i64 t330, .int .i64 t322, .int .i64 t323, .int .i64 (rd t333 0), .slice Ao56 t340.length co56] 36 (0, 0)) (bk_ BK346) hb); replace HB := hbs_ hb; clear hb; have hnb76 := NB317_332.out; have hnc76 := NB332_317.out; have hcz77 := blk_cell BK317.out; have hfz77 := blk_frozen BK317.out))
        refine bodyPost_ret (results_ctt rfl _ _ gb317 36 #[.int .i64 0, .int .i64 0, .int .i64 0, .int .i64 0, .int .i64 0, .int .i64 0, .int .i64 0, .int .i64 0, .int .i64 0, .int .i64 0, .int .i64 0, .int .i64 0, .int .i64 0, .slice none 0 0] (0, 0) _ rfl (bk_ BK317) Try.underlying36 rfl (by kernel_rfl)) rfl ?_
        exact ⟨_, eq_, by first | exact Kd.R_nil _ _ _ _ _ | exact Kd.N_nil _ _ _ _ _ | exact Kd.V_nil _ _ _ _ _ | exact Kd.Q_nil _ _ _ _ _ | exact Kd.S_nil _ _ _ _ _, bl_⟩
      ·replace c25 := Bool.eq_false_iff.mpr c25
       subst c25
       replace H := ite_f_ H
       simp only [Option.some.injEq, Prod.mk.injEq] at H
       obtain ⟨rfl, rfl, rfl, rfl, rfl, rfl, rfl, rfl, rfl, rfl, rfl, rfl, rfl, rfl, rfl, rfl⟩ := H
       obtain ⟨Ao78, co78, eo78⟩ := Kd.R_slice HO_11.out
       subst eo78
       have p339 : 0 ≤ (1 : Int) := (by omega)
       have q339 : 1 < (t333.length : Int) := of_decide_eq_true (by first | (with_reducible assumption) | assumption)
       obtain ⟨ad339, e339, hx339_0⟩ := Kd.at_int (Kd.R_reads' HO_11.out).2.2 1 p339 q339
       cases e339
       (try simp only [show (1 : Int).toNat = 1 from rfl, Nat.reduceMul, Nat.reduceEqDiff, Go.Addr.add, ↓reduceIte] at hx339_0)
       have qi339 : (1 < t333.length) = True := eq_true (by omega)
       (try rw [show ((1 : Int)).toNat = 1 from rfl] at hx339_0)
       replace p339 := eq_true p339
       replace q339 := eq_true q339
       try go_wp2_with (first | ((with_reducible refine gate_callee (f := 21) rfl ?_); refine goesC_ (some 60) Try.func21 #[.string a0, .int .i64 t334, .int .i64 (rd t333 1)] ?_; (with_reducible refine (impl_readVars.calls kj5 a0 t334 (rd t333 1) t340 t341 t342 _ A22.out).mono ?_); rintro e w79 ⟨v343, rfl, ho0, hb⟩; refine ⟨_, rfl, ?_⟩; have HO344 := Aside0.mk (Kd.R_lower (Kd.R_new' ho0 (Kd.R_lt (by (with_reducible repeat (first | apply Kd.R_alloc | apply Kd.R_drewN | apply Kd.R_drew)); exact HO_11.out))) bls_); replace HO_11 := Aside0.mk (Kd.R_elder' (by (with_reducible repeat (first | apply Kd.R_alloc | apply Kd.R_drewN | apply Kd.R_drew)); exact HO_11.out) (Kd.R_base ho0) hb); replace BK317 := bkb_ BK317 hb; replace BK332 := bkb_ BK332 hb; replace HB := hbs_ hb; (try clear hb); (try clear hb2); (try clear hk); (try clear hi); (try clear ho0)))
       replace HO_11 := Aside0.mk (Kd.R_drew HO_11.out)
       replace HO344 := Aside0.mk (Kd.R_drew HO344.out)
       replace BK317 := Aside0.mk (blk_drew BK317.out)
       replace BK332 := Aside0.mk (blk_drew BK332.out)
       replace HB := Aside0.mk (below_drew1 HB.out)
       have p345 : 0 ≤ (0 : Int) := (by omega)
       have q345 : 0 < (t333.length : Int) := of_decide_eq_true (by first | (with_reducible assumption) | assumption)
       obtain ⟨ad345, e345, hx345_0⟩ := Kd.at_int (Kd.R_reads' HO_11.out).2.2 0 p345 q345
       obtain rfl : ad339 = ad345 := (by injection e345)
       have qi345 : (0 < t333.length) = True := eq_true (by omega)
       (try rw [show ((0 : Int)).toNat = 0 from rfl] at hx345_0)
       (try rw [Addr.add_zero'] at hx345_0)
       replace p345 := eq_true p345
       replace q345 := eq_true q345
       obtain ⟨Ao81, co81, eo81⟩ := Kd.R_slice HO344.out
       (first | subst eo81 | (injection eo81 with f1_ f2_ f3_; have f4_ := f1_.symm; have f5_ := f3_.symm; clear f1_ f2_ f3_; subst f4_; subst f5_))
       refine start_ (n := 11) (S := fun w' => w'.cell? ⟨gb332, 0, none⟩ = some (.int .i64 t321) ∧ w'.cell? ⟨gb332, 1, none⟩ = some (.int .i64 t322) ∧ w'.cell? ⟨gb332, 2, none⟩ = some (.int .i64 t323) ∧ w'.cell? ⟨gb332, 3, none⟩ = some (.int .i64 t324) ∧ w'.cell? ⟨gb332, 4, none⟩ = some (.int .i64 t325) ∧ w'.cell? ⟨gb332, 5, none⟩ = some (.int .i64 t326) ∧ w'.cell? ⟨gb332, 6, none⟩ = some (.int .i64 t327) ∧ w'.cell? ⟨gb332, 7, none⟩ = some (.int .i64 t328) ∧ w'.cell? ⟨gb332, 8, none⟩ = some (.int .i64 t329) ∧ w'.cell? ⟨gb332, 9, none⟩ = some (.int .i64 t330) ∧ w'.cell? ad339 = some (.int .i64 (rd t333 0))) (ds := []) #[false, false, false, false, false, false, false, false, false, false, false] (by kernel_rfl) rfl rfl ⟨(blk_cell BK332.out 0).trans rfl, (blk_cell BK332.out 1).trans rfl, (blk_cell BK332.out 2).trans rfl, (blk_cell BK332.out 3).trans rfl, (blk_cell BK332.out 4).trans rfl, (blk_cell BK332.out 5).trans rfl, (blk_cell BK332.out 6).trans rfl, (blk_cell BK332.out 7).trans rfl, (blk_cell BK332.out 8).trans rfl, (blk_cell BK332.out 9).trans rfl, hx345_0⟩ (fun hHeld => ?_); refine with_tabW impl_readStep.tab7 impl_readStep.bits7 (fun HT_ HW_ => ?_)
       generalize w79.drew = w80 at HO_11 HO344 BK317 BK332 HB hx345_0 hHeld ⊢
       refine pureZ_ (i := 1) (some 65) #[false, true, false, false, false, false, false, false, false, false, false] (any_of HT_.out (by kernel_rfl)) ?_
       refine pureZ_ (i := 3) (some 67) #[false, true, false, true, false, false, false, false, false, false, false] (any_of HT_.out (by kernel_rfl)) ?_
       refine pureZ_ (i := 4) (some 68) #[false, true, false, true, true, false, false, false, false, false, false] (any_of HT_.out (by kernel_rfl)) ?_
       refine pureZ_ (i := 7) (some 71) #[false, true, false, true, true, false, false, true, false, false, false] (any_of HT_.out (by kernel_rfl)) ?_
       refine takeZ_ (i := 0) (some 64) #[true, true, false, true, true, false, false, true, false, false, false] (take_ofW HT_.out HW_.out (by kernel_rfl)) hHeld ?_
       refine takeZ_ (i := 2) (some 66) #[true, true, true, true, true, false, false, true, false, false, false] (take_ofW HT_.out HW_.out (by kernel_rfl)) hHeld ?_
       refine takeZ_ (i := 5) (some 69) #[true, true, true, true, true, true, false, true, false, false, false] (take_ofW HT_.out HW_.out (by kernel_rfl)) hHeld ?_
       refine pureZ_ (i := 6) (some 70) #[true, true, true, true, true, true, true, true, false, false, false] (any_of HT_.out (by kernel_rfl)) ?_
       refine pureZ_ (i := 8) (some 72) #[true, true, true, true, true, true, true, true, true, false, false] (any_of HT_.out (by kernel_rfl)) ?_
       refine one_ (i := 9) (N := some 15) #[true, true, true, true, true, true, true, true, true, true, false] rfl rfl (one_of HT_.out (by kernel_rfl)) (by decide) (fun K hK => ?_)
       refine box_step ?hg (N := 15) ?hd (cs := #[.int .i64 0, .int .i64 0, .int .i64 0, .int .i64 0, .int .i64 0, .int .i64 0, .int .i64 0, .int .i64 0, .int .i64 0, .int .i64 0, .int .i64 0, .int .i64 0, .int .i64 0, .slice none 0 0]) (t := 36) ?hr ?_; (case hd => rfl); (case hg => rfl); (case hr => first | (go_simp; done) | (go_simp; rfl))
       intro gb346 hg w82 hbox hb
       have HS10_ := (hb.cell (World.block_lt_of_cell? _ _ (hHeld.2.2.2.2.2.2.2.2.2.2))).trans (hHeld.2.2.2.2.2.2.2.2.2.2)
       replace HO_11 := Aside0.mk (Kd.R_below (by (with_reducible repeat (first | apply Kd.R_alloc | apply Kd.R_drewN | apply Kd.R_drew)); exact HO_11.out) hb)
       replace HO344 := Aside0.mk (Kd.R_below (by (with_reducible repeat (first | apply Kd.R_alloc | apply Kd.R_drewN | apply Kd.R_drew)); exact HO344.out) hb)
       have BK346 := Aside0.mk (hbox)
       have GW346 := gs_ hg
       have GE346 := gs_ hg
       replace HB := hbs_ hb
       have NB317_346 := Aside0.mk ((by rw [hg]; exact Nat.ne_of_lt (blk_lt (g := gb317) (o := .cells #[.int .i64 0, .int .i64 0, .int .i64 0, .int .i64 0, .int .i64 0, .int .i64 0, .int .i64 0, .int .i64 0, .int .i64 0, .int .i64 0, .int .i64 0, .int .i64 0, .int .i64 0, .slice none 0 0] 36 (0, 0)) (bk_ BK317)) : gb317 ≠ gb346))
       have NB346_317 := Aside0.mk ((by rw [hg]; exact Nat.ne_of_gt (blk_lt (g := gb317) (o := .cells #[.int .i64 0, .int .i64 0, .int .i64 0, .int .i64 0, .int .i64 0, .int .i64 0, .int .i64 0, .int .i64 0, .int .i64 0, .int .i64 0, .int .i64 0, .int .i64 0, .int .i64 0, .slice none 0 0] 36 (0, 0)) (bk_ BK317)) : gb346 ≠ gb317))
       replace BK317 := bkb_ BK317 hb
       have NB332_346 := Aside0.mk ((by rw [hg]; exact Nat.ne_of_lt (blk_lt (g := gb332) (o := .cells #[.int .i64 t321, .int .i64 t322, .int .i64 t323, .int .i64 t324, .int .i64 t325, .int .i64 t326, .int .i64 t327, .int .i64 t328, .int .i64 t329, .int .i64 t330] 31 (0, 0)) (bk_ BK332)) : gb332 ≠ gb346))
       have NB346_332 := Aside0.mk ((by rw [hg]; exact Nat.ne_of_gt (blk_lt (g := gb332) (o := .cells #[.int .i64 t321, .int .i64 t322, .int .i64 t323, .int .i64 t324, .int .i64 t325, .int .i64 t326, .int .i64 t327, .int .i64 t328, .int .i64 t329, .int .i64 t330] 31 (0, 0)) (bk_ BK332)) : gb346 ≠ gb332))
       replace BK332 := bkb_ BK332 hb
       clear hb hbox hg
       refine hK.out _ _ ⟨(blk_cell BK332.out 0).trans rfl, (blk_cell BK332.out 1).trans rfl, (blk_cell BK332.out 2).trans rfl, (blk_cell BK332.out 3).trans rfl, (blk_cell BK332.out 4).trans rfl, (blk_cell BK332.out 5).trans rfl, (blk_cell BK332.out 6).trans rfl, (blk_cell BK332.out 7).trans rfl, (blk_cell BK332.out 8).trans rfl, (blk_cell BK332.out 9).trans rfl, HS10_⟩ (fun hHeld => ?_)
       clear hK K
       refine norm_ (a' := ?_) ?_ ?_
       rotate_left
       ·show Act.put _ (some 15) _ = _
        simp only [Act.put, List.setIfInBounds_toArray, List.set_cons_zero, List.set_cons_succ, i64_w, i32_w]
        rfl
       refine one_ (i := 10) (N := none) #[true, true, true, true, true, true, true, true, true, true, true] rfl rfl (one_of HT_.out (by kernel_rfl)) (by decide) (fun K hK => ?_)
       have hs83 : w82.cell? ⟨gb346, 0, none⟩ = some (.int .i64 0) := (blk_cell BK346.out 0).trans rfl
       have hfs83 := blk_frozen BK346.out 0
       have hns83_0 := NB317_346.out
       have hns83_1 := NB332_346.out
       have hms83_0 := NB346_317.out
       have hms83_1 := NB346_332.out
       have hs84 : w82.cell? ⟨gb346, 1, none⟩ = some (.int .i64 0) := (blk_cell BK346.out 1).trans rfl
       have hfs84 := blk_frozen BK346.out 1
       have hns84_0 := NB317_346.out
       have hns84_1 := NB332_346.out
       have hms84_0 := NB346_317.out
       have hms84_1 := NB346_332.out
       have hs85 : w82.cell? ⟨gb346, 2, none⟩ = some (.int .i64 0) := (blk_cell BK346.out 2).trans rfl
       have hfs85 := blk_frozen BK346.out 2
       have hns85_0 := NB317_346.out
       have hns85_1 := NB332_346.out
       have hms85_0 := NB346_317.out
       have hms85_1 := NB346_332.out
       have hs86 : w82.cell? ⟨gb346, 3, none⟩ = some (.int .i64 0) := (blk_cell BK346.out 3).trans rfl
       have hfs86 := blk_frozen BK346.out 3
       have hns86_0 := NB317_346.out
       have hns86_1 := NB332_346.out
       have hms86_0 := NB346_317.out
       have hms86_1 := NB346_332.out
       have hs87 : w82.cell? ⟨gb346, 4, none⟩ = some (.int .i64 0) := (blk_cell BK346.out 4).trans rfl
       have hfs87 := blk_frozen BK346.out 4
       have hns87_0 := NB317_346.out
       have hns87_1 := NB332_346.out
       have hms87_0 := NB346_317.out
       have hms87_1 := NB346_332.out
       have hs88 : w82.cell? ⟨gb346, 5, none⟩ = some (.int .i64 0) := (blk_cell BK346.out 5).trans rfl
       have hfs88 := blk_frozen BK346.out 5
       have hns88_0 := NB317_346.out
       have hns88_1 := NB332_346.out
       have hms88_0 := NB346_317.out
       have hms88_1 := NB346_332.out
       have hs89 : w82.cell? ⟨gb346, 6, none⟩ = some (.int .i64 0) := (blk_cell BK346.out 6).trans rfl
       have hfs89 := blk_frozen BK346.out 6
       have hns89_0 := NB317_346.out
       have hns89_1 := NB332_346.out
       have hms89_0 := NB346_317.out
       have hms89_1 := NB346_332.out
       have hs90 : w82.cell? ⟨gb346, 7, none⟩ = some (.int .i64 0) := (blk_cell BK346.out 7).trans rfl
       have hfs90 := blk_frozen BK346.out 7
       have hns90_0 := NB317_346.out
       have hns90_1 := NB332_346.out
       have hms90_0 := NB346_317.out
       have hms90_1 := NB346_332.out
       have hs91 : w82.cell? ⟨gb346, 8, none⟩ = some (.int .i64 0) := (blk_cell BK346.out 8).trans rfl
       have hfs91 := blk_frozen BK346.out 8
       have hns91_0 := NB317_346.out
       have hns91_1 := NB332_346.out
       have hms91_0 := NB346_317.out
       have hms91_1 := NB346_332.out
       have hs92 : w82.cell? ⟨gb346, 9, none⟩ = some (.int .i64 0) := (blk_cell BK346.out 9).trans rfl
       have hfs92 := blk_frozen BK346.out 9
       have hns92_0 := NB317_346.out
       have hns92_1 := NB332_346.out
       have hms92_0 := NB346_317.out
       have hms92_1 := NB346_332.out
       have hs93 : w82.cell? ⟨gb346, 10, none⟩ = some (.int .i64 0) := (blk_cell BK346.out 10).trans rfl
       have hfs93 := blk_frozen BK346.out 10
       have hns93_0 := NB317_346.out
       have hns93_1 := NB332_346.out
       have hms93_0 := NB346_317.out
       have hms93_1 := NB346_332.out
       have hs94 : w82.cell? ⟨gb346, 11, none⟩ = some (.int .i64 0) := (blk_cell BK346.out 11).trans rfl
       have hfs94 := blk_frozen BK346.out 11
       have hns94_0 := NB317_346.out
       have hns94_1 := NB332_346.out
       have hms94_0 := NB346_317.out
       have hms94_1 := NB346_332.out
       have hs95 : w82.cell? ⟨gb346, 12, none⟩ = some (.int .i64 0) := (blk_cell BK346.out 12).trans rfl
       have hfs95 := blk_frozen BK346.out 12
       have hns95_0 := NB317_346.out
       have hns95_1 := NB332_346.out
       have hms95_0 := NB346_317.out
       have hms95_1 := NB346_332.out
       have hs96 : w82.cell? ⟨gb346, 13, none⟩ = some (.slice none 0 0) := (blk_cell BK346.out 13).trans rfl
       have hfs96 := blk_frozen BK346.out 13
       have hns96_0 := NB317_346.out
       have hns96_1 := NB332_346.out
       have hms96_0 := NB346_317.out
       have hms96_1 := NB346_332.out
       refine skip_ (w1 := ?_) (by rfl) rfl ?_ ?_
       rotate_left
       ·go_simp
        rfl
       refine hK.out _ _ ⟨(cf14_ (g := gb346) (hHeld.1) NB332_346.out), (cf14_ (g := gb346) (hHeld.2.1) NB332_346.out), (cf14_ (g := gb346) (hHeld.2.2.1) NB332_346.out), (cf14_ (g := gb346) (hHeld.2.2.2.1) NB332_346.out), (cf14_ (g := gb346) (hHeld.2.2.2.2.1) NB332_346.out), (cf14_ (g := gb346) (hHeld.2.2.2.2.2.1) NB332_346.out), (cf14_ (g := gb346) (hHeld.2.2.2.2.2.2.1) NB332_346.out), (cf14_ (g := gb346) (hHeld.2.2.2.2.2.2.2.1) NB332_346.out), (cf14_ (g := gb346) (hHeld.2.2.2.2.2.2.2.2.1) NB332_346.out), (cf14_ (g := gb346) (hHeld.2.2.2.2.2.2.2.2.2.1) NB332_346.out), (cf14_ (g := gb346) (hHeld.2.2.2.2.2.2.2.2.2.2) (Kd.own_blk (Kd.R_ne HO_11.out BK346.out (by decide))))⟩ (fun hHeld => ?_)
       clear hK K
       refine done_ (done_of HT_.out (by kernel_rfl)) ?_
       have hnb97 := NB346_317.out
       have hnc97 := NB317_346.out
       have hnb98 := NB346_332.out
       have hnc98 := NB332_346.out
       have hcz99 := blk_cell BK346.out
       have hfz99 := blk_frozen BK346.out
       try go_wp2_with (first | ((with_reducible refine gate_callee (f := 22) rfl ?_); refine goesC_ (some 75) Try.func22 #[.agg #[.int .i64 t321, .int .i64 t322, .int .i64 t323, .int .i64 t324, .int .i64 t325, .int .i64 t326, .int .i64 t327, .int .i64 t328, .int .i64 t329, .int .i64 t330, .int .i64 t322, .int .i64 t323, .int .i64 (rd t333 0), .slice Ao81 t340.length co81]] ?_; (with_reducible refine (impl_StepText.calls kj5 t321 t322 t323 t324 t325 t326 t327 t328 t329 t330 t322 t323 (rd t333 0) _ _ t340 t347 false _ ?side1 ?side2 A24.out).mono ?_); (case side1 => refine (Kd.R_reads' (e := 3) (base := w.heap.size) (ok := fun k_ => (True ∧ some k_ ≠ (.slice (some ad339) t333.length co78 : Value).ownBlock)) (n := t340.length) (c := co81) ?_).2.2; exact (by (with_reducible repeat (first | apply Kd.R_alloc | apply Kd.R_drewN | apply Kd.R_drew)); exact (Kd.R_mono (Kd.R_far (p := ⟨gb346, 13, none⟩) (Kd.R_far (p := ⟨gb346, 12, none⟩) (Kd.R_far (p := ⟨gb346, 11, none⟩) (Kd.R_far (p := ⟨gb346, 10, none⟩) (Kd.R_far (p := ⟨gb346, 9, none⟩) (Kd.R_far (p := ⟨gb346, 8, none⟩) (Kd.R_far (p := ⟨gb346, 7, none⟩) (Kd.R_far (p := ⟨gb346, 6, none⟩) (Kd.R_far (p := ⟨gb346, 5, none⟩) (Kd.R_far (p := ⟨gb346, 4, none⟩) (Kd.R_far (p := ⟨gb346, 3, none⟩) (Kd.R_far (p := ⟨gb346, 2, none⟩) (Kd.R_far (p := ⟨gb346, 1, none⟩) (Kd.R_far (p := ⟨gb346, 0, none⟩) (Kd.R_types HO344.out BK346.out (by decide)) (fun _ hk => hk.2) (.int .i64 t321)) (fun _ hk => hk.2) (.int .i64 t322)) (fun _ hk => hk.2) (.int .i64 t323)) (fun _ hk => hk.2) (.int .i64 t324)) (fun _ hk => hk.2) (.int .i64 t325)) (fun _ hk => hk.2) (.int .i64 t326)) (fun _ hk => hk.2) (.int .i64 t327)) (fun _ hk => hk.2) (.int .i64 t328)) (fun _ hk => hk.2) (.int .i64 t329)) (fun _ hk => hk.2) (.int .i64 t330)) (fun _ hk => hk.2) (.int .i64 t322)) (fun _ hk => hk.2) (.int .i64 t323)) (fun _ hk => hk.2) (.int .i64 (rd t333 0))) (fun _ hk => hk.2) (.slice Ao81 t340.length co81)) (fun _ h_ => h_.1)))); (case side2 => exact (Kd.R_reads' HO344.out).2.1); rintro e w100 ⟨rfl, hb⟩; refine ⟨_, rfl, ?_⟩; replace HO_11 := Aside0.mk (Kd.R_below (by (with_reducible repeat (first | apply Kd.R_alloc | apply Kd.R_drewN | apply Kd.R_drew)); exact (Kd.R_mono (Kd.R_far (p := ⟨gb346, 13, none⟩) (Kd.R_far (p := ⟨gb346, 12, none⟩) (Kd.R_far (p := ⟨gb346, 11, none⟩) (Kd.R_far (p := ⟨gb346, 10, none⟩) (Kd.R_far (p := ⟨gb346, 9, none⟩) (Kd.R_far (p := ⟨gb346, 8, none⟩) (Kd.R_far (p := ⟨gb346, 7, none⟩) (Kd.R_far (p := ⟨gb346, 6, none⟩) (Kd.R_far (p := ⟨gb346, 5, none⟩) (Kd.R_far (p := ⟨gb346, 4, none⟩) (Kd.R_far (p := ⟨gb346, 3, none⟩) (Kd.R_far (p := ⟨gb346, 2, none⟩) (Kd.R_far (p := ⟨gb346, 1, none⟩) (Kd.R_far (p := ⟨gb346, 0, none⟩) (Kd.R_types HO_11.out BK346.out (by decide)) (fun _ hk => hk.2) (.int .i64 t321)) (fun _ hk => hk.2) (.int .i64 t322)) (fun _ hk => hk.2) (.int .i64 t323)) (fun _ hk => hk.2) (.int .i64 t324)) (fun _ hk => hk.2) (.int .i64 t325)) (fun _ hk => hk.2) (.int .i64 t326)) (fun _ hk => hk.2) (.int .i64 t327)) (fun _ hk => hk.2) (.int .i64 t328)) (fun _ hk => hk.2) (.int .i64 t329)) (fun _ hk => hk.2) (.int .i64 t330)) (fun _ hk => hk.2) (.int .i64 t322)) (fun _ hk => hk.2) (.int .i64 t323)) (fun _ hk => hk.2) (.int .i64 (rd t333 0))) (fun _ hk => hk.2) (.slice Ao81 t340.length co81)) (fun _ h_ => h_.1))) hb); replace HO344 := Aside0.mk (Kd.R_below (by (with_reducible repeat (first | apply Kd.R_alloc | apply Kd.R_drewN | apply Kd.R_drew)); exact (Kd.R_mono (Kd.R_far (p := ⟨gb346, 13, none⟩) (Kd.R_far (p := ⟨gb346, 12, none⟩) (Kd.R_far (p := ⟨gb346, 11, none⟩) (Kd.R_far (p := ⟨gb346, 10, none⟩) (Kd.R_far (p := ⟨gb346, 9, none⟩) (Kd.R_far (p := ⟨gb346, 8, none⟩) (Kd.R_far (p := ⟨gb346, 7, none⟩) (Kd.R_far (p := ⟨gb346, 6, none⟩) (Kd.R_far (p := ⟨gb346, 5, none⟩) (Kd.R_far (p := ⟨gb346, 4, none⟩) (Kd.R_far (p := ⟨gb346, 3, none⟩) (Kd.R_far (p := ⟨gb346, 2, none⟩) (Kd.R_far (p := ⟨gb346, 1, none⟩) (Kd.R_far (p := ⟨gb346, 0, none⟩) (Kd.R_types HO344.out BK346.out (by decide)) (fun _ hk => hk.2) (.int .i64 t321)) (fun _ hk => hk.2) (.int .i64 t322)) (fun _ hk => hk.2) (.int .i64 t323)) (fun _ hk => hk.2) (.int .i64 t324)) (fun _ hk => hk.2) (.int .i64 t325)) (fun _ hk => hk.2) (.int .i64 t326)) (fun _ hk => hk.2) (.int .i64 t327)) (fun _ hk => hk.2) (.int .i64 t328)) (fun _ hk => hk.2) (.int .i64 t329)) (fun _ hk => hk.2) (.int .i64 t330)) (fun _ hk => hk.2) (.int .i64 t322)) (fun _ hk => hk.2) (.int .i64 t323)) (fun _ hk => hk.2) (.int .i64 (rd t333 0))) (fun _ hk => hk.2) (.slice Ao81 t340.length co81)) (fun _ h_ => h_.1))) hb); replace BK317 := Aside0.mk (blk_below (g := gb317) (o := .cells #[.int .i64 0, .int .i64 0, .int .i64 0, .int .i64 0, .int .i64 0, .int .i64 0, .int .i64 0, .int .i64 0, .int .i64 0, .int .i64 0, .int .i64 0, .int .i64 0, .int .i64 0, .slice none 0 0] 36 (0, 0)) (bk_ BK317) hb); replace BK332 := Aside0.mk (blk_below (g := gb332) (o := .cells #[.int .i64 t321, .int .i64 t322, .int .i64 t323, .int .i64 t324, .int .i64 t325, .int .i64 t326, .int .i64 t327, .int .i64 t328, .int .i64 t329, .int .i64 t330] 31 (0, 0)) (bk_ BK332) hb); replace BK346 := Aside0.mk (blk_below (g := gb346) (o := .cells #[.int .i64 t321, .int .i64 t322, .int .i64 t323, .int .i64 t324, .int .i64 t325, .int .i64 t326, .int .i64 t327, .int .i64 t328, .int .i64 t329, .int .i64 t330, .int .i64 t322, .int .i64 t323, .int .i64 (rd t333 0), .slice Ao81 t340.length co81] 36 (0, 0)) (bk_ BK346) hb); replace HB := hbs_ hb; clear hb; have hnb101 := NB317_332.out; have hnc101 := NB332_317.out; have hcz102 := blk_cell BK317.out; have hfz102 := blk_frozen BK317.out))
       refine bodyPost_ret (results_ctt rfl _ _ gb317 36 #[.int .i64 0, .int .i64 0, .int .i64 0, .int .i64 0, .int .i64 0, .int .i64 0, .int .i64 0, .int .i64 0, .int .i64 0, .int .i64 0, .int .i64 0, .int .i64 0, .int .i64 0, .slice none 0 0] (0, 0) _ rfl (bk_ BK317) Try.underlying36 rfl (by kernel_rfl)) rfl ?_
       exact ⟨_, eq_, by first | exact Kd.R_nil _ _ _ _ _ | exact Kd.N_nil _ _ _ _ _ | exact Kd.V_nil _ _ _ _ _ | exact Kd.Q_nil _ _ _ _ _ | exact Kd.S_nil _ _ _ _ _, bl_⟩
     ·rw [if_neg c23] at H
      exact absurd H (by simp)
    ·rw [if_neg c21] at H
     exact absurd H (by simp)
end Go.Proofs.Yteppfdkfikeclaa.PL
